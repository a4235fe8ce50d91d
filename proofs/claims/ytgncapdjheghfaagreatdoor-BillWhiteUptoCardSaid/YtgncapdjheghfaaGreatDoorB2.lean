/- Part 2 of the texts that the last one stands on. -/
import Derived.Lib.AppendStr
import Derived.OrdersIn
import Derived.Deep.LoopGhost
import Derived.Scope
import Derived.RangeFuncRecord
import Derived.Test.YtgncapdjheghfaaGreatDoorB1
set_option linter.unusedVariables false
set_option linter.unusedSimpArgs false
namespace Go.Am
open Go.RowKit
section
variable {C C':Ctx} {ks:List Key}
structure Agree (C C':Ctx) (ks:List Key):Prop where
 w:C'.w=C.w
 imm:C'.imm=C.imm
 key:∀k,dC k ks=true→C'.gb k=C.gb k∧C'.jb k=C.jb k∧(C.own (C.jb k)=some (.box k)→C'.own (C.jb k)=some (.box k))
theorem Agree.prel(h:Agree C C' ks){x:AV}{y:Value}(hx:PRel C.w C.imm x y):PRel C'.w C'.imm x y:=by rw[h.w,h.imm];exact hx
theorem eZ{k:Key}{v x:AV}(h:D6 ks k v=some x):dC k ks=true∧x=v:=by
 unfold D6 at h
 split at h
 ·rename_i hm;exact⟨hm,(Option.some.inj h).symm⟩
 ·simp at h
theorem A9(h:Agree C C' ks){x x':AV}{y:Value}(hx:KRel C x y)(ht:tk0 ks x=some x'):KRel C' x' y:=by
 have pure':Am.pure1 x=some x'→KRel C' x' y:=fun hp=> .pure (h.prel (hx.pure1 hp))
 cases x<;>simp only[tk0]at ht<;>try(simp at ht;done)
 case v u=>exact pure' (by rw[←ht];rfl)
 case slice sz es tok =>
  simp only[Option.some.injEq]at ht
  subst ht
  have hc:Ls tok es = .no∨(Ls tok es = .tight∧tok = .tight):=by
   unfold Ls
   cases tok<;>cases es<;>simp
  rcases hc with e|⟨e,rfl⟩
  ·rw[e];exact .pure (h.prel (hx.pure1 rfl))
  ·rw[e]
   cases hx with
   | pure hp=>exact .pure (h.prel hp)
 case cptr cs=>exact pure' (by rw[←ht];rfl)
 case ptr k g sz i off =>
  obtain⟨hm,rfl⟩:=eZ ht
  obtain⟨e1,e2,_⟩:=h.key k hm
  cases hx with
  | pure hp=>cases hp
  | ptrOld hlt _ h1=>exact .ptrOld (by rw[e1];exact hlt) _ h1
  | ptr=>rw[←e1, ←e2];exact .ptr
 case own k g sz n c =>
  obtain⟨hm,rfl⟩:=eZ ht
  obtain⟨e1,e2,e3⟩:=h.key k hm
  cases hx with
  | pure hp=>cases hp
  | ownOld hlt _ h1=>exact .ownOld (by rw[e1];exact hlt) _ h1
  | own hn hm ho hs =>
   obtain⟨arr,e,ha,hsz⟩:=hs
   rw[←e1, ←e2];exact .own hn hm (by rw[e2];exact e3 ho) ⟨arr,e,by rw[h.w,e2];exact ha,hsz⟩
  | ownNil hb=>rw[←e1];exact .ownNil hb
 case sl k g sz i off n =>
  obtain⟨hm,rfl⟩:=eZ ht
  obtain⟨e1,e2,_⟩:=h.key k hm
  cases hx with
  | pure hp=>cases hp
  | slOld hlt _ h1=>exact .slOld (by rw[e1];exact hlt) _ h1
  | sl hm=>rw[←e1, ←e2];exact .sl hm
 case mp k g =>
  obtain⟨hm,rfl⟩:=eZ ht
  obtain⟨e1,e2,_⟩:=h.key k hm
  cases hx with
  | pure hp=>cases hp
  | mpOld hlt _ h1=>exact .mpOld (by rw[e1];exact hlt) _ h1
  | mp=>rw[←e1, ←e2];exact .mp
 case yld k g =>
  obtain⟨hm,rfl⟩:=eZ ht
  obtain⟨e1,e2,_⟩:=h.key k hm
  cases hx with
  | pure hp=>cases hp
  | yldOld hlt _ h1=>exact .yldOld (by rw[e1];exact hlt) _ h1
  | yld=>rw[←e1, ←e2];exact .yld
theorem r4{f:AV→Option AV}:∀{xs l:List AV},tkL f xs=some l→l.length=xs.length
 | [],l,h=>by simp[tkL]at h;subst h;rfl
 | x::xs,l,h=>by
  simp only[tkL]at h
  split at h
  ·rename_i y ys _ h2
   have:=r4 h2
   simp at h;subst h;simp[this]
  ·simp at h
theorem pa{f:AV→Option AV}:∀{xs l:List AV},tkL f xs=some l→∀(i:Nat) (y:AV),l[i]?=some y→∃x,xs[i]?=some x∧f x=some y
 | [],l,h,i,y,hy=>by simp[tkL]at h;subst h;simp at hy
 | x::xs,l,h,i,y,hy=>by
  simp only[tkL]at h
  split at h
  ·rename_i z zs h1 h2
   simp at h;subst h
   cases i with
   | zero=>simp at hy;subst hy;exact⟨x,rfl,h1⟩
   | succ i =>
    obtain⟨x',a,b⟩:=pa h2 i y (by simpa using hy)
    exact⟨x',by simpa using a,b⟩
  ·simp at h
theorem nA{f:AV→Option AV}(hf:∀{x x':AV} {y:Value},KRel C x y→f x=some x'→KRel C' x' y){cs l:List AV}{vs:Array Value}(h:tkL f cs=some l)
  (hl:vs.size=cs.length) (hp:∀(i:Nat) (x:AV) (y:Value),cs[i]?=some x→vs[i]?=some y→KRel C x y) :
  vs.size=l.length∧∀(i:Nat) (x:AV) (y:Value),l[i]?=some x→vs[i]?=some y→KRel C' x y:=by
 refine⟨by rw[hl,r4 h],fun i x y hx hy=>?_⟩
 obtain⟨u,hu,h1⟩:=pa h i x hx
 exact hf (hp i u y hu hy) h1
theorem xB(h:Agree C C' ks){x x':AV}{y:Value}(hx:KRel C x y)(ht:tk1 ks x=some x'):KRel C' x' y:=by
 cases x<;>try exact A9 h hx ht
 rename_i fn fs cs
 simp only[tk1]at ht
 split at ht
 ·rename_i a b h1 h2
  simp at ht;subst ht
  have key:∀{vf vc:Array Value},vf.size=fs.length→vc.size=cs.length→(∀(i:Nat) (x:AV) (y:Value),fs[i]?=some x→vf[i]?=some y→KRel C x y) →
    (∀(i:Nat) (x:AV) (y:Value),cs[i]?=some x→vc[i]?=some y→KRel C x y)→KRel C' (.func fn a b) (.func fn vf vc):=by
   intro vf vc e1 e2 e3 e4
   obtain⟨a1,a2⟩:=nA (A9 h) h1 e1 e3
   obtain⟨b1,b2⟩:=nA (A9 h) h2 e2 e4
   exact .func a1 b1 a2 b2
  cases hx with
  | pure hp=>cases hp with
   | func e1 e2 e3 e4=>exact key e1 e2 (fun i x y a b=> .pure (e3 i x y a b)) (fun i x y a b=> .pure (e4 i x y a b))
  | func e1 e2 e3 e4=>exact key e1 e2 e3 e4
 ·simp at ht
theorem sj(h:Agree C C' ks){x x':AV}{y:Value}(hx:KRel C x y)(ht:tk2 ks x=some x'):KRel C' x' y:=by
 cases x<;>try exact xB h hx ht
 rename_i cs
 simp only[tk2]at ht
 split at ht
 ·rename_i a h1
  simp at ht;subst ht
  cases hx with
  | pure hp=>cases hp with
   | agg hl hp h2 =>
    obtain⟨a1,a2⟩:=nA (xB h) h1 hl (fun i x y a b=> .pure (hp i x y a b))
    exact .agg a1 a2 h2
  | agg hl hp h2 =>
   obtain⟨a1,a2⟩:=nA (xB h) h1 hl hp
   exact .agg a1 a2 h2
 ·simp at ht
theorem Kf(h:Agree C C' ks){x x':AV}{y:Value}(hx:KRel C x y)(ht:tk3 ks x=some x'):KRel C' x' y:=by
 cases x<;>try exact sj h hx ht
 rename_i cs
 simp only[tk3]at ht
 split at ht
 ·rename_i a h1
  simp at ht;subst ht
  cases hx with
  | pure hp=>cases hp with
   | tuple hl hp =>
    obtain⟨a1,a2⟩:=nA (sj h) h1 hl (fun i x y a b=> .pure (hp i x y a b))
    exact .tuple a1 a2
  | tuple hl hp =>
   obtain⟨a1,a2⟩:=nA (sj h) h1 hl hp
   exact .tuple a1 a2
 ·simp at ht
theorem Df{x y:AV}(h:tk0 ks x=some y):x.cells=[x]∧y.cells=[y]:=by
 cases x<;>simp only[tk0]at h<;>try(simp at h;done)
 all_goals first
  | (have e:=Option.some.inj h;subst e;exact⟨rfl,rfl⟩)
  | (obtain⟨_,rfl⟩:=eZ h;exact⟨rfl,rfl⟩)
theorem Dg{x y:AV}(h:tk1 ks x=some y):x.cells=[x]∧y.cells=[y]:=by
 cases x with
 | func fn fs cs =>
  simp only[tk1]at h
  split at h
  ·have e:=Option.some.inj h;subst e;exact⟨rfl,rfl⟩
  ·simp at h
 | _=>exact Df (ks:=ks) (by simpa only[tk1]using h)
theorem uu{x y:AV}(h:tk2 ks x=some y):y.cells.length=x.cells.length∧∀(c:Nat) (u:AV),y.cells[c]?=some u→∃v,x.cells[c]?=some v∧tk1 ks v=some u:=by
 have one:tk1 ks x=some y→y.cells.length=x.cells.length∧∀(c:Nat) (u:AV),y.cells[c]?=some u→∃v,x.cells[c]?=some v∧tk1 ks v=some u:=by
  intro h
  obtain⟨e1,e2⟩:=Dg h
  rw[e1,e2]
  refine⟨rfl,fun c u hu=>?_⟩
  cases c with
  | zero=>simp at hu;subst hu;exact⟨x,rfl,h⟩
  | succ c=>simp at hu
 cases x with
 | agg cs =>
  simp only[tk2]at h
  split at h
  ·rename_i a h1
   have e:=Option.some.inj h;subst e
   exact⟨r4 h1,pa h1⟩
  ·simp at h
 | _=>exact one (by simpa only[tk2]using h)
theorem yk:∀(l:List AV),(fW ks l).length=l.length
 | []=>rfl
 | x::xs=>by simp[fW,yk xs]
theorem yj:∀(l:List AV) (i:Nat) (x:AV),(fW ks l)[i]?=some x→x = .junk∨∃u,l[i]?=some u∧tk2 ks u=some x
 | [],i,x,h=>by simp[fW]at h
 | a::l,0,x,h=>by
  simp only[fW,List.getElem?_cons_zero,Option.some.injEq]at h
  split at h
  ·rename_i y hy;exact .inr ⟨a,rfl,by rw[←h];exact hy⟩
  ·exact .inl h.symm
 | a::l,i+1,x,h=>by
  simp only[fW,List.getElem?_cons_succ]at h
  simpa using yj l i x h
theorem xC(h:Agree C C' ks){k:Key}(hm:dC k ks=true){sz:Nat}{es es':List AV}(hb:BoxOK C k sz es)(ht:uv ks sz es=some es'):BoxOK C' k sz es':=by
 obtain⟨e1,e2,e3⟩:=h.key k hm
 cases sz with
 | zero =>
  refine⟨fun h0=>absurd rfl h0,fun _=>?_,fun h0=>absurd rfl h0,fun _ _ h0=>absurd rfl h0,fun _ _ h0=>absurd rfl h0⟩
  obtain⟨o,ob,h1,h2⟩:=hb.map rfl
  rw[e2]
  refine⟨e3 o,ob,by rw[h.w];exact h1,?_⟩
  cases h2 with
  | map c hl h2 =>
   simp only[uv,Option.some.injEq]at ht
   subst ht
   exact(ObjRel.map (R:=KRel C) c hl h2).mono' (fun x y hx=>h.prel hx)
  | iter s pos =>
   simp only[uv,Option.some.injEq]at ht
   subst ht
   exact .iter s pos
  | loop hl h2 =>
   simp only[uv,Option.some.injEq]at ht
   subst ht
   refine .loop (by rw[yk];exact hl) fun i x y hx hy=>?_
   rcases yj _ i x hx with rfl|⟨u,hu,hx⟩
   ·exact .pure (.junk y)
   ·exact sj h (h2 i u y hu hy) hx
 | succ s =>
  simp only[uv]at ht
  refine⟨fun h0 i e he=>?_,fun h0=>absurd h0 (by omega),fun h0 hne=>?_,fun T hT h0 hne=>?_,fun T hT h0 h1=>?_⟩
  rotate_left 3
  ·obtain⟨o,arr,ha⟩:=hb.row T hT h0 h1
   exact⟨by rw[e2];exact e3 o,arr,by rw[e2,h.w];exact ha⟩
  rotate_left 2
  ·have hne':es≠[]:=fun e=>by subst e;simp[tkL]at ht;exact hne ht
   obtain⟨arr,h1,h2⟩:=hb.ety T hT h0 hne'
   exact⟨arr,by rw[e2,h.w];exact h1,h2⟩
  ·obtain⟨u,hu,h1⟩:=pa ht i e he
   rw[(uu h1).1];exact hb.wid h0 i u hu
  ·have hne':es≠[]:=fun e=>by subst e;simp[tkL]at ht;exact hne ht
   obtain⟨o,arr,et,ha,hl,hc⟩:=hb.own h0 hne'
   rw[e2,h.w]
   refine⟨e3 o,arr,et,ha,by rw[r4 ht];exact hl,fun i e c x he hx=>?_⟩
   obtain⟨u,hu,h1⟩:=pa ht i e he
   obtain⟨v,hv,h2⟩:=(uu h1).2 c x hx
   obtain⟨y,f1,f2,f3⟩:=hc i u c v hu hv
   exact⟨y,f1,xB h f2 h2,f3⟩
end
theorem tW{P:Program}{S:St}{K:List Wr→Prop}:∀{ks:List Key} {k:List cr→RM},(CJ ks k).wp0 P S K →
  ∃pre,(k pre).wp0 P S K∧aK pre=ks∧∀p∈pre,S.box p.1=(p.2.1,some (p.2.2.1,p.2.2.2))
 | [],k,h=>⟨[],h,rfl,by simp⟩
 | key::rest,k,h=>by
  simp only[CJ,RM.wp0]at h
  split at h
  ·rename_i sz es hs
   obtain⟨pre,h1,h2,h3⟩:=tW h
   refine⟨_,h1,by simp[aK,h2],fun p hp=>?_⟩
   rcases List.mem_cons.1 hp with e|e
   ·subst e;simp only;rw[←hs]
   ·exact h3 p e
  ·exact h.elim
theorem xU{P:Program}{S:St}{K:List Wr→Prop}:∀{l:List cr} {k:RM},(KG l k).wp0 P S K→k.wp0 P S K∧∀p∈l,S.box p.1=(0,none)
 | [],k,h=>⟨h,by simp⟩
 | (key,_)::rest,k,h=>by
  simp only[KG,RM.wp0]at h
  obtain⟨h1,h2⟩:=xU h.2
  refine⟨h1,fun p hp=>?_⟩
  rcases List.mem_cons.1 hp with e|e
  ·subst e;exact h.1
  ·exact h2 p e
theorem iP{ks:List Key}:∀{pre pre':List cr},pb ks pre=some pre'→aK pre'=aK pre ∧
  ∀p∈pre',∃es,(p.1,p.2.1,p.2.2.1,es)∈pre∧uv ks p.2.2.1 es=some p.2.2.2
 | [],pre',h=>by simp[pb]at h;subst h;exact⟨rfl,by simp⟩
 | (k,g,sz,es)::l,pre',h=>by
  simp only[pb]at h
  split at h
  ·rename_i es' l' h1 h2
   simp at h;subst h
   obtain⟨a,b⟩:=iP h2
   refine⟨by simp[aK,a],fun p hp=>?_⟩
   rcases List.mem_cons.1 hp with e|e
   ·subst e;exact⟨es,by simp,h1⟩
   ·obtain⟨es1,f1,f2⟩:=b p e
    exact⟨es1,List.mem_cons_of_mem _ f1,f2⟩
  ·simp at h
theorem cK{k:Key}:∀{l:List cr},dC k (aK l)=true↔∃p∈l,p.1=k
 | []=>by simp[aK,dC]
 | (j,x)::l=>by
  rw[b9]
  simp only[aK,List.mem_cons]
  rw[←b9,cK]
  constructor
  ·rintro(e|⟨p,h1,h2⟩)
   ·exact⟨_,.inl rfl,e.symm⟩
   ·exact⟨p,.inr h1,h2⟩
  ·rintro⟨p,e|h1,h2⟩
   ·subst e;exact .inl h2.symm
   ·exact .inr ⟨p,h1,h2⟩
theorem i9:∀{p q new:List cr},dK p q=some new→(∀x∈q,(∃y∈p,y.1=x.1)∨x∈new)∧(∀y∈p,∃x∈q,x.1=y.1)∧(∀x∈new,x∈q)
 | [],q,new,h=>by
  simp[dK]at h;subst h
  exact⟨fun x hx=> .inr hx,by simp,fun x hx=>hx⟩
 | (k,g,s)::p,[],new,h=>by simp[dK]at h
 | (k,g,s,es)::p,(k',g',s',es')::q,new,h=>by
  simp only[dK]at h
  split at h
  ·rename_i hk
   have hk:=Key.beq_eq.1 hk
   subst hk
   obtain⟨h1,h2,h3⟩:=i9 h
   refine⟨fun x hx=>?_,fun y hy=>?_,fun x hx=>List.mem_cons_of_mem _ (h3 x hx)⟩
   ·rcases List.mem_cons.1 hx with e|e
    ·subst e;exact .inl ⟨_,List.mem_cons_self ..,rfl⟩
    ·rcases h1 x e with⟨y,hy,a⟩|hn
     ·exact .inl ⟨y,List.mem_cons_of_mem _ hy,a⟩
     ·exact .inr hn
   ·rcases List.mem_cons.1 hy with e|e
    ·subst e;exact⟨_,List.mem_cons_self ..,rfl⟩
    ·obtain⟨x,hx,a⟩:=h2 y e
     exact⟨x,List.mem_cons_of_mem _ hx,a⟩
  ·simp at h
theorem s5{l:List cr}(hn:gC (aK l)=true){p:cr}(hp:p∈l):cD l p.1=(p.2.1,some (p.2.2.1,p.2.2.2)):=by
 induction l with
 | nil=>simp at hp
 | cons q l ih =>
  obtain⟨j,g,sz,es⟩:=q
  simp only[aK,gC]at hn
  split at hn
  ·simp at hn
  ·rename_i hm
   rcases List.mem_cons.1 hp with e|e
   ·subst e;simp[cD]
   ·have:p.1≠j:=fun e'=>by
     have:=cK.2 ⟨p,e,e'⟩
     rw[this]at hm;simp at hm
    simp only[cD,if_neg this]
    exact ih hn e
theorem s6{l:List cr}{k:Key}(h:¬ ∃p∈l,p.1=k):cD l k=(0,none):=by
 induction l with
 | nil=>rfl
 | cons q l ih =>
  obtain⟨j,g,sz,es⟩:=q
  simp only[cD]
  rw[if_neg (fun e=>h ⟨_,List.mem_cons_self ..,e.symm⟩)]
  exact ih fun⟨p,hp,e⟩=>h ⟨p,List.mem_cons_of_mem _ hp,e⟩
theorem eI:∀(l:List cr) (S:St),(S.puts (wrE l)).slot=S.slot∧(S.puts (wrE l)).tk=S.tk
 | [],S=>⟨rfl,rfl⟩
 | (k,g,sz,es)::l,S=>eI l (S.put (.box k (g,some (sz,es))))
theorem ia{k:Key}:∀(l:List cr) (S:St),(¬ ∃p∈l,p.1=k)→(S.puts (wrE l)).box k=S.box k
 | [],S,_=>rfl
 | (j,g,sz,es)::l,S,h=>by
  refine(ia l _ fun⟨p,hp,e⟩=>h ⟨p,List.mem_cons_of_mem _ hp,e⟩).trans ?_
  simp only[St.put]
  exact fv _ _ fun e=>h ⟨_,List.mem_cons_self ..,e.symm⟩
theorem mC:∀(l:List cr) (S:St),gC (aK l)=true→∀p∈l,(S.puts (wrE l)).box p.1=(p.2.1,some (p.2.2.1,p.2.2.2))
 | [],S,_,p,hp=>by simp at hp
 | (j,g,sz,es)::l,S,hn,p,hp=>by
  simp only[aK,gC]at hn
  split at hn
  ·simp at hn
  ·rename_i hm
   rcases List.mem_cons.1 hp with e|e
   ·subst e
    refine(ia l _ (by
     rintro⟨q,hq,e⟩
     have:=cK.2 ⟨q,hq,e⟩
     rw[this]at hm;simp at hm)).trans ?_
    simp only[St.put];exact a8 _ _ _
   ·exact mC l _ hn p e
section
variable {P:Program} {N:Nat} {base:Nat→Prop} {w0:World} {S:St} {C:Ctx} {a:Act} {w:World}
noncomputable def dz(C:Ctx)(ks:List Key)(pre:List cr):Ctx where
 w:=C.w
 imm:=C.imm
 own b:=match C.own b with
  | some (.box k)=>if dC k ks=true then some (.box k)else none
  | _=>none
 gb k:=(cD pre k).1
 jb:=C.jb
 gt _:=0
 hw _:=0
theorem cn{ks:List Key}{pre:List cr}{b:Nat}{o:Owner}(h:(dz C ks pre).own b=some o):∃k,o = .box k∧dC k ks=true∧C.own b=some (.box k):=by
 simp only[dz]at h
 split at h
 ·rename_i k hk
  split at h
  ·rename_i hm
   cases h
   exact⟨k,rfl,hm,hk⟩
  ·simp at h
 ·simp at h
theorem ml{ks:List Key}{pre:List cr}{b:Nat}{k:Key}(h:C.own b=some (.box k))(hm:dC k ks=true):(dz C ks pre).own b=some (.box k):=by
 simp[dz,h,hm]
theorem sf(hR:Rel N base w0 S C a w){ks:List Key}{pre pre':List cr}(hk:aK pre=ks)(hn:gC ks=true)
  (hS:∀p∈pre,S.box p.1=(p.2.1,some (p.2.2.1,p.2.2.2))) (hp:pb ks pre=some pre') :
  Agree C (dz C ks pre') ks∧Rel 0 (fun b=>b<w.heap.size∧(dz C ks pre').own b=none) w (fS pre') (dz C ks pre') ⟨#[],[]⟩ w:=by
 obtain⟨hk',hpp⟩:=iP hp
 have hlook:∀p∈pre',cD pre' p.1=(p.2.1,some (p.2.2.1,p.2.2.2)):=fun p hp=>s5 (by rw[hk',hk];exact hn) hp
 have hA:Agree C (dz C ks pre') ks:=by
  refine⟨rfl,rfl,fun k hm=>⟨?_,rfl,fun h=>ml h hm⟩⟩
  rw[←hk, ←hk']at hm
  obtain⟨p,hp,rfl⟩:=cK.1 hm
  obtain⟨es,h1,_⟩:=hpp p hp
  show(cD pre' p.1).1=_
  rw[hlook p hp,hR.gb,hS _ h1]
 refine⟨hA,?_⟩
 exact {
  cw:=hR.cw,glob:=(by first|exact hR.glob|exact hR.globOf (by first|exact hle.le0|exact hle|exact hle0|exact hCle.le0) (by first|rfl|exact h1.cw|(rw[hC'];first|done|exact hR.cw)|exact hR.cw)),size:=rfl,defers:=k9.nil _ _,slot:=fun i hi=>absurd hi (by omega)
  gb:=fun k=>rfl,gt:=fun k=>rfl,hw:=fun k=>rfl
  box:=fun k sz es h=>by
   by_cases hm:∃p∈pre',p.1=k
   ·obtain⟨p,hp,rfl⟩:=hm
    simp only[fS,hlook p hp,Option.some.injEq,Prod.mk.injEq]at h
    obtain⟨rfl,rfl⟩:=h
    obtain⟨es,h1,h2⟩:=hpp p hp
    exact xC hA (by rw[←hk, ←hk'];exact cK.2 ⟨p,hp,rfl⟩) (hR.box _ _ _ (by rw[hS _ h1])) h2
   ·simp[fS,s6 hm]at h
  ownBox:=fun b k h i=>by
   obtain⟨k',e,_,h1⟩:=cn h
   exact hR.ownBox b k' h1 i
  immLt:=hR.immLt
  ownLt:=fun b o h=>by
   obtain⟨k',e,_,h1⟩:=cn h
   exact⟨fun hc=>by rw[h]at hc;exact absurd hc.2 (by simp),(hR.ownLt b _ h1).2⟩
  below:=Bel.refl _ _
  base:=fun b h=>h.1}
def iW(C C1:Ctx)(b:Nat):Prop:=∃k i,C.own b=some (.box k)∧C1.imm b i
open Classical in
noncomputable def cd(C C1:Ctx)(kp:List Key):Ctx where
 w:=C1.w
 imm:=C1.imm
 own b:=match C1.own b with
  | some (.box k)=>if dC k kp=true∧C1.jb k=b then some (.box k)else if b<C.w.heap.size then C.own b else none
  | _=>if b<C.w.heap.size∧¬iW C C1 b then C.own b else none
 gb k:=if dC k kp=true then C1.gb k else C.gb k
 jb k:=if dC k kp=true then C1.jb k else C.jb k
 gt:=C.gt
 hw:=C.hw
theorem qS(hR:Rel N base w0 S C a w){ks:List Key}{pre pre':List cr}(hk:aK pre=ks)(hn:gC ks=true)
  (hS:∀p∈pre,S.box p.1=(p.2.1,some (p.2.2.1,p.2.2.2))) (hp:pb ks pre=some pre') {S1:St} {C1:Ctx} {w':World} (hle:(dz C ks pre').le C1)
  (h1:Rel 0 (fun b=>b<w.heap.size∧(dz C ks pre').own b=none) w S1 C1 ⟨#[],[]⟩ w') {post new post':List cr} (hpost:∀p∈post,S1.box p.1=(p.2.1,some (p.2.2.1,p.2.2.2)))
  (hsplit:dK pre' post=some new) (hnew:∀p∈new,S.box p.1=(0,none)) (hnd:gC (aK post)=true) (htk:pb (aK post) post=some post') :
  C.le (cd C C1 (aK post))∧Agree C1 (cd C C1 (aK post)) (aK post)∧Rel N base w0 (S.puts (wrE post')) (cd C C1 (aK post)) a w':=by
 have hw:=hR.cw
 subst hw
 obtain⟨hk',hpp⟩:=iP hp
 have hlook:∀p∈pre',cD pre' p.1=(p.2.1,some (p.2.2.1,p.2.2.2)):=fun p hp=>s5 (by rw[hk',hk];exact hn) hp
 obtain⟨s1,s2,s3⟩:=i9 hsplit
 have hgpre:∀y∈pre',C.gb y.1=y.2.1:=fun y hy=>by
  obtain⟨es,h1,_⟩:=hpp y hy
  rw[hR.gb,hS _ h1]
 have hksSome:∀k,dC k ks=true→∃y∈pre',y.1=k:=fun k hm=>by rw[←hk, ←hk']at hm;exact cK.1 hm
 have hkskp:∀k,dC k ks=true→dC k (aK post)=true:=fun k hm=>by
  obtain⟨y,hy,rfl⟩:=hksSome k hm
  obtain⟨x,hx,e⟩:=s2 y hy
  exact cK.2 ⟨x,hx,e⟩
 have hcg:∀k,dC k (aK post)=true→(dz C ks pre').gb k=C.gb k:=fun k hm=>by
  obtain⟨x,hx,rfl⟩:=cK.1 hm
  show(cD pre' x.1).1=_
  rcases s1 x hx with⟨y,hy,e1⟩|hx'
  ·rw[←e1,hlook y hy,hgpre y hy]
  ·have h0:=hnew x hx'
   rw[s6,hR.gb,h0]
   rintro⟨y,hy,e⟩
   obtain⟨es,h2,_⟩:=hpp y hy
   have:=hS _ h2
   simp only[e,h0]at this
   simp at this
 have hold:∀b o,C1.own b=some o→b<C.w.heap.size→∃k,o = .box k∧dC k ks=true∧C.own b=some (.box k):=fun b o h hlt=>cn (hle.ownOld b o hlt h)
 have hL:∀b,b<C.w.heap.size→¬iW C C1 b→(cd C C1 (aK post)).own b=C.own b:=fun b hlt hme=>by
  simp only[cd]
  split
  ·rename_i k hk1
   obtain⟨k',e,_,h2⟩:=hold b _ hk1 hlt
   cases e
   rw[if_pos hlt,h2]
   split<;>rfl
  ·rw[if_pos ⟨hlt,hme⟩]
 have hM:∀b,iW C C1 b→(cd C C1 (aK post)).own b=none:=fun b hme=>by
  obtain⟨k0,i,_,hi⟩:=id hme
  simp only[cd]
  split
  ·rename_i k hk1
   exact absurd hi (h1.ownBox b k hk1 i)
  ·rw[if_neg fun h=>h.2 hme]
 have hblk:∀b,b<C.w.heap.size→(∀k,C.own b=some (.box k)→¬dC k ks=true)→C1.w.heap[b]?=C.w.heap[b]?:=fun b hlt hno=>by
  rw[h1.cw]
  refine h1.below.block b ⟨hlt,?_⟩
  cases ho:(dz C ks pre').own b with
  | none=>rfl
  | some o =>
   obtain⟨k,_,hm,h2⟩:=cn ho
   exact absurd hm (hno k h2)
 have hmel:∀b,b<C.w.heap.size→iW C C1 b→∃k,C.own b=some (.box k)∧dC k ks=true∧C.gb k<C1.gb k:=fun b hlt ⟨k,i,h2,hi⟩=>by
  rcases hle.immOld b i hlt hi with h|⟨k,h⟩|⟨k',h3,h4,h5⟩
  ·exact absurd h (hR.ownBox b k h2 i)
  ·obtain⟨k',e,_⟩:=cn h;cases e
  ·obtain⟨k'',e,hm,h6⟩:=cn h3
   cases e
   exact⟨k',h6,hm,by rw[←hcg k' (hkskp k' hm)];exact h5⟩
 have himm:∀b i,b<C.w.heap.size→C1.imm b i→C.imm b i∨iW C C1 b:=fun b i hlt h=>by
  rcases hle.immOld b i hlt h with h|⟨k,h⟩|⟨k',h3,_⟩
  ·exact .inl h
  ·obtain⟨k',e,_⟩:=cn h;cases e
  ·obtain⟨k'',e,_,h6⟩:=cn h3
   exact .inr ⟨k'',i,h6,h⟩
 have hCle:C.le (cd C C1 (aK post)):=by
  refine⟨fun b i h=>hle.imm b i h,fun k=>?_,fun k e=>?_,fun k=>Nat.le_refl _,fun k _=>Nat.le_refl _,fun k b _ _ h=>?_,fun k e h=>?_,hle.size,fun b i hlt h=>?_,fun b o hlt h=>?_,fun b hlt ho=>hblk b hlt (fun k hk=>by rw[ho]at hk;cases hk)⟩
  rotate_left 4
  ·rcases himm b i hlt h with h|h
   ·exact .inl h
   ·obtain⟨k,h2,hm,h3⟩:=hmel b hlt h
    refine .inr (.inr ⟨k,h2,hM b h,?_⟩)
    simp only[cd]
    rw[if_pos (hkskp k hm)];exact h3
  ·by_cases hme:iW C C1 b
   ·rw[hM b hme]at h;cases h
   ·rw[hL b hlt hme]at h;exact h
  ·simp only[cd]
   split
   ·rename_i hm;rw[←hcg k hm];exact hle.gb k
   ·exact Nat.le_refl _
  ·simp only[cd]at e ⊢
   split at e
   ·rename_i hm;rw[if_pos hm];exact hle.jb k (by rw[hcg k hm];exact e)
   ·rename_i hm;rw[if_neg hm]
  ·have hlt:=(hR.ownLt b _ h).2
   have hme:¬iW C C1 b:=fun⟨k',i,h2,_⟩=>by rw[h]at h2;cases h2
   refine⟨by rw[hL b hlt hme];exact h,fun i hi=>(himm b i hlt hi).resolve_right hme,fun arr e ha=>⟨arr,?_,rfl⟩⟩
   show C1.w.heap[b]?=_
   rw[hblk b hlt (fun k hk=>by rw[h]at hk;cases hk)];exact ha
  ·have hlt:=(hR.ownLt _ _ h).2
   have hme:¬iW C C1 (C.jb k):=fun hme=>by
    obtain⟨k',h2,hm,h3⟩:=hmel _ hlt hme
    rw[h]at h2;cases h2
    simp only[cd,if_pos (hkskp k hm)]at e
    omega
   refine⟨by rw[hL _ hlt hme];exact h,fun arr' e' ha=>?_⟩
   by_cases hm:dC k ks=true
   ·have hmp:=hkskp k hm
    simp only[cd,if_pos hmp]at e
    exact(hle.bs k (by rw[hcg k hmp];exact e) (ml h hm)).2 arr' e' ha
   ·exact⟨arr',e',(hblk _ hlt (fun k' hk' hm'=>by rw[h]at hk';cases hk';exact hm hm')).trans ha,Nat.le_refl _⟩
 have hA:Agree C1 (cd C C1 (aK post)) (aK post):=by
  refine⟨rfl,rfl,fun k hm=>⟨?_,?_,fun h=>?_⟩⟩
  ·simp[cd,hm]
  ·simp[cd,hm]
  ·simp only[cd,h,hm,and_self,if_true]
 obtain⟨hkp,hpq⟩:=iP htk
 have hmem':∀k,dC k (aK post)=true→∃p∈post',p.1=k:=fun k hm=>by rw[←hkp]at hm;exact cK.1 hm
 have hput:∀p∈post',(S.puts (wrE post')).box p.1=(p.2.1,some (p.2.2.1,p.2.2.2)):=mC post' S (by rw[hkp];exact hnd)
 have hout:∀k,¬dC k (aK post)=true→(S.puts (wrE post')).box k=S.box k:=fun k hm=>ia post' S fun⟨p,hp,e⟩=>hm (by rw[←hkp];exact cK.2 ⟨p,hp,e⟩)
 have hC1g:∀p∈post',C1.gb p.1=p.2.1:=fun p hp=>by
  obtain⟨es,h2,_⟩:=hpq p hp
  rw[h1.gb,hpost _ h2]
 refine⟨hCle,hA,?_⟩
 exact {
  cw:=h1.cw,glob:=(by first|exact hR.glob|exact hR.globOf (by first|exact hle.le0|exact hle|exact hle0|exact hCle.le0) (by first|rfl|exact h1.cw|(rw[hC'];first|done|exact hR.cw)|exact hR.cw)),size:=hR.size,defers:=hR.defers.le hCle
  slot:=fun i hi=>by rw[(eI post' S).1];exact(hR.slot i hi).le hCle
  gb:=fun k=>by
   by_cases hm:dC k (aK post)=true
   ·obtain⟨p,hp,rfl⟩:=hmem' k hm
    simp only[cd,if_pos hm]
    rw[hput p hp,hC1g p hp]
   ·simp only[cd,if_neg hm]
    rw[hout k hm];exact hR.gb k
  gt:=fun k=>by rw[(eI post' S).2];exact hR.gt k
  hw:=fun k=>by rw[(eI post' S).2];exact hR.hw k
  box:=fun k sz es h=>by
   by_cases hm:dC k (aK post)=true
   ·obtain⟨p,hp,rfl⟩:=hmem' k hm
    rw[hput p hp]at h
    simp only[Option.some.injEq,Prod.mk.injEq]at h
    obtain⟨rfl,rfl⟩:=h
    obtain⟨es,h2,h3⟩:=hpq p hp
    exact xC hA hm (h1.box _ _ _ (by rw[hpost _ h2])) h3
   ·rw[hout k hm]at h
    refine(hR.box k sz es h).mono hCle (by simp only[cd,if_neg hm]) (fun ho=>hL _ (hR.ownLt _ _ ho).2 fun hme=>by
     obtain⟨k',h2,hm',_⟩:=hmel _ (hR.ownLt _ _ ho).2 hme
     rw[ho]at h2;cases h2
     exact hm (hkskp k hm')) (fun ho=>?_)
    exact hblk _ (hR.ownLt _ _ ho).2 fun k' hk' hm'=>by
     rw[ho]at hk';cases hk';exact hm (hkskp k hm')
  ownBox:=fun b k h i hi=>by
   by_cases hlt:b<C.w.heap.size
   ·by_cases hme:iW C C1 b
    ·rw[hM b hme]at h;cases h
    ·rw[hL b hlt hme]at h;exact hR.ownBox b k h i ((himm b i hlt hi).resolve_right hme)
   ·simp only[cd]at h
    split at h
    ·rename_i k' hk'
     exact h1.ownBox b k' hk' i hi
    ·simp[hlt]at h
  immLt:=h1.immLt
  ownLt:=fun b o h=>by
   by_cases hlt:b<C.w.heap.size
   ·by_cases hme:iW C C1 b
    ·rw[hM b hme]at h;cases h
    rw[hL b hlt hme]at h
    have:=hR.ownLt b o h
    exact⟨this.1,Nat.lt_of_lt_of_le hlt h1.below.size⟩
   ·refine⟨fun hb=>hlt (hR.baseLe b hb),?_⟩
    simp only[cd]at h
    split at h
    ·rename_i k' hk'
     exact(h1.ownLt b _ hk').2
    ·simp[hlt]at h
  below:=hR.below.trans (h1.below.mono fun b hb=>⟨hR.baseLe b hb,by
   cases ho:(dz C ks pre').own b with
   | none=>rfl
   | some o =>
    obtain⟨k,_,_,h2⟩:=cn ho
    exact absurd hb (hR.ownLt b _ h2).1⟩)
  base:=hR.base}
theorem ny{G:Prop}{K:List Wr→Prop}{o:Oper}{next:Act→World→Prop}(hR:Rel N base w0 S C a w)(hk:eK N base w0 S C K next){fid:Tgt}{l:List AV}{ys:Array Value}
  (hrun:fid.ok P→∀C1:Ctx,C1.jb=C.jb→(∀k g,fid = .yld k g→C1.gb k=C.gb k)→Runs P fid C1 ys w (fun e w'=>∃y,e = .returned y∧next (a.put o.dst y) w')→G) (hl:ys.size=l.length)
  (hv:∀(i:Nat) (x:AV) (y:Value),l[i]?=some x→ys[i]?=some y→KRel C x y) (h:(gX o.dst fid l).wp0 P S K):G:=by
 unfold gX at h
 obtain⟨ks,⟨hn,hink⟩,h⟩:=h
 obtain⟨pre,h,hkk,hS⟩:=tW h
 split at h
 ·rename_i pre' l' hp hl'
  obtain⟨r,post,hB,h⟩:=h
  simp only[]at h
  split at h
  ·rename_i new hsplit
   obtain⟨h,hnew⟩:=xU h
   obtain⟨hnd,h⟩:=h
   split at h
   ·rename_i r' post' hr' hpost'
    obtain⟨hA,hR0⟩:=sf hR hkk hn hS hp
    obtain⟨a1,a2⟩:=nA (sj hA) hl' hl hv
    refine hrun hB.1 (dz C ks pre') rfl (fun k g e=>by
     subst e
     exact(hA.key k hink).1) ((hB.2 _ w ys hR0 (fun b o h=>by obtain⟨k,e,_⟩:=cn h;exact⟨k,e⟩) ⟨a1,a2⟩).mono ?_)
    rintro e w' ⟨y,S1,C1,rfl,hle,h1,hres,hq⟩
    refine⟨y,rfl,?_⟩
    obtain⟨b1,b2,b3⟩:=qS hR hkk hn hS hp hle h1 hq hsplit hnew hnd hpost'
    refine hk _ _ _ _ h b1 ?_
    rw[wO]
    exact b3.putA (Kf b2 hres hr') _
   ·exact h.elim
  ·exact h.elim
 ·exact h.elim
end
end Go.Am
namespace Go.Am
open Go.RowKit
section
variable {P:Program} {N:Nat} {base:Nat→Prop} {w0:World} {S:St} {C:Ctx} {a:Act} {w:World} {K:List Wr→Prop} {o:Oper} {next:Act→World→Prop} {Q:Exit→Act→World→Prop}
theorem qy{es:List AV}{sz n:Nat}(h:jc es sz n=true):es≠[]→sz=n:=by
 intro he
 unfold jc at h
 split at h
 ·rename_i h1;exact Nat.eq_of_beq_eq_true h1
 ·split at h
  ·exact absurd rfl he
  ·simp at h
theorem Rel.bump(hR:Rel N base w0 S C a w)(k:Key)(cont:Option (Nat×List AV))(hok:∀C':Ctx,C.le C'→C'.w=C.w→C'.imm=C.imm→C'.jb=C.jb→C'.own=C.own→∀sz es,cont=some (sz,es)→BoxOK C' k sz es) :
  ∃C',C.le C'∧C'.gb k=(S.box k).1+1∧C'.jb=C.jb∧C'.own=C.own∧C'.w=C.w∧C'.imm=C.imm∧Rel N base w0 (S.put (.box k ((S.box k).1+1,cont))) C' a w:=by
 obtain⟨C',hC'⟩:∃C':Ctx,C'={ C with gb:=upd C.gb k (C.gb k+1)}:=⟨_,rfl⟩
 have hle:C.le C':=by
  refine⟨fun b i h=>⟨by rw[hC'];exact h,by rw[hC']⟩,fun x=>?_,fun x e=>by rw[hC'],fun x=>by rw[hC'];exact Nat.le_refl _,fun x _=>by rw[hC'];exact Nat.le_refl _,fun x b _ _ h=>⟨by rw[hC'];exact h,fun i hi=>by rw[hC']at hi;exact hi,fun arr e h'=>⟨arr,by rw[hC'];exact h',rfl⟩⟩,
   fun x _ h=>⟨by rw[hC'];exact h,fun arr e h'=>⟨arr,e,by rw[hC'];exact h',Nat.le_refl _⟩⟩,by rw[hC'];exact Nat.le_refl _,fun b i _ h=>by rw[hC']at h;exact .inl h,fun b o _ h=>by rw[hC']at h;exact h,fun b _ _=>by rw[hC']⟩
  rw[hC'];simp only[upd];split
  ·subst_vars;omega
  ·exact Nat.le_refl _
 refine⟨C',hle,by rw[hC', ←hR.gb];exact a8 _ _ _,by rw[hC'],by rw[hC'],by rw[hC'],by rw[hC'],?_⟩
 exact {
  cw:=by rw[hC'];exact hR.cw
  glob:=(by first|exact hR.glob|exact hR.globOf (by first|exact hle.le0|exact hle|exact hle0|exact hCle.le0) (by first|rfl|exact h1.cw|(rw[hC'];first|done|exact hR.cw)|exact hR.cw))
  size:=hR.size,defers:=hR.defers.le hle,slot:=fun i hi=>(hR.slot i hi).le hle
  gb:=fun x=>by
   rw[hC'];simp only[St.put,upd];split
   ·subst_vars;simp[hR.gb]
   ·exact hR.gb x
  gt:=fun x=>by rw[hC'];exact hR.gt x
  hw:=fun x=>by rw[hC'];exact hR.hw x
  box:=fun x sz es h=>by
   by_cases e:x=k
   ·subst e
    simp only[St.put,a8]at h
    exact hok C' hle (by rw[hC']) (by rw[hC']) (by rw[hC']) (by rw[hC']) sz es h
   ·simp only[St.put,fv _ _ e]at h
    exact(hR.box x sz es h).mono hle (by rw[hC']) (fun _=>by rw[hC']) (fun _=>by rw[hC'])
  ownBox:=fun b x h=>by rw[hC']at h ⊢;exact hR.ownBox b x h
  immLt:=fun b i h=>by rw[hC']at h;exact hR.immLt b i h
  ownLt:=fun b o h=>by rw[hC']at h;exact hR.ownLt b o h
  below:=hR.below,base:=hR.base}
theorem BoxOK.nil{C:Ctx}{k:Key}{sz:Nat}(h:sz≠0)(hpl:k.l≤999):BoxOK C k sz []:=⟨fun _ i e he=>by simp at he,fun h0=>absurd h0 h,fun _ he=>absurd rfl he,fun _ _ _ he=>absurd rfl he,fun T hT=>by omega⟩
theorem BoxOK.join{C C':Ctx}{k k':Key}{sz m:Nat}{es es':List AV}(h0:sz≠0){et:TypeId}(hpl:(∀T,k'.l≠1000+2 * T)∧∀T,k'.l=1001+2 * T→et=T)(hj:C'.own (C'.jb k')=some (.box k'))(arr:Array Value)(ha:C'.w.heap[C'.jb k']?=some (.cells arr et (0,0)))
  (hm:m≤es.length) (hlen:(m+es'.length) * sz≤arr.size) (hw:∀(i:Nat) (e:AV),es[i]?=some e→e.cells.length=sz) (hw':∀(i:Nat) (e:AV),es'[i]?=some e→e.cells.length=sz)
  (h1:∀(i:Nat) (e:AV) (c:Nat) (x:AV),i<m→es[i]?=some e→e.cells[c]?=some x→∃y,arr[i * sz+c]?=some y∧KRel C' x y∧y.oneCell'=true)
  (h2:∀(i:Nat) (e:AV) (c:Nat) (x:AV),es'[i]?=some e→e.cells[c]?=some x→∃y,arr[(m+i) * sz+c]?=some y∧KRel C' x y∧y.oneCell'=true) :
  BoxOK C' k' sz (es.take m++es'):=by
 have hl:(es.take m).length=m:=by simp;omega
 refine⟨fun _ i e he=>?_,fun h=>absurd h h0,fun _ _=>⟨hj,arr,et,ha,by rw[List.length_append,hl];exact hlen,fun i e c x he hx=>?_⟩,fun T hT=>absurd hT (hpl.1 T),fun T hT _ _=>⟨hj,arr,by rw[←hpl.2 T hT];exact ha⟩⟩
 ·by_cases hi:i<m
  ·rw[List.getElem?_append_left (by omega),List.getElem?_take,if_pos hi]at he;exact hw i e he
  ·rw[List.getElem?_append_right (by omega)]at he;exact hw' _ e he
 ·by_cases hi:i<m
  ·rw[List.getElem?_append_left (by omega),List.getElem?_take,if_pos hi]at he;exact h1 i e c x hi he hx
  ·rw[List.getElem?_append_right (by omega),hl]at he
   obtain⟨y,a1,a2⟩:=h2 _ e c x he hx
   exact⟨y,by rw[show i=m+(i-m) by omega];exact a1,a2⟩
theorem nn{k:Key}(h:k.l≤999)(et:TypeId):(∀T,k.l≠1000+2 * T)∧∀T,k.l=1001+2 * T→et=T:=⟨fun T e=>by omega,fun T e=>by omega⟩
theorem cy{n i c:Nat}(l:Nat)(hi:i<l)(hc:c<n):i * n+c<l * n:=by
 have:(i+1) * n≤l * n:=Nat.mul_le_mul_right _ hi
 rw[Nat.add_mul,Nat.one_mul]at this;omega
theorem xk{n:Nat}{es':List AV}{sz':Nat}{tok':Tok}{Y:Value}(hR:Rel N base w0 S C a w)(hn:0<n)(hv:KRel C (.slice sz' es' tok') Y)(hs:es'≠[]→sz'=n) :
  ∃bY capY,Y = .slice bY es'.length capY∧(bY=none∨∃x y,bY=some ⟨x,y,none⟩)∧es'.length≤capY∧capY≤maxLen∧∃news:List Value,news.length=es'.length * n ∧
   (∀ad,bY=some ad→∀(j:Nat) (u:Value),news[j]?=some u→w.cell? (ad.add j)=some u)∧(es'≠[]→∃x y,bY=some ⟨x,y,none⟩)∧(∀u∈news,u.oneCell'=true)∧(∀(i:Nat) (e:AV),es'[i]?=some e→e.cells.length=n) ∧
   ∀(i:Nat) (e:AV) (c:Nat) (x:AV),es'[i]?=some e→e.cells[c]?=some x→∃y,news[i * n+c]?=some y∧PRel w C.imm x y∧y.oneCell'=true:=by
 have hpv:PRel C.w C.imm (.slice n es' .no) Y:=(hv.pure1 (x':= .slice sz' es' .no) rfl).resz hs
 by_cases hempty:es'=[]
 ·subst hempty
  cases hpv with
  | nil=>exact⟨none,0,rfl,.inl rfl,Nat.le_refl _,by simp,[],by simp,by simp,fun h=>absurd rfl h,by simp,by simp,by simp⟩
  | slice ys hcap _ hm=>exact⟨_,_,rfl,.inr ⟨_,_,rfl⟩,hcap,hm,[],by simp,by simp,fun h=>absurd rfl h,by simp,by simp,by simp⟩
 ·cases hY:hpv with
  | nil=>exact absurd rfl hempty
  | @slice _ _ _ b off cap ys hcap ht hm hsz hc hp =>
   obtain⟨_,news,a1,a2,a3,a4,a5⟩:=lY hn hpv
   rw[hR.cw]at a2 a5
   refine⟨_,_,rfl,.inr ⟨_,_,rfl⟩,hcap,hm,news,a1,fun ad e j u hj=>by cases e;exact(a2 j u hj).1,fun _=>⟨_,_,rfl⟩,a3,a4,fun i e c x h1 h2=>?_⟩
   obtain⟨y,b1,b2⟩:=a5 i e c x h1 h2
   exact⟨y,b1,b2,a3 y (List.mem_of_getElem? b1)⟩
theorem tx(hR:Rel N base w0 S C a w)(hk:eK N base w0 S C K next){c:Call}{t e:TypeId}{n b:Nat}{x:Operand}(ho:o.op = .call c)(hb:c.callee = .builtin .cap)
  (ha:c.args.toList=[x]) (hat:c.argTypes.toList=[t]) (hx:inN N x=true) (hts:aU P t=some (e,n,b))
  (h:(xX o.dst x).rm.wp0 P S K):o.wp P a w next Q:=by
 have ha':c.args=#[x]:=by rw[←Array.toArray_toList (xs:=c.args),ha]
 have hat':c.argTypes=#[t]:=by rw[←Array.toArray_toList (xs:=c.argTypes),hat]
 unfold xX at h
 rw[aQ]at h
 have hv:=hR.val hx
 obtain⟨i,hu,_⟩:=aS hts
 have exec:(execOp a.eval o).run P w=((Builtin.cap_ #[t] o.type #[a.eval x]).run P w).andThen fun v w'=> .ok (.value v) w':=by
  simp[execOp,ho,resolve,hb,ha',hat',invoke,builtin]
 revert h hv exec
 generalize S.val x=v
 generalize a.eval x=y
 intro h hv exec
 split at h
 ·rename_i sz es
  have hl:∃A,y = .slice A es.length es.length:=by
   cases hv with
   | pure hp=>cases hp with
    | nil=>exact⟨_,rfl⟩
    | slice ys hcap ht =>
     rcases ht with ht|⟨_,ht⟩
     ·cases ht
     ·rw[ht];exact⟨_,rfl⟩
  obtain⟨A,rfl⟩:=hl
  refine aZ hR hk (y:= .int .i64 es.length) ?_ (.pure (.v _)) h
  rw[exec]
  simp[Builtin.cap_,run_underlying hu,goInt]
 ·exact h.elim
theorem KRel.mkOwn{C':Ctx}{k:Key}{g sz n c cap:Nat}(hg:C'.gb k=g)(hn:n≤c)(hm:c≤maxLen)(ho:C'.own (C'.jb k)=some (.box k)){arr:Array Value}{et:TypeId}
  (ha:C'.w.heap[C'.jb k]?=some (.cells arr et (0,0))) (hs:c * sz≤arr.size):KRel C' (.own k g sz n cap) (.slice (some ⟨C'.jb k,0,none⟩) n c):=by
 rw[←hg];exact .own hn hm ho ⟨arr,et,ha,hs⟩
theorem oe(cx:Cx)(hR:Rel N base w0 S C a w)(hk:eK N base w0 S C K next){c:Call}{t e:TypeId}{n bt n' d:Nat}{z':AV}{x y:Operand}(ho:o.op = .call c)(hb:c.callee = .builtin .append)
  (ha:c.args.toList=[x,y]) (hat:c.argTypes.toList=[t,t]) (hx:inN N x=true) (hy:inN N y=true) (hdst:o.dst=some d) (hts:aU P t=some (e,n,bt)) (hz:bm P e=some (n',z'))
  (h:(ko cx d n bt n' x y).rm.wp0 P S K):o.wp P a w next Q:=by
 have ha':c.args=#[x,y]:=by rw[←Array.toArray_toList (xs:=c.args),ha]
 have hat':c.argTypes=#[t,t]:=by rw[←Array.toArray_toList (xs:=c.argTypes),hat]
 unfold ko at h
 obtain⟨hn',hn,h⟩:=h
 have hn':=Nat.eq_of_beq_eq_true hn'
 have hn:0<n:=Nat.le_of_ble_eq_true hn
 subst hn'
 rw[aQ,aQ]at h
 have hu:=hR.val hx
 have hv:=hR.val hy
 have exec:(execOp a.eval o).run P w=((Builtin.append_ #[t,t] o.type #[a.eval x,a.eval y]).run P w).andThen fun v w'=> .ok (.value v) w':=by
  simp[execOp,ho,resolve,hb,ha',hat',invoke,builtin]
 obtain⟨ie,hut,hie,hsz,hbt⟩:=aS hts
 obtain⟨i',z,hz0,hz1,hz2,_⟩:=cZ hz
 rw[hie]at hz0;cases hz0
 revert h hu hv exec
 generalize S.val x=u
 generalize S.val y=v
 generalize a.eval x=X
 generalize a.eval y=Y
 intro h hu hv exec
 cases v<;>first|exact h.elim|skip
 rename_i sz' es' tok'
 simp only at h
 obtain⟨hw,h⟩:=h
 obtain⟨bY,capY,rfl,hbY,hcapY,hmY,news,hnl,hnews,hnY,hnone,hnsz,hnp⟩:=xk hR hn hv (qy hw)
 have grow:∀(k:Key) (g m:Nat) (es:List AV) (olds:List Value) (old:Nat) (X:Value),k.l≤999→es'≠[]→old<m+es'.length→m≤es.length→(m+es'.length) * bt≤140737488355328→m+es'.length≤maxLen→olds.length=m * n' →
   (∀u∈olds,u.oneCell'=true)→(∀(i:Nat) (e:AV),es[i]?=some e→e.cells.length=n') →
   (∀(i:Nat) (e:AV) (c:Nat) (x:AV),i<m→es[i]?=some e→e.cells[c]?=some x→∃y,olds[i * n'+c]?=some y∧KRel C x y∧y.oneCell'=true) →
   (Builtin.append_ #[t,t] o.type #[X,.slice bY es'.length capY]).run P w = .ok (.slice (some ⟨w.heap.size,0,none⟩) (m+es'.length) (grownCap w (m+es'.length) old e))
      (w.drew.alloc (.cells (olds.toArray++news.toArray++Builtin.zeroCells z.cells (grownCap w (m+es'.length) old e-(m+es'.length))) e)) →
   (execOp a.eval o).run P w=((Builtin.append_ #[t,t] o.type #[X,.slice bY es'.length capY]).run P w).andThen (fun v w'=> .ok (.value v) w') →
   (S.box k).1=g→K [.box k (g+1,some (n',es.take m++es')),.slot d (.own k (g+1) n' (m+es'.length) 0)]→o.wp P a w next Q:=by
  intro k g m es olds old X hpl hne hold hm hbytes hmax hol hone hesz hop hrun hexec hg hK
  obtain⟨arr,harr⟩:∃arr,arr=olds.toArray++news.toArray++Builtin.zeroCells z.cells (grownCap w (m+es'.length) old e-(m+es'.length)):=⟨_,rfl⟩
  rw[←harr]at hrun
  have hge:=grownCap_ge w (m+es'.length) old e
  have hgm:=grownCap_le_maxLen w (m+es'.length) old e hmax
  have hsa:arr.size=grownCap w (m+es'.length) old e * n':=by
   rw[harr]
   simp only[Array.size_append,List.size_toArray,size_zeroCells,hz2,hol,hnl, ←Nat.add_mul]
   congr 1;omega
  obtain⟨hle0,hR0⟩:=hR.world (w':=w.drew) rfl rfl rfl rfl
  have hget1:∀i,i<m * n'→arr[i]?=olds[i]?:=fun i hi=>by
   rw[harr,Array.append_assoc,Array.getElem?_append_left (by simp[hol];exact hi)];simp
  have hget2:∀i,i<es'.length * n'→arr[m * n'+i]?=news[i]?:=fun i hi=>by
   rw[harr,Array.getElem?_append_left (by simp[hol,hnl];omega),Array.getElem?_append_right (by simp[hol])]
   simp[hol]
  obtain⟨C',hle,hgb,hjb,him,hon,hcw,hR'⟩:=hR0.newObj k (some (n',es.take m++es')) (.cells arr e) (fun C' hle hw him hj hown hg sz1 es1 h1=>by
   cases h1
   have hh:C'.w.heap[C'.jb k]?=some (.cells arr e (0,0)):=by rw[hw,hj];exact heap_alloc_new _ _
   refine BoxOK.join (C:=C) (k:=k) (by omega) (et:=e) (nn hpl _) (by rw[hj];exact hown) arr hh hm (by rw[hsa];exact Nat.mul_le_mul_right _ hge) hesz hnsz (fun i e c x hi he hx=>?_) (fun i e c x he hx=>?_)
   ·obtain⟨y,a1,a2,a3⟩:=hop i e c x hi he hx
    have hcn:c<n':=by rw[←hesz i e he];exact(List.getElem?_eq_some_iff.1 hx).1
    exact⟨y,by rw[hget1 _ (cy m hi hcn)];exact a1,a2.le (hle0.trans hle),a3⟩
   ·obtain⟨y,a1,a2,a3⟩:=hnp i e c x he hx
    have hcn:c<n':=by rw[←hnsz i e he];exact(List.getElem?_eq_some_iff.1 hx).1
    refine⟨y,by rw[Nat.add_mul,Nat.add_assoc,hget2 _ (cy _ (List.getElem?_eq_some_iff.1 he).1 hcn)];exact a1,.pure ?_,a3⟩
    refine a2.mono fun b i hi=>?_
    have:=(hle0.trans hle).imm b i hi
    rw[hR.cw]at this
    exact this)
  rw[hg]at hR' hgb
  refine bN hk (by rw[hexec,hrun];rfl) (hle0.trans hle) hR' (v:= .own k (g+1) n' (m+es'.length) 0) ?_ hK (by rw[hdst];rfl)
  have:=KRel.mkOwn (C':=C') (k:=k) (g:=g+1) (sz:=n') (n:=m+es'.length) (cap:=0) hgb hge hgm (by rw[hjb];exact hon) (arr:=arr) (et:=e) (by rw[hcw,hjb];exact heap_alloc_new _ _) (by rw[hsa];exact Nat.le_refl _)
  rw[hjb]at this
  exact this
 have fresh:∀(k:Key) (g m:Nat) (es:List AV) (bX:Option Addr),k.l≤999→(bX=none∨∃x y,bX=some ⟨x,y,none⟩)→m=0→X = .slice bX 0 0→(m+es'.length) * bt≤140737488355328→m+es'.length≤maxLen→(S.box k).1=g →
   K [.box k (g+1,some (n',es.take m++es')),.slot d (.own k (g+1) n' (m+es'.length) 0)]→(∀(i:Nat) (e:AV),es[i]?=some e→e.cells.length=n')→o.wp P a w next Q:=by
  intro k g m es bX hpl hbX hm0 hX hbytes hmax hg hK hesz
  subst hm0 hX
  by_cases hempty:es'=[]
  ·subst hempty
   have hrun:(execOp a.eval o).run P w = .ok (.value (.slice bX 0 0)) w:=by
    rw[exec];simp only[List.length_nil]
    rw[e8 hut hie bX 0 0 (Nat.le_refl _) bY capY hbY hbX];rfl
   obtain⟨C',hle,hgb,hjb,_,_,_,hR'⟩:=hR.bump k (some (n',es.take 0++[])) (fun C' _ _ _ _ _ sz es h=>by cases h;exact BoxOK.nil (by omega) hpl)
   rw[hg]at hR' hgb
   refine bN hk hrun hle hR' (v:= .own k (g+1) n' 0 0) ?_ hK (by rw[hdst];rfl)
   rw[←hgb];exact .ownNil hbX
  ·have hm0:0<es'.length:=List.length_pos_iff.2 hempty
   obtain⟨by_,oy,rfl⟩:=hnY hempty
   refine grow k g 0 es [] 0 (.slice bX 0 0) hpl hempty (by omega) (Nat.zero_le _) hbytes hmax (by simp) (by simp) hesz (fun i _ _ _ hi=>absurd hi (by omega)) ?_ exec hg hK
   rcases hbX with rfl|⟨bx,ox,rfl⟩
   ·have:=run_append_nil (P:=P) w t o.type e ie z hut hie hz1 ⟨by_,oy,none⟩ es'.length capY news (by rw[hnl,hsz]) (fun j u hj=>hnews _ rfl j u hj) hm0 (by unfold maxLen at hmax;omega) (by rw[hbt];simp at hbytes;omega)
    simpa using this
   ·have:=run_append_grow (P:=P) w t o.type e ie z hut hie hz1 ⟨bx,ox,none⟩ 0 0 [] (by simp) (by simp) ⟨by_,oy,none⟩ es'.length capY news (by rw[hnl,hsz])
     (fun j u hj=>hnews _ rfl j u hj) (by omega) (by unfold maxLen at hmax;omega) (growslice_fits (by omega) (by rw[hbt];exact hbytes))
    exact this
 cases u<;>first|exact h.elim|skip
 case slice sz es tok =>
  cases es with
  | cons _ _=>exact h.elim
  | nil =>
   cases tok<;>first|exact h.elim|skip
   obtain⟨⟨hbytes,hmax⟩,hpl,h⟩:=h
   have hpl:=Nat.le_of_ble_eq_true hpl
   simp only[RB.rm,RM.wp0]at h
   have hX:∃b,X = .slice b 0 0∧(b=none∨∃x y,b=some ⟨x,y,none⟩):=by
    cases hu with
    | pure hp=>cases hp with
     | nil=>exact⟨none,rfl,.inl rfl⟩
     | slice ys hcap ht=>exact⟨_,by rw[show _=0 from(ht.resolve_left (by simp)).2];rfl,.inr ⟨_,_,rfl⟩⟩
   obtain⟨bX,hX,hbX⟩:=hX
   exact fresh (cx.key d) _ 0 [] bX hpl hbX rfl hX (by simpa using hbytes) (by simpa using hmax) rfl (by simpa using h) (by simp)
 case own k g sz m cap =>
  simp only[RB.rm,RM.wp0]at h
  split at h
  ·rename_i dd hbox
   obtain⟨sz0,es⟩:=dd
   obtain⟨hg,hs0,hs1,⟨hml,hbytes,hmax⟩,hpl,h⟩:=h
   have hpl:=Nat.le_of_ble_eq_true hpl
   have hg:=Nat.eq_of_beq_eq_true hg
   have hs0:n'=sz0:=(Nat.eq_of_beq_eq_true hs0).symm
   have hs1:n'=sz:=(Nat.eq_of_beq_eq_true hs1).symm
   subst hs0 hs1
   have hB:=hR.box k _ es hbox
   have hwid:=hB.wid (by omega)
   have hcur:g=C.gb k:=by rw[hR.gb,hg]
   subst hcur
   rw[hg]at h
   cases hu with
   | pure hp=>cases hp
   | ownOld hlt=>omega
   | ownNil hbX=>exact fresh k _ 0 es _ hpl hbX rfl rfl hbytes hmax hg h hwid
   | @own _ _ _ _ cX hmc hcm hoX hsX =>
    obtain⟨arr,et,harr,hsa⟩:=hsX
    rw[hR.cw]at harr
    have hmul:m * n'≤arr.size:=Nat.le_trans (Nat.mul_le_mul_right _ hmc) hsa
    have hcell:∀(i:Nat) (e:AV) (c:Nat) (x:AV),i<m→es[i]?=some e→e.cells[c]?=some x→∃y,arr[i * n'+c]?=some y∧KRel C x y∧y.oneCell'=true:=by
     intro i e c x hi he hx
     obtain⟨_,arr2,et2,ha2,_,hc2⟩:=hB.own (by omega) (by rintro rfl;simp at he)
     rw[hR.cw,harr]at ha2
     cases ha2
     exact hc2 i e c x he hx
    have hall:∀j u,j<m * n'→arr[j]?=some u→u.oneCell'=true:=by
     intro j u hj hu
     have h1:j/n'<m:=Nat.div_lt_of_lt_mul (by rw[Nat.mul_comm];exact hj)
     have hml:m≤es.length:=hml
     have h1':j/n'<es.length:=by omega
     have h2:j%n'<es[j/n'].cells.length:=by rw[hwid (j/n') es[j/n'] (by simp[h1'])];exact Nat.mod_lt _ hn
     obtain⟨y,b1,_,b3⟩:=hcell (j/n') es[j/n'] (j%n') es[j/n'].cells[j%n'] h1 (by simp[h1']) (by simp[h2])
     rw[show j/n' * n'+j%n'=j by rw[Nat.mul_comm];exact Nat.div_add_mod j n',hu]at b1
     cases b1;exact b3
    by_cases hempty:es'=[]
    ·subst hempty
     have hrun:(execOp a.eval o).run P w = .ok (.value (.slice (some ⟨C.jb k,0,none⟩) m cX)) w:=by
      rw[exec];simp only[List.length_nil]
      rw[e8 hut hie _ m cX hmc bY capY hbY (.inr ⟨_,_,rfl⟩)];rfl
     obtain⟨C',hle,hgb,hjb,hon,hcw,_,hR'⟩:=hR.bump k (some (n',es.take m++[])) (fun C' hle hw him hj hown sz1 es1 h1=>by
      cases h1
      refine BoxOK.join (C:=C) (k:=k) (es':=[]) (by omega) (et:=et) (nn hpl _) (by rw[hj,hown];exact hoX) arr (by rw[hw,hj,hR.cw];exact harr) hml (by simpa using hmul) hwid (by simp) (fun i e c x hi he hx=>?_) (by simp)
      obtain⟨y,a1,a2,a3⟩:=hcell i e c x hi he hx
      exact⟨y,a1,a2.le hle,a3⟩)
     rw[hg]at hR' hgb
     refine bN hk hrun hle hR' (v:= .own k (C.gb k+1) n' m 0) ?_ h (by rw[hdst];rfl)
     have:=KRel.mkOwn (C':=C') (k:=k) (sz:=n') (n:=m) (cap:=0) hgb hmc hcm (by rw[hjb,hon];exact hoX) (arr:=arr) (et:=et) (by rw[hcw,hjb,hR.cw];exact harr) hsa
     rw[hjb]at this
     exact this
    ·have hm0:0<es'.length:=List.length_pos_iff.2 hempty
     obtain⟨by_,oy,rfl⟩:=hnY hempty
     by_cases hroom:m+es'.length≤cX
     ·have hfit:m * n'+news.length≤arr.size:=by rw[hnl, ←Nat.add_mul];exact Nat.le_trans (Nat.mul_le_mul_right _ hroom) hsa
      have hrun:=gE (P:=P) w t o.type e et ie hut hie (C.jb k) m cX arr harr ⟨by_,oy,none⟩ es'.length capY news (by rw[hnl,hsz]) (fun j u hj=>hnews _ rfl j u hj) hnone hroom (by rw[hsz];exact hfit)
      rw[hsz]at hrun
      obtain⟨arr',harr'⟩:∃arr':Array Value,(arr.toList.take (m * n')++news++arr.toList.drop (m * n'+news.length)).toArray=arr':=⟨_,rfl⟩
      rw[harr']at hrun
      have hget:∀p,arr'[p]?=if p<m * n' then arr[p]? else if p<m * n'+news.length then news[p-m * n']? else arr[p]?:=by
       intro p
       rw[←harr']
       have:=iM arr.toList (m * n') news (by simp;omega) p
       simpa using this
      have hsize:arr'.size=arr.size:=by
       rw[←harr'];simp only[List.size_toArray,List.length_append,List.length_take,List.length_drop,Array.length_toList];omega
      obtain⟨C1,hle1,hg1,hj1,hR1⟩:=hR.objWrite k none hoX (w':=w.setRow (C.jb k) arr') (fun b hb=>setRow_other _ _ _ _ hb) (by simp) (by simp) (by simp) (by simp) (fun arr1 e1 h1=>by
       rw[harr]at h1;cases h1
       exact⟨arr',_,setRow_heap _ _ _ _ _ _ harr,by omega⟩) (fun _ _ _ _ _ _ _ _ _ h=>by cases h)
      have ho1:C1.own (C1.jb k)=some (.box k):=by
       have:=(hle1.bs k (by rw[hg1]) hoX).1
       rw[hj1];exact this
      have hh1:C1.w.heap[C1.jb k]?=some (.cells arr' et (0,0)):=by rw[hR1.cw,hj1];exact setRow_heap _ _ _ _ _ _ harr
      obtain⟨C',hle,hgb,hjb,hon,hcw,_,hR'⟩:=hR1.bump k (some (n',es.take m++es')) (fun C' hle hw him hj hown sz1 es1 h1=>by
       cases h1
       refine BoxOK.join (C:=C) (k:=k) (by omega) (et:=et) (nn hpl _) (by rw[hj,hown];exact ho1) arr' (by rw[hw,hj];exact hh1) hml (by rw[hsize];exact Nat.le_trans (Nat.mul_le_mul_right _ hroom) hsa) hwid hnsz (fun i e c x hi he hx=>?_) (fun i e c x he hx=>?_)
       ·obtain⟨y,a1,a2,a3⟩:=hcell i e c x hi he hx
        have hcn:c<n':=by rw[←hwid i e he];exact(List.getElem?_eq_some_iff.1 hx).1
        exact⟨y,by rw[hget,if_pos (cy m hi hcn)];exact a1,a2.le (hle1.trans hle),a3⟩
       ·obtain⟨y,a1,a2,a3⟩:=hnp i e c x he hx
        have hcn:c<n':=by rw[←hnsz i e he];exact(List.getElem?_eq_some_iff.1 hx).1
        have hlt:=cy es'.length (List.getElem?_eq_some_iff.1 he).1 hcn
        refine⟨y,?_,.pure ?_,a3⟩
        ·rw[hget,if_neg (by rw[Nat.add_mul];omega),if_pos (by rw[hnl,Nat.add_mul];omega),Nat.add_mul,show m * n'+i * n'+c-m * n'=i * n'+c by omega];exact a1
        ·refine a2.mono fun b i hi=>?_
         have:=(hle1.trans hle).imm b i hi
         rw[hR.cw]at this
         exact this)
      have e1:((S.put (.box k ((S.box k).1,none))).box k).1=C.gb k:=by simp only[St.put,a8];exact hg
      rw[e1]at hR' hgb
      have e2:(S.put (.box k ((S.box k).1,none))).put (.box k (C.gb k+1,some (n',es.take m++es')))=S.put (.box k (C.gb k+1,some (n',es.take m++es'))):=by
       have hf:upd (upd S.box k ((S.box k).1,none)) k (C.gb k+1,some (n',es.take m++es'))=upd S.box k (C.gb k+1,some (n',es.take m++es')):=by
        funext j
        simp only[upd]
        by_cases hj:j=k<;>simp[hj]
       simp only[St.put,hf]
      rw[e2]at hR'
      refine bN hk (by rw[exec,hrun];rfl) (hle1.trans hle) hR' (v:= .own k (C.gb k+1) n' (m+es'.length) 0) ?_ h (by rw[hdst];rfl)
      have:=KRel.mkOwn (C':=C') (k:=k) (sz:=n') (n:=m+es'.length) (cap:=0) hgb hroom hcm (by rw[hjb,hon];exact ho1) (arr:=arr') (et:=et) (by rw[hcw,hjb];exact hh1) (by rw[hsize];exact hsa)
      rw[hjb,hj1]at this
      exact this
     ·have hol:(arr.toList.take (m * n')).length=m * n':=by simp;omega
      have hget:∀j,j<m * n'→(arr.toList.take (m * n'))[j]?=arr[j]?:=fun j hj=>by rw[List.getElem?_take,if_pos hj];simp
      refine grow k _ m es (arr.toList.take (m * n')) cX _ hpl hempty (by omega) hml hbytes hmax hol (fun u hu=>?_) hwid (fun i e c x hi he hx=>?_) ?_ exec hg h
      ·obtain⟨j,hj⟩:=List.mem_iff_getElem?.1 hu
       have hlt:j<m * n':=by rw[←hol];exact(List.getElem?_eq_some_iff.1 hj).1
       rw[hget j hlt]at hj
       exact hall j u hlt hj
      ·obtain⟨y,a1,a2,a3⟩:=hcell i e c x hi he hx
       have hcn:c<n':=by rw[←hwid i e he];exact(List.getElem?_eq_some_iff.1 hx).1
       exact⟨y,by rw[hget _ (cy m hi hcn)];exact a1,a2,a3⟩
      ·exact run_append_grow (P:=P) w t o.type e ie z hut hie hz1 ⟨C.jb k,0,none⟩ m cX _ (by rw[hol,hsz]) (fun j v hj=>by
        have hlt:j<m * n':=by rw[←hol];exact(List.getElem?_eq_some_iff.1 hj).1
        rw[hget j hlt]at hj
        simp[Addr.add_lit,World.cell?,harr,hj]) ⟨by_,oy,none⟩ es'.length capY news (by rw[hnl,hsz])
        (fun j u hj=>hnews _ rfl j u hj) (by omega) (by unfold maxLen at hmax;omega) (growslice_fits (by omega) (by rw[hbt];exact hbytes))
  ·exact h.elim
theorem pv{t e:TypeId}{i:TypeInfo}{z:Value}(w:World)(ht:P.underlying t=some (.slice e))(hi:P.info? e=some i)(hz:i.zero=some z)
  (kl kc:IntKind) (l c:Int) (h0:0≤l) (hlc:l≤c) (hroom:c.toNat * i.bytes≤140737488355328) (h63:c.toNat≤maxLen) (hs:i.size≠0) :
  ∃arr:Array Value,(Instr.makeSlice t (.int kl l) (.int kc c)).run P w = .ok (.slice (some ⟨w.heap.size,0,none⟩) l.toNat c.toNat) (w.alloc (.cells arr e)) ∧
   arr=(Array.range (c.toNat * i.size)).map (z.cells[· % z.cells.size]!):=by
 unfold maxLen at h63
 have wl:IntKind.i64.wrap l=l:=by rw[IntKind.wrap_i64];omega
 have wc:IntKind.i64.wrap c=c:=by rw[IntKind.wrap_i64];omega
 have n1:¬c<0:=by omega
 have hb:(i.bytes:Int) * c≤281474976710656:=by
  have h1:((c.toNat * i.bytes:Nat):Int)≤140737488355328:=Int.ofNat_le.2 hroom
  have h2:(c.toNat:Int)=c:=by omega
  rw[Int.natCast_mul,h2,Int.mul_comm]at h1
  omega
 have n2:¬(281474976710656<(i.bytes:Int) * c):=by omega
 have n3:¬l<0:=by omega
 have n4:¬c<l:=by omega
 have n5:¬(140737488355328<c.toNat * i.bytes):=by omega
 refine⟨_,?_,rfl⟩
 by_cases hn:c.toNat * i.size=0
 ·simp[Instr.makeSlice,run_underlying ht,asInt,asIntOf,typeInfo,hi,sizeOf,wl,wc,n1,n2,n3,n4,n5,hn,newRow,askRoom,roomBytes]
  rw[show Array.range 0=#[]from rfl];simp
 ·simp[Instr.makeSlice,run_underlying ht,asInt,asIntOf,typeInfo,hi,sizeOf,zeroValue,hz,wl,wc,n1,n2,n3,n4,n5,hn,newRow,askRoom,roomBytes]
theorem kz(cx:Cx)(hR:Rel N base w0 S C a w)(hk:eK N base w0 S C K next){t e:TypeId}{n bt n' d:Nat}{z':AV}{x y:Operand}(ho:o.op = .makeSlice t x y)
  (hx:inN N x=true) (hy:inN N y=true) (hdst:o.dst=some d) (hts:aU P t=some (e,n,bt)) (hz:bm P e=some (n',z'))
  (h:(fm cx d n bt n' z' x y).rm.wp0 P S K):o.wp P a w next Q:=by
 unfold fm at h
 obtain⟨hn',hn,hst,hzl,h⟩:=h
 have hn':n=n':=(Nat.eq_of_beq_eq_true hn').symm
 have hn:0<n:=Nat.le_of_ble_eq_true hn
 have hzl:=Nat.eq_of_beq_eq_true hzl
 subst hn'
 rw[aQ,aQ]at h
 have hu:=hR.val hx
 have hv:=hR.val hy
 have exec:(execOp a.eval o).run P w=((Instr.makeSlice t (a.eval x) (a.eval y)).run P w).andThen fun v w'=> .ok (.value v) w':=by
  simp[execOp,ho]
 obtain⟨ie,hut,hie,hsz,hbt⟩:=aS hts
 obtain⟨i',z,hz0,hz1,hz2,hz3,_⟩:=cZ hz
 rw[hie]at hz0;cases hz0
 revert h hu hv exec
 generalize S.val x=u
 generalize S.val y=v
 generalize a.eval x=X
 generalize a.eval y=Y
 intro h hu hv exec
 split at h
 ·rename_i kl l kc c
  obtain⟨⟨h1,h2,h3,h4⟩,h⟩:=h
  have hX:X = .int kl l:=hu.val rfl
  have hY:Y = .int kc c:=hv.val rfl
  subst hX hY
  simp only[RB.rm,RM.wp0]at h
  obtain⟨hpl,h⟩:=h
  have hpl:=Nat.le_of_ble_eq_true hpl
  obtain⟨arr,hrun,harr⟩:=pv (P:=P) w hut hie hz1 kl kc l c h1 h2 (by rw[hbt];exact h3) h4 (by omega)
  have hsa:arr.size=c.toNat * n:=by rw[harr];simp[hsz]
  have hcell:∀i cc,i<c.toNat→cc<n→arr[i * n+cc]?=z.cells[cc]?:=fun i cc hi hc=>by
   have hlt:=cy c.toNat hi hc
   rw[harr]
   have hmod:(i * n+cc)%n=cc:=by rw[Nat.mul_comm,Nat.mul_add_mod];exact Nat.mod_eq_of_lt hc
   have hlt2:cc<z.cells.size:=by omega
   rw[hsz,hz2]
   rw[Array.getElem?_map,Array.getElem?_range,if_pos hlt]
   simp only[Option.map_some,hmod]
   rw[getElem!_pos z.cells cc hlt2];simp[hlt2]
  obtain⟨_,hp,hone⟩:=(KRel.pure (C:=C) (bT C.w C.imm z)).cells (by rw[←hz3];exact hst)
  rw[←hz3]at hp
  obtain⟨C',hle,hgb,hjb,him,hon,hcw,hR'⟩:=hR.newBox (cx.key d) n (List.replicate c.toNat z') arr e (by omega) (fun T hl=>by omega) (fun T hl=>by omega) (fun i e he=>by
   rw[List.getElem?_replicate]at he
   split at he
   ·cases he;exact hzl
   ·simp at he) (by simp[hsa]) (fun i e cc x he hx=>by
   rw[List.getElem?_replicate]at he
   split at he
   ·rename_i hi
    cases he
    have hc:cc<n:=by rw[←hzl];exact(List.getElem?_eq_some_iff.1 hx).1
    have hc2:cc<z.cells.size:=by omega
    exact⟨z.cells[cc],by rw[hcell i cc hi hc];simp[hc2],hp cc x _ hx (by simp[hc2]),hone _ (by simp)⟩
   ·simp at he)
  refine bN hk (by rw[exec,hrun];rfl) hle hR' (v:= .own (cx.key d) ((S.box (cx.key d)).1+1) n l.toNat 0) ?_ h (by rw[hdst];rfl)
  have:=KRel.mkOwn (C':=C') (k:=cx.key d) (sz:=n) (n:=l.toNat) (c:=c.toNat) (cap:=0) hgb (by omega) h4 (by rw[hjb];exact hon) (arr:=arr) (et:=e) (by rw[hcw,hjb];exact heap_alloc_new _ _) (by rw[hsa];exact Nat.le_refl _)
  rw[hjb]at this
  exact this
 ·exact h.elim
theorem jr(cx:Cx)(hR:Rel N base w0 S C a w)(hk:eK N base w0 S C K next){t:TypeId}{len:Nat}{parts:Array (Nat×Operand)}(ho:o.op = .buildSlice t len parts)
  (hx:∀p∈parts.toList,inN N p.2=true) {d:Nat} (hdst:o.dst=some d) (h:(dF P cx d t len parts.toList).wp0 P S K):o.wp P a w next Q:=by
 unfold dF at h
 cases hts:aU P t with
 | none=>simp only[hts]at h;exact h.elim
 | some q =>
  obtain⟨e,n,bt⟩:=q
  simp only[hts]at h
  obtain⟨⟨hr,hmax,hn0,hzs⟩,h⟩:=h
  rw[eJ]at h
  obtain⟨ie,hu,hie,hsz,_⟩:=aS hts
  cases hz:bm P e with
  | none=>simp[hz]at hzs
  | some q =>
   obtain⟨nz,z⟩:=q
   simp only[hz,Option.map_some,Option.some.injEq]at hzs
   have hzs':=hzs.symm
   subst hzs'
   obtain⟨i,y,hi,hy,hyn,rfl,hst,hzl⟩:=cZ hz
   rw[hie]at hi;cases hi
   have hzK:KRel C (ofValue y) y:= .pure (bT _ _ y)
   obtain⟨_,_,hzone⟩:=hzK.cells hst
   split at h
   ·rename_i es hes
    obtain⟨⟨hszs,hpl⟩,h⟩:=h
    have hel:es.length=len:=by
     rw[gx hes]
     have:=congrArg List.length hr
     simpa using this
    have hpl:parts.toList.length=len:=by have:=congrArg List.length hr;simpa using this
    have hrel:∀(j:Nat) (x:AV) (v:Value),es[j]?=some x→(parts.toList.map fun p=>a.eval p.2)[j]?=some v→PRel w C.imm x v:=by
     intro j x v h1 h2
     obtain⟨u,hu,hp⟩:=gw hes j x h1
     rw[List.map_map,List.getElem?_map,Option.map_eq_some_iff]at hu
     rw[List.getElem?_map,Option.map_eq_some_iff]at h2
     obtain⟨p,hp1,rfl⟩:=hu
     obtain⟨p',hp2,rfl⟩:=h2
     rw[hp1]at hp2;cases hp2
     rw[←hR.cw]
     exact(hR.val (hx p (List.mem_of_getElem? hp1))).toPure hp
    have hzero:∀(zs:Array Value),zs.size=len * n→∃arr',Instr.fill (fun i=>some (i * n,n)) zs (parts.map fun p=>(p.1,a.eval p.2)).toList=some arr' ∧
      JW (fun x v=>PRel w C.imm x v) (flat es) arr':=by
     intro zs hzs
     have hfa:=nH n es 0 [] (List.replicate (len * n) .junk) (by simp) (by simp[hel]) (cE hszs)
     simp only[List.nil_append]at hfa
     refine iv (R:=fun x v=>PRel w C.imm x v) (fun h hs=>⟨(h.cells hs).1,(h.cells hs).2.1⟩) (fun i=>some (i * n,n)) _ _ _ _ zs (by simp[hel,hpl]) (fun j p q h1 h2=>?_)
      ⟨by simp[hzs],fun i x y hx hy=>?_⟩ hfa
     ·rw[List.getElem?_zip_eq_some]at h1
      obtain⟨h1a,h1b⟩:=h1
      rw[Array.toList_map,List.getElem?_map,Option.map_eq_some_iff]at h2
      obtain⟨u,hu,rfl⟩:=h2
      refine⟨?_,hrel j p.2 _ h1b (by rw[List.getElem?_map,hu];rfl)⟩
      have:(parts.toList.map (·.1))[j]?=some u.1:=by rw[List.getElem?_map,hu];rfl
      rw[hr,hel.symm]at this
      have e1:=(List.getElem?_eq_some_iff.1 h1a).2
      have e2:=(List.getElem?_eq_some_iff.1 this).2
      simp at e1 e2;omega
     ·have:=List.mem_of_getElem? hx
      rw[(List.mem_replicate.1 this).2];exact .junk _
    obtain⟨zc,hzc,hzone'⟩:∃zc:Array Value,zc=(Array.range (len * n)).map (fun x=>(if len * n=0 then #[]else y.cells)[x%(if len * n=0 then #[]else y.cells).size]!)∧∀v∈zc,v.oneCell'=true:=by
     refine⟨_,rfl,fun v hv=>?_⟩
     simp only[Array.mem_map,Array.mem_range]at hv
     obtain⟨p,hp,rfl⟩:=hv
     have hne:¬len * n=0:=by omega
     simp only[if_neg hne]
     have hpos:0<y.cells.size:=by omega
     have hlt:p%y.cells.size<y.cells.size:=Nat.mod_lt _ hpos
     simp only[getElem!_def,Array.getElem?_eq_getElem hlt]
     exact hzone _ (by simp)
    obtain⟨arr',hf,hpair⟩:=hzero zc (by rw[hzc];simp)
    have hflen:=qY fun i x hx=>(cE hszs i x hx).1
    have hone:=m9 _ _ _ _ hzone' (fun p hp=>by
     rw[Array.toList_map]at hp
     obtain⟨u,hu,rfl⟩:=List.mem_map.1 hp
     obtain⟨j,hj⟩:=List.getElem?_of_mem hu
     have hjl:j<es.length:=by rw[hel, ←hpl];exact(List.getElem?_eq_some_iff.1 hj).1
     have hs:=(cE hszs j es[j] (by simp[hjl])).2
     have:=hrel j es[j] (a.eval u.2) (by simp[hjl]) (by rw[List.getElem?_map,hj];rfl)
     exact(this.cells hs).2.2) hf
    have hrun:(execOp a.eval o).run P w = .ok (.value (.slice (some ⟨w.heap.size,0,none⟩) len len)) (w.alloc (.cells arr' e)):=by
     have hmax':¬ 2^24<len * n:=by omega
     rw[hzc]at hf
     simp only[execOp,ho]
     by_cases h0:len * n=0
     ·simp only[h0,if_true]at hf
      simp[Instr.buildSlice,run_underlying hu,sizeOf,typeInfo,hie,hsz,h0,newRow]at hf ⊢
      simp[hf]
     ·simp only[h0,if_false]at hf
      simp[Instr.buildSlice,run_underlying hu,sizeOf,typeInfo,zeroValue,hie,hsz,hy,h0,newRow,hmax]at hf ⊢
      simp[hf]
      omega
    simp only[RM.wp0]at h
    have hszs':∀(i:Nat) (x:AV),es[i]?=some x→x.cells.length=n:=fun i x hx=>(cE hszs i x hx).1
    have hsa:arr'.size=len * n:=by rw[hpair.1,hflen,hel]
    have hlen:len≤maxLen:=by
     have:len≤len * n:=Nat.le_mul_of_pos_right _ hn0
     unfold maxLen;omega
    obtain⟨C',hle,hgb,hjb,him,hon,hcw,hR'⟩:=hR.newBox (cx.key d) n es arr' e (by omega) (fun T hl=>by omega) (fun T hl=>by omega) hszs' (by rw[hel,hsa];exact Nat.le_refl _) (fun i x c u h1 h2=>by
     have hcn:c<n:=by rw[←hszs' i x h1];exact(List.getElem?_eq_some_iff.1 h2).1
     have hg:=nc hszs' i x c h1 hcn
     rw[h2]at hg
     have hlt:i * n+c<arr'.size:=by rw[hpair.1];exact(List.getElem?_eq_some_iff.1 hg).1
     have:=hpair.2 (i * n+c) u arr'[i * n+c] hg (by simp[hlt])
     exact⟨arr'[i * n+c],by simp[hlt],.pure (by rw[hR.cw];exact this),hone _ (by simp)⟩)
    refine bN hk hrun hle hR' (v:= .own (cx.key d) ((S.box (cx.key d)).1+1) n es.length 0) ?_ h (by rw[hdst];rfl)
    have:=KRel.mkOwn (C':=C') (k:=cx.key d) (sz:=n) (n:=len) (c:=len) (cap:=0) hgb (Nat.le_refl _) hlen (by rw[hjb];exact hon) (arr:=arr') (et:=e) (by rw[hcw,hjb];exact heap_alloc_new _ _) (by rw[hsa];exact Nat.le_refl _)
    rw[hjb]at this
    rw[hel]
    exact this
   ·exact h.elim
theorem Fo{n:Nat}{k:Key}{g m cap:Nat}{es:List AV}{Y:Value}(hR:Rel N base w0 S C a w)(hn:0<n)(hv:KRel C (.own k g n m cap) Y)(hg:g=C.gb k)(hbox:(S.box k).2=some (n,es))(hml:m≤es.length) :
  ∃bY capY,Y = .slice bY (es.take m).length capY∧(bY=none∨∃x y,bY=some ⟨x,y,none⟩)∧∃news:List Value,news.length=(es.take m).length * n ∧
   (∀ad,bY=some ad→∀(j:Nat) (u:Value),news[j]?=some u→w.cell? (ad.add j)=some u)∧(es.take m≠[]→∃x y,bY=some ⟨x,y,none⟩)∧(∀u∈news,u.oneCell'=true)∧(∀(i:Nat) (e:AV),(es.take m)[i]?=some e→e.cells.length=n) ∧
   ∀(i:Nat) (e:AV) (c:Nat) (x:AV),(es.take m)[i]?=some e→e.cells[c]?=some x→∃y,news[i * n+c]?=some y∧KRel C x y∧y.oneCell'=true:=by
 have htl:(es.take m).length=m:=by rw[List.length_take];omega
 rw[htl]
 have hB:=hR.box k n es hbox
 have hwid:=hB.wid (by omega)
 by_cases hm0:m=0
 ·subst hm0
  have hX:∃b c,Y = .slice b 0 c∧(b=none∨∃q r,b=some ⟨q,r,none⟩):=by
   cases hv with
   | pure hp=>cases hp
   | ownOld hlt=>omega
   | own=>exact⟨_,_,rfl,.inr ⟨_,_,rfl⟩⟩
   | ownNil hb=>exact⟨_,_,rfl,hb⟩
  obtain⟨b,cc,rfl,hb⟩:=hX
  exact⟨b,cc,rfl,hb,[],by simp,by simp,fun h=>absurd rfl h,by simp,by simp,by simp⟩
 ·have hne:es≠[]:=by rintro rfl;simp at hml;omega
  obtain⟨hoX,arr,et,harr,hcap,hcell⟩:=hB.own (by omega) hne
  rw[hR.cw]at harr
  have hlt:m * n≤arr.size:=Nat.le_trans (Nat.mul_le_mul_right _ hml) hcap
  have hin:∀i cc,i<m→cc<n→i * n+cc<m * n:=fun i cc hi hc=>by
   have:(i+1) * n≤m * n:=Nat.mul_le_mul_right _ hi
   rw[Nat.add_mul,Nat.one_mul]at this
   omega
  have hY:∃cc,Y = .slice (some ⟨C.jb k,0,none⟩) m cc:=by
   cases hv with
   | pure hp=>cases hp
   | ownOld hlt=>omega
   | own=>exact⟨_,rfl⟩
   | ownNil hb=>omega
  obtain⟨cc,rfl⟩:=hY
  have hall:∀u∈arr.toList.take (m * n),u.oneCell'=true:=by
   intro u hu
   obtain⟨p,hp,e⟩:=List.mem_take_iff_getElem.1 hu
   have hpm:p<m * n:=by omega
   have hi:p/n<m:=Nat.div_lt_of_lt_mul (by rw[Nat.mul_comm];exact hpm)
   obtain⟨e1,he1⟩:∃e1,es[p/n]?=some e1:=⟨_,List.getElem?_eq_getElem (by omega)⟩
   have hw1:=hwid _ e1 he1
   obtain⟨x1,hx1⟩:∃x1,e1.cells[p%n]?=some x1:=⟨_,List.getElem?_eq_getElem (by rw[hw1];exact Nat.mod_lt _ hn)⟩
   obtain⟨y,a1,a2,a3⟩:=hcell _ e1 _ x1 he1 hx1
   rw[show p/n * n+p%n=p by rw[Nat.mul_comm];exact Nat.div_add_mod p n]at a1
   have:arr[p]?=some u:=by rw[←e];simp
   rw[this]at a1;cases a1;exact a3
  refine⟨_,_,rfl,.inr ⟨_,_,rfl⟩,arr.toList.take (m * n),by rw[List.length_take,Array.length_toList];omega,?_,fun _=>⟨_,_,rfl⟩,hall,?_,?_⟩
  ·intro ad e j u hj
   cases e
   rw[List.getElem?_take]at hj
   split at hj
   ·have e2:Addr.add ⟨C.jb k,0,none⟩ j=⟨C.jb k,j,none⟩:=by unfold Addr.add;split<;>simp_all
    rw[e2]
    have hj':arr[j]?=some u:=by simpa using hj
    simp[World.cell?,harr,Addr.spot,hj']
   ·simp at hj
  ·intro i e he
   rw[List.getElem?_take]at he
   split at he
   ·exact hwid i e he
   ·simp at he
  ·intro i e c x he hx
   rw[List.getElem?_take]at he
   split at he
   ·rename_i hi
    obtain⟨y,a1,a2,a3⟩:=hcell i e c x he hx
    have hcn:c<n:=by rw[←hwid i e he];exact(List.getElem?_eq_some_iff.1 hx).1
    exact⟨y,by rw[List.getElem?_take,if_pos (hin i c hi hcn)];simpa using a1,a2,a3⟩
   ·simp at he
theorem i4(hR:Rel N base w0 S C a w)(hk:eK N base w0 S C K next){t e:TypeId}{n bt:Nat}{X Y:Value}
  (exec:(execOp a.eval o).run P w=((Builtin.copy_ #[t,t] o.type #[X,Y]).run P w).andThen fun v w'=> .ok (.value v) w') (hts:aU P t=some (e,n,bt)) (hn:0<n)
  {k:Key} {g sz m cap:Nat} {es':List AV} (hu:KRel C (.own k g sz m cap) X) {bY:Option Addr} {capY:Nat} (hYe:Y = .slice bY es'.length capY) (hbY:bY=none∨∃x y,bY=some ⟨x,y,none⟩)
  {news:List Value} (hnl:news.length=es'.length * n) (hnews:∀ad,bY=some ad→∀(j:Nat) (u:Value),news[j]?=some u→w.cell? (ad.add j)=some u) (hnY:es'≠[]→∃x y,bY=some ⟨x,y,none⟩)
  (hnone:∀u∈news,u.oneCell'=true) (hnsz:∀(i:Nat) (e:AV),es'[i]?=some e→e.cells.length=n)
  (hnp:∀(i:Nat) (e:AV) (c:Nat) (x:AV),es'[i]?=some e→e.cells[c]?=some x→∃y,news[i * n+c]?=some y∧KRel C x y∧y.oneCell'=true)
  (h:(m6 o.dst n k g sz m es').rm.wp0 P S K):o.wp P a w next Q:=by
 obtain⟨ie,hut,hie,hsz,hbt⟩:=aS hts
 subst hYe
 unfold m6 at h
 simp only[RB.rm,RM.wp0]at h
 split at h
 ·rename_i dd hbox
  obtain⟨sz0,es⟩:=dd
  obtain⟨hg,hs0,hs1,hml,h⟩:=h
  have hg:=Nat.eq_of_beq_eq_true hg
  have hs0:n=sz0:=(Nat.eq_of_beq_eq_true hs0).symm
  have hs1:n=sz:=(Nat.eq_of_beq_eq_true hs1).symm
  subst hs0 hs1
  have hB:=hR.box k _ es hbox
  have hwid:=hB.wid (by omega)
  have hcur:g=C.gb k:=by rw[hR.gb,hg]
  subst hcur
  have hml:m≤es.length:=hml
  obtain⟨j,hj⟩:∃j,j=min es'.length m:=⟨_,rfl⟩
  rw[←hj]at h
  by_cases hj0:j=0
  ·have hsame:es'.take j++es.drop j=es:=by rw[hj0];simp
   have hput:S.put (.box k (C.gb k,some (n,es)))=S:=by
    have:upd S.box k (C.gb k,some (n,es))=S.box:=by
     funext q
     simp only[upd]
     split
     ·subst_vars;rw[←hbox, ←hg]
     ·rfl
    simp only[St.put,this]
   have hrun:(execOp a.eval o).run P w = .ok (.value (.int .i64 (j:Nat))) w:=by
    have hmin:Nat.min es'.length m=0:=by
        have:min es'.length m=0:=by omega
        exact this
    have hX:∃b c,X = .slice b m c∧(b=none∨∃q r,b=some ⟨q,r,none⟩):=by
     cases hu with
     | pure hp=>cases hp
     | ownOld hlt=>omega
     | own=>exact⟨_,_,rfl,.inr ⟨_,_,rfl⟩⟩
     | ownNil hb=>exact⟨_,_,rfl,hb⟩
    obtain⟨b,cc,rfl,hb'⟩:=hX
    rw[exec,hj0]
    rcases hb' with rfl|⟨q,r,rfl⟩<;>rcases hbY with rfl|⟨q',r',rfl⟩ <;>
     simp[Builtin.copy_,run_underlying hut,Builtin.lenOf,sizeOf,typeInfo,hie,hmin,Builtin.firstCells,loadCells,loadCellsFrom,storeCells,goInt]
   have h':K (putA o.dst (.v (.int .i64 (j:Nat))))∨True:= .inr trivial
   rw[hsame]at h
   rw[hg]at h
   refine co hrun (hk _ C _ _ h (.refl C) ?_)
   simp only[St.puts,hput]
   exact hR.putA (.pure (.v _)) _
  ·have hm0:0<m:=by omega
   have hne':es'≠[]:=by rintro rfl;simp at hj;omega
   obtain⟨by_,oy,rfl⟩:=hnY hne'
   have hne:es≠[]:=by rintro rfl;simp at hml;omega
   obtain⟨hoX,arr,et,harr,hcap,hcell⟩:=hB.own (by omega) hne
   rw[hR.cw]at harr
   cases hu with
   | pure hp=>cases hp
   | ownOld hlt=>omega
   | ownNil hb=>omega
   | @own _ _ _ _ cX hmc hcm _ _ =>
    have hjn:j * n≤news.length:=by rw[hnl];exact Nat.mul_le_mul_right _ (by omega)
    have hlt:j * n≤arr.size:=Nat.le_trans (Nat.mul_le_mul_right _ (by omega)) hcap
    have htl:(news.take (j * n)).length=j * n:=by simp;omega
    have hfirst:=run_firstCells_some (P:=P) (w:=w) n j ⟨by_,oy,none⟩ es'.length capY (news.take (j * n)) htl (fun i u hi=>by
     rw[List.getElem?_take]at hi
     split at hi
     ·exact hnews _ rfl i u hi
     ·simp at hi)
    have hst:=run_storeCells_at P (C.jb k) 0 et (news.take (j * n)) 0 arr w harr (by rw[htl];omega) (fun u hu=>hnone u (List.mem_of_mem_take hu))
    simp only[Nat.add_zero,List.take_zero,List.nil_append,Nat.zero_add]at hst
    obtain⟨arr',harr'⟩:∃arr':Array Value,(news.take (j * n)++arr.toList.drop (news.take (j * n)).length).toArray=arr':=⟨_,rfl⟩
    rw[harr']at hst
    have hget:∀p,arr'[p]?=if p<j * n then news[p]? else arr[p]?:=by
     intro p
     rw[←harr',htl]
     simp only[List.getElem?_toArray]
     by_cases hp:p<j * n
     ·rw[List.getElem?_append_left (by rw[htl];exact hp),List.getElem?_take,if_pos hp,if_pos hp]
     ·rw[List.getElem?_append_right (by rw[htl];omega),htl,List.getElem?_drop,if_neg hp]
      rw[show j * n+(p-j * n)=p by omega];simp
    have hsize:arr'.size=arr.size:=by
     rw[←harr',htl];simp only[List.size_toArray,List.length_append,htl,List.length_drop,Array.length_toList];omega
    have hlen2:(es'.take j++es.drop j).length=es.length:=by simp;omega
    have htj:(es'.take j).length=j:=by simp;omega
    obtain⟨C',hle,hgb,hjb,hR'⟩:=hR.boxWrite k hbox (by omega) hne (es'.take j++es.drop j) harr arr' hsize (fun i e he=>by
      by_cases hi:i<j
      ·rw[List.getElem?_append_left (by omega),List.getElem?_take,if_pos hi]at he;exact hnsz i e he
      ·rw[List.getElem?_append_right (by omega),htj,List.getElem?_drop]at he;exact hwid _ e he) (by rw[hlen2,hsize];exact hcap) (fun i e cc u he hx=>by
      by_cases hi:i<j
      ·rw[List.getElem?_append_left (by omega),List.getElem?_take,if_pos hi]at he
       obtain⟨y,a1,a2,a3⟩:=hnp i e cc u he hx
       have hcn:cc<n:=by rw[←hnsz i e he];exact(List.getElem?_eq_some_iff.1 hx).1
       exact⟨y,by rw[hget,if_pos (cy j hi hcn)];exact a1,a2,a3⟩
      ·rw[List.getElem?_append_right (by omega),htj,List.getElem?_drop,show j+(i-j)=i by omega]at he
       obtain⟨y,a1,a2,a3⟩:=hcell i e cc u he hx
       refine⟨y,?_,a2,a3⟩
       have:j * n≤i * n:=Nat.mul_le_mul_right _ (by omega)
       rw[hget,if_neg (by omega)];exact a1)
    rw[hg]at hR' h
    have hrun:(execOp a.eval o).run P w = .ok (.value (.int .i64 (j:Nat))) (w.setRow (C.jb k) arr'):=by
     have hmin:Nat.min es'.length m=j:=by
         have:min es'.length m=j:=by omega
         exact this
     rw[exec]
     simp[Builtin.copy_,run_underlying hut,Builtin.lenOf,sizeOf,typeInfo,hie,hsz,hmin,hfirst,hst,goInt]
    refine co hrun (hk _ C' _ _ h hle ?_)
    simp only[St.puts]
    exact hR'.putA (.pure (.v _)) _
 ·exact h.elim
theorem ru(hR:Rel N base w0 S C a w)(hk:eK N base w0 S C K next){c:Call}{t e:TypeId}{n bt:Nat}{x y:Operand}(ho:o.op = .call c)(hb:c.callee = .builtin .copy)
  (ha:c.args.toList=[x,y]) (hat:c.argTypes.toList=[t,t]) (hx:inN N x=true) (hy:inN N y=true) (hts:aU P t=some (e,n,bt))
  (h:(rt o.dst n x y).rm.wp0 P S K):o.wp P a w next Q:=by
 have ha':c.args=#[x,y]:=by rw[←Array.toArray_toList (xs:=c.args),ha]
 have hat':c.argTypes=#[t,t]:=by rw[←Array.toArray_toList (xs:=c.argTypes),hat]
 unfold rt at h
 obtain⟨hn,h⟩:=h
 have hn:0<n:=Nat.le_of_ble_eq_true hn
 rw[aQ,aQ]at h
 have hu:=hR.val hx
 have hv:=hR.val hy
 have exec:(execOp a.eval o).run P w=((Builtin.copy_ #[t,t] o.type #[a.eval x,a.eval y]).run P w).andThen fun v w'=> .ok (.value v) w':=by
  simp[execOp,ho,resolve,hb,ha',hat',invoke,builtin]
 obtain⟨ie,hut,hie,hsz,hbt⟩:=aS hts
 revert h hu hv exec
 generalize S.val x=u
 generalize S.val y=v
 generalize a.eval x=X
 generalize a.eval y=Y
 intro h hu hv exec
 split at h
 ·rename_i k g sz m cap sz' es' tok'
  obtain⟨hw,h⟩:=h
  obtain⟨bY,capY,hYe,hbY,hcapY,hmY,news,hnl,hnews,hnY,hnone,hnsz,hnp⟩:=xk hR hn hv (qy hw)
  exact i4 hR hk exec hts hn hu hYe hbY hnl hnews hnY hnone hnsz (fun i e c x h1 h2=>by
   obtain⟨y,b1,b2,b3⟩:=hnp i e c x h1 h2
   exact⟨y,b1,.pure (by rw[hR.cw];exact b2),b3⟩) h
 ·rename_i k g sz m cap k2 g2 sz2 m2 cap2
  simp only[RB.rm,RM.wp0]at h
  split at h
  ·rename_i dd hbox
   obtain⟨sz0,es2⟩:=dd
   obtain⟨hg,hs0,hs1,hml,h⟩:=h
   have hg:=Nat.eq_of_beq_eq_true hg
   have hs0:n=sz0:=(Nat.eq_of_beq_eq_true hs0).symm
   have hs1:n=sz2:=(Nat.eq_of_beq_eq_true hs1).symm
   subst hs0 hs1
   obtain⟨bY,capY,hYe,hbY,news,hnl,hnews,hnY,hnone,hnsz,hnp⟩:=Fo hR hn hv (by rw[hR.gb,hg]) hbox hml
   exact i4 hR hk exec hts hn hu hYe hbY hnl hnews hnY hnone hnsz hnp h
  ·exact h.elim
 ·exact h.elim
end
end Go.Am
namespace Go.Am
open Go.RowKit
theorem CK.typed_inv{c:CK}{v:Value}(h:c.typed v=true):(∃k n,c = .int k∧v = .int k n)∨(∃b,c = .bool∧v = .bool b)∨∃s,c = .str∧v = .string s:=by
 cases c with
 | int k =>
  cases v with
  | int k' n =>
   refine .inl ⟨k,n,rfl,?_⟩
   cases k<;>cases k'<;>first|rfl|(simp[CK.typed]at h)
  | _=>simp[CK.typed]at h
 | bool =>
  cases v with
  | bool b=>exact .inr (.inl ⟨b,rfl,rfl⟩)
  | _=>simp[CK.typed]at h
 | str =>
  cases v with
  | string s=>exact .inr (.inr ⟨s,rfl,rfl⟩)
  | _=>simp[CK.typed]at h
def GP(P:Program)(g:TypeId→Option (List CK)):List Field→Nat→Option (List CK)
 | [],_=>some []
 | f::fs,off=>match g f.type,P.info? f.type with
  | some cs,some i=>if f.name ≠ "_" ∧f.offset=off∧i.size=cs.length then(match GP P g fs (off+cs.length)with
   | some r=>some (cs++r)
   | none=>none)else none
  | _,_=>none
def De(cs:List CK):Nat→List CK
 | 0=>[]
 | n+1=>cs++De cs n
def mn(P:Program):Nat→TypeId→Option (List CK)
 | 0,_=>none
 | n+1,t=>match P.underlying t with
  | some .bool=>some [.bool]
  | some (.int k)=>some [.int k]
  | some .string=>some [.str]
  | some (.struct fs)=>if P.stoodInHeld t=true then none else GP P (mn P n) fs.toList 0
  | some (.array len e)=>match mn P n e,P.info? e with
   | some cs,some i=>if i.size=cs.length then some (De cs len)else none
   | _,_=>none
  | _=>none
def bE(P:Program)(t:TypeId):Bool :=
 match P.underlying t with
 | some (.struct _)|some (.array _ _)=>true
 | _=>false
def b6(P:Program)(t:TypeId)(u:Value)(us:List Value):Prop :=
 if bE P t=true then∃a,u = .agg a∧a.toList=us else us=[u]
theorem ci:∀{cs:List CK} {us:List Value},aV cs us=true→us.length=cs.length
 | [],[],_=>rfl
 | [],_::_,h=>by simp[aV]at h
 | _::_,[],h=>by simp[aV]at h
 | c::cs,u::us,h=>by
  simp only[aV]at h
  split at h
  ·simp[ci h]
  ·simp at h
theorem cU:∀{cs rs:List CK} {us:List Value},aV (cs++rs) us=true→aV cs (us.take cs.length)=true∧aV rs (us.drop cs.length)=true
 | [],rs,us,h=>by simpa[aV]using h
 | c::cs,rs,[],h=>by simp[aV]at h
 | c::cs,rs,u::us,h=>by
  simp only[List.cons_append,aV]at h
  split at h
  ·rename_i hc
   obtain⟨h1,h2⟩:=cU h
   simp only[List.length_cons,List.take_succ_cons,List.drop_succ_cons,aV,hc]
   exact⟨h1,h2⟩
  ·simp at h
theorem nE:∀(n:Nat) (us vs:List Value),us.length=vs.length→eqL us vs=(eqL (us.take n) (vs.take n)&&eqL (us.drop n) (vs.drop n))
 | 0,us,vs,h=>by simp[eqL]
 | n+1,[],[],h=>by simp[eqL]
 | n+1,[],_::_,h=>by simp at h
 | n+1,_::_,[],h=>by simp at h
 | n+1,u::us,v::vs,h=>by
  simp only[List.take_succ_cons,List.drop_succ_cons,eqL]
  rw[nE n us vs (by simpa using h),Bool.and_assoc]
section
variable {P:Program}
theorem CU{t:TypeId}{d:TypeDesc}(hd:P.underlying t=some d)(w:World):(isAgg t).run P w = .ok (bE P t) w:=by
 simp only[isAgg,Sem.run_bind,run_underlying hd,Result.andThen_ok,bE,hd]
 cases d<;>rfl
theorem EV{n:Nat}{t:TypeId}{cs:List CK}(h:mn P n t=some cs):∃d,P.underlying t=some d:=by
 cases n with
 | zero=>simp[mn]at h
 | succ n =>
  simp only[mn]at h
  split at h<;>first|exact⟨_,by assumption⟩|simp at h
theorem FH{t:TypeId}{d:TypeDesc}{i:TypeInfo}(hd:P.underlying t=some d)(hi:P.info? t=some i)(a:Array Value)(off n:Nat)(hn:i.size=n)(hlen:bE P t=false→off<a.size)(h1:bE P t=false→n=1)(w:World) :
  ∃u,(part t a off).run P w = .ok u w∧b6 P t u ((a.toList.drop off).take n):=by
 unfold part
 simp only[Sem.run_bind,CU hd,Result.andThen_ok]
 cases hag:bE P t with
 | true =>
  refine⟨.agg (a.extract off (off+n)),by simp[sizeOf,typeInfo,hi,hn],?_⟩
  simp only[b6,hag,if_true]
  exact⟨_,rfl,by simp[Array.toList_extract,List.extract_eq_take_drop]⟩
 | false =>
  have:=h1 hag
  subst this
  have hlt:off<a.size:=hlen hag
  refine⟨a[off],by simp[hlt],?_⟩
  simp only[b6,hag,Bool.false_eq_true,if_false]
  rw[List.drop_eq_getElem_cons (by simpa using hlt)]
  simp
theorem jV{n:Nat}{t:TypeId}{cs:List CK}(h:mn P n t=some cs)(ha:bE P t=false):cs.length=1:=by
 cases n with
 | zero=>simp[mn]at h
 | succ n =>
  unfold bE at ha
  simp only[mn]at h
  split at h<;>first
   | (simp at h;subst h;rfl)
   | (rename_i hd;simp[hd]at ha;done)
   | (simp at h;done)
theorem lu{g:TypeId→Option (List CK)}{fs:List Field}{off:Nat}{cs:List CK}(h:GP P g fs off=some cs) :
  fs=[]∧cs=[]∨∃f fs' c1 c2 i,fs=f::fs'∧cs=c1++c2∧g f.type=some c1∧P.info? f.type=some i∧f.name ≠ "_" ∧f.offset=off∧i.size=c1.length∧GP P g fs' (off+c1.length)=some c2:=by
 cases fs with
 | nil=>simp[GP]at h;exact .inl ⟨rfl,h⟩
 | cons f fs' =>
  simp only[GP]at h
  split at h
  ·rename_i c1 i h1 h2
   split at h
   ·rename_i hc
    split at h
    ·rename_i r hr
     simp at h
     exact .inr ⟨f,fs',c1,r,i,rfl,h.symm,h1,h2,hc.1,hc.2.1,hc.2.2,hr⟩
    ·simp at h
   ·simp at h
  ·simp at h
theorem gm{α σ:Type}{s0 s1:σ}{g:α→σ→Sem (ForInStep σ)}{w:World}:∀(fs:List α) (r:List Bool),r.length=fs.length →
  (∀(i:Nat) (f:α) (b:Bool),fs[i]?=some f→r[i]?=some b→(g f s0).run P w = .ok (if b then .yield s0 else .done s1) w)→(forIn fs s0 g).run P w = .ok (if r.all id then s0 else s1) w
 | [],[],_,_=>rfl
 | [],_::_,h,_=>by simp at h
 | _::_,[],h,_=>by simp at h
 | f::fs,b::r,hl,hr=>by
  have hb:=hr 0 f b rfl rfl
  rw[List.forIn_cons]
  simp only[Sem.run_bind,hb,Result.andThen_ok]
  cases b with
  | false=>simp
  | true =>
   have:=gm fs r (by simpa using hl) (fun i f b h1 h2=>hr (i+1) f b (by simpa using h1) (by simpa using h2))
   simp only[if_true,this]
   simp
theorem pE{ask:Field→Sem Bool}{g:TypeId→Option (List CK)}{a b:Array Value}{w:World}:∀(fs:List Field) (off:Nat) {cs:List CK},GP P g fs off=some cs→aV cs (a.toList.drop off)=true→aV cs (b.toList.drop off)=true →
  (∀f c1 i o,f∈fs→g f.type=some c1→P.info? f.type=some i→i.size=c1.length→f.offset=o→aV c1 ((a.toList.drop o).take c1.length)=true→aV c1 ((b.toList.drop o).take c1.length)=true →
   (ask f).run P w = .ok (eqL ((a.toList.drop o).take c1.length) ((b.toList.drop o).take c1.length)) w) →
  ∃r:List Bool,r.length=fs.length∧(∀(i:Nat) (f:Field) (b:Bool),fs[i]?=some f→r[i]?=some b→f.name ≠ "_" ∧(ask f).run P w = .ok b w)∧r.all id=eqL (a.toList.drop off) (b.toList.drop off)
 | [],off,cs,h,h1,h2,_=>by
  rcases lu h with⟨_,rfl⟩|⟨f,fs',_,_,_,e,_⟩
  ·have e1:=List.eq_nil_of_length_eq_zero (ci h1)
   have e2:=List.eq_nil_of_length_eq_zero (ci h2)
   exact⟨[],rfl,by simp,by rw[e1,e2];rfl⟩
  ·cases e
 | f::fs,off,cs,h,h1,h2,hask=>by
  rcases lu h with⟨e,_⟩|⟨f',fs',c1,c2,i,e,rfl,hg,hi,hn,ho,hsz,hr⟩
  ·cases e
  ·cases e
   obtain⟨a1,a2⟩:=cU h1
   obtain⟨b1,b2⟩:=cU h2
   rw[List.drop_drop]at a2 b2
   obtain⟨r,r1,r2,r3⟩:=pE fs (off+c1.length) hr a2 b2 (fun f c i o hf=>hask f c i o (List.mem_cons_of_mem _ hf))
   have hq:=hask f c1 i off (by simp) hg hi hsz ho a1 b1
   refine⟨eqL ((a.toList.drop off).take c1.length) ((b.toList.drop off).take c1.length)::r,by simp[r1],fun j f' b' h1 h2=>?_,?_⟩
   ·cases j with
    | zero=>simp at h1 h2;subst h1 h2;exact⟨hn,hq⟩
    | succ j=>exact r2 j f' b' (by simpa using h1) (by simpa using h2)
   ·rw[nE c1.length (a.toList.drop off) (b.toList.drop off) (by rw[ci h1,ci h2]),List.drop_drop,List.drop_drop,List.all_cons,r3]
    rfl
theorem sq{ask:Nat→Sem Bool}{c:List CK}{a b:Array Value}{w:World}:∀(len k:Nat),aV (De c len) (a.toList.drop (k * c.length))=true→aV (De c len) (b.toList.drop (k * c.length))=true →
  (∀i,k≤i→i<k+len→aV c ((a.toList.drop (i * c.length)).take c.length)=true→aV c ((b.toList.drop (i * c.length)).take c.length)=true →
   (ask i).run P w = .ok (eqL ((a.toList.drop (i * c.length)).take c.length) ((b.toList.drop (i * c.length)).take c.length)) w) →
  ∃r:List Bool,r.length=len∧(∀(i j:Nat) (b:Bool),(List.range' k len)[i]?=some j→r[i]?=some b→(ask j).run P w = .ok b w)∧r.all id=eqL (a.toList.drop (k * c.length)) (b.toList.drop (k * c.length))
 | 0,k,h1,h2,_=>by
  have e1:=List.eq_nil_of_length_eq_zero (ci h1)
  have e2:=List.eq_nil_of_length_eq_zero (ci h2)
  exact⟨[],rfl,by simp,by rw[e1,e2];rfl⟩
 | len+1,k,h1,h2,hask=>by
  obtain⟨a1,a2⟩:=cU h1
  obtain⟨b1,b2⟩:=cU h2
  have hk:k * c.length+c.length=(k+1) * c.length:=by rw[Nat.add_mul,Nat.one_mul]
  rw[List.drop_drop,hk]at a2 b2
  obtain⟨r,r1,r2,r3⟩:=sq len (k+1) a2 b2 (fun i h h'=>hask i (by omega) (by omega))
  have hq:=hask k (Nat.le_refl _) (by omega) a1 b1
  refine⟨eqL ((a.toList.drop (k * c.length)).take c.length) ((b.toList.drop (k * c.length)).take c.length)::r,by simp[r1],fun i j b' h1 h2=>?_,?_⟩
  ·cases i with
   | zero=>simp[List.range'_succ]at h1 h2;subst h1 h2;exact hq
   | succ i=>exact r2 i j b' (by simpa[List.range'_succ]using h1) (by simpa using h2)
  ·rw[nE c.length (a.toList.drop (k * c.length)) (b.toList.drop (k * c.length)) (by rw[ci h1,ci h2]),List.drop_drop,List.drop_drop,List.all_cons,r3,hk]
   rfl
theorem eR{u:Value}{c:CK}(h:aV [c] [u]=true):c.typed u=true:=by
 simp only[aV]at h
 split at h
 ·assumption
 ·simp at h
theorem se{s s':ByteArray}:(s==s')=true↔s=s':=by
 cases s with|mk a =>
 cases s' with|mk b =>
 have:((ByteArray.mk a)==(ByteArray.mk b))=(a==b):=rfl
 rw[this]
 simp
theorem lP{t:TypeId}{c:List CK}{n o:Nat}{i:TypeInfo}{a:Array Value}(hg:mn P n t=some c)(hi:P.info? t=some i)(hsz:i.size=c.length)(h:aV c ((a.toList.drop o).take c.length)=true)(w:World) :
  ∃u,(part t a o).run P w = .ok u w∧b6 P t u ((a.toList.drop o).take c.length):=by
 obtain⟨d,hd⟩:=EV hg
 refine FH hd hi a o c.length hsz (fun hf=>?_) (fun hf=>jV hg hf) w
 have h1:=jV hg hf
 have h2:=ci h
 rw[h1]at h2
 simp at h2
 omega
theorem gl:∀(n d:Nat) {t:TypeId} {cs:List CK},mn P n t=some cs→n≤d→∀{u v:Value} {us vs:List Value},b6 P t u us→b6 P t v vs→aV cs us=true→aV cs vs=true →
  ∀w,(Op.equalIn d t u v).run P w = .ok (eqL us vs) w
 | 0,_,_,_,h,_,_,_,_,_,_,_,_,_,_=>by simp[mn]at h
 | n+1,0,_,_,_,hd,_,_,_,_,_,_,_,_,_=>by omega
 | n+1,d+1,t,cs,h,hd,u,v,us,vs,hu,hv,h1,h2,w=>by
  simp only[mn]at h
  split at h
  ·rename_i hund
   simp at h;subst h
   simp only[b6,bE,hund,Bool.false_eq_true,if_false]at hu hv
   subst hu hv
   rcases CK.typed_inv (eR h1)with⟨_,_,e,_⟩|⟨b,_,rfl⟩|⟨_,e,_⟩<;>try cases e
   rcases CK.typed_inv (eR h2)with⟨_,_,e,_⟩|⟨b',_,rfl⟩|⟨_,e,_⟩<;>try cases e
   simp[Op.equalIn,run_underlying hund,eqL,eqC]
  ·rename_i k hund
   simp at h;subst h
   simp only[b6,bE,hund,Bool.false_eq_true,if_false]at hu hv
   subst hu hv
   rcases CK.typed_inv (eR h1)with⟨k1,m1,e,rfl⟩|⟨b,e,_⟩|⟨_,e,_⟩<;>try cases e
   rcases CK.typed_inv (eR h2)with⟨k2,m2,e,rfl⟩|⟨b',e,_⟩|⟨_,e,_⟩<;>try cases e
   simp[Op.equalIn,run_underlying hund,eqL,eqC]
   rfl
  ·rename_i hund
   simp at h;subst h
   simp only[b6,bE,hund,Bool.false_eq_true,if_false]at hu hv
   subst hu hv
   rcases CK.typed_inv (eR h1)with⟨_,_,e,_⟩|⟨b,e,_⟩|⟨s,_,rfl⟩<;>try cases e
   rcases CK.typed_inv (eR h2)with⟨_,_,e,_⟩|⟨b',e,_⟩|⟨s',_,rfl⟩<;>try cases e
   have:(s==s')=decide (s=s'):=by
    rw[Bool.eq_iff_iff,decide_eq_true_eq]
    exact se
   simp[Op.equalIn,run_underlying hund,eqL,eqC,this]
  ·rename_i fs hund
   split at h
   ·simp at h
   ·rename_i hst
    simp only[b6,bE,hund,if_true]at hu hv
    obtain⟨a,rfl,rfl⟩:=hu
    obtain⟨b,rfl,rfl⟩:=hv
    have hla:=ci h1
    have hlb:=ci h2
    obtain⟨r,r1,r2,r3⟩:=pE (P:=P) (a:=a) (b:=b) (w:=w) (ask:=fun f=>do let x←part f.type a f.offset;let y←part f.type b f.offset;Op.equalIn d f.type x y) fs.toList 0 h (by simpa using h1) (by simpa using h2)
     (fun f c1 i o hf hg hi hsz ho t1 t2=>by
      subst ho
      obtain⟨x,hx,hx'⟩:=lP hg hi hsz t1 w
      obtain⟨y,hy,hy'⟩:=lP hg hi hsz t2 w
      simp only[Sem.run_bind,hx,hy,Result.andThen_ok]
      exact gl n d hg (by omega) hx' hy' t1 t2 w)
    simp[Op.equalIn,run_underlying hund,run_program,hst]
    rw[←Array.forIn_toList,gm (s0:=(none,())) (s1:=(some false,())) fs.toList r r1 (fun i f b' hf hb=>by
     obtain⟨hn,hr⟩:=r2 i f b' hf hb
     simp only[Sem.run_bind]at hr
     rw[if_neg hn]
     simp only[Sem.run_bind]
     revert hr
     cases (part f.type a f.offset).run P w with
     | halt=>intro hr;cases hr
     | ok x w1 =>
      simp only[Result.andThen_ok]
      cases (part f.type b f.offset).run P w1 with
      | halt=>intro hr;cases hr
      | ok y w2 =>
       simp only[Result.andThen_ok]
       intro hr
       rw[hr]
       cases b'<;>rfl),r3]
    simp only[List.drop_zero]
    cases eqL a.toList b.toList<;>rfl
  ·rename_i len e hund
   split at h
   ·rename_i c i hc hi
    split at h
    ·rename_i hsz
     simp at h;subst h
     simp only[b6,bE,hund,if_true]at hu hv
     obtain⟨a,rfl,rfl⟩:=hu
     obtain⟨b,rfl,rfl⟩:=hv
     obtain⟨r,r1,r2,r3⟩:=sq (P:=P) (a:=a) (b:=b) (c:=c) (w:=w) (ask:=fun j=>do let x←part e a (j * i.size);let y←part e b (j * i.size);Op.equalIn d e x y) len 0 (by simpa using h1) (by simpa using h2)
      (fun j _ _ t1 t2=>by
       rw[hsz]
       obtain⟨x,hx,hx'⟩:=lP hc hi hsz t1 w
       obtain⟨y,hy,hy'⟩:=lP hc hi hsz t2 w
       simp only[Sem.run_bind,hx,hy,Result.andThen_ok]
       exact gl n d hc (by omega) hx' hy' t1 t2 w)
     simp[Op.equalIn,run_underlying hund,sizeOf,typeInfo,hi]
     rw[gm (s0:=(none,())) (s1:=(some false,())) (List.range' 0 len) r (by rw[r1];simp) (fun i' j b' hf hb=>by
      have hr:=r2 i' j b' hf hb
      simp only[Sem.run_bind]at hr
      simp only[Sem.run_bind]
      revert hr
      cases (part e a (j * i.size)).run P w with
      | halt=>intro hr;cases hr
      | ok x w1 =>
       simp only[Result.andThen_ok]
       cases (part e b (j * i.size)).run P w1 with
       | halt=>intro hr;cases hr
       | ok y w2 =>
        simp only[Result.andThen_ok]
        intro hr
        rw[hr]
        cases b'<;>rfl),r3]
     simp only[Nat.zero_mul,List.drop_zero]
     cases eqL a.toList b.toList<;>rfl
    ·simp at h
   ·simp at h
  ·simp at h
theorem fI{α σ:Type}{s0:σ}{g:α→σ→Sem (ForInStep σ)}{w:World}:∀(fs:List α),(∀f∈fs,(g f s0).run P w = .ok (.yield s0) w)→(forIn fs s0 g).run P w = .ok s0 w
 | [],_=>rfl
 | f::fs,hr=>by
  rw[List.forIn_cons]
  simp only[Sem.run_bind,hr f (by simp),Result.andThen_ok]
  exact fI fs fun f hf=>hr f (List.mem_cons_of_mem _ hf)
theorem ij(em:Bool):∀(n d:Nat) {t:TypeId} {cs:List CK},mn P n t=some cs→n≤d→∀{u:Value} {us:List Value},b6 P t u us→aV cs us=true→∀w,(Instr.checkKey em d t u).run P w = .ok () w
 | 0,_,_,_,h,_,_,_,_,_,_=>by simp[mn]at h
 | n+1,0,_,_,_,hd,_,_,_,_,_=>by omega
 | n+1,d+1,t,cs,h,hd,u,us,hu,h1,w=>by
  simp only[mn]at h
  split at h
  ·rename_i hund
   simp[Instr.checkKey,run_underlying hund]
  ·rename_i k hund
   simp[Instr.checkKey,run_underlying hund]
  ·rename_i hund
   simp[Instr.checkKey,run_underlying hund]
  ·rename_i fs hund
   split at h
   ·simp at h
   ·simp only[b6,bE,hund,if_true]at hu
    obtain⟨a,rfl,rfl⟩:=hu
    have key:∀(l:List Field) (off:Nat) {c:List CK},GP P (mn P n) l off=some c→aV c (a.toList.drop off)=true→∀f∈l,(do let x←part f.type a f.offset;Instr.checkKey em d f.type x:Sem Unit).run P w = .ok () w:=by
     intro l
     induction l with
     | nil=>intro off c _ _ f hf;cases hf
     | cons f0 l ih =>
      intro off c hc ht f hf
      rcases lu hc with⟨e,_⟩|⟨f',fs',c1,c2,i,e,rfl,hg,hi,hn,ho,hsz,hr⟩
      ·cases e
      ·cases e
       obtain⟨a1,a2⟩:=cU ht
       rw[List.drop_drop]at a2
       rcases List.mem_cons.1 hf with rfl|hf
       ·rw[←ho]at a1
        obtain⟨x,hx,hx'⟩:=lP hg hi hsz a1 w
        simp only[Sem.run_bind,hx,Result.andThen_ok]
        exact ij em n d hg (by omega) hx' a1 w
       ·exact ih _ hr a2 f hf
    have hall:=key fs.toList 0 h (by simpa using h1)
    simp[Instr.checkKey,run_underlying hund]
    rw[←Array.forIn_toList,fI fs.toList (fun f hf=>by
     have hr:=hall f hf
     split
     ·rfl
     ·simp only[Sem.run_bind]at hr ⊢
      revert hr
      cases (part f.type a f.offset).run P w with
      | halt=>intro hr;cases hr
      | ok x w1 =>
       simp only[Result.andThen_ok,Sem.run_map]
       intro hr
       rw[hr];rfl)]
  ·rename_i len e hund
   split at h
   ·rename_i c i hc hi
    split at h
    ·rename_i hsz
     simp at h;subst h
     simp only[b6,bE,hund,if_true]at hu
     obtain⟨a,rfl,rfl⟩:=hu
     have key:∀(l k:Nat),aV (De c l) (a.toList.drop (k * c.length))=true→∀j∈List.range' k l,(do let x←part e a (j * i.size);Instr.checkKey em d e x:Sem Unit).run P w = .ok () w:=by
      intro l
      induction l with
      | zero=>intro k _ j hj;simp at hj
      | succ l ih =>
       intro k ht j hj
       obtain⟨a1,a2⟩:=cU ht
       have hk:k * c.length+c.length=(k+1) * c.length:=by rw[Nat.add_mul,Nat.one_mul]
       rw[List.drop_drop,hk]at a2
       rw[List.range'_succ]at hj
       rcases List.mem_cons.1 hj with rfl|hj
       ·rw[hsz]
        obtain⟨x,hx,hx'⟩:=lP hc hi hsz a1 w
        simp only[Sem.run_bind,hx,Result.andThen_ok]
        exact ij em n d hc (by omega) hx' a1 w
       ·exact ih _ a2 j hj
     have hall:=key len 0 (by simpa using h1)
     simp[Instr.checkKey,run_underlying hund,sizeOf,typeInfo,hi]
     rw[fI (List.range' 0 len) (fun f hf=>by
      have hr:=hall f hf
      simp only[Sem.run_bind]at hr
      simp only[Sem.run_bind,run_program,Result.andThen_ok,hi,Sem.run_pure,Sem.run_map]
      revert hr
      cases (part e a (f * i.size)).run P w with
      | halt=>intro hr;cases hr
      | ok x w1 =>
       simp only[Result.andThen_ok]
       intro hr
       rw[hr];rfl)]
    ·simp at h
   ·simp at h
  ·simp at h
theorem wX{d:TypeDesc}{c:CK}{u v:Value}{b:Bool}(hu:c.typed u=true)(hv:c.typed v=true)(h:Instr.sameNow d u v=some b):b=eqC u v:=by
 rcases CK.typed_inv hu with⟨k,n,rfl,rfl⟩|⟨x,rfl,rfl⟩|⟨s,rfl,rfl⟩<;>rcases CK.typed_inv hv with⟨k',n',e,rfl⟩|⟨x',e,rfl⟩|⟨s',e,rfl⟩<;>try cases e
 ·cases d<;>simp[Instr.sameNow]at h
  rw[←h];simp[eqC];rfl
 ·cases d<;>simp[Instr.sameNow]at h
  rw[←h];simp[eqC]
 ·cases d<;>simp[Instr.sameNow]at h
  rw[←h,Bool.eq_iff_iff,se];simp[eqC]
theorem Ks{c:CK}{u v:Value}(hu:c.typed u=true):eqV u v=eqC u v:=by
 rcases CK.typed_inv hu with⟨k,n,rfl,rfl⟩|⟨x,rfl,rfl⟩|⟨s,rfl,rfl⟩<;>cases v<;>rfl
theorem Fh{t kt et:TypeId}{n:Nat}{cs:List CK}{i:TypeInfo}{z:Value}(hu:P.underlying t=some (.map kt et))(hk:mn P n kt=some cs)(hn:n≤9999)(hi:P.info? et=some i)(hz:i.zero=some z)
  (kk:KK) (hkk:kk=if bE P kt=true then .agg cs else match cs with|[c]=> .one c|_=> .agg cs):MapTy P t (kk,ofValue z):=by
 have cells:∀key,kk.typed key=true→∃us,b6 P kt key us∧aV cs us=true:=by
  intro key ht
  by_cases ha:bE P kt=true
  ·rw[hkk,if_pos ha]at ht
   cases key<;>simp only[KK.typed]at ht<;>try(simp at ht;done)
   rename_i a
   exact⟨a.toList,by simp only[b6,ha,if_true];exact⟨a,rfl,rfl⟩,ht⟩
  ·have h1:=jV hk (by simpa using ha)
   obtain⟨c,rfl⟩:=List.length_eq_one_iff.1 h1
   rw[hkk,if_neg ha]at ht
   simp only[KK.typed]at ht
   exact⟨[key],by simp[b6,ha],by simp[aV,ht]⟩
 have eqs:∀key ent us vs,kk.typed key=true→kk.typed ent=true→b6 P kt key us→b6 P kt ent vs→eqL us vs=eqV key ent:=by
  intro key ent us vs h1 h2 h3 h4
  by_cases ha:bE P kt=true
  ·simp only[b6,ha,if_true]at h3 h4
   obtain⟨a,rfl,rfl⟩:=h3
   obtain⟨b,rfl,rfl⟩:=h4
   rfl
  ·simp only[b6,ha,Bool.false_eq_true,if_false]at h3 h4
   subst h3 h4
   have h5:=jV hk (by simpa using ha)
   obtain⟨c,rfl⟩:=List.length_eq_one_iff.1 h5
   rw[hkk,if_neg ha]at h1
   simp only[KK.typed]at h1
   rw[Ks h1];simp[eqL]
 refine⟨kt,et,i,z,hu,hi,hz,rfl,fun key ent h1 h2 w=>?_,fun b key h1 w=>?_,fun d hd key ent b h1 h2 hs=>?_⟩
 ·obtain⟨us,a1,a2⟩:=cells key h1
  obtain⟨vs,b1,b2⟩:=cells ent h2
  rw[←eqs key ent us vs h1 h2 a1 b1]
  exact gl n Op.maxDepth hk (by unfold Op.maxDepth;omega) a1 b1 a2 b2 w
 ·obtain⟨us,a1,a2⟩:=cells key h1
  exact ij b n 10000 hk (by omega) a1 a2 w
 ·by_cases ha:bE P kt=true
  ·rw[hkk,if_pos ha]at h1
   cases key<;>simp only[KK.typed]at h1<;>try(simp at h1;done)
   cases d<;>cases ent<;>simp[Instr.sameNow]at hs
  ·have h5:=jV hk (by simpa using ha)
   obtain⟨c,rfl⟩:=List.length_eq_one_iff.1 h5
   rw[hkk,if_neg ha]at h1 h2
   simp only[KK.typed]at h1 h2
   rw[Ks h1]
   exact wX h1 h2 hs
theorem mF{t:TypeId}{n:Nat}{cs:List CK}(ht:mn P n t=some cs)(hn:n≤10000)(ha:bE P t=true)(hg:P.eqGuardType P.depth t=false){a b:Array Value}(h1:aV cs a.toList=true)(h2:aV cs b.toList=true)(x y:Operand)(w:World) :
  (dP .eql t x y (.agg a) (.agg b)).run P w = .ok (.bool (eqL a.toList b.toList)) w∧(dP .neq t x y (.agg a) (.agg b)).run P w = .ok (.bool (!eqL a.toList b.toList)) w:=by
 have e:(Op.equal t (.agg a) (.agg b)).run P w = .ok (eqL a.toList b.toList) w :=
  gl n Op.maxDepth ht (by unfold Op.maxDepth;omega) (by simp only[b6,ha,if_true];exact⟨a,rfl,rfl⟩) (by simp only[b6,ha,if_true];exact⟨b,rfl,rfl⟩) h1 h2 w
 constructor<;>simp[dP,eqGuard,run_program,hg,binOp,e]
theorem B3{t kt et:TypeId}{n:Nat}{cs:List CK}{z:Value}(hu:P.underlying t=some (.map kt et))(hk:mn P n kt=some cs)(hn:n≤9999)(hz:(P.info? et).bind (·.zero)=some z)
  (kk:KK) (hkk:(if bE P kt=true then KK.agg cs else match cs with|[c]=> .one c|_=> .agg cs)=kk) {av:AV} (hv:ofValue z=av):MapTy P t (kk,av):=by
 cases hi:P.info? et with
 | none=>simp[hi]at hz
 | some i =>
  simp[hi]at hz
  rw[←hv]
  exact Fh hu hk hn hi hz kk hkk.symm
end
end Go.Am
namespace Go.Am
open Go.RowKit
theorem CK.eqC_eq{c:CK}{u v:Value}(hu:c.typed u=true)(hv:c.typed v=true)(h:eqC u v=true):u=v:=by
 rcases CK.typed_inv hu with⟨k,n,rfl,rfl⟩|⟨b,rfl,rfl⟩|⟨s,rfl,rfl⟩<;>rcases CK.typed_inv hv with⟨k',n',e,rfl⟩|⟨b',e,rfl⟩|⟨s',e,rfl⟩<;>simp_all [eqC]
theorem GQ:∀{cs:List CK} {us vs:List Value},aV cs us=true→aV cs vs=true→eqL us vs=true→us=vs
 | [],[],[],_,_,_=>rfl
 | [],_::_,_,h,_,_=>by simp[aV]at h
 | [],[],_::_,_,h,_=>by simp[aV]at h
 | c::cs,[],_,h,_,_=>by simp[aV]at h
 | c::cs,_::_,[],_,h,_=>by simp[aV]at h
 | c::cs,u::us,v::vs,h1,h2,h=>by
  simp only[aV]at h1 h2
  split at h1
  ·rename_i a1
   split at h2
   ·rename_i a2
    simp only[eqL,Bool.and_eq_true]at h
    rw[CK.eqC_eq a1 a2 h.1,GQ h1 h2 h.2]
   ·simp at h2
  ·simp at h1
theorem KK.eqV_eq{kk:KK}{u v:Value}(hu:kk.typed u=true)(hv:kk.typed v=true)(h:eqV u v=true):u=v:=by
 cases kk with
 | one c =>
  simp only[KK.typed]at hu hv
  refine CK.eqC_eq hu hv ?_
  rcases CK.typed_inv hu with⟨k,n,rfl,rfl⟩|⟨b,rfl,rfl⟩|⟨s,rfl,rfl⟩<;>rcases CK.typed_inv hv with⟨k',n',e,rfl⟩|⟨b',e,rfl⟩|⟨s',e,rfl⟩<;>exact h
 | agg cs =>
  cases u<;>simp only[KK.typed]at hu<;>try(simp at hu;done)
  cases v<;>simp only[KK.typed]at hv<;>try(simp at hv;done)
  rename_i a b
  have:=GQ hu hv h
  rw[Array.toList_inj.1 this]
theorem yD(s:ByteArray):(s==s)=true:=by
 cases s
 exact beq_self_eq_true (α:=Array UInt8) _
theorem CK.sameBits_refl{c:CK}{v:Value}(h:c.typed v=true)(n:Nat):Instr.sameBits n v v=true:=by
 rcases CK.typed_inv h with⟨k,m,rfl,rfl⟩|⟨b,rfl,rfl⟩|⟨s,rfl,rfl⟩<;>cases n<;>simp[Instr.sameBits,yD]
theorem i7(n:Nat):∀{cs:List CK} {vs:List Value},aV cs vs=true→((vs.zip vs).all fun(x,y)=>Instr.sameBits n x y)=true
 | [],[],_=>rfl
 | [],_::_,h=>by simp[aV]at h
 | _::_,[],h=>by simp[aV]at h
 | c::cs,v::vs,h=>by
  simp only[aV]at h
  split at h
  ·rename_i a1
   simp only[List.zip_cons_cons,List.all_cons,CK.sameBits_refl a1,i7 n h,Bool.and_self]
  ·simp at h
theorem KK.sameBits_refl{kk:KK}{v:Value}(h:kk.typed v=true)(n:Nat):Instr.sameBits (n+1) v v=true:=by
 cases kk with
 | one c=>exact CK.sameBits_refl h _
 | agg cs =>
  cases v<;>simp only[KK.typed]at h<;>try(simp at h;done)
  simp only[Instr.sameBits,beq_self_eq_true,Bool.true_and]
  exact i7 n h
def D4(w:World)(imm:Nat→Nat→Prop)(c0:Nat)(es:List AV)(ms:List MapEntry):Prop :=
 ms.length=es.length∧∀(i:Nat) (e:AV) (m:MapEntry),es[i]?=some e→ms[i]?=some m→∃a b,e = .tuple [a,b]∧PRel w imm a m.key∧PRel w imm b m.val∧m.born=c0+i
def qC(w:World)(imm:Nat→Nat→Prop)(key:Value)(ms:List MapEntry)(i0:Nat):Option (Nat×AV)→Option (Nat×Value)→Prop
 | none,r=>r=none
 | some (i,b),r=>∃m,i0≤i∧ms[i-i0]?=some m∧r=some (i,m.val)∧PRel w imm b m.val∧m.key=key
theorem Fv{w:World}{imm:Nat→Nat→Prop}{x:AV}{y z:Value}(h:PRel w imm x y)(hz:dR x=some z):y=z :=
 KRel.val (C:={ w,imm,own:=fun _=>none,gb:=fun _=>0,jb:=fun _=>0,gt:=fun _=>0,hw:=fun _=>0}) (.pure h) hz
section
variable {P:Program} {w:World} {imm:Nat→Nat→Prop} {kk:KK} {key:Value}
theorem mu{e:AV}{es:List AV}{i:Nat}{r:Option (Nat×AV)}{m:MapEntry}(h:bb kk (e::es) key i=some r)(hk:kk.typed key=true)
  (he:∃a b,e = .tuple [a,b]∧PRel w imm a m.key∧PRel w imm b m.val):kk.typed m.key=true∧((eqV key m.key=true∧∃b,r=some (i,b)∧PRel w imm b m.val∧m.key=key)∨(eqV key m.key=false∧bb kk es key (i+1)=some r)):=by
 obtain⟨a,b,rfl,ha,hb⟩:=he
 simp only[bb]at h
 split at h
 ·rename_i k' hk'
  have:=Fv ha hk'
  subst this
  split at h
  ·rename_i ht
   refine⟨ht,?_⟩
   split at h
   ·rename_i hq
    simp at h
    exact .inl ⟨hq,b,h.symm,hb,(KK.eqV_eq hk ht hq).symm⟩
   ·rename_i hq
    exact .inr ⟨by simpa using hq,h⟩
  ·simp at h
 ·simp at h
theorem qC.succ{m:MapEntry}{ms:List MapEntry}{i:Nat}{r:Option (Nat×AV)}{r':Option (Nat×Value)}(h:qC w imm key ms (i+1) r r'):qC w imm key (m::ms) i r r':=by
 cases r with
 | none=>exact h
 | some p =>
  obtain⟨j,b⟩:=p
  obtain⟨m',h1,h2,h3⟩:=h
  refine⟨m',by omega,?_,h3⟩
  rw[show j-i=j-(i+1)+1 by omega]
  simpa using h2
theorem gN{kt:TypeId}(heq:∀key ent,kk.typed key=true→kk.typed ent=true→∀w,(Op.equal kt key ent).run P w = .ok (eqV key ent) w)(hk:kk.typed key=true) :
  ∀(es:List AV) (ms:List MapEntry) (i:Nat) {r:Option (Nat×AV)},ms.length=es.length →
  (∀(i:Nat) (e:AV) (m:MapEntry),es[i]?=some e→ms[i]?=some m→∃a b,e = .tuple [a,b]∧PRel w imm a m.key∧PRel w imm b m.val) →
  bb kk es key i=some r→∃r',(Instr.findAsking kt key ms i).run P w = .ok r' w∧qC w imm key ms i r r'
 | [],[],i,r,_,_,h=>by
  simp[bb]at h
  subst h
  exact⟨none,by simp[Instr.findAsking],rfl⟩
 | [],_::_,_,_,hl,_,_=>by simp at hl
 | _::_,[],_,_,hl,_,_=>by simp at hl
 | e::es,m::ms,i,r,hl,hp,h=>by
  obtain⟨ht,hc⟩:=mu h hk (hp 0 e m rfl rfl)
  simp only[Instr.findAsking,Sem.run_bind,heq key m.key hk ht w,Result.andThen_ok]
  rcases hc with⟨hq,b,rfl,hb,he⟩|⟨hq,hn⟩
  ·exact⟨_,by simp[hq],m,Nat.le_refl _,by simp,rfl,hb,he⟩
  ·obtain⟨r',h1,h2⟩:=gN heq hk es ms (i+1) (by simpa using hl) (fun j e m he hm=>hp (j+1) e m (by simpa using he) (by simpa using hm)) hn
   exact⟨r',by simp[hq,h1],h2.succ⟩
theorem mo{d:TypeDesc}(hs:∀key ent b,kk.typed key=true→kk.typed ent=true→Instr.sameNow d key ent=some b→b=eqV key ent)(hk:kk.typed key=true) :
  ∀(es:List AV) (ms:List MapEntry) (i:Nat) {r:Option (Nat×AV)} {r':Option (Nat×Value)},ms.length=es.length →
  (∀(i:Nat) (e:AV) (m:MapEntry),es[i]?=some e→ms[i]?=some m→∃a b,e = .tuple [a,b]∧PRel w imm a m.key∧PRel w imm b m.val) →
  bb kk es key i=some r→Instr.findNow d key ms i=some r'→qC w imm key ms i r r'
 | [],[],i,r,r',_,_,h,h'=>by
  simp[bb]at h
  simp[Instr.findNow]at h'
  subst h h'
  exact rfl
 | [],_::_,_,_,_,hl,_,_,_=>by simp at hl
 | _::_,[],_,_,_,hl,_,_,_=>by simp at hl
 | e::es,m::ms,i,r,r',hl,hp,h,h'=>by
  obtain⟨ht,hc⟩:=mu h hk (hp 0 e m rfl rfl)
  simp only[Instr.findNow]at h'
  split at h'
  ·rename_i hn
   have:=hs key m.key true hk ht hn
   rcases hc with⟨_,b,rfl,hb,he⟩|⟨hq,_⟩
   ·simp at h'
    exact⟨m,Nat.le_refl _,by simp,h'.symm,hb,he⟩
   ·rw[hq]at this;simp at this
  ·rename_i hn
   have:=hs key m.key false hk ht hn
   rcases hc with⟨hq,_⟩|⟨_,hn⟩
   ·rw[hq]at this;simp at this
   ·exact(mo hs hk es ms (i+1) (by simpa using hl) (fun j e m he hm=>hp (j+1) e m (by simpa using he) (by simpa using hm)) hn h').succ
  ·simp at h'
theorem gO{kt:TypeId}{d:TypeDesc}(hd:P.underlying kt=some d)(heq:∀key ent,kk.typed key=true→kk.typed ent=true→∀w,(Op.equal kt key ent).run P w = .ok (eqV key ent) w)
  (hs:∀key ent b,kk.typed key=true→kk.typed ent=true→Instr.sameNow d key ent=some b→b=eqV key ent) (hk:kk.typed key=true)
  {es:List AV} {ms:List MapEntry} {c0:Nat} {r:Option (Nat×AV)} (hE:D4 w imm c0 es ms) (h:bb kk es key 0=some r) :
  ∃r',(Instr.findKey kt key ms).run P w = .ok r' w∧qC w imm key ms 0 r r':=by
 have hp:∀(i:Nat) (e:AV) (m:MapEntry),es[i]?=some e→ms[i]?=some m→∃a b,e = .tuple [a,b]∧PRel w imm a m.key∧PRel w imm b m.val:=fun i e m he hm=>by
  obtain⟨a,b,h1,h2,h3,_⟩:=hE.2 i e m he hm
  exact⟨a,b,h1,h2,h3⟩
 simp only[Instr.findKey,Sem.run_bind,run_underlying hd,Result.andThen_ok]
 cases hf:Instr.findNow d key ms 0 with
 | some r'=>exact⟨r',by simp,mo hs hk es ms 0 hE.1 hp h hf⟩
 | none =>
  obtain⟨r',h1,h2⟩:=gN heq hk es ms 0 hE.1 hp h
  exact⟨r',by simp[h1],h2⟩
end
theorem jC:∀{es es':List AV} {i:Nat} {v:AV},oQ es i v=some es'→∃a b,es[i]?=some (.tuple [a,b])∧es'=es.set i (.tuple [a,v])
 | [],_,_,_,h=>by simp[oQ]at h
 | e::es,es',0,v,h=>by
  simp only[oQ]at h
  split at h
  ·rename_i a b
   simp at h;exact⟨a,b,rfl,by simp[←h]⟩
  ·simp at h
 | e::es,es',i+1,v,h=>by
  simp only[oQ]at h
  split at h
  ·rename_i l hl
   simp at h;subst h
   obtain⟨a,b,h1,h2⟩:=jC hl
   exact⟨a,b,by simpa using h1,by simp[h2]⟩
  ·simp at h
section
variable {P:Program} {N:Nat} {base:Nat→Prop} {w0:World} {S:St} {C:Ctx} {a:Act} {w:World} {K:List Wr→Prop} {o:Oper} {next:Act→World→Prop} {Q:Exit→Act→World→Prop}
theorem j7(hR:Rel N base w0 S C a w){k:Key}{g:Nat}{c:Int}{es:List AV}(hb:S.box k=vM g c es){y:Value}(hv:KRel C (.mp k g) y) :
  y = .map (some (C.jb k))∧C.own (C.jb k)=some (.box k)∧∃(ents:Array MapEntry) (c0:Nat),c=c0∧w.heap[C.jb k]?=some (.map ents (c0+ents.size))∧D4 w C.imm c0 es ents.toList:=by
 obtain⟨h1,h2,ents,c0,h3,h4,h5,h6⟩:=B4 hR hb hv
 refine⟨h1,h2,ents,c0,h3,h4,by simpa using h5,fun i e m he hm=>?_⟩
 rw[←hR.cw]
 exact h6 i e m he (by simpa using hm)
theorem Rel.mapWrite(hR:Rel N base w0 S C a w){k:Key}{g:Nat}{c:Int}{es:List AV}(hb:S.box k=vM g c es)(ho:C.own (C.jb k)=some (.box k)){ents ents':Array MapEntry}{c0 c1:Nat}
  (hh:w.heap[C.jb k]?=some (.map ents (c0+ents.size))) {es':List AV} (hE:D4 w C.imm c1 es' ents'.toList) :
  ∃C',C.le C'∧C'.gb=C.gb∧C'.jb=C.jb∧Rel N base w0 (S.put (.box k (vM g c1 es'))) C' a (w.putObj (C.jb k) (.map ents' (c1+ents'.size))):=by
 have hlt:C.jb k<w.heap.size:=(Array.getElem?_eq_some_iff.1 hh).1
 have:=hR.objWrite k (some (0,.v (.int .i64 c1)::es')) ho (w':=w.putObj (C.jb k) (.map ents' (c1+ents'.size))) (fun b hb=>World.putObj_heap_other hb) (by simp) rfl rfl rfl
  (fun arr e h=>by rw[hh]at h;cases h) (fun C' hle hw him hj ho' hg sz es1 h=>by
   cases h
   refine⟨fun h=>absurd rfl h,fun _=>⟨by rw[hj,ho'];exact ho,.map ents' (c1+ents'.size),by rw[hw,hj];exact World.putObj_heap_same hlt,?_⟩,fun h=>absurd rfl h,fun _ _ h=>absurd rfl h,fun _ _ h=>absurd rfl h⟩
   refine .map c1 (by simpa using hE.1) fun i e m he hm=>?_
   obtain⟨a1,b1,h1,h2,h3,h4⟩:=hE.2 i e m he (by simpa using hm)
   have h2:PRel C.w C.imm a1 m.key:=by rw[hR.cw];exact h2
   have h3:PRel C.w C.imm b1 m.val:=by rw[hR.cw];exact h3
   exact⟨a1,b1,h1,h2.le hle,h3.le hle,h4⟩)
 have hg:(S.box k).1=g:=by rw[hb];rfl
 rw[hg]at this
 exact this
theorem eP{r:Nat}{es es':Array MapEntry}{n n':Nat}(h:w.heap[r]?=some (.map es n)):(setObj r (.map es' n')).run P w = .ok () (w.putObj r (.map es' n')):=by simp[setObj,Sem.run,h,World.putObj]
theorem du{r:Nat}{es:Array MapEntry}{n:Nat}(h:w.heap[r]?=some (.map es n)):(getObj r).run P w = .ok (.map es n) w:=by simp[getObj,Sem.run,h]
theorem fg{b:Bool}{n:Nat}{kt:TypeId}{key:Value}(h:(Instr.checkKey b (n+1) kt key).run P w = .ok () w):∃d,P.underlying kt=some d:=by
 cases hd:P.underlying kt with
 | some d=>exact⟨d,rfl⟩
 | none=>simp[Instr.checkKey,underlying,hd,Sem.run_bind]at h
theorem mQ(cx:Cx)(hR:Rel N base w0 S C a w)(hk:eK N base w0 S C K next){t:TypeId}{d:Tmp}(ho:o.op = .makeMap t none)(hd:o.dst=some d)
  (h:(lM cx d).rm.wp0 P S K):o.wp P a w next Q:=by
 obtain⟨C',hle,h1,h2,_,h3,h4,hR'⟩:=hR.newObj (cx.key d) (some (0,[.v (.int .i64 0)])) (.map #[] 0) fun C' hle hw him hj ho hg sz es he=>by
  cases he
  refine⟨fun h=>absurd rfl h,fun _=>?_,fun h=>absurd rfl h,fun _ _ h=>absurd rfl h,fun _ _ h=>absurd rfl h⟩
  rw[hj]
  refine⟨ho,.map #[] 0,by rw[hw];exact heap_alloc_new _ _,?_⟩
  exact ObjRel.map (es:=[]) (ents:=#[]) 0 rfl (by simp)
 refine co (y:= .map (some w.heap.size)) (w':=w.alloc (.map #[] 0)) ?_ ?_
 ·simp only[execOp,ho,Option.map_none,Instr.makeMap,Sem.run_bind]
  rfl
 ·rw[hd]
  refine hk _ C' _ _ h hle ?_
  have hv:KRel C' (.mp (cx.key d) ((S.box (cx.key d)).1+1)) (.map (some w.heap.size)):=by
   rw[←h1, ←h2];exact .mp
  exact hR'.put hv d
theorem qX{ob:Option (Option (Nat×AV))}{k:Nat→AV→RB}{k':RB}(h:(RB.find ob k k').rm.wp0 P S K) :
  (∃i v,ob=some (some (i,v))∧(k i v).rm.wp0 P S K)∨(ob=some none∧k'.rm.wp0 P S K):=by
 cases ob with
 | none=>exact h.elim
 | some ob =>
  cases ob with
  | none=>exact .inr ⟨rfl,h⟩
  | some p=>exact .inl ⟨p.1,p.2,rfl,h⟩
theorem nW{ok is:Bool}{v:AV}{y:Value}(hv:KRel C v y):KRel C (BY ok v is) (if ok then .tuple #[y,.bool is]else y):=by
 cases ok with
 | false=>exact hv
 | true =>
  refine .tuple rfl fun i x z hx hz=>?_
  match i,hx,hz with
  | 0,hx,hz=>simp at hx hz;subst hx hz;exact hv
  | 1,hx,hz=>simp at hx hz;subst hx hz;exact .pure (.v _)
  | n+2,hx,_=>simp at hx
theorem ot(hR:Rel N base w0 S C a w)(hk:eK N base w0 S C K next){t:TypeId}{x ix:Operand}{ok:Bool}(ho:o.op = .lookup t x ix ok)(hx:inN N x=true)(hi:inN N ix=true)
  {p:KK×AV} (hM:MapTy P t p) (h:(g5 p o.dst ok x ix).rm.wp0 P S K):o.wp P a w next Q:=by
 obtain⟨kt,et,i,z,hu,hie,hz,hpz,heq,hck,hsn⟩:=hM.ty
 unfold g5 at h
 rw[aQ,aQ]at h
 obtain⟨key,hkey,h⟩:=qG h
 obtain⟨ht,h⟩:=h
 have hkv:=(hR.val hi).val hkey
 have hv:=hR.val hx
 have exec:(execOp a.eval o).run P w=((Instr.lookup t (a.eval x) key ok).run P w).andThen fun v w'=> .ok (.value v) w':=by
  simp only[execOp,ho,hkv,Sem.run_bind];rfl
 have hzero:(zeroValue et).run P w = .ok z w:=by simp[zeroValue,typeInfo,hie,hz]
 have hpr:KRel C p.2 z:=by rw[hpz];exact .pure (bT _ _ _)
 have miss:K (putA o.dst (BY ok p.2 false))→a.eval x = .map none→o.wp P a w next Q:=by
  intro h e
  refine aZ hR hk (y:=if ok then .tuple #[z,.bool false]else z) ?_ (nW hpr) h
  rw[exec,e]
  obtain⟨d,hdk⟩:=fg (n:=9999) (hck true key ht w)
  cases ok<;>simp[Instr.lookup,run_underlying hu,hck _ key ht w,Instr.findKey,run_underlying hdk,Instr.findNow,hzero]
 revert h hv exec miss
 generalize S.val x=v
 generalize a.eval x=y
 intro h hv exec miss
 split at h
 ·have e:=hv.val (z:= .map none) rfl
  exact miss h e
 ·obtain⟨k,g,c,es,rfl,hb,h⟩:=iD h
  obtain⟨rfl,_,ents,c0,rfl,hh,hE⟩:=j7 hR hb hv
  obtain⟨d,hdk⟩:=fg (n:=9999) (hck true key ht w)
  ·have hfound:∀r,bb p.1 es key 0=some r→∃r',(Instr.findKey kt key ents.toList).run P w = .ok r' w∧qC w C.imm key ents.toList 0 r r' :=
    fun r hr=>gO hdk heq (hsn d hdk) ht hE hr
   rcases qX h with⟨j,v,hf,h⟩|⟨hf,h⟩
   ·obtain⟨r',hr,m,_,hm,rfl,hvm,_⟩:=hfound _ hf
    refine aZ hR hk (y:=if ok then .tuple #[m.val,.bool true]else m.val) ?_ (nW (.pure (by rw[hR.cw];exact hvm))) h
    rw[exec]
    cases ok<;>simp[Instr.lookup,run_underlying hu,du hh,hck _ key ht w,hr]
   ·obtain⟨r',hr,hn⟩:=hfound _ hf
    have hn:r'=none:=hn
    subst hn
    refine aZ hR hk (y:=if ok then .tuple #[z,.bool false]else z) ?_ (nW hpr) h
    rw[exec]
    cases ok<;>simp[Instr.lookup,run_underlying hu,du hh,hck _ key ht w,hr,hzero]
theorem kH{x x':AV}{y:Value}(hR:Rel N base w0 S C a w)(h:KRel C x y)(hx:toPure x=some x'):PRel w C.imm x' y:=by rw[←hR.cw];exact h.toPure hx
theorem D4.set{imm:Nat→Nat→Prop}{c0:Nat}{es:List AV}{ents:Array MapEntry}(h:D4 w imm c0 es ents.toList){i:Nat}{m:MapEntry}(hm:ents.toList[i]?=some m){a1 b1 v:AV}(he:es[i]?=some (.tuple [a1,b1]))
  {f:MapEntry→MapEntry} (hk:(f m).key=m.key) (hv:PRel w imm v (f m).val) (hb:(f m).born=m.born):D4 w imm c0 (es.set i (.tuple [a1,v])) (ents.modify i f).toList:=by
 refine⟨by simpa using h.1,fun j e m' h1 h2=>?_⟩
 simp only[Array.toList_modify,List.getElem?_modify]at h2
 by_cases hj:i=j
 ·subst hj
  have hlt:=(List.getElem?_eq_some_iff.1 he).1
  rw[List.getElem?_set_self hlt]at h1
  rw[hm]at h2
  simp at h1 h2
  subst h1 h2
  obtain⟨a2,b2,e,h3,h4,h5⟩:=h.2 i _ m he hm
  cases e
  exact⟨_,_,rfl,by rw[hk];exact h3,hv,by rw[hb];exact h5⟩
 ·rw[List.getElem?_set_ne hj]at h1
  have h2:ents.toList[j]?=some m':=by
   cases hq:ents.toList[j]? with
   | none=>rw[hq]at h2;simp at h2
   | some q=>rw[hq]at h2;simp[hj]at h2;rw[h2]
  exact h.2 j e m' h1 h2
theorem D4.push{imm:Nat→Nat→Prop}{c0:Nat}{es:List AV}{ents:Array MapEntry}(h:D4 w imm c0 es ents.toList){x v:AV}{m:MapEntry}(hk:PRel w imm x m.key)(hv:PRel w imm v m.val)(hb:m.born=c0+ents.size) :
  D4 w imm c0 (es++[.tuple [x,v]]) (ents.push m).toList:=by
 have hl:=h.1
 refine⟨by simpa using hl,fun j e m' h1 h2=>?_⟩
 simp only[Array.toList_push]at h2
 by_cases hj:j<es.length
 ·rw[List.getElem?_append_left hj]at h1
  rw[List.getElem?_append_left (by omega)]at h2
  exact h.2 j e m' h1 h2
 ·rw[List.getElem?_append_right (by omega)]at h1
  rw[List.getElem?_append_right (by omega),hl]at h2
  by_cases hz:j-es.length=0
  ·rw[hz]at h1 h2
   simp at h1 h2
   subst h1 h2
   simp at hl
   exact⟨_,_,rfl,hk,hv,by rw[hb];omega⟩
  ·rw[List.getElem?_eq_none (by simp;omega)]at h1;simp at h1
theorem qW(hd:o.dst=none){w':World}(hrun:(execOp a.eval o).run P w = .ok .skip w')(h:next a w'):o.wp P a w next Q:=by
 refine qz hrun ?_
 rw[hd];exact h
theorem g7(hR:Rel N base w0 S C a w)(hk:eK N base w0 S C K next){t:TypeId}{x ix y:Operand}(ho:o.op = .mapUpdate t x ix y∨o.op = .insert t x ix y)(hd:o.dst=none)(hx:inN N x=true)(hi:inN N ix=true)(hy:inN N y=true)
  {p:KK×AV} (hM:MapTy P t p) (h:(kD p x ix y).rm.wp0 P S K):o.wp P a w next Q:=by
 obtain⟨kt,et,i,z,hu,hie,hz,hpz,heq,hck,hsn⟩:=hM.ty
 unfold kD at h
 rw[aQ,aQ,aQ]at h
 obtain⟨key,hkey,h⟩:=qG h
 obtain⟨ht,h⟩:=h
 obtain⟨b',hb',h⟩:=nl h
 obtain⟨v',hv',h⟩:=nl h
 obtain⟨k,g,c,es,he,hb,h⟩:=iD h
 have hkv:=(hR.val hi).val hkey
 have hkp:=kH hR (hR.val hi) hb'
 have hvp:=kH hR (hR.val hy) hv'
 have hv:=hR.val hx
 rw[he]at hv
 obtain⟨hym,hown,ents,c0,rfl,hh,hE⟩:=j7 hR hb hv
 have exec:(execOp a.eval o).run P w=((Instr.mapUpdate t (.map (some (C.jb k))) key (a.eval y)).run P w).andThen fun _ w'=> .ok .skip w':=by
  rcases ho with ho|ho<;>(simp only[execOp,ho,hkv,hym,Sem.run_bind];rfl)
 rw[hkv]at hkp
 obtain⟨d,hdk⟩:=fg (n:=9999) (hck true key ht w)
 have hfound:∀r,bb p.1 es key 0=some r→∃r',(Instr.findKey kt key ents.toList).run P w = .ok r' w∧qC w C.imm key ents.toList 0 r r' :=
  fun r hr=>gO hdk heq (hsn d hdk) ht hE hr
 rcases qX h with⟨j,v,hf,h⟩|⟨hf,h⟩
 ·obtain⟨es',hes,h⟩:=kE h
  obtain⟨a1,b1,h1,rfl⟩:=jC hes
  obtain⟨r',hr,m,_,hm,rfl,hvm,hmk⟩:=hfound _ hf
  rw[Nat.sub_zero]at hm
  have hE':=hE.set (f:=fun e=>{ e with key,val:=a.eval y}) hm h1 hmk.symm hvp rfl
  obtain⟨C',hle,_,_,hR'⟩:=hR.mapWrite hb hown hh hE'
  refine qW hd ?_ (hk _ C' _ _ h hle hR')
  rw[exec]
  have hm':ents[j]?=some m:=by simpa using hm
  simp[Instr.mapUpdate,run_underlying hu,du hh,hck _ key ht w,hr,Instr.keyThatStays,hm',hmk,KK.sameBits_refl ht 9999,eP hh]
 ·obtain⟨r',hr,hn⟩:=hfound _ hf
  have hn:r'=none:=hn
  subst hn
  have hE':=hE.push (m:={ key,val:=a.eval y,born:=c0+ents.size}) hkp hvp rfl
  obtain⟨C',hle,_,_,hR'⟩:=hR.mapWrite hb hown hh hE'
  refine qW hd ?_ (hk _ C' _ _ h hle hR')
  rw[exec]
  simp[Instr.mapUpdate,run_underlying hu,du hh,hck _ key ht w,hr,eP hh,Nat.add_assoc]
theorem x5{x:AV}{y:Value}(hv:KRel C x y)(n:Int):KRel C (.tuple [x,.v (.int .i64 n)]) (.tuple #[y,.int .i64 n]):=by
 refine .tuple rfl fun i x z hx hz=>?_
 match i,hx,hz with
 | 0,hx,hz=>simp at hx hz;subst hx hz;exact hv
 | 1,hx,hz=>simp at hx hz;subst hx hz;exact .pure (.v _)
 | n+2,hx,_=>simp at hx
theorem pn(hR:Rel N base w0 S C a w)(hk:eK N base w0 S C K next){t:TypeId}{x ix:Operand}(ho:o.op = .mapEntry t x ix)(hx:inN N x=true)(hi:inN N ix=true)
  {p:KK×AV} (hM:MapTy P t p) (h:(kv p o.dst x ix).rm.wp0 P S K):o.wp P a w next Q:=by
 obtain⟨kt,et,i,z,hu,hie,hz,hpz,heq,hck,hsn⟩:=hM.ty
 unfold kv at h
 rw[aQ,aQ]at h
 obtain⟨key,hkey,h⟩:=qG h
 obtain⟨ht,h⟩:=h
 obtain⟨b',hb',h⟩:=nl h
 obtain⟨k,g,c,es,he,hb,h⟩:=iD h
 have hkv:=(hR.val hi).val hkey
 have hkp:=kH hR (hR.val hi) hb'
 have hv:=hR.val hx
 rw[he]at hv
 obtain⟨hym,hown,ents,c0,rfl,hh,hE⟩:=j7 hR hb hv
 have exec:(execOp a.eval o).run P w=((Instr.mapEntry t (.map (some (C.jb k))) key).run P w).andThen fun v w'=> .ok (.value v) w':=by
  simp only[execOp,ho,hkv,hym,Sem.run_bind];rfl
 rw[hkv]at hkp
 obtain⟨d,hdk⟩:=fg (n:=9999) (hck true key ht w)
 have hzero:(zeroValue et).run P w = .ok z w:=by simp[zeroValue,typeInfo,hie,hz]
 have hfound:∀r,bb p.1 es key 0=some r→∃r',(Instr.findKey kt key ents.toList).run P w = .ok r' w∧qC w C.imm key ents.toList 0 r r' :=
  fun r hr=>gO hdk heq (hsn d hdk) ht hE hr
 rcases qX h with⟨j,v,hf,h⟩|⟨hf,h⟩
 ·obtain⟨r',hr,m,_,hm,rfl,hvm,hmk⟩:=hfound _ hf
  rw[Nat.sub_zero]at hm
  have hjl:j<es.length:=by rw[←hE.1];exact(List.getElem?_eq_some_iff.1 hm).1
  obtain⟨a1,b1,h1,h2,h3,h4⟩:=hE.2 j es[j] m (by simp) hm
  have h1':es[j]?=some (.tuple [a1,b1]):=by rw[←h1];simp
  have hE':=hE.set (f:=fun e=>{ e with key}) hm h1' hmk.symm h3 rfl
  have hes:es.set j (.tuple [a1,b1])=es:=by rw[←h1];simp
  rw[hes]at hE'
  obtain⟨C',hle,_,_,hR'⟩:=hR.mapWrite hb hown hh hE'
  have hm':ents[j]?=some m:=by simpa using hm
  refine co (y:= .tuple #[m.val,.int .i64 (c0+j:Nat)]) (w':=w.putObj (C.jb k) (.map (ents.modify j fun e=>{ e with key}) (c0+(ents.modify j fun e=>{ e with key}).size))) ?_ (hk _ C' _ _ h hle (hR'.putA ?_ _))
  ·rw[exec]
   simp[Instr.mapEntry,run_underlying hu,du hh,hck _ key ht w,hr,Instr.keyThatStays,hm',hmk,KK.sameBits_refl ht 9999,eP hh,goInt,h4]
  ·have:KRel C v m.val:= .pure (by rw[hR.cw];exact hvm)
   exact x5 (this.le hle) _
 ·obtain⟨r',hr,hn⟩:=hfound _ hf
  have hn:r'=none:=hn
  subst hn
  have hpz':PRel w C.imm p.2 z:=by rw[hpz];exact bT _ _ _
  have hE':=hE.push (m:={ key,val:=z,born:=c0+ents.size}) hkp hpz' rfl
  obtain⟨C',hle,_,_,hR'⟩:=hR.mapWrite hb hown hh hE'
  have hl:ents.size=es.length:=by simpa using hE.1
  refine co (y:= .tuple #[z,.int .i64 (c0+ents.size:Nat)]) (w':=w.putObj (C.jb k) (.map (ents.push { key,val:=z,born:=c0+ents.size}) (c0+(ents.push { key,val:=z,born:=c0+ents.size}).size))) ?_ (hk _ C' _ _ h hle (hR'.putA ?_ _))
  ·rw[exec]
   simp[Instr.mapEntry,run_underlying hu,du hh,hck _ key ht w,hr,eP hh,goInt,hzero,Nat.add_assoc]
  ·rw[hl]
   have:KRel C p.2 z:= .pure (by rw[hR.cw];exact hpz')
   exact x5 (this.le hle) _
theorem js(hR:Rel N base w0 S C a w)(hk:eK N base w0 S C K next){t:TypeId}{x st y:Operand}(ho:o.op = .entryStore t x st y)(hd:o.dst=none)(hx:inN N x=true)(hi:inN N st=true)(hy:inN N y=true)
  (h:(eF x st y).rm.wp0 P S K):o.wp P a w next Q:=by
 unfold eF at h
 rw[aQ,aQ,aQ]at h
 obtain⟨v',hv',h⟩:=nl h
 have hs:=hR.val hi
 revert h hs
 generalize S.val st=sv
 intro h hs
 split at h
 ·rename_i kd n
  obtain⟨k,g,c,es,he,hb,h⟩:=iD h
  obtain⟨hn,h⟩:=h
  obtain⟨es',hes,h⟩:=kE h
  obtain⟨a1,b1,h1,rfl⟩:=jC hes
  have hvp:=kH hR (hR.val hy) hv'
  have hsv:=hs.val (z:= .int _ _) rfl
  have hv:=hR.val hx
  rw[he]at hv
  obtain⟨hym,hown,ents,c0,rfl,hh,hE⟩:=j7 hR hb hv
  obtain⟨q,hq⟩:∃q,q=(n-(c0:Int)).toNat:=⟨_,rfl⟩
  rw[←hq]at h1 h
  have hlt:q<ents.toList.length:=by rw[hE.1];exact(List.getElem?_eq_some_iff.1 h1).1
  have hm:ents.toList[q]?=some ents.toList[q]:=by simp
  have hE':=hE.set (f:=fun e=>{ e with val:=a.eval y}) hm h1 rfl hvp rfl
  obtain⟨C',hle,_,_,hR'⟩:=hR.mapWrite hb hown hh hE'
  refine qW hd ?_ (hk _ C' _ _ h hle hR')
  have hidx:ents.findIdx? (fun e=>(e.born:Int)==n)=some q:=by
   have hborn:∀(i:Nat) (hi:i<ents.size),ents[i].born=c0+i:=fun i hi=>by
    have hi':i<es.length:=by have:=hE.1;simp at this;omega
    obtain⟨_,_,_,_,_,h5⟩:=hE.2 i es[i] ents[i] (by simp) (by simp[hi])
    exact h5
   simp at hlt
   rw[Array.findIdx?_eq_some_iff_getElem]
   refine⟨hlt,by simp[hborn];omega,fun j hj=>?_⟩
   simp[hborn];omega
  simp only[execOp,ho,hsv,hym,Sem.run_bind]
  simp[Instr.entryStore,du hh,asInt,asIntOf,hidx,eP hh]
 ·exact h.elim
theorem pm(hR:Rel N base w0 S C a w)(hk:eK N base w0 S C K next){c:Call}{t kt et:TypeId}{x:Operand}(ho:o.op = .call c)(hb:c.callee = .builtin .clear)
  (ha:c.args.toList=[x]) (hat:c.argTypes.toList=[t]) (hu:P.underlying t=some (.map kt et)) (hx:inN N x=true)
  (h:(ni o.dst x).rm.wp0 P S K):o.wp P a w next Q:=by
 have ha':c.args=#[x]:=by rw[←Array.toArray_toList (xs:=c.args),ha]
 have hat':c.argTypes=#[t]:=by rw[←Array.toArray_toList (xs:=c.argTypes),hat]
 unfold ni at h
 rw[aQ]at h
 obtain⟨k,g,c1,es,he,hbx,h⟩:=iD h
 have hv:=hR.val hx
 rw[he]at hv
 obtain⟨hym,hown,ents,c0,rfl,hh,hE⟩:=j7 hR hbx hv
 have hl:ents.size=es.length:=by simpa using hE.1
 have hE':D4 w C.imm (c0+ents.size) [] (#[]:Array MapEntry).toList:=⟨rfl,by simp⟩
 obtain⟨C',hle,_,_,hR'⟩:=hR.mapWrite hbx hown hh hE'
 have hK:K (.box k (vM g ((c0+ents.size:Nat):Int) [])::putA o.dst (.v (.tuple #[]))):=by
  have:((c0+ents.size:Nat):Int)=(c0:Int)+es.length:=by omega
  rw[this];exact h
 refine co (y:= .tuple #[]) ?_ (hk _ C' _ _ hK hle (hR'.putA (.pure (.v _)) _))
 simp only[execOp,ho,resolve,hb,ha',hat',invoke,builtin,Sem.run_bind,Sem.run_pure,Result.andThen_ok]
 simp[Builtin.clear_,run_underlying hu,hym,du hh,eP hh,Sem.run_bind]
theorem xR{mx:Bool}{k:IntKind}{r:Int→RB}:∀{l:List AV} {n:Int},(Ln mx l n r).rm.wp0 P S K →
  ∃m,(r m).rm.wp0 P S K∧∀ys:List Value,ys.length=l.length→(∀(i:Nat) (x:AV) (y:Value),l[i]?=some x→ys[i]?=some y→KRel C x y) →
   ∀w,(ys.foldlM (if mx then Builtin.max2 else Builtin.min2) (.int k n)).run P w = .ok (.int k m) w
 | [],n,h=>⟨n,h,fun ys hl _ w=>by
   cases ys with
   | nil=>rfl
   | cons=>simp at hl⟩
 | e::l,n,h=>by
  cases e with
  | v u =>
   cases u with
   | int kb b =>
    have h:(Ln mx l (zB mx n b) r).rm.wp0 P S K:=h
    obtain⟨m,h1,h2⟩:=xR h
    refine⟨m,h1,fun ys hl hr w=>?_⟩
    cases ys with
    | nil=>simp at hl
    | cons y ys =>
     have hy:=(hr 0 _ y rfl rfl).val (z:= .int kb b) rfl
     subst hy
     have:=h2 ys (by simpa using hl) (fun i x y hx hy=>hr (i+1) x y (by simpa using hx) (by simpa using hy)) w
     rw[List.foldlM_cons,Sem.run_bind]
     cases mx with
     | true =>
      have e:(Builtin.max2 (.int k n) (.int kb b)).run P w = .ok (.int k (max n b)) w:=by
       simp only[Builtin.max2,Sem.run_pure];congr 2;split<;>omega
      simp only[if_true]at this ⊢
      rw[e];exact this
     | false =>
      have e:(Builtin.min2 (.int k n) (.int kb b)).run P w = .ok (.int k (min n b)) w:=by
       simp only[Builtin.min2,Sem.run_pure];congr 2;split<;>omega
      simp only[Bool.false_eq_true,if_false]at this ⊢
      rw[e];exact this
   | _=>exact h.elim
  | _=>exact h.elim
theorem mw(hR:Rel N base w0 S C a w)(hk:eK N base w0 S C K next){c:Call}(ho:o.op = .call c){mx:Bool}(hb:c.callee = .builtin (if mx then .max else .min))(hargs:∀x∈c.args.toList,inN N x=true)
  (h:(p5 mx o.dst c.args.toList).rm.wp0 P S K):o.wp P a w next Q:=by
 unfold p5 at h
 rw[qk]at h
 split at h
 ·rename_i k n l hl
  obtain⟨m,h,hm⟩:=xR (C:=C) (k:=k) h
  have hrel:=kW hR hargs
  rw[hl]at hrel
  cases hc:c.args.toList with
  | nil=>rw[hc]at hl;simp at hl
  | cons x xs =>
   have hn:=(hrel 0 (.v (.int k n)) (a.eval x) rfl (by simp[hc])).val (z:= .int k n) rfl
   have:=hm (xs.map a.eval) (by rw[hc]at hl;simp at hl;rw[←hl.2];simp) (fun i u v hu hv=>hrel (i+1) u v (by simpa using hu) (by simpa[hc]using hv)) w
   refine aZ hR hk (y:= .int k m) ?_ (.pure (.v _)) h
   have hca:(c.args.map a.eval).toList = .int k n::xs.map a.eval:=by simp[hc,hn]
   cases mx with
   | true =>
    simp only[if_true]at hb this
    simp only[execOp,ho,resolve,hb,invoke,builtin,Sem.run_bind,Sem.run_pure,Result.andThen_ok,Builtin.max_,hca,this]
   | false =>
    simp only[Bool.false_eq_true,if_false]at hb this
    simp only[execOp,ho,resolve,hb,invoke,builtin,Sem.run_bind,Sem.run_pure,Result.andThen_ok,Builtin.min_,hca,this]
 ·exact h.elim
theorem pq(hR:Rel N base w0 S C a w)(hk:eK N base w0 S C K next){t:TypeId}{x ix:Operand}(ho:o.op = .index t x ix)(hu:P.underlying t=some .string)(hx:inN N x=true)(hi:inN N ix=true)
  (h:(nj o.dst x ix).rm.wp0 P S K):o.wp P a w next Q:=by
 unfold nj at h
 rw[aQ,aQ]at h
 have hv:=hR.val hx
 have hj:=hR.val hi
 revert h hv hj
 generalize S.val x=v
 generalize S.val ix=j
 intro h hv hj
 split at h
 ·rename_i s kd n
  obtain⟨⟨h1,h2⟩,h⟩:=h
  have e1:=hv.val (z:= .string s) rfl
  have e2:=hj.val (z:= .int _ n) rfl
  refine aZ hR hk (y:= .int .u8 (iZ s n.toNat)) ?_ (.pure (.v _)) h
  have hlt:n.toNat<s.size:=by omega
  simp only[execOp,ho,e1,e2,Sem.run_bind]
  have hb:s[n.toNat]?=some s[n.toNat]:=getElem?_pos s n.toNat hlt
  have hd:s.data[n.toNat]?=some s[n.toNat]:=getElem?_pos s.data n.toNat hlt
  simp[Instr.index,asIntOf,run_underlying hu,h1,hb,iZ,hd]
 ·exact h.elim
theorem pt(cx:Cx)(hR:Rel N base w0 S C a w)(hk:eK N base w0 S C K next){t:TypeId}{x:Operand}{d:Tmp}(ho:o.op = .range t x)(hu:P.underlying t=some .string)(hd:o.dst=some d)(hx:inN N x=true)
  (h:(nk cx d x).rm.wp0 P S K):o.wp P a w next Q:=by
 unfold nk at h
 rw[aQ]at h
 have hv:=hR.val hx
 revert h hv
 generalize S.val x=v
 intro h hv
 split at h
 ·rename_i s
  have e1:=hv.val (z:= .string s) rfl
  obtain⟨C',hle,h1,h2,_,h3,h4,hR'⟩:=hR.newObj (cx.key d) (some (0,[.v (.string s),.v (.int .i64 0)])) (.stringIter s 0) fun C' hle hw him hj ho hg sz es he=>by
   cases he
   refine⟨fun h=>absurd rfl h,fun _=>?_,fun h=>absurd rfl h,fun _ _ h=>absurd rfl h,fun _ _ h=>absurd rfl h⟩
   rw[hj]
   exact⟨ho,.stringIter s 0,by rw[hw];exact heap_alloc_new _ _,.iter s 0⟩
  refine co (y:= .pointer (some ⟨w.heap.size,0,none⟩)) (w':=w.alloc (.stringIter s 0)) ?_ ?_
  ·simp only[execOp,ho,e1,Sem.run_bind]
   simp only[Instr.range,Sem.run_bind,run_underlying hu,Result.andThen_ok,Sem.run_pure]
   rfl
  ·rw[hd]
   refine hk _ C' _ _ h hle ?_
   have hv:KRel C' (.ptr (cx.key d) ((S.box (cx.key d)).1+1) 0 0 0) (.pointer (some ⟨w.heap.size,0,none⟩)):=by
    rw[←h1, ←h2]
    exact KRel.ptr (C:=C') (k:=cx.key d) (sz:=0) (i:=0) (off:=0)
   exact hR'.put hv d
 ·exact h.elim
theorem rB(hR:Rel N base w0 S C a w)(hk:eK N base w0 S C K next){x:Operand}(ho:o.op = .next x true)(hx:inN N x=true)
  (h:(rA o.dst x).rm.wp0 P S K):o.wp P a w next Q:=by
 unfold rA at h
 rw[aQ]at h
 have hv:=hR.val hx
 revert h hv
 generalize S.val x=v
 generalize hy:a.eval x=y
 intro h hv
 split at h
 ·rename_i k g i
  simp only[RB.rm,RM.wp0]at h
  cases hb:S.box k with
  | mk g' oc =>
  rw[hb]at h
  cases oc with
  | none=>exact h.elim
  | some dd =>
  obtain⟨sz,es⟩:=dd
  simp only[RM.wp0]at h
  obtain⟨hg,hs,h⟩:=h
  have hg:=Nat.eq_of_beq_eq_true hg
  have hs:=Nat.eq_of_beq_eq_true hs
  subst hg hs
  have hyp:y = .pointer (some ⟨C.jb k,0,none⟩):=by
   cases hv with
   | pure hp=>cases hp
   | ptrOld hl=>rw[hR.gb k,hb]at hl;exact absurd hl (Nat.lt_irrefl _)
   | ptr=>simp
  subst hyp
  split at h
  ·rename_i s p
   obtain⟨hown,ob,hh,hobj⟩:=(hR.box k 0 [.v (.string s),.v (.int .i64 p)] (by rw[hb])).map rfl
   rw[hR.cw]at hh
   have hob:∃pos:Nat,p=pos∧ob = .stringIter s pos:=by
    generalize hl:([.v (.string s),.v (.int .i64 p)]:List AV)=l at hobj
    cases hobj with
    | map=>cases hl
    | iter s' pos=>cases hl;exact⟨pos,rfl,rfl⟩
    | loop=>cases hl
   obtain⟨pos,rfl,rfl⟩:=hob
   have hget:(getObj (C.jb k)).run P w = .ok (.stringIter s pos) w:=by simp[getObj,Sem.run,hh]
   have hlt:C.jb k<w.heap.size:=(Array.getElem?_eq_some_iff.1 hh).1
   by_cases hp:(pos:Int)<s.size
   ·have hpn:pos<s.size:=by omega
    simp only[decide_eq_true hp,RB.rm,RM.wp0,Int.toNat_natCast]at h
    have hset:(setObj (C.jb k) (.stringIter s (pos+(Utf8.decode s pos).2))).run P w = .ok () (w.putObj (C.jb k) (.stringIter s (pos+(Utf8.decode s pos).2))):=by simp[setObj,Sem.run,hh,World.putObj]
    have:=hR.objWrite k (some (0,[.v (.string s),.v (.int .i64 ((pos:Int)+(Utf8.decode s pos).2))])) hown (w':=w.putObj (C.jb k) (.stringIter s (pos+(Utf8.decode s pos).2))) (fun b hb=>World.putObj_heap_other hb) (by simp) rfl rfl rfl
     (fun arr e h=>by rw[hh]at h;cases h) (fun C' hle hw him hj ho' hg sz es1 h=>by
      cases h
      refine⟨fun h=>absurd rfl h,fun _=>⟨by rw[hj,ho'];exact hown,.stringIter s (pos+(Utf8.decode s pos).2),by rw[hw,hj];exact World.putObj_heap_same hlt,?_⟩,fun h=>absurd rfl h,fun _ _ h=>absurd rfl h,fun _ _ h=>absurd rfl h⟩
      have:=ObjRel.iter (w:=C'.w) (imm:=C'.imm) (R:=KRel C') s (pos+(Utf8.decode s pos).2)
      simpa using this)
    rw[hb]at this
    obtain⟨C',hle,_,_,hR'⟩:=this
    refine co (y:= .tuple #[.bool true,.int .i64 pos,.int .i32 (Utf8.decode s pos).1]) ?_ (hk _ C' _ _ h hle (hR'.putA ?_ _))
    ·simp only[execOp,ho,hy,Sem.run_bind]
     simp[Instr.next,hget,hpn,hset,goInt]
    ·refine .pure (.tuple rfl fun i x z hx hz=>?_)
     match i,hx,hz with
     | 0,hx,hz=>simp at hx hz;subst hx hz;exact .v _
     | 1,hx,hz=>simp at hx hz;subst hx hz;exact .v _
     | 2,hx,hz=>simp at hx hz;subst hx hz;exact .v _
     | n+3,hx,_=>simp at hx
   ·have hpn:¬pos<s.size:=by omega
    simp only[decide_eq_false hp,RB.rm,RM.wp0]at h
    refine aZ hR hk (y:= .tuple #[.bool false]) ?_ ?_ h
    ·simp only[execOp,ho,hy,Sem.run_bind]
     simp[Instr.next,hget,hpn]
    ·refine .pure (.tuple rfl fun i x z hx hz=>?_)
     match i,hx,hz with
     | 0,hx,hz=>simp at hx hz;subst hx hz;exact .v _
     | n+1,hx,_=>simp at hx
  ·exact h.elim
 ·exact h.elim
end
end Go.Am
namespace Go.Am
open Go.RowKit
section
variable {P:Program} {N:Nat} {base:Nat→Prop} {w0:World} {S:St} {C:Ctx} {a:Act} {w:World} {K:List Wr→Prop} {o:Oper} {next:Act→World→Prop} {Q:Exit→Act→World→Prop}
theorem KS{k:Key}{e:TypeId}(h:Jk k e=true):(∀T,k.l≠1000+2 * T)∧∀T,k.l=1001+2 * T→e=T:=by
 rcases rN h with h|h
 ·exact nn h e
 ·refine⟨fun T hT=>?_,fun T hT=>?_⟩
  ·have e1:1001+2 * e=1000+2 * T:=h.symm.trans hT
   have:∀a b:Nat,1000+2 * a≠1001+2 * b:=fun a b=>by omega
   exact this _ _ e1.symm
  ·have e1:1001+2 * e=1001+2 * T:=h.symm.trans hT
   exact Nat.eq_of_mul_eq_mul_left (by decide) (Nat.add_left_cancel e1)
theorem BoxOK.emptied{C C':Ctx}{k:Key}{sz:Nat}{es:List AV}(h:BoxOK C k sz es)(h0:sz≠0)(h1:sz<1000)(hw:C'.w=C.w)(hj:C'.jb=C.jb)(ho:C'.own=C.own)(hT:∀T,k.l≠1000+2 * T):BoxOK C' k sz [] :=
 ⟨fun _ i e he=>by simp at he,fun h=>absurd h h0,fun _ he=>absurd rfl he,fun _ _ _ he=>absurd rfl he,fun T hT _ _=>by
  obtain⟨o,arr,ha⟩:=h.row T hT h0 h1
  exact⟨by rw[hj,ho];exact o,arr,by rw[hj,hw];exact ha⟩⟩
theorem fc{t u ty e:TypeId}{i:TypeInfo}(ht:P.underlying t=some (.slice e))(hu:P.underlying u=some .string)(hi:P.info? e=some i)(s:ByteArray)(hs:s.size=0)(b:Option Addr)(len cap:Nat)(hl:len≤cap)
  (hb:b=none∨∃x y,b=some ⟨x,y,none⟩) :
  (Builtin.append_ #[t,u] ty #[.slice b len cap,.string s]).run P w = .ok (.slice b len cap) w:=by
 have hf:=fun n=>Lib.run_firstCells_string (P:=P) w n s
 rw[hs]at hf
 have hc:Lib.strCells s=[]:=List.eq_nil_of_length_eq_zero (by rw[Lib.strCells_length];exact hs)
 rw[hc]at hf
 rcases hb with rfl|⟨x,y,rfl⟩ <;>
  simp[Builtin.append_,run_underlying ht,run_underlying hu,sizeOf,typeInfo,hi,Builtin.lenOf,hl,hs,hf,storeCells]
theorem jB(w:World)(t u ty e el:TypeId)(i:TypeInfo)(ht:P.underlying t=some (.slice e))(hu:P.underlying u=some .string)(hi:P.info? e=some i)
  (g sLen sCap:Nat) (cur:Array Value) (hg:w.heap[g]?=some (.cells cur el (0,0))) (s:ByteArray) (hs1:i.size=1)
  (hroom:sLen+s.size≤sCap) (hfit:sLen * i.size+(Lib.strCells s).length≤cur.size) :
  (Builtin.append_ #[t,u] ty #[.slice (some ⟨g,0,none⟩) sLen sCap,.string s]).run P w =
   .ok (.slice (some ⟨g,0,none⟩) (sLen+s.size) sCap) (w.setRow g (cur.toList.take (sLen * i.size)++Lib.strCells s++cur.toList.drop (sLen * i.size+(Lib.strCells s).length)).toArray):=by
 have hf:=Lib.run_firstCells_string (P:=P) w i.size s
 have hst:=run_storeCells_at P g (sLen * i.size) el (Lib.strCells s) 0 cur w hg (by simpa using hfit) (Lib.strCells_oneCell s)
 simp only[Nat.add_zero]at hst
 simp[Builtin.append_,run_underlying ht,run_underlying hu,sizeOf,typeInfo,hi,Builtin.lenOf,hroom,hf,Addr.add_lit,hst]
theorem Fm{C:Ctx}{u:AV}{X:Value}(h:KRel C u X):KRel C (Lo u) X:=by
 unfold Lo
 split
 ·obtain rfl:=h.val (z:= .slice none 0 0) rfl
  exact .pure (.nil 0 .tight (.inr rfl))
 ·exact h
theorem od(cx:Cx)(hR:Rel N base w0 S C a w)(hk:eK N base w0 S C K next){c:Call}{t tu e:TypeId}{n bt n' d:Nat}{z':AV}{x y:Operand}(ho:o.op = .call c)(hb:c.callee = .builtin .append)
  (ha:c.args.toList=[x,y]) (hat:c.argTypes.toList=[t,tu]) (hus:P.underlying tu=some .string) (hx:inN N x=true) (hy:inN N y=true) (hdst:o.dst=some d) (hts:aU P t=some (e,n,bt)) (hz:bm P e=some (n',z'))
  (h:(kj cx d e n bt n' x y).rm.wp0 P S K):o.wp P a w next Q:=by
 have ha':c.args=#[x,y]:=by rw[←Array.toArray_toList (xs:=c.args),ha]
 have hat':c.argTypes=#[t,tu]:=by rw[←Array.toArray_toList (xs:=c.argTypes),hat]
 unfold kj at h
 obtain⟨hn',hn,h⟩:=h
 have hn':=Nat.eq_of_beq_eq_true hn'
 have hn1:1=n:=Nat.eq_of_beq_eq_true hn
 have hn:0<n:=by omega
 subst hn'
 rw[aQ,aQ]at h
 have hu:=hR.val hx
 have hv:=hR.val hy
 have exec:(execOp a.eval o).run P w=((Builtin.append_ #[t,tu] o.type #[a.eval x,a.eval y]).run P w).andThen fun v w'=> .ok (.value v) w':=by
  simp[execOp,ho,resolve,hb,ha',hat',invoke,builtin]
 obtain⟨ie,hut,hie,hsz,hbt⟩:=aS hts
 obtain⟨i',z,hz0,hz1,hz2,_⟩:=cZ hz
 rw[hie]at hz0;cases hz0
 revert h hu hv exec
 generalize S.val x=u
 generalize S.val y=v
 generalize a.eval x=X
 generalize a.eval y=Y
 intro h hu hv exec
 cases v<;>first|exact h.elim|skip
 rename_i vy
 cases vy<;>first|exact h.elim|skip
 rename_i s
 obtain rfl:Y = .string s:=hv.val (z:= .string s) rfl
 simp only at h
 replace hu:=Fm hu
 generalize Lo u=u at *
 obtain⟨es',hes'⟩:∃es',es'=cm s:=⟨_,rfl⟩
 obtain⟨news,hnews⟩:∃news,news=Lib.strCells s:=⟨_,rfl⟩
 have hel:es'.length=s.size:=by rw[hes',lc]
 have hnl:news.length=es'.length * n':=by rw[hnews,Lib.strCells_length,hel, ←hn1,Nat.mul_one]
 have hnone:∀u∈news,u.oneCell'=true:=by rw[hnews];exact Lib.strCells_oneCell s
 have hnsz:∀(i:Nat) (e:AV),es'[i]?=some e→e.cells.length=n':=fun i e he=>by
  rw[hes']at he
  obtain⟨b,_,rfl⟩:=List.mem_map.1 (List.mem_of_getElem? he)
  rw[←hn1];rfl
 have hnp:∀(i:Nat) (e:AV) (c:Nat) (x:AV),es'[i]?=some e→e.cells[c]?=some x→∃y,news[i * n'+c]?=some y∧PRel w C.imm x y∧y.oneCell'=true:=fun i e c x he hx=>by
  rw[hes']at he
  unfold cm at he
  rw[List.getElem?_map,Option.map_eq_some_iff]at he
  obtain⟨b,hb,rfl⟩:=he
  have h1:(AV.v (.int .u8 b.toNat)).cells=[.v (.int .u8 b.toNat)]:=rfl
  rw[h1]at hx
  cases c with
  | zero =>
   simp at hx;subst hx
   exact⟨.int .u8 b.toNat,by rw[hnews, ←hn1,Nat.mul_one,Nat.add_zero];unfold Lib.strCells;rw[List.getElem?_map,hb];rfl,.v _,rfl⟩
  | succ c=>simp at hx
 simp only[←hes', ←hel]at h
 have grow:∀(k:Key) (g m:Nat) (es:List AV) (olds:List Value) (old:Nat) (X:Value),Jk k e=true→es'≠[]→old<m+es'.length→m≤es.length→(m+es'.length) * bt≤140737488355328→m+es'.length≤maxLen→olds.length=m * n' →
   (∀u∈olds,u.oneCell'=true)→(∀(i:Nat) (e:AV),es[i]?=some e→e.cells.length=n') →
   (∀(i:Nat) (e:AV) (c:Nat) (x:AV),i<m→es[i]?=some e→e.cells[c]?=some x→∃y,olds[i * n'+c]?=some y∧KRel C x y∧y.oneCell'=true) →
   (Builtin.append_ #[t,tu] o.type #[X,.string s]).run P w = .ok (.slice (some ⟨w.heap.size,0,none⟩) (m+es'.length) (grownCap w (m+es'.length) old e))
      (w.drew.alloc (.cells (olds.toArray++news.toArray++Builtin.zeroCells z.cells (grownCap w (m+es'.length) old e-(m+es'.length))) e)) →
   (execOp a.eval o).run P w=((Builtin.append_ #[t,tu] o.type #[X,.string s]).run P w).andThen (fun v w'=> .ok (.value v) w') →
   (S.box k).1=g→K [.box k (g+1,some (n',es.take m++es')),.slot d (.own k (g+1) n' (m+es'.length) 0)]→o.wp P a w next Q:=by
  intro k g m es olds old X hpl hne hold hm hbytes hmax hol hone hesz hop hrun hexec hg hK
  obtain⟨arr,harr⟩:∃arr,arr=olds.toArray++news.toArray++Builtin.zeroCells z.cells (grownCap w (m+es'.length) old e-(m+es'.length)):=⟨_,rfl⟩
  rw[←harr]at hrun
  have hge:=grownCap_ge w (m+es'.length) old e
  have hgm:=grownCap_le_maxLen w (m+es'.length) old e hmax
  have hsa:arr.size=grownCap w (m+es'.length) old e * n':=by
   rw[harr]
   simp only[Array.size_append,List.size_toArray,size_zeroCells,hz2,hol,hnl, ←Nat.add_mul]
   congr 1;omega
  obtain⟨hle0,hR0⟩:=hR.world (w':=w.drew) rfl rfl rfl rfl
  have hget1:∀i,i<m * n'→arr[i]?=olds[i]?:=fun i hi=>by
   rw[harr,Array.append_assoc,Array.getElem?_append_left (by simp[hol];exact hi)];simp
  have hget2:∀i,i<es'.length * n'→arr[m * n'+i]?=news[i]?:=fun i hi=>by
   rw[harr,Array.getElem?_append_left (by simp[hol,hnl];omega),Array.getElem?_append_right (by simp[hol])]
   simp[hol]
  obtain⟨C',hle,hgb,hjb,him,hon,hcw,hR'⟩:=hR0.newObj k (some (n',es.take m++es')) (.cells arr e) (fun C' hle hw him hj hown hg sz1 es1 h1=>by
   cases h1
   have hh:C'.w.heap[C'.jb k]?=some (.cells arr e (0,0)):=by rw[hw,hj];exact heap_alloc_new _ _
   refine BoxOK.join (C:=C) (k:=k) (by omega) (et:=e) (KS hpl) (by rw[hj];exact hown) arr hh hm (by rw[hsa];exact Nat.mul_le_mul_right _ hge) hesz hnsz (fun i e c x hi he hx=>?_) (fun i e c x he hx=>?_)
   ·obtain⟨y,a1,a2,a3⟩:=hop i e c x hi he hx
    have hcn:c<n':=by rw[←hesz i e he];exact(List.getElem?_eq_some_iff.1 hx).1
    exact⟨y,by rw[hget1 _ (cy m hi hcn)];exact a1,a2.le (hle0.trans hle),a3⟩
   ·obtain⟨y,a1,a2,a3⟩:=hnp i e c x he hx
    have hcn:c<n':=by rw[←hnsz i e he];exact(List.getElem?_eq_some_iff.1 hx).1
    refine⟨y,by rw[Nat.add_mul,Nat.add_assoc,hget2 _ (cy _ (List.getElem?_eq_some_iff.1 he).1 hcn)];exact a1,.pure ?_,a3⟩
    refine a2.mono fun b i hi=>?_
    have:=(hle0.trans hle).imm b i hi
    rw[hR.cw]at this
    exact this)
  rw[hg]at hR' hgb
  refine bN hk (by rw[hexec,hrun];rfl) (hle0.trans hle) hR' (v:= .own k (g+1) n' (m+es'.length) 0) ?_ hK (by rw[hdst];rfl)
  have:=KRel.mkOwn (C':=C') (k:=k) (g:=g+1) (sz:=n') (n:=m+es'.length) (cap:=0) hgb hge hgm (by rw[hjb];exact hon) (arr:=arr) (et:=e) (by rw[hcw,hjb];exact heap_alloc_new _ _) (by rw[hsa];exact Nat.le_refl _)
  rw[hjb]at this
  exact this
 have fresh:∀(k:Key) (g m:Nat) (es:List AV) (bX:Option Addr),Jk k e=true→(es'=[]→∀C':Ctx,C.le C'→C'.w=C.w→C'.jb=C.jb→C'.own=C.own→BoxOK C' k n' [])→(bX=none∨∃x y,bX=some ⟨x,y,none⟩)→m=0→X = .slice bX 0 0→(m+es'.length) * bt≤140737488355328→m+es'.length≤maxLen→(S.box k).1=g →
   K [.box k (g+1,some (n',es.take m++es')),.slot d (.own k (g+1) n' (m+es'.length) 0)]→(∀(i:Nat) (e:AV),es[i]?=some e→e.cells.length=n')→o.wp P a w next Q:=by
  intro k g m es bX hpl hnil hbX hm0 hX hbytes hmax hg hK hesz
  subst hm0 hX
  by_cases hempty:es'=[]
  ·have hrun:(execOp a.eval o).run P w = .ok (.value (.slice bX 0 0)) w:=by
    rw[exec]
    rw[fc hut hus hie s (by rw[←hel,hempty];rfl) bX 0 0 (Nat.le_refl _) hbX];rfl
   obtain⟨C',hle,hgb,hjb,_,_,_,hR'⟩:=hR.bump k (some (n',es.take 0++es')) (fun C' hle hw _ hj ho sz es h=>by cases h;rw[hempty];exact hnil hempty C' hle hw hj ho)
   rw[hg]at hR' hgb
   refine bN hk hrun hle hR' (v:= .own k (g+1) n' (0+es'.length) 0) ?_ hK (by rw[hdst];rfl)
   rw[←hgb,hempty];exact .ownNil hbX
  ·have hm0:0<es'.length:=List.length_pos_iff.2 hempty
   refine grow k g 0 es [] 0 (.slice bX 0 0) hpl hempty (by omega) (Nat.zero_le _) hbytes hmax (by simp) (by simp) hesz (fun i _ _ _ hi=>absurd hi (by omega)) ?_ exec hg hK
   rcases hbX with rfl|⟨bx,ox,rfl⟩
   ·have:=run_append_nil_string (P:=P) w t tu o.type e ie z hut hus hie hz1 s (by omega) (by unfold maxLen at hmax;omega) (by rw[hbt, ←hel];simp at hbytes;omega)
    rw[hel,hnews,this]
    simp only[Nat.zero_add,Array.empty_append,show([]:List Value).toArray=#[]from rfl]
    have e1:(s.data.map fun b=>Value.int .u8 b.toNat)=(Lib.strCells s).toArray:=by
     apply Array.ext'
     simp[Lib.strCells]
    rw[e1]
   ·have:=Lib.run_append_grow_string (P:=P) w t tu o.type e ie z hut hus hie hz1 ⟨bx,ox,none⟩ 0 0 [] (by simp) (by simp) s
     (by omega) (by unfold maxLen at hmax;omega) (growslice_fits (by omega) (by rw[hbt, ←hel];exact hbytes))
    rw[hel,hnews]
    exact this
 cases u<;>first|exact h.elim|skip
 case slice sz es tok =>
  cases es with
  | cons _ _=>exact h.elim
  | nil =>
   cases tok<;>first|exact h.elim|skip
   obtain⟨⟨hbytes,hmax,hz0⟩,hpl,h⟩:=h
   simp only[RB.rm,RM.wp0]at h
   have hX:∃b,X = .slice b 0 0∧(b=none∨∃x y,b=some ⟨x,y,none⟩):=by
    cases hu with
    | pure hp=>cases hp with
     | nil=>exact⟨none,rfl,.inl rfl⟩
     | slice ys hcap ht=>exact⟨_,by rw[show _=0 from(ht.resolve_left (by simp)).2];rfl,.inr ⟨_,_,rfl⟩⟩
   obtain⟨bX,hX,hbX⟩:=hX
   exact fresh (cx.keyS d e) _ 0 [] bX hpl (fun h0 C' _ _ _ _=>BoxOK.nil (by omega) (hz0.resolve_left (by rw[h0];simp))) hbX rfl hX (by simpa using hbytes) (by simpa using hmax) rfl (by simpa using h) (by simp)
 case own k g sz m cap =>
  simp only[RB.rm,RM.wp0]at h
  split at h
  ·rename_i dd hbox
   obtain⟨sz0,es⟩:=dd
   obtain⟨hg,hs0,hs1,⟨hml,hbytes,hmax⟩,hpl,h⟩:=h
   have hg:=Nat.eq_of_beq_eq_true hg
   have hs0:n'=sz0:=(Nat.eq_of_beq_eq_true hs0).symm
   have hs1:n'=sz:=(Nat.eq_of_beq_eq_true hs1).symm
   subst hs0 hs1
   have hB:=hR.box k _ es hbox
   have hwid:=hB.wid (by omega)
   have hcur:g=C.gb k:=by rw[hR.gb,hg]
   subst hcur
   rw[hg]at h
   cases hu with
   | pure hp=>cases hp
   | ownOld hlt=>omega
   | ownNil hbX=>exact fresh k _ 0 es _ hpl (fun _ C' hle hw hj ho=>hB.emptied (by omega) (by omega) hw hj ho (fun T hT=>by rcases rN hpl with h|h<;>omega)) hbX rfl rfl hbytes hmax hg h hwid
   | @own _ _ _ _ cX hmc hcm hoX hsX =>
    obtain⟨arr,et,harr,hsa⟩:=hsX
    rw[hR.cw]at harr
    have het:(∀T,k.l≠1000+2 * T)∧∀T,k.l=1001+2 * T→et=T:=by
     refine⟨fun T hT=>by rcases rN hpl with h|h<;>omega,fun T hT=>?_⟩
     obtain⟨_,arr2,h2⟩:=hB.row T hT (by omega) (by omega)
     rw[hR.cw,harr]at h2
     cases h2;rfl
    have hmul:m * n'≤arr.size:=Nat.le_trans (Nat.mul_le_mul_right _ hmc) hsa
    have hcell:∀(i:Nat) (e:AV) (c:Nat) (x:AV),i<m→es[i]?=some e→e.cells[c]?=some x→∃y,arr[i * n'+c]?=some y∧KRel C x y∧y.oneCell'=true:=by
     intro i e c x hi he hx
     obtain⟨_,arr2,et2,ha2,_,hc2⟩:=hB.own (by omega) (by rintro rfl;simp at he)
     rw[hR.cw,harr]at ha2
     cases ha2
     exact hc2 i e c x he hx
    have hall:∀j u,j<m * n'→arr[j]?=some u→u.oneCell'=true:=by
     intro j u hj hu
     have h1:j/n'<m:=Nat.div_lt_of_lt_mul (by rw[Nat.mul_comm];exact hj)
     have hml:m≤es.length:=hml
     have h1':j/n'<es.length:=by omega
     have h2:j%n'<es[j/n'].cells.length:=by rw[hwid (j/n') es[j/n'] (by simp[h1'])];exact Nat.mod_lt _ hn
     obtain⟨y,b1,_,b3⟩:=hcell (j/n') es[j/n'] (j%n') es[j/n'].cells[j%n'] h1 (by simp[h1']) (by simp[h2])
     rw[show j/n' * n'+j%n'=j by rw[Nat.mul_comm];exact Nat.div_add_mod j n',hu]at b1
     cases b1;exact b3
    by_cases hempty:es'=[]
    ·have hrun:(execOp a.eval o).run P w = .ok (.value (.slice (some ⟨C.jb k,0,none⟩) m cX)) w:=by
      rw[exec]
      rw[fc hut hus hie s (by rw[←hel,hempty];rfl) _ m cX hmc (.inr ⟨_,_,rfl⟩)];rfl
     obtain⟨C',hle,hgb,hjb,hon,hcw,_,hR'⟩:=hR.bump k (some (n',es.take m++es')) (fun C' hle hw him hj hown sz1 es1 h1=>by
      cases h1
      rw[hempty]
      refine BoxOK.join (C:=C) (k:=k) (es':=[]) (by omega) (et:=et) het (by rw[hj,hown];exact hoX) arr (by rw[hw,hj,hR.cw];exact harr) hml (by simpa using hmul) hwid (by simp) (fun i e c x hi he hx=>?_) (by simp)
      obtain⟨y,a1,a2,a3⟩:=hcell i e c x hi he hx
      exact⟨y,a1,a2.le hle,a3⟩)
     rw[hg]at hR' hgb
     refine bN hk hrun hle hR' (v:= .own k (C.gb k+1) n' (m+es'.length) 0) ?_ h (by rw[hdst];rfl)
     have:=KRel.mkOwn (C':=C') (k:=k) (sz:=n') (n:=m) (cap:=0) hgb hmc hcm (by rw[hjb,hon];exact hoX) (arr:=arr) (et:=et) (by rw[hcw,hjb,hR.cw];exact harr) hsa
     rw[hjb]at this
     rw[hempty]
     exact this
    ·have hm0:0<es'.length:=List.length_pos_iff.2 hempty
     by_cases hroom:m+es'.length≤cX
     ·have hfit:m * n'+news.length≤arr.size:=by rw[hnl, ←Nat.add_mul];exact Nat.le_trans (Nat.mul_le_mul_right _ hroom) hsa
      have hrun:=jB (P:=P) w t tu o.type e et ie hut hus hie (C.jb k) m cX arr harr s (by rw[hsz];omega) (by rw[←hel];exact hroom) (by rw[hsz, ←hnews];exact hfit)
      rw[hsz, ←hnews, ←hel]at hrun
      obtain⟨arr',harr'⟩:∃arr':Array Value,(arr.toList.take (m * n')++news++arr.toList.drop (m * n'+news.length)).toArray=arr':=⟨_,rfl⟩
      rw[harr']at hrun
      have hget:∀p,arr'[p]?=if p<m * n' then arr[p]? else if p<m * n'+news.length then news[p-m * n']? else arr[p]?:=by
       intro p
       rw[←harr']
       have:=iM arr.toList (m * n') news (by simp;omega) p
       simpa using this
      have hsize:arr'.size=arr.size:=by
       rw[←harr'];simp only[List.size_toArray,List.length_append,List.length_take,List.length_drop,Array.length_toList];omega
      obtain⟨C1,hle1,hg1,hj1,hR1⟩:=hR.objWrite k none hoX (w':=w.setRow (C.jb k) arr') (fun b hb=>setRow_other _ _ _ _ hb) (by simp) (by simp) (by simp) (by simp) (fun arr1 e1 h1=>by
       rw[harr]at h1;cases h1
       exact⟨arr',_,setRow_heap _ _ _ _ _ _ harr,by omega⟩) (fun _ _ _ _ _ _ _ _ _ h=>by cases h)
      have ho1:C1.own (C1.jb k)=some (.box k):=by
       have:=(hle1.bs k (by rw[hg1]) hoX).1
       rw[hj1];exact this
      have hh1:C1.w.heap[C1.jb k]?=some (.cells arr' et (0,0)):=by rw[hR1.cw,hj1];exact setRow_heap _ _ _ _ _ _ harr
      obtain⟨C',hle,hgb,hjb,hon,hcw,_,hR'⟩:=hR1.bump k (some (n',es.take m++es')) (fun C' hle hw him hj hown sz1 es1 h1=>by
       cases h1
       refine BoxOK.join (C:=C) (k:=k) (by omega) (et:=et) het (by rw[hj,hown];exact ho1) arr' (by rw[hw,hj];exact hh1) hml (by rw[hsize];exact Nat.le_trans (Nat.mul_le_mul_right _ hroom) hsa) hwid hnsz (fun i e c x hi he hx=>?_) (fun i e c x he hx=>?_)
       ·obtain⟨y,a1,a2,a3⟩:=hcell i e c x hi he hx
        have hcn:c<n':=by rw[←hwid i e he];exact(List.getElem?_eq_some_iff.1 hx).1
        exact⟨y,by rw[hget,if_pos (cy m hi hcn)];exact a1,a2.le (hle1.trans hle),a3⟩
       ·obtain⟨y,a1,a2,a3⟩:=hnp i e c x he hx
        have hcn:c<n':=by rw[←hnsz i e he];exact(List.getElem?_eq_some_iff.1 hx).1
        have hlt:=cy es'.length (List.getElem?_eq_some_iff.1 he).1 hcn
        refine⟨y,?_,.pure ?_,a3⟩
        ·rw[hget,if_neg (by rw[Nat.add_mul];omega),if_pos (by rw[hnl,Nat.add_mul];omega),Nat.add_mul,show m * n'+i * n'+c-m * n'=i * n'+c by omega];exact a1
        ·refine a2.mono fun b i hi=>?_
         have:=(hle1.trans hle).imm b i hi
         rw[hR.cw]at this
         exact this)
      have e1:((S.put (.box k ((S.box k).1,none))).box k).1=C.gb k:=by simp only[St.put,a8];exact hg
      rw[e1]at hR' hgb
      have e2:(S.put (.box k ((S.box k).1,none))).put (.box k (C.gb k+1,some (n',es.take m++es')))=S.put (.box k (C.gb k+1,some (n',es.take m++es'))):=by
       have hf:upd (upd S.box k ((S.box k).1,none)) k (C.gb k+1,some (n',es.take m++es'))=upd S.box k (C.gb k+1,some (n',es.take m++es')):=by
        funext j
        simp only[upd]
        by_cases hj:j=k<;>simp[hj]
       simp only[St.put,hf]
      rw[e2]at hR'
      refine bN hk (by rw[exec,hrun];rfl) (hle1.trans hle) hR' (v:= .own k (C.gb k+1) n' (m+es'.length) 0) ?_ h (by rw[hdst];rfl)
      have:=KRel.mkOwn (C':=C') (k:=k) (sz:=n') (n:=m+es'.length) (cap:=0) hgb hroom hcm (by rw[hjb,hon];exact ho1) (arr:=arr') (et:=et) (by rw[hcw,hjb];exact hh1) (by rw[hsize];exact hsa)
      rw[hjb,hj1]at this
      exact this
     ·have hol:(arr.toList.take (m * n')).length=m * n':=by simp;omega
      have hget:∀j,j<m * n'→(arr.toList.take (m * n'))[j]?=arr[j]?:=fun j hj=>by rw[List.getElem?_take,if_pos hj];simp
      refine grow k _ m es (arr.toList.take (m * n')) cX _ hpl hempty (by omega) hml hbytes hmax hol (fun u hu=>?_) hwid (fun i e c x hi he hx=>?_) ?_ exec hg h
      ·obtain⟨j,hj⟩:=List.mem_iff_getElem?.1 hu
       have hlt:j<m * n':=by rw[←hol];exact(List.getElem?_eq_some_iff.1 hj).1
       rw[hget j hlt]at hj
       exact hall j u hlt hj
      ·obtain⟨y,a1,a2,a3⟩:=hcell i e c x hi he hx
       have hcn:c<n':=by rw[←hwid i e he];exact(List.getElem?_eq_some_iff.1 hx).1
       exact⟨y,by rw[hget _ (cy m hi hcn)];exact a1,a2,a3⟩
      ·have:=Lib.run_append_grow_string (P:=P) w t tu o.type e ie z hut hus hie hz1 ⟨C.jb k,0,none⟩ m cX (arr.toList.take (m * n')) (by rw[hol,hsz]) (fun j v hj=>by
        have hlt:j<m * n':=by rw[←hol];exact(List.getElem?_eq_some_iff.1 hj).1
        rw[hget j hlt]at hj
        simp[Addr.add_lit,World.cell?,harr,hj]) s (by omega) (by unfold maxLen at hmax;omega) (growslice_fits (by omega) (by rw[hbt, ←hel];exact hbytes))
       rw[hel,hnews]
       exact this
  ·exact h.elim
theorem mV{t u ty e:TypeId}{i:TypeInfo}{z:Value}{ik:IntKind}(ht:P.underlying t=some (.slice e))(hu:P.underlying u=some (.int ik))(hi:P.info? e=some i)(hz:i.zero=some z)(hs:i.size≠0)
  (b:Option Addr) (hb:b=none∨∃x y,b=some ⟨x,y,none⟩) (kl:IntKind) (l:Int) (h0:0<l) (h63:l.toNat≤maxLen) (h48:l.toNat * i.bytes≤140737488355328) :
  (Builtin.append_ #[t,u] ty #[.slice b 0 0,.int kl l]).run P w =
   .ok (.slice (some ⟨w.heap.size,0,none⟩) l.toNat (grownCap w l.toNat 0 e))
    (w.drew.alloc (.cells (Builtin.zeroCells z.cells l.toNat++Builtin.zeroCells z.cells (grownCap w l.toNat 0 e-l.toNat)) e)):=by
 unfold maxLen at h63
 obtain⟨m,rfl⟩:=Int.eq_ofNat_of_zero_le (Int.le_of_lt h0)
 rw[Int.toNat_natCast]at *
 have wl:IntKind.i64.wrap (m:Int)=m:=by rw[IntKind.wrap_i64];omega
 have n0:m≠0:=by omega
 have n1:¬((m:Int)<0):=by omega
 have n2:¬(281474976710656<(m:Int) * (i.bytes:Int)):=by
  have:((m * i.bytes:Nat):Int)≤140737488355328:=Int.ofNat_le.2 h48
  rw[Int.natCast_mul]at this
  omega
 have n3:¬(9223372036854775807<(m:Int)):=by omega
 have n4:¬(281474976710656<Builtin.nextslicecap m 0 * i.bytes):=by rw[nextslicecap_zero (by omega)];omega
 have n5:¬(m * i.size=0):=Nat.mul_ne_zero n0 hs
 rcases hb with rfl|⟨x,y,rfl⟩ <;>
  simp[Builtin.append_,run_underlying ht,run_underlying hu,asInt,asIntOf,sizeOf,typeInfo,zeroValue,hi,hz,wl,n0,n1,n2,n3,n4,n5,hs,Builtin.firstCells,loadCells,loadCellsFrom,Question.forced,newRow,grownCap]
theorem D3{cells:Array Value}{n m q:Nat}(hz:cells.size=n)(hn:0<n){i cc:Nat}(hi:i<m)(hc:cc<n):(Builtin.zeroCells cells m++Builtin.zeroCells cells q)[i * n+cc]?=cells[cc]?:=by
 have hlt:=cy m hi hc
 have hmod:(i * n+cc)%n=cc:=by rw[Nat.mul_comm,Nat.mul_add_mod];exact Nat.mod_eq_of_lt hc
 have hlt2:cc<cells.size:=by omega
 rw[Array.getElem?_append_left (by rw[size_zeroCells,hz];exact hlt)]
 unfold Builtin.zeroCells
 rw[hz,Array.getElem?_map,Array.getElem?_range,if_pos hlt]
 simp only[Option.map_some,hmod]
 rw[getElem!_pos cells cc hlt2];simp[hlt2]
theorem oa(cx:Cx)(hR:Rel N base w0 S C a w)(hk:eK N base w0 S C K next){c:Call}{t tu e:TypeId}{n bt n' d:Nat}{z':AV}{ik:IntKind}{x y:Operand}(ho:o.op = .call c)(hb:c.callee = .builtin .append)
  (ha:c.args.toList=[x,y]) (hat:c.argTypes.toList=[t,tu]) (hus:P.underlying tu=some (.int ik)) (hx:inN N x=true) (hy:inN N y=true) (hdst:o.dst=some d) (hts:aU P t=some (e,n,bt)) (hz:bm P e=some (n',z'))
  (h:(ki cx d n bt n' z' x y).rm.wp0 P S K):o.wp P a w next Q:=by
 have ha':c.args=#[x,y]:=by rw[←Array.toArray_toList (xs:=c.args),ha]
 have hat':c.argTypes=#[t,tu]:=by rw[←Array.toArray_toList (xs:=c.argTypes),hat]
 unfold ki at h
 obtain⟨hn',hn,hst,hzl,h⟩:=h
 have hn':n=n':=(Nat.eq_of_beq_eq_true hn').symm
 have hn:0<n:=Nat.le_of_ble_eq_true hn
 have hzl:=Nat.eq_of_beq_eq_true hzl
 subst hn'
 rw[aQ,aQ]at h
 have hu:=hR.val hx
 have hv:=hR.val hy
 have exec:(execOp a.eval o).run P w=((Builtin.append_ #[t,tu] o.type #[a.eval x,a.eval y]).run P w).andThen fun v w'=> .ok (.value v) w':=by
  simp[execOp,ho,resolve,hb,ha',hat',invoke,builtin]
 obtain⟨ie,hut,hie,hsz,hbt⟩:=aS hts
 obtain⟨i',z,hz0,hz1,hz2,hz3,_⟩:=cZ hz
 rw[hie]at hz0;cases hz0
 revert h hu hv exec
 generalize S.val x=u
 generalize S.val y=v
 generalize a.eval x=X
 generalize a.eval y=Y
 intro h hu hv exec
 split at h
 ·rename_i sz kl l
  obtain⟨⟨h1,h3,h4⟩,h⟩:=h
  have hY:Y = .int kl l:=hv.val rfl
  subst hY
  have hX:∃b,X = .slice b 0 0∧(b=none∨∃x y,b=some ⟨x,y,none⟩):=by
   cases hu with
   | pure hp=>cases hp with
    | nil=>exact⟨none,rfl,.inl rfl⟩
    | slice ys hcap ht=>exact⟨_,by rw[show _=0 from(ht.resolve_left (by simp)).2];rfl,.inr ⟨_,_,rfl⟩⟩
  obtain⟨bX,rfl,hbX⟩:=hX
  simp only[RB.rm,RM.wp0]at h
  obtain⟨hpl,h⟩:=h
  have hpl:=Nat.le_of_ble_eq_true hpl
  have hrun:=mV (P:=P) (w:=w) (ty:=o.type) hut hus hie hz1 (by omega) bX hbX kl l h1 h4 (by rw[hbt];exact h3)
  have hge:=grownCap_ge w l.toNat 0 e
  have hgm:=grownCap_le_maxLen w l.toNat 0 e h4
  obtain⟨arr,harr⟩:∃arr,arr=Builtin.zeroCells z.cells l.toNat++Builtin.zeroCells z.cells (grownCap w l.toNat 0 e-l.toNat):=⟨_,rfl⟩
  rw[←harr]at hrun
  have hsa:arr.size=grownCap w l.toNat 0 e * n:=by
   rw[harr,Array.size_append,size_zeroCells,size_zeroCells,hz2, ←Nat.add_mul];congr 1;omega
  have hcell:∀i cc,i<l.toNat→cc<n→arr[i * n+cc]?=z.cells[cc]?:=fun i cc hi hc=>by
   rw[harr];exact D3 hz2 hn hi hc
  obtain⟨_,hp,hone⟩:=(KRel.pure (C:=C) (bT C.w C.imm z)).cells (by rw[←hz3];exact hst)
  rw[←hz3]at hp
  obtain⟨hle0,hR0⟩:=hR.world (w':=w.drew) rfl rfl rfl rfl
  obtain⟨C',hle,hgb,hjb,him,hon,hcw,hR'⟩:=hR0.newBox (cx.key d) n (List.replicate l.toNat z') arr e (by omega) (fun T hl=>by omega) (fun T hl=>by omega) (fun i e he=>by
   rw[List.getElem?_replicate]at he
   split at he
   ·cases he;exact hzl
   ·simp at he) (by simp[hsa];exact Nat.mul_le_mul_right _ hge) (fun i e cc x he hx=>by
   rw[List.getElem?_replicate]at he
   split at he
   ·rename_i hi
    cases he
    have hc:cc<n:=by rw[←hzl];exact(List.getElem?_eq_some_iff.1 hx).1
    have hc2:cc<z.cells.size:=by omega
    exact⟨z.cells[cc],by rw[hcell i cc hi hc];simp[hc2],(hp cc x _ hx (by simp[hc2])).le hle0,hone _ (by simp)⟩
   ·simp at he)
  refine bN hk (by rw[exec,hrun];rfl) (hle0.trans hle) hR' (v:= .own (cx.key d) ((S.box (cx.key d)).1+1) n l.toNat 0) ?_ h (by rw[hdst];rfl)
  have:=KRel.mkOwn (C':=C') (k:=cx.key d) (sz:=n) (n:=l.toNat) (c:=grownCap w l.toNat 0 e) (cap:=0) hgb hge hgm (by rw[hjb];exact hon) (arr:=arr) (et:=e) (by rw[hcw,hjb];exact heap_alloc_new _ _) (by rw[hsa];exact Nat.le_refl _)
  rw[hjb]at this
  exact this
 ·exact h.elim
end
end Go.Am
namespace Go.Am
open Go.RowKit
section
variable {P:Program} {N:Nat} {base:Nat→Prop} {w0:World} {S:St} {C:Ctx} {a:Act} {w:World} {K:List Wr→Prop} {o:Oper} {next:Act→World→Prop} {Q:Exit→Act→World→Prop}
def Ctx.still(C:Ctx):Nat→Nat→Prop:=fun b i=>C.imm b i∨∃k,C.own b=some (.box k)
theorem PRel.still{x:AV}{y:Value}(h:PRel C.w C.imm x y):PRel C.w C.still x y:=h.mono fun _ _ h=>⟨.inl h,rfl⟩
theorem xn(hR:Rel N base w0 S C a w){k:Key}{sz:Nat}{es:List AV}(hk:(S.box k).2=some (sz,es))(h0:sz≠0){i c:Nat}{e x x':AV}(he:es[i]?=some e)(hx:e.cells[c]?=some x)(hp:Am.pure1 x=some x') :
  ∃y,C.w.cell? ⟨C.jb k,i * sz+c,none⟩=some y∧C.still (C.jb k) (i * sz+c)∧y.oneCell'=true∧PRel C.w C.still x' y:=by
 obtain⟨y,h1,h2,h3⟩:=jP hR hk h0 he hx
 obtain⟨ho,_⟩:=(hR.box k sz es hk).own h0 (by intro h;simp[h]at he)
 exact⟨y,by rw[hR.cw];exact h1,.inr ⟨k,ho⟩,h3,(h2.pure1 hp).still⟩
theorem Es(hR:Rel N base w0 S C a w){k:Key}{sz:Nat}{es:List AV}(hk:(S.box k).2=some (sz,es))(h0:sz≠0){i c:Nat}{e x:AV}(he:es[i]?=some e)(hx:e.cells[c]?=some x) :
  ∃y,C.w.cell? ⟨C.jb k,i * sz+c,none⟩=some y∧C.still (C.jb k) (i * sz+c)∧y.oneCell'=true∧PRel C.w C.still (Lp x) y:=by
 obtain⟨y,h1,h2,h3⟩:=jP hR hk h0 he hx
 obtain⟨ho,_⟩:=(hR.box k sz es hk).own h0 (by intro h;simp[h]at he)
 refine⟨y,by rw[hR.cw];exact h1,.inr ⟨k,ho⟩,h3,?_⟩
 unfold Lp
 split
 ·rename_i x' hp
  exact(h2.pure1 hp).still
 ·exact .junk y
theorem lQ:∀{cs l:List AV},eA cs=some l→l.length=cs.length∧∀(i:Nat) (y:AV),l[i]?=some y→∃x,cs[i]?=some x∧wN x=some y
 | [],l,h=>by simp[eA]at h;subst h;simp
 | a::xs,l,h=>by
  simp only[eA]at h
  split at h
  ·rename_i z zs h1 h2
   simp at h;subst h
   obtain⟨e,ih⟩:=lQ h2
   refine⟨by simp[e],fun i y hy=>?_⟩
   cases i with
   | zero=>simp at hy;subst hy;exact⟨a,rfl,h1⟩
   | succ i=>simpa using ih i y (by simpa using hy)
  ·simp at h
theorem jv{x y:AV}(h:Am.pure1 x=some y):x.cells=[x]∧y.cells=[y]:=by
 by_cases hf:∃fn fs cs,x = .func fn fs cs
 ·obtain⟨fn,fs,cs,rfl⟩:=hf
  obtain⟨rfl,rfl,rfl⟩:=qc h
  exact⟨rfl,rfl⟩
 ·cases x<;>first|exact absurd ⟨_,_,_,rfl⟩ hf|(simp[Am.pure1]at h<;>subst h<;>exact⟨rfl,rfl⟩)
theorem gi{u e:AV}(h:wN u=some e):e.cells.length=u.cells.length∧∀(c:Nat) (x:AV),e.cells[c]?=some x→∃v,u.cells[c]?=some v∧Am.pure1 v=some x:=by
 have other:Am.pure1 u=some e→e.cells.length=u.cells.length∧∀(c:Nat) (x:AV),e.cells[c]?=some x→∃v,u.cells[c]?=some v∧Am.pure1 v=some x:=by
  intro h
  obtain⟨h1,h2⟩:=jv h
  rw[h1,h2]
  refine⟨rfl,fun c x hx=>?_⟩
  cases c with
  | zero=>simp at hx;subst hx;exact⟨u,rfl,h⟩
  | succ c=>simp at hx
 cases u with
 | agg cs =>
  simp only[wN,Option.map_eq_some_iff]at h
  obtain⟨l,hl,rfl⟩:=h
  exact⟨kM hl,fun c x hx=>kL hl c x hx⟩
 | _=>exact other h
theorem oW(hR:Rel N base w0 S C a w){x:AV}{y:Value}(hv:KRel C x y){k:AV→RM}(h:(oV x k).wp0 P S K) :
  ∃x',(k x').wp0 P S K∧PRel C.w C.still x' y:=by
 have other:(match toPure x with|some y=>k y|none=>RM.fail).wp0 P S K→∃x',(k x').wp0 P S K∧PRel C.w C.still x' y:=by
  intro h
  split at h
  ·rename_i x' hx'
   exact⟨x',h,(hv.toPure hx').still⟩
  ·exact h.elim
 cases x with
 | ptr key g sz i off =>
  simp only[oV,RM.wp0]at h
  split at h
  ·rename_i sz' es hs
   obtain⟨⟨hg,rfl,h0⟩,h⟩:=h
   split at h
   ·rename_i e he
    split at h
    ·rename_i cs hcs
     refine⟨_,h,?_⟩
     rw[KRel.ptrCur hR hv hg]
     have hc:∀(c:Nat) (x:AV),(cs.drop off)[c]?=some x→∃y,C.w.cell? ⟨C.jb key,i * sz'+off+c,none⟩=some y∧C.still (C.jb key) (i * sz'+off+c)∧y.oneCell'=true∧PRel C.w C.still x y:=by
      intro c x hx
      rw[List.getElem?_drop]at hx
      obtain⟨u,hu,hp⟩:=tT hcs _ x hx
      have:=Es hR hs h0 he hu
      rw[hp]at this
      rwa [←Nat.add_assoc]at this
     refine .cptr (fun c=>(C.w.cell? ⟨C.jb key,i * sz'+off+c,none⟩).getD undef) (fun c x hx=>?_) (fun c x hx=>?_)
     ·obtain⟨y,a1,a2,a3,a4⟩:=hc c x hx
      simp[a1,a2,a3]
     ·obtain⟨y,a1,a2,a3,a4⟩:=hc c x hx
      simp[a1,a4]
    ·exact h.elim
   ·exact h.elim
  ·exact h.elim
 | sl key g sz i off n =>
  simp only[oV,RM.wp0]at h
  split at h
  ·rename_i sz' es hs
   obtain⟨⟨hg,rfl,h0,hn⟩,h⟩:=h
   split at h
   ·rename_i e he
    split at h
    ·rename_i cs hcs
     refine⟨_,h,?_⟩
     obtain⟨rfl,hm⟩:y = .slice (some ⟨C.jb key,i * sz'+off,none⟩) n n∧n≤maxLen:=by
      cases hv with
      | pure hp=>cases hp
      | slOld hlt=>rw[hR.gb,hg]at hlt;omega
      | sl hm=>exact⟨rfl,hm⟩
     have hw:=(hR.box key _ es hs).wid h0 i e he
     have hcl:=kM hcs
     have hl:((cs.drop off).take n).length=n:=by simp;omega
     have hget:∀(j:Nat) (x:AV),((cs.drop off).take n)[j]?=some x→∃u,e.cells[off+j]?=some u∧Am.pure1 u=some x:=fun j x hx=>by
      rw[List.getElem?_take]at hx
      split at hx
      ·rw[List.getElem?_drop]at hx
       exact kL hcs _ x hx
      ·cases hx
     have hc:∀(j:Nat) (d:AV) (c:Nat) (x:AV),((cs.drop off).take n)[j]?=some d→d.cells[c]?=some x→c=0∧∃y,C.w.cell? ⟨C.jb key,i * sz'+off+j,none⟩=some y∧C.still (C.jb key) (i * sz'+off+j)∧y.oneCell'=true∧PRel C.w C.still x y:=by
      intro j d c x hd hx
      obtain⟨u,hu,hp⟩:=hget j d hd
      rw[(jv hp).2]at hx
      cases c with
      | succ c=>simp at hx
      | zero =>
       simp at hx;subst hx
       have:=xn hR hs h0 he hu hp
       rw[←Nat.add_assoc]at this
       exact⟨rfl,this⟩
     have:=PRel.slice (w:=C.w) (imm:=C.still) (sz:=1) (es:=(cs.drop off).take n) (tok:= .no) (b:=C.jb key) (off:=i * sz'+off) (cap:=n) (fun j _=>(C.w.cell? ⟨C.jb key,i * sz'+off+j,none⟩).getD undef) (by omega) (.inl rfl) hm (fun j d hd=>by
      obtain⟨u,hu,hp⟩:=hget j d hd
      rw[(jv hp).2];rfl) (fun j d c x hd hx=>by
      obtain⟨rfl,y,a1,a2,a3,a4⟩:=hc j d c x hd hx
      simp[a1,a2,a3]) (fun j d c x hd hx=>by
      obtain⟨rfl,y,a1,a2,a3,a4⟩:=hc j d c x hd hx
      simp[a1,a4])
     rw[hl]at this
     exact this
    ·exact h.elim
   ·exact h.elim
  ·exact h.elim
 | own key g sz n cap =>
  simp only[oV,RM.wp0]at h
  split at h
  ·rename_i sz' es hs
   obtain⟨⟨hg,rfl,h0,hn⟩,h⟩:=h
   split at h
   ·rename_i l hl
    refine⟨_,h,?_⟩
    have hcase:(∃cap,y = .slice (some ⟨C.jb key,0,none⟩) n cap∧n≤cap∧cap≤maxLen)∨(n=0∧∃b,y = .slice b 0 0∧(b=none∨∃x z,b=some ⟨x,z,none⟩)):=by
     cases hv with
     | pure hp=>cases hp
     | ownOld hlt=>rw[hR.gb,hg]at hlt;omega
     | own h hm=>exact .inl ⟨_,rfl,h,hm⟩
     | ownNil hb=>exact .inr ⟨rfl,_,rfl,hb⟩
    rcases hcase with⟨cap,rfl,hcap,hmax⟩|⟨rfl,b,rfl,hb⟩
    rotate_left
    ·have:l=[]:=by simpa[eA]using hl.symm
     subst this
     rcases hb with rfl|⟨x,z,rfl⟩
     ·exact .nil _ _ (.inl rfl)
     ·exact .slice (es:=[]) (fun _ _=>undef) (Nat.le_refl _) (.inl rfl) (by simp) (by simp) (by simp) (by simp)
    obtain⟨hll,hle⟩:=lQ hl
    have hll':l.length=n:=by rw[hll];simp;omega
    have hc:∀(i:Nat) (e:AV) (c:Nat) (x:AV),l[i]?=some e→e.cells[c]?=some x→∃y,C.w.cell? ⟨C.jb key,i * sz'+c,none⟩=some y∧C.still (C.jb key) (i * sz'+c)∧y.oneCell'=true∧PRel C.w C.still x y:=by
     intro i e c x he hx
     obtain⟨u,hu,hp⟩:=hle i e he
     obtain⟨v,hv',hp'⟩:=(gi hp).2 c x hx
     rw[List.getElem?_take]at hu
     split at hu
     ·exact xn hR hs h0 hu hv' hp'
     ·simp at hu
    have:=PRel.slice (w:=C.w) (imm:=C.still) (sz:=sz') (es:=l) (tok:= .no) (b:=C.jb key) (off:=0) (cap:=cap) (fun i c=>(C.w.cell? ⟨C.jb key,i * sz'+c,none⟩).getD undef) (by omega) (.inl rfl) hmax (fun i e he=>by
     obtain⟨u,hu,hp⟩:=hle i e he
     rw[(gi hp).1]
     rw[List.getElem?_take]at hu
     split at hu
     ·exact(hR.box key _ es hs).wid h0 i u hu
     ·simp at hu) (fun i e c x he hx=>by
     obtain⟨y,a1,a2,a3,a4⟩:=hc i e c x he hx
     simp[a1,a2,a3]) (fun i e c x he hx=>by
     obtain⟨y,a1,a2,a3,a4⟩:=hc i e c x he hx
     simp[a1,a4])
    rw[hll']at this
    exact this
   ·exact h.elim
  ·exact h.elim
 | _=>exact other h
theorem fr(hR:Rel N base w0 S C a w):∀{xs:List AV} {ys:List Value},ys.length=xs.length →
  (∀(i:Nat) (x:AV) (y:Value),xs[i]?=some x→ys[i]?=some y→KRel C x y)→∀{k:List AV→RM},(mJ xs k).wp0 P S K →
  ∃l,(k l).wp0 P S K∧l.length=xs.length∧∀(i:Nat) (x:AV) (y:Value),l[i]?=some x→ys[i]?=some y→PRel C.w C.still x y
 | [],ys,hl,_,k,h=>⟨[],h,rfl,by simp⟩
 | x::xs,[],hl,_,k,h=>by simp at hl
 | x::xs,y::ys,hl,hv,k,h=>by
  simp only[mJ]at h
  obtain⟨x',h,hp⟩:=oW hR (hv 0 x y rfl rfl) h
  obtain⟨l,h,h1,h2⟩:=fr hR (xs:=xs) (ys:=ys) (by simpa using hl) (fun i a b ha hb=>hv (i+1) a b (by simpa using ha) (by simpa using hb)) h
  refine⟨x'::l,h,by simp[h1],fun i a b ha hb=>?_⟩
  cases i with
  | zero=>simp at ha hb;subst ha hb;exact hp
  | succ i=>exact h2 i a b (by simpa using ha) (by simpa using hb)
theorem qo(hR:Rel N base w0 S C a w){x:AV}{y:Value}(hv:KRel C x y){k:AV→RM}(h:(snap x k).wp0 P S K) :
  ∃x',(k x').wp0 P S K∧PRel C.w C.still x' y:=by
 cases x with
 | func fn fs cs =>
  simp only[snap]at h
  obtain⟨vf,vc,rfl,h1,h2,h3,h4⟩:∃vf vc,y = .func fn vf vc∧vf.size=fs.length∧vc.size=cs.length∧(∀(i:Nat) (x:AV) (y:Value),fs[i]?=some x→vf[i]?=some y→KRel C x y) ∧
    (∀(i:Nat) (x:AV) (y:Value),cs[i]?=some x→vc[i]?=some y→KRel C x y):=by
   cases hv with
   | pure hp=>cases hp with
    | func a b c d=>exact⟨_,_,rfl,a,b,fun i x y h1 h2=> .pure (c i x y h1 h2),fun i x y h1 h2=> .pure (d i x y h1 h2)⟩
   | func a b c d=>exact⟨_,_,rfl,a,b,c,d⟩
  obtain⟨l1,h,a1,a2⟩:=fr hR (xs:=fs) (ys:=vf.toList) (by simpa using h1) (fun i x y ha hb=>h3 i x y ha (by simpa using hb)) h
  obtain⟨l2,h,b1,b2⟩:=fr hR (xs:=cs) (ys:=vc.toList) (by simpa using h2) (fun i x y ha hb=>h4 i x y ha (by simpa using hb)) h
  exact⟨_,h,.func (by rw[h1,a1]) (by rw[h2,b1]) (fun i x y ha hb=>a2 i x y ha (by simpa using hb)) (fun i x y ha hb=>b2 i x y ha (by simpa using hb))⟩
 | _=>exact oW hR hv h
theorem oY(hR:Rel N base w0 S C a w):∀{xs:List AV} {ys:List Value},ys.length=xs.length →
  (∀(i:Nat) (x:AV) (y:Value),xs[i]?=some x→ys[i]?=some y→KRel C x y)→∀{k:List AV→RM},(zT xs k).wp0 P S K →
  ∃l,(k l).wp0 P S K∧l.length=xs.length∧∀(i:Nat) (x:AV) (y:Value),l[i]?=some x→ys[i]?=some y→PRel C.w C.still x y
 | [],ys,hl,_,k,h=>⟨[],h,rfl,by simp⟩
 | x::xs,[],hl,_,k,h=>by simp at hl
 | x::xs,y::ys,hl,hv,k,h=>by
  simp only[zT]at h
  obtain⟨x',h,hp⟩:=qo hR (hv 0 x y rfl rfl) h
  obtain⟨l,h,h1,h2⟩:=oY hR (xs:=xs) (ys:=ys) (by simpa using hl) (fun i a b ha hb=>hv (i+1) a b (by simpa using ha) (by simpa using hb)) h
  refine⟨x'::l,h,by simp[h1],fun i a b ha hb=>?_⟩
  cases i with
  | zero=>simp at ha hb;subst ha hb;exact hp
  | succ i=>exact h2 i a b (by simpa using ha) (by simpa using hb)
def Fw(lo:Option Nat):Fence:={ fn:=fun _=>True,depth:=none,alive:=false,round:=lo}
def Oper.wpL(lo:Option Nat)(P:Program)(o:Oper)(a:Act)(w:World)(next:Act→World→Prop)(Q:Exit→Act→World→Prop):Prop:=o.wpIn (Fw lo) 0 P a w next Q
theorem ne{lo:Option Nat}{n:Nat}:(Fw lo).depth.isSome=true→1≤n:=fun h=>by simp[Fw]at h
theorem xz{lo:Option Nat}{n:Nat}{f:FuncId}{args:Array Value}{R:Ending→World→Prop}(h:Calls P f args w R):CallsIn (Fw lo) n P f args w R:=(callsIn_wide (n:=n)).2 h
theorem DI{lo:Option Nat}(hd:∀c,o.op≠ .defer c)(h:o.wp P a w next Q):Oper.wpL lo P o a w next Q:=by
 refine⟨fun _ _=>trivial,?_⟩
 rw[Oper.semAt_eq _ _ _ hd]
 unfold Oper.wp at h
 generalize (execOp a.eval o).run P w=r at h
 cases r with
 | ok x w' =>
  cases x<;>simp only[Oper.upon]at h
  case value=>exact h
  case skip=>exact h
  case defer=>exact h
  case enter=>exact⟨ne,xz h⟩
  case row row args =>
   refine⟨ne,fun c cs _=>?_⟩
   obtain⟨v,w'',h1,h2⟩:=h c cs
   exact⟨v,w'',h1,stepsIn_wide.2 h2⟩
  all_goals exact h.elim
 | halt x w' =>
  cases x<;>simp only[Oper.upon]at h<;>first|exact h|exact h.elim
theorem DK(hR:Rel N base w0 S C a w){k:Key}{g:Nat}(hg:(S.box k).1=g){y:Value}(hv:KRel C (.yld k g) y):y = .func (.yield (C.jb k)) #[] #[]:=by
 cases hv with
 | pure hp=>cases hp
 | yldOld hl=>rw[hR.gb k,hg]at hl;omega
 | yld=>rfl
theorem rE{lo:Option Nat}(hR:Rel N base w0 S C a w)(hk:eK N base w0 S C K next){c:Call}{f:Operand}(ho:o.op = .call c)(hb:c.callee = .value f)(hf:inN N f=true)
  (ha:∀x∈c.args.toList,inN N x=true) {k:Key} {g:Nat} (hS:S.val f = .yld k g) (hg:(S.box k).1=g) (h:(gX o.dst (.yld k g) (c.args.toList.map S.val)).wp0 P S K):Oper.wpL lo P o a w next Q:=by
 have hv:=hR.val hf
 rw[hS]at hv
 have hy:=DK hR hg hv
 refine ny (o:=o) (fid:= .yld k g) hR hk (ys:=c.args.map a.eval) (fun _ C1 hj hgb hr=>?_) (by simp) (fun i x y hx hy=>kW hR ha i x y hx (by simpa using hy)) h
 obtain⟨f',tmps,assign,body,h1,h2⟩:=hr (by rw[hgb k g rfl,hR.gb,hg])
 rw[hj]at h1 h2
 refine⟨fun _ _=>trivial,?_⟩
 rw[Oper.semAt_eq _ _ _ (by simp[ho])]
 have exec:(execOp a.eval o).run P w = .ok (.round (C.jb k) f' tmps assign body) w:=by
  simp only[execOp,ho,resolve,hb,hy,Deferred.ofValue,invoke,Sem.run_bind,Sem.run_pure,Result.andThen_ok]
  simpa using h1
 rw[exec,Oper.uponIn_round]
 refine⟨ne,RoundIn.mono (F:=Fw lo) h2 ?_⟩
 rintro e w' ⟨y,rfl,h⟩
 exact h
theorem tw(hR:Rel N base w0 S C a w)(hk:eK N base w0 S C K next){c:Call}{f:Operand}(ho:o.op = .call c)(hb:c.callee = .value f)(hf:inN N f=true)
  (ha:∀x∈c.args.toList,inN N x=true) (cx:Cx) (hny:∀k g,S.val f≠ .yld k g) (h:(oh cx o.dst f c.args.toList).wp0 P S K):o.wp P a w next Q:=by
 unfold oh at h
 rw[cg]at h
 have hv:=hR.val hf
 have exec:∀fid vf vc,a.eval f = .func (.func fid) vf vc→ak P fid→(execOp a.eval o).run P w = .ok (.enter fid (vf++c.args.map a.eval++vc)) w:=by
  intro fid vf vc e hc
  simp only[execOp,ho,resolve,hb,e,Deferred.ofValue,invoke,Sem.run_bind,Sem.run_pure,Result.andThen_ok]
  exact hc _ _
 revert h hv exec hny
 generalize S.val f=v
 generalize a.eval f=y
 intro hny h hv exec
 cases v<;>first|exact h.elim|exact absurd rfl (hny _ _)|skip
 rename_i fn fs cs
 cases fn<;>first|exact h.elim|skip
 rename_i fid
 simp only[eJ]at h
 obtain⟨vf,vc,rfl,h1,h2,h3,h4⟩:∃vf vc,y = .func (.func fid) vf vc∧vf.size=fs.length∧vc.size=cs.length∧(∀(i:Nat) (x:AV) (y:Value),fs[i]?=some x→vf[i]?=some y→KRel C x y) ∧
   (∀(i:Nat) (x:AV) (y:Value),cs[i]?=some x→vc[i]?=some y→KRel C x y):=by
  cases hv with
  | pure hp=>cases hp with
   | func a b c d=>exact⟨_,_,rfl,a,b,fun i x y h1 h2=> .pure (c i x y h1 h2),fun i x y h1 h2=> .pure (d i x y h1 h2)⟩
  | func a b c d=>exact⟨_,_,rfl,a,b,c,d⟩
 have hall:∀(i:Nat) (x:AV) (y:Value),(fs++c.args.toList.map S.val++cs)[i]?=some x→(vf.toList++c.args.toList.map a.eval++vc.toList)[i]?=some y→KRel C x y:=by
  intro i x y hx hy
  by_cases hi:i<fs.length
  ·rw[List.append_assoc,List.getElem?_append_left hi]at hx
   rw[List.append_assoc,List.getElem?_append_left (by simpa[h1]using hi)]at hy
   exact h3 i x y hx (by simpa using hy)
  ·rw[List.append_assoc,List.getElem?_append_right (by omega)]at hx
   rw[List.append_assoc,List.getElem?_append_right (by simp[h1];omega)]at hy
   simp only[Array.length_toList,h1]at hy
   by_cases hi2:i-fs.length<c.args.toList.length
   ·rw[List.getElem?_append_left (by simpa using hi2)]at hx
    rw[List.getElem?_append_left (by simpa using hi2)]at hy
    exact kW hR ha _ x y hx hy
   ·rw[List.getElem?_append_right (by simp at hi2 ⊢;omega)]at hx
    rw[List.getElem?_append_right (by simp at hi2 ⊢;omega)]at hy
    simp only[List.length_map]at hx hy
    exact h4 _ x y hx (by simpa using hy)
 have hlen:(vf.toList++c.args.toList.map a.eval++vc.toList).length=(fs++c.args.toList.map S.val++cs).length:=by simp[h1,h2]
 have harr:vf++c.args.map a.eval++vc=(vf.toList++c.args.toList.map a.eval++vc.toList).toArray:=by
  apply Array.ext';simp
 have fin:∀{l:List AV} {r:AV} {imm:Nat→Nat→Prop},(∀b i,imm b i→b<w.heap.size) →
   (ak P fid∧Calls P fid (vf++c.args.map a.eval++vc) w fun e w'=>∃y imm',e = .returned y∧(∀b i,imm' b i→b<w'.heap.size∧(b<w.heap.size→C.imm b i))∧PRel w' imm' r y∧Below w.heap.size w w') →
   K (putA o.dst r)→o.wp P a w next Q:=by
  intro l r imm himm hc hK
  unfold Oper.wp
  rw[exec fid vf vc rfl hc.1,Oper.upon_enter]
  refine hc.2.mono ?_
  rintro e w' ⟨y,imm',rfl,hi,hp,hbl⟩
  obtain⟨C',hle,hcw,hii,hR'⟩:=hR.called hbl imm' (fun b i h=>(hi b i h).1) hR.baseLe
  refine hk _ C' _ _ hK hle (hR'.putA (.pure ?_) _)
  rw[hcw]
  refine hp.mono fun b i h=>⟨(hii b i).2 ?_,rfl⟩
  by_cases hlt:b<w.heap.size
  ·exact .inl ((hi b i h).2 hlt)
  ·exact .inr ⟨by omega,h⟩
 split at h
 ·refine ny (o:=o) (fid:= .fn fid) (ys:=vf++c.args.map a.eval++vc) hR hk (fun hc C1 _ _ hr=>?_) (by rw[harr];simpa using hlen) (fun i x y hx hy=>by rw[harr]at hy;exact hall i x y hx (by simpa using hy)) h
  unfold Oper.wp
  rw[exec fid vf vc rfl hc,Oper.upon_enter]
  refine Calls.mono hr ?_
  rintro e w' ⟨y,rfl,h⟩
  exact h
 split at h
 ·rename_i l hl
  obtain⟨r,hr,hK⟩:=h
  simp only[Bool.false_eq_true,if_false]at hr
  refine fin (l:=l) (imm:=C.imm) hR.immLt ⟨hr.1,hr.2 w C.imm _ hR.immOk ⟨by rw[harr];simp only[List.size_toArray];rw[hlen,gx hl],fun i x y hx hy=>?_⟩⟩ hK
  obtain⟨u,hu,hp⟩:=gw hl i x hx
  rw[harr]at hy
  rw[←hR.cw]
  exact(hall i u y hu (by simpa using hy)).toPure hp
 ·obtain⟨l,h,hll,hp⟩:=oY hR hlen hall h
  obtain⟨r,hr,hK⟩:=h
  simp only[if_true]at hr
  have hst:∀b i,C.still b i→b<w.heap.size:=fun b i h=>by
   rcases h with h|⟨k,h⟩
   ·exact hR.immLt b i h
   ·exact(hR.ownLt b _ h).2
  refine fin (l:=l) (imm:=C.still) hst ⟨hr.1,(hr.2 w C.still _ ⟨hst,hR.glob.mono fun b i h=>⟨.inl h,rfl⟩⟩ ⟨by rw[harr];simp only[List.size_toArray];rw[hlen,hll],fun i x y hx hy=>?_⟩).mono ?_⟩ hK
  ·rw[harr]at hy
   rw[←hR.cw]
   exact hp i x y hx (by simpa using hy)
  ·rintro e w' ⟨y,imm',he,hi,h1,h2⟩
   exact⟨y,imm',he,fun b i h=>⟨(hi b i h).1,fun hlt=>absurd hlt (hi b i h).2⟩,h1,h2⟩
theorem gy{t:TypeId}{k:KK×AV→RB}(h:(mf P t k).wp0 P S K):∃p,MapTy P t p∧(k p).rm.wp0 P S K:=h
theorem Cl{lo:Option Nat}(cx:Cx)(hR:Rel N base w0 S C a w)(hk:eK N base w0 S C K next)(hin:∀x∈o.op.operands.toList,inN N x=true)
  (h:(opA P cx o).wp0 P S K):Oper.wpL lo P o a w next Q:=by
 by_cases hyl:∃c f k g,o.op = .call c∧c.callee = .value f∧S.val f = .yld k g
 ·obtain⟨c,f,k,g,ho,hb,hS⟩:=hyl
  unfold opA at h
  simp only[ho,hb]at h
  simp only[ho]at hin
  have hargs:∀x∈c.args.toList,inN N x=true:=fun x hx=>hin x (by simp only[Op.operands,Call.operands,Array.toList_append];exact List.mem_append.2 (.inr hx))
  unfold oh at h
  rw[cg,hS]at h
  simp only[eJ]at h
  obtain⟨hg,h⟩:=h
  exact rE hR hk ho hb (hin f (by simp[Op.operands,Call.operands,hb])) hargs hS hg h
 refine DI (fun c hc=>by unfold opA at h;simp only[hc]at h;exact h.elim) ?_
 unfold opA at h
 cases ho:o.op<;>simp only[ho]at h hin<;>try exact h.elim
 case move x=>exact mz hR hk (.inl ho) (hin x (by simp[Op.operands])) h
 case assign x=>exact mz hR hk (.inr ho) (hin x (by simp[Op.operands])) h
 case pick c x y=>exact tD hR hk ho (hin c (by simp[Op.operands])) (hin x (by simp[Op.operands])) (hin y (by simp[Op.operands])) h
 case alloc t=>exact ro cx hR hk ho h
 case box t x=>exact vQ cx hR hk ho (hin x (by simp[Op.operands])) h
 case build t ps=>exact rr hR hk ho (fun p hp=>hin p.2 (by simp only[Op.operands];exact List.mem_map.2 ⟨p,hp,rfl⟩)) h
 case buildSlice t n ps =>
  split at h
  ·rename_i d hd
   split at h
   ·exact jr cx hR hk ho (fun p hp=>hin p.2 (by simp only[Op.operands];exact List.mem_map.2 ⟨p,hp,rfl⟩)) hd h
   ·exact ku hR hk ho (fun p hp=>hin p.2 (by simp only[Op.operands];exact List.mem_map.2 ⟨p,hp,rfl⟩)) h
  ·exact h.elim
 case load t x=>exact tC hR hk ho (hin x (by simp[Op.operands])) h
 case store t x y =>
  split at h
  ·rename_i hd
   exact rD hR hk ho hd (hin x (by simp[Op.operands])) (hin y (by simp[Op.operands])) h
  ·exact h.elim
 case makeSlice t x y =>
  split at h
  ·rename_i d hd
   split at h
   ·rename_i e n bt hts
    split at h
    ·rename_i n' z' hz
     exact kz cx hR hk ho (hin x (by simp[Op.operands])) (hin y (by simp[Op.operands])) hd hts hz h
    ·exact h.elim
   ·exact h.elim
  ·exact h.elim
 case nilCheck x=>exact vW hR hk ho (hin x (by simp[Op.operands])) h
 case binOp op t x y t'=>exact vO hR hk ho (hin x (by simp[Op.operands])) (hin y (by simp[Op.operands])) h
 case unOp op t x=>exact zj hR hk ho (hin x (by simp[Op.operands])) h
 case convert s t x=>exact tz hR hk ho (hin x (by simp[Op.operands])) h
 case makeFunc fn f c=>exact mP hR hk ho (fun x hx=>hin x (by simp only[Op.operands,Array.toList_append];exact List.mem_append.2 (.inl hx))) (fun x hx=>hin x (by simp only[Op.operands,Array.toList_append];exact List.mem_append.2 (.inr hx))) h
 case slice t x lo hi mx =>
  refine lN hR hk ho (hin x (by simp[Op.operands])) (fun y hy=>hin y ?_) (fun y hy=>hin y ?_) (fun y hy=>hin y ?_) h
  all_goals(simp only[Option.mem_def]at hy;subst hy;simp[Op.operands])
 case fieldAddr t x f=>exact ry hR hk ho (hin x (by simp[Op.operands])) h
 case indexAddr t x ix=>exact lL hR hk ho (hin x (by simp[Op.operands])) (hin ix (by simp[Op.operands])) h
 case extract x i=>exact ol hR hk ho (hin x (by simp[Op.operands])) h
 case makeMap t r =>
  cases r with
  | none =>
   simp only at h
   split at h
   ·rename_i d hd
    exact mQ cx hR hk ho hd h
   ·exact h.elim
  | some=>exact h.elim
 case lookup t x ix ok =>
  obtain⟨p,hM,h⟩:=gy h
  exact ot hR hk ho (hin x (by simp[Op.operands])) (hin ix (by simp[Op.operands])) hM h
 case mapUpdate t x ix y =>
  split at h
  ·rename_i hd
   obtain⟨p,hM,h⟩:=gy h
   exact g7 hR hk (.inl ho) hd (hin x (by simp[Op.operands])) (hin ix (by simp[Op.operands])) (hin y (by simp[Op.operands])) hM h
  ·exact h.elim
 case insert t x ix y =>
  split at h
  ·rename_i hd
   obtain⟨p,hM,h⟩:=gy h
   exact g7 hR hk (.inr ho) hd (hin x (by simp[Op.operands])) (hin ix (by simp[Op.operands])) (hin y (by simp[Op.operands])) hM h
  ·exact h.elim
 case mapEntry t x ix =>
  obtain⟨p,hM,h⟩:=gy h
  exact pn hR hk ho (hin x (by simp[Op.operands])) (hin ix (by simp[Op.operands])) hM h
 case entryStore t x ix y =>
  split at h
  ·rename_i hd
   exact js hR hk ho hd (hin x (by simp[Op.operands])) (hin ix (by simp[Op.operands])) (hin y (by simp[Op.operands])) h
  ·exact h.elim
 case index t x ix =>
  split at h
  ·rename_i hu
   exact pq hR hk ho hu (hin x (by simp[Op.operands])) (hin ix (by simp[Op.operands])) h
  ·rename_i hu
   exact pr hR hk ho hu (hin x (by simp[Op.operands])) (hin ix (by simp[Op.operands])) h
  ·exact h.elim
 case field t x f=>exact pp hR hk ho (hin x (by simp[Op.operands])) h
 case range t x =>
  split at h
  ·rename_i d hu hd
   exact pt cx hR hk ho hu hd (hin x (by simp[Op.operands])) h
  ·exact h.elim
 case next x b =>
  cases b with
  | true=>exact rB hR hk ho (hin x (by simp[Op.operands])) h
  | false=>exact h.elim
 case call c =>
  have hargs:∀x∈c.args.toList,inN N x=true:=fun x hx=>hin x (by simp only[Op.operands,Call.operands,Array.toList_append];exact List.mem_append.2 (.inr hx))
  split at h
  ·rename_i hb
   split at h
   ·rename_i x t hx ht
    exact vV hR hk ho hb hx ht (hargs x (by rw[hx];simp)) h
   ·exact h.elim
  ·rename_i hb
   split at h
   ·rename_i x t hx ht
    split at h
    ·rename_i hts
     exact tx hR hk ho hb hx ht (hargs x (by rw[hx];simp)) hts h
    ·exact h.elim
   ·exact h.elim
  ·rename_i hb
   split at h
   ·rename_i x y t t' hx ht
    split at h
    ·subst_vars
     split at h
     ·rename_i d hd
      split at h
      ·split at h
       ·rename_i e n bt hts
        split at h
        ·rename_i n' z' hz
         exact oe cx hR hk ho hb hx ht (hargs x (by rw[hx];simp)) (hargs y (by rw[hx];simp)) hd hts hz h
        ·exact h.elim
       ·exact h.elim
      ·exact pl cx hR hk ho hb hx ht (hargs x (by rw[hx];simp)) (hargs y (by rw[hx];simp)) h
     ·exact h.elim
    ·split at h
     ·rename_i d hd
      split at h
      ·split at h
       ·rename_i hus
        split at h
        ·rename_i e n bt hts
         split at h
         ·rename_i n' z' hz
          exact od cx hR hk ho hb hx ht hus (hargs x (by rw[hx];simp)) (hargs y (by rw[hx];simp)) hd hts hz h
         ·exact h.elim
        ·exact h.elim
       ·rename_i k1 hus
        split at h
        ·rename_i e n bt hts
         split at h
         ·rename_i n' z' hz
          exact oa cx hR hk ho hb hx ht hus (hargs x (by rw[hx];simp)) (hargs y (by rw[hx];simp)) hd hts hz h
         ·exact h.elim
        ·exact h.elim
       ·exact h.elim
      ·exact h.elim
     ·exact h.elim
   ·exact h.elim
  ·rename_i hb
   split at h
   ·rename_i x y t t' hx ht
    split at h
    ·subst_vars
     split at h
     ·rename_i hts
      exact ru hR hk ho hb hx ht (hargs x (by rw[hx];simp)) (hargs y (by rw[hx];simp)) hts h
     ·exact h.elim
    ·exact h.elim
   ·exact h.elim
  ·rename_i hb
   exact mw (mx:=false) hR hk ho hb hargs h
  ·rename_i hb
   exact mw (mx:=true) hR hk ho hb hargs h
  ·rename_i hb
   split at h
   ·rename_i x t hx ht
    split at h
    ·rename_i kt et hu
     exact pm hR hk ho hb hx ht hu (hargs x (by rw[hx];simp)) h
    ·exact h.elim
   ·exact h.elim
  ·rename_i f hb
   exact tw hR hk ho hb (hin f (by simp[Op.operands,Call.operands,hb])) hargs cx (fun k g e=>hyl ⟨c,f,k,g,ho,hb,e⟩) h
  ·exact h.elim
def dQ(P:Program)(cx:Cx)(ops:Array Oper)(o:Oper)(S:St)(K:List Loc→List Wr→Prop):Prop :=
 match o.guard with
 | none=>(opA P cx o).wp P S K
 | some (j,want) =>
  match(ops[j]?).bind (·.dst)with
  | none=>False
  | some t =>
   match S.slot t with
   | .v (.bool b)=>if b=want then(opA P cx o).wp P S (fun l ws=>K (.slot t::l) ws)else K [.slot t] (putA o.dst (.v undef))
   | .v (.tuple _)=>K [.slot t] (putA o.dst (.v undef))
   | _=>False
def Jc(P:Program)(cx:Cx)(ops:Array Oper):List Nat→St→(St→Prop)→Prop
 | [],S,K=>K S
 | i::is,S,K =>
  match ops[i]? with
  | none=>Jc P cx ops is S K
  | some o=>dQ P cx ops o S fun _ ws=>Jc P cx ops is (S.puts ws) K
def KN(N:Nat)(ops:Array Oper)(o:Oper):Bool :=
 o.op.operands.toList.all (inN N)&&match o.guard with
  | none=>true
  | some (j,_)=>match(ops[j]?).bind (·.dst)with
   | some t=>t<N
   | none=>true
def Cr(N:Nat)(ops:Array Oper):Bool:=ops.toList.all (KN N ops)
theorem o6{lo:Option Nat}(cx:Cx){ops:Array Oper}(hin:KN N ops o=true)(hR:Rel N base w0 S C a w){K:List Loc→List Wr→Prop}
  (hk:∀l ws C' a' w',K l ws→C.le C'→Rel N base w0 (S.puts ws) C' a' w'→next a' w') (h:dQ P cx ops o S K) :
  if Region.wanted o (yielded ops a.tmps)then Oper.wpL lo P o a w next Q else next (a.put o.dst undef) w:=by
 unfold dQ at h
 unfold KN at hin
 rw[Bool.and_eq_true]at hin
 have hops:∀x∈o.op.operands.toList,inN N x=true:=List.all_eq_true.1 hin.1
 have run:∀{K:List Loc→List Wr→Prop},(∀l ws C' a' w',K l ws→C.le C'→Rel N base w0 (S.puts ws) C' a' w'→next a' w')→(opA P cx o).wp P S K→Oper.wpL lo P o a w next Q:=by
  intro K hk h
  exact Cl cx hR (fun ws C' a' w' ⟨l,hl⟩ h1 h2=>hk l ws C' a' w' hl h1 h2) hops (RM.wp_wp0 _ h)
 cases hg:o.guard with
 | none =>
  simp only[hg]at h
  have:Region.wanted o (yielded ops a.tmps)=true:=by simp[Region.wanted,hg]
  rw[if_pos this]
  exact run hk h
 | some jw =>
  obtain⟨j,want⟩:=jw
  simp only[hg]at h
  cases ht:(ops[j]?).bind (·.dst)with
  | none=>simp only[ht]at h
  | some t =>
   simp only[ht]at h
   have htN:t<N:=by
    have:=hin.2
    simp only[hg,ht,decide_eq_true_eq]at this;exact this
   split at h
   ·rename_i b hb
    have hy:a.tmps[t]?=some (.bool b):=by
     have h1:=(hR.slot t htN).val (z:= .bool b) (by rw[hb];rfl)
     have hs:t<a.tmps.size:=by rw[hR.size];exact htN
     rw[Array.getD_eq_getD_getElem?,Array.getElem?_eq_getElem hs]at h1
     rw[Array.getElem?_eq_getElem hs]
     exact congrArg some h1
    have hyl:yielded ops a.tmps j=some b:=by simp[yielded,ht,hy]
    split at h
    ·rename_i hbw
     have:Region.wanted o (yielded ops a.tmps)=true:=by simp[Region.wanted,hg,hyl,hbw]
     rw[if_pos this]
     exact run (fun l ws C' a' w' hK=>hk _ ws C' a' w' hK) h
    ·rename_i hbw
     have:¬Region.wanted o (yielded ops a.tmps)=true:=by simp[Region.wanted,hg,hyl,hbw]
     rw[if_neg this]
     exact hk _ _ C _ _ h (.refl C) (hR.putA (.pure (.v _)) _)
   ·rename_i vs hb
    have hy:a.tmps[t]?=some (.tuple vs):=by
     have h1:=(hR.slot t htN).val (z:= .tuple vs) (by rw[hb];rfl)
     have hs:t<a.tmps.size:=by rw[hR.size];exact htN
     rw[Array.getD_eq_getD_getElem?,Array.getElem?_eq_getElem hs]at h1
     rw[Array.getElem?_eq_getElem hs]
     exact congrArg some h1
    have hyl:yielded ops a.tmps j=none:=by simp[yielded,ht,hy]
    have:¬Region.wanted o (yielded ops a.tmps)=true:=by simp[Region.wanted,hg,hyl]
    rw[if_neg this]
    exact hk _ _ C _ _ h (.refl C) (hR.putA (.pure (.v _)) _)
   ·exact h.elim
theorem lV{lo:Option Nat}(cx:Cx){ops:Array Oper}(hin:Cr N ops=true):∀(is:List Nat) {S:St} {C:Ctx} {a:Act} {w:World} {K:St→Prop},Rel N base w0 S C a w →
  (∀S' C' a' w',K S'→C.le C'→Rel N base w0 S' C' a' w'→Q .normal a' w')→Jc P cx ops is S K→wpOpsIn (Fw lo) 0 P ops Q is a w
 | [],S,C,a,w,K,hR,hk,h=>hk S C a w h (.refl C) hR
 | i::is,S,C,a,w,K,hR,hk,h=>by
  simp only[Jc]at h
  simp only[wpOpsIn]
  cases hi:ops[i]? with
  | none=>simp only[hi]at h;exact lV cx hin is hR hk h
  | some o =>
   simp only[hi]at h
   have ho:KN N ops o=true:=List.all_eq_true.1 hin o (by simpa using Array.mem_of_getElem? hi)
   have:=o6 (lo:=lo) (Q:=Q) (next:=wpOpsIn (Fw lo) 0 P ops Q is) cx ho hR (fun l ws C' a' w' hK hle hR'=>lV cx hin is hR' (fun S'' C'' a'' w'' h1 h2 h3=>hk S'' C'' a'' w'' h1 (hle.trans h2) h3) hK) h
   dsimp only
   split
   ·rename_i hw;rw[if_pos hw]at this;exact this
   ·rename_i hw;rw[if_neg hw]at this;exact⟨fun _ _=>trivial,this⟩
end
end Go.Am
namespace Go.Am
open Go.RowKit
def WpA(rd:Bool)(P:Program)(N:Nat)(c:Code)(Q:Exit→St→Prop)(S:St):Prop :=
 ∀lo,(rd=false→lo=none)→∀base w0 C a w,Rel N base w0 S C a w→c.wpIn (Fw lo) 0 P (fun e a' w'=>∃S' C',Q e S'∧C.le C'∧Rel N base w0 S' C' a' w') a w
theorem jI{F:Fence}{n:Nat}{P:Program}{Q:Exit→Act→World→Prop}{a:Act}{w:World}{c:Code}(h:c.wpIn F n P (Exit.noGoto Q) a w):(Code.scope c).wpIn F n P Q a w:=by
 intro b k cs hro hb hr
 have h0:(lone (b.atR a (.code (.scope c)::k)) cs w).fenced P F:=fenced_calm hb hr rfl
 have stepR_scope:step P (lone (b.atR a (.code (.scope c)::k)) cs w) = .next (lone (b.atR a (.code c:: .inScope c::k)) cs w) :=
  step_lone_go (by simp[stepG,stepG.exec,Frame.atR])
 have stepR_inScope:∀a w,step P (lone (b.atR a (.inScope c::k)) cs w) = .next (lone (b.atR a k) cs w) :=
  fun a w=>step_lone_go (by simp[stepG,stepG.exec,Frame.atR])
 obtain⟨e,a₁,w₁,hq,harr⟩:=h b (.inScope c::k) cs hro hb hr
 cases e with
 | normal=>exact⟨.normal,a₁,w₁,hq,.head h0 stepR_scope (StepsIn.trans harr (.one (fenced_calm hb hr rfl) (stepR_inScope _ _)))⟩
 | exit id =>
  have hx:exitTo id (.inScope c::k)=exitTo id k:=by simp[exitTo]
  exact⟨.exit id,a₁,w₁,hq,fun k' hk=> .head h0 stepR_scope (harr.1 k' (by rw[hx];exact hk)),
   fun hr' hk=>let ⟨k₁,h1,h2⟩:=harr.2 hr' (by rw[hx];exact hk);⟨k₁,h1,.head h0 stepR_scope h2⟩⟩
 | goto l=>exact hq.elim
 | ret=>exact⟨_,a₁,w₁,hq,.of_steps (.one h0 stepR_scope) harr⟩
 | panic ch=>exact⟨_,a₁,w₁,hq,.of_steps (.one h0 stepR_scope) harr⟩
 | outgrown=>exact⟨_,a₁,w₁,hq,.of_steps (.one h0 stepR_scope) harr⟩
section
variable {rd:Bool} {P:Program} {N:Nat} {Q:Exit→St→Prop} {S:St}
theorem WpA.mono{c:Code}{Q':Exit→St→Prop}(h:WpA rd P N c Q S)(hq:∀e S,Q e S→Q' e S):WpA rd P N c Q' S :=
 fun lo hlo base w0 C a w hR=>wpIn_mono (h lo hlo base w0 C a w hR) fun _ _ _ ⟨S',C',h1,h2,h3⟩=>⟨S',C',hq _ _ h1,h2,h3⟩
theorem Ec(h:Q .normal S):WpA rd P N .skip Q S:=fun _ _ _ _ C _ _ hR=>wpIn_skip ⟨S,C,h,.refl C,hR⟩
theorem Az{l:Nat}(h:Q .normal S):WpA rd P N (.label l) Q S:=fun _ _ _ _ C _ _ hR=>wpIn_label ⟨S,C,h,.refl C,hR⟩
theorem Ea{i:Nat}(h:Q (.exit i) S):WpA rd P N (.exit i) Q S:=fun _ _ _ _ C _ _ hR=>wpIn_exit ⟨S,C,h,.refl C,hR⟩
theorem G9(h:Q .ret S):WpA rd P N .ret Q S:=fun _ _ _ _ C _ _ hR=>wpIn_ret ⟨S,C,h,.refl C,hR⟩
def zY(next:St→Prop)(Q:Exit→St→Prop):Exit→St→Prop
 | .normal,S=>next S
 | e,S=>Q e S
def pz(id:Nat)(Q:Exit→St→Prop):Exit→St→Prop
 | .exit id',S=>if id'=id then Q .normal S else Q (.exit id') S
 | e,S=>Q e S
theorem Ha{x y:Code}(h:WpA rd P N x (zY (WpA rd P N y Q) Q) S):WpA rd P N (.seq x y) Q S:=by
 intro lo hlo base w0 C a w hR
 refine wpIn_seq (wpIn_mono (h lo hlo base w0 C a w hR) ?_)
 rintro e a' w' ⟨S',C',h1,h2,h3⟩
 cases e with
 | normal=>exact wpIn_mono (h1 lo hlo base w0 C' a' w' h3) fun e a'' w'' ⟨S'',C'',k1,k2,k3⟩=>⟨S'',C'',k1,h2.trans k2,k3⟩
 | _=>exact⟨S',C',h1,h2,h3⟩
theorem D9{c:Operand}{x y:Code}{t:Bool}(hin:inN N c=true)(hc:S.val c = .v (.bool t))(h:WpA rd P N (if t then x else y) Q S):WpA rd P N (.cond c x y) Q S:=by
 intro lo hlo base w0 C a w hR
 exact wpIn_cond ((hR.val hin).val (z:= .bool t) (by rw[hc];rfl)) (h lo hlo base w0 C a w hR)
theorem Ay{id:Nat}{c:Code}(h:WpA rd P N c (pz id Q) S):WpA rd P N (.block id c) Q S:=by
 intro lo hlo base w0 C a w hR
 refine wpIn_block (wpIn_mono (h lo hlo base w0 C a w hR) ?_)
 rintro e a' w' ⟨S',C',h1,h2,h3⟩
 cases e with
 | exit id' =>
  simp only[Exit.inBlock,pz]at h1 ⊢
  split
  ·rename_i e;rw[if_pos e]at h1;exact⟨S',C',h1,h2,h3⟩
  ·rename_i e;rw[if_neg e]at h1;exact⟨S',C',h1,h2,h3⟩
 | _=>exact⟨S',C',h1,h2,h3⟩
theorem AA{c:Code}(h:WpA rd P N c (fun | .goto _,_=>False|e,S=>Q e S) S):WpA rd P N (.scope c) Q S:=by
 intro lo hlo base w0 C a w hR
 refine jI (wpIn_mono (h lo hlo base w0 C a w hR) ?_)
 rintro e a' w' ⟨S',C',h1,h2,h3⟩
 cases e with
 | goto=>exact h1
 | _=>exact⟨S',C',h1,h2,h3⟩
theorem pi{F:Fence}{n:Nat}{Q:Exit→Act→World→Prop}{a:Act}{w:World}{c:Code}(I:Nat→Act→World→Prop)(n₀:Nat)(h₀:I n₀ a w)
  (round:∀m a w,I m a w→c.wpIn F n P (Exit.then (fun a' w'=>∃m',m'<m∧I m' a' w') Q) a w):(Code.loop c).wpIn F n P Q a w:=by
 refine wpIn_loop (fun a w=>∃n,I n a w) (fun a w=>leastOf (fun n=>I n a w)) ⟨n₀,h₀⟩ ?_
 intro a w hI
 refine wpIn_mono (round _ a w (leastOf_spec hI).1) ?_
 intro e a' w' hq
 cases e with
 | normal =>
  obtain⟨m',hlt,hm⟩:=hq
  exact⟨⟨m',hm⟩,Nat.lt_of_le_of_lt ((leastOf_spec ⟨m',hm⟩).2 m' hm) hlt⟩
 | _=>exact hq
theorem Eb{c:Code}(I:Nat→St→Prop)(n₀:Nat)(h₀:I n₀ S)(round:∀n S,I n S→WpA rd P N c (zY (fun S'=>∃n',n'<n∧I n' S') Q) S):WpA rd P N (.loop c) Q S:=by
 intro lo hlo base w0 C a w hR
 refine pi (fun n a' w'=>∃S' C',I n S'∧C.le C'∧Rel N base w0 S' C' a' w') n₀ ⟨S,C,h₀,.refl C,hR⟩ ?_
 rintro n a1 w1 ⟨S1,C1,hI,hle,hR1⟩
 refine wpIn_mono (round n S1 hI lo hlo base w0 C1 a1 w1 hR1) ?_
 rintro e a' w' ⟨S',C',h1,h2,h3⟩
 cases e with
 | normal =>
  obtain⟨n',hn,hI'⟩:=h1
  exact⟨n',hn,S',C',hI',hle.trans h2,h3⟩
 | _=>exact⟨S',C',h1,hle.trans h2,h3⟩
theorem yq(cx:Cx){id:Nat}{ops:Array Oper}(hin:Cr N ops=true)(h:Jc P cx ops (List.range ops.size) S (Q .normal)):WpA rd P N (.region id ops false) Q S :=
 fun _ _ _ _ _ _ _ hR=>wpIn_region (lV cx hin _ hR (fun S' C' _ _ h1 h2 h3=>⟨S',C',h1,h2,h3⟩) h)
def frz(x:AV)(k:AV→RM):RM :=
 match x with
 | .agg cs=>mJ cs fun l=>k (.agg l)
 | x=>snap x k
theorem sT{base:Nat→Prop}{w0:World}{C:Ctx}{a:Act}{w:World}(hR:Rel N base w0 S C a w){x:AV}{y:Value}(hv:KRel C x y){K:List Wr→Prop}{k:AV→RM}(h:(frz x k).wp0 P S K) :
  ∃x',(k x').wp0 P S K∧PRel C.w C.still x' y:=by
 cases x with
 | agg cs =>
  simp only[frz]at h
  obtain⟨vs,rfl,h1,h2,h3⟩:∃vs,y = .agg vs∧vs.size=cs.length∧(∀(i:Nat) (x:AV) (y:Value),cs[i]?=some x→vs[i]?=some y→KRel C x y)∧∀y∈vs,y.oneCell'=true:=by
   cases hv with
   | pure hp=>cases hp with
    | agg a b c=>exact⟨_,rfl,a,fun i x y h1 h2=> .pure (b i x y h1 h2),c⟩
   | agg a b c=>exact⟨_,rfl,a,b,c⟩
  obtain⟨l1,h,a1,a2⟩:=fr hR (xs:=cs) (ys:=vs.toList) (by simpa using h1) (fun i x y ha hb=>h2 i x y ha (by simpa using hb)) h
  exact⟨_,h,.agg (by rw[h1,a1]) (fun i x y ha hb=>a2 i x y ha (by simpa using hb)) h3⟩
 | _=>exact qo hR hv h
def ud(P:Program):List ResultVar→(List AV→RM)→RM
 | [],k=>k []
 | .tmp t::rs,k=> .slot t fun v=>frz v fun v=>ud P rs fun l=>k (v::l)
 | .cell a t::rs,k=>g3 P t (.tmp a) fun v=>frz v fun v=>ud P rs fun l=>k (v::l)
def oneOf:List AV→AV
 | [x]=>x
 | l=> .tuple l
def Lj(P:Program)(fn:Func)(S:St)(res:AV):Prop :=
 (ud P fn.results.toList fun l=> .need (res=oneOf l) (.done [])).wp0 P S fun _=>True
def pu(N:Nat):ResultVar→Bool
 | .tmp t=>t<N
 | .cell a _=>a<N
theorem jy{base:Nat→Prop}{w0:World}{C:Ctx}{a:Act}{w:World}(hR:Rel N base w0 S C a w){K:List Wr→Prop}:∀(rs:List ResultVar) {k:List AV→RM},(∀r∈rs,pu N r=true) →
  (ud P rs k).wp0 P S K→∃l ys,(k l).wp0 P S K∧ys.length=l.length∧(∀(i:Nat) (x:AV) (y:Value),l[i]?=some x→ys[i]?=some y→PRel w C.still x y) ∧
   (rs.mapM fun r=>(match r with
    | .tmp t=>Pure.pure (a.tmps.getD t undef)
    | .cell x t=>do loadVar t (←asAddr (a.tmps.getD x undef)):Sem Value)).run P w = .ok ys w
 | [],k,_,h=>⟨[],[],h,rfl,by simp,rfl⟩
 | .tmp t::rs,k,hin,h=>by
  simp only[ud,RM.wp0]at h
  obtain⟨x',h,hv⟩:=sT hR (hR.slot t (by simpa[pu]using hin (.tmp t) (by simp))) h
  obtain⟨l,ys,h1,h2,h3,h4⟩:=jy hR rs (fun r hr=>hin r (by simp[hr])) h
  rw[hR.cw]at hv
  refine⟨_,a.tmps.getD t undef::ys,h1,by simp[h2],fun i x y hx hy=>?_,by simp only[List.mapM_cons,Sem.run_bind,Sem.run_pure,Result.andThen_ok,h4]⟩
  cases i with
  | zero=>simp only[List.getElem?_cons_zero,Option.some.injEq]at hx hy;subst hx hy;exact hv
  | succ i=>exact h3 i x y (by simpa using hx) (by simpa using hy)
 | .cell x t::rs,k,hin,h=>by
  simp only[ud]at h
  obtain⟨v,r,b,off,h,e,hl,hv⟩:=gh hR (by simpa[inN,pu]using hin (.cell x t) (by simp)) h
  obtain⟨x',h,hv⟩:=sT hR hv h
  obtain⟨l,ys,h1,h2,h3,h4⟩:=jy hR rs (fun r hr=>hin r (by simp[hr])) h
  rw[hR.cw]at hv
  have e':(asAddr (a.tmps.getD x undef)).run P w = .ok ⟨b,off,none⟩ w:=by
   have e1:a.tmps.getD x undef = .pointer (some ⟨b,off,none⟩):=e
   rw[e1];rfl
  refine⟨_,r::ys,h1,by simp[h2],fun i x y hx hy=>?_,by simp only[List.mapM_cons,Sem.run_bind,e',Sem.run_pure,Result.andThen_ok,hl,h4]⟩
  cases i with
  | zero=>simp only[List.getElem?_cons_zero,Option.some.injEq]at hx hy;subst hx hy;exact hv
  | succ i=>exact h3 i x y (by simpa using hx) (by simpa using hy)
def l8(args:List AV):St:={ slot:=fun i=>args.getD i (.v undef),box:=fun _=>(0,none),tk:=fun _=>(0,0)}
theorem C6{w:World}{imm:Nat→Nat→Prop}{args:List AV}{cargs:Array Value}(hi:ImmOk w imm)(hp:mM w imm args cargs)(hn:args.length≤N) :
  Rel N (· < w.heap.size) w (l8 args) { w,imm,own:=fun _=>none,gb:=fun _=>0,jb:=fun _=>0,gt:=fun _=>0,hw:=fun _=>0} { tmps:=cargs++Array.replicate (N-cargs.size) undef,defers:=[]} w where
 cw:=rfl
 glob:=hi.glob
 size:=by have:=hp.1;simp;omega
 defers:=k9.nil _ _
 slot i hin:=by
  refine .pure ?_
  have hs:=hp.1
  by_cases h:i<args.length
  ·have e1:(l8 args).slot i=args[i]:=by simp[l8,h]
   have e2:(cargs++Array.replicate (N-cargs.size) undef).getD i undef=cargs[i]:=by
    rw[Array.getD_eq_getD_getElem?,Array.getElem?_append_left (by omega)];simp[hs,h]
   rw[e1,e2]
   exact hp.2 i _ _ (by simp[h]) (by simp[hs,h])
  ·have e1:(l8 args).slot i = .v undef:=by simp[l8,List.getD,List.getElem?_eq_none (by omega:args.length≤i)]
   have e2:(cargs++Array.replicate (N-cargs.size) undef).getD i undef=undef:=by
    rw[Array.getD_eq_getD_getElem?,Array.getElem?_append_right (by omega)]
    cases hq:(Array.replicate (N-cargs.size) undef)[i-cargs.size]? with
    | none=>rfl
    | some q=>simp[Array.getElem?_replicate]at hq;simp[hq.2]
   rw[e1,e2];exact .v _
 gb _:=rfl
 gt _:=rfl
 hw _:=rfl
 box k sz es h:=by simp[l8]at h
 ownBox b k h:=by simp at h
 immLt:=hi.lt
 ownLt b o h:=by simp at h
 below:=Bel.refl _ _
 base _ h:=h
theorem Rel.shut{base:Nat→Prop}{w0:World}{C:Ctx}{tmps:Array Value}{ds:List Deferred}{D:Nat}{w:World}(hR:Rel N base w0 S C { tmps,defers:=ds} w)(ho:C.own D=none)(hD:w0.heap.size≤D)(hi:∀i,¬C.imm D i)
  (hnd:∀d∈ds,d≠{ target:= .collected D,args:=#[]}) (o:Obj) :
  Rel N base w0 S { C with w:=w.putObj D o} { tmps,defers:=ds} (w.putObj D o)∧∀C0:Ctx,C0.w.heap.size≤w0.heap.size→C0.le C→C0.le { C with w:=w.putObj D o}:=by
 have hw:=hR.cw
 subst hw
 have hother:∀b,b≠D→(C.w.putObj D o).heap[b]?=C.w.heap[b]?:=fun b hb=>World.putObj_heap_other hb
 have hne:∀b o',C.own b=some o'→b≠D:=fun b o' h e=>by rw[e,ho]at h;cases h
 have hcell:∀b i,C.imm b i→(C.w.putObj D o).cell? ⟨b,i,none⟩=C.w.cell? ⟨b,i,none⟩:=fun b i h=>World.cell?_of_block (hother b fun e=>hi i (e▸h))
 have hle0:C.le0 { C with w:=C.w.putObj D o}:=by
  refine⟨fun b i h=>⟨h,hcell b i h⟩,fun _=>Nat.le_refl _,fun _ _=>rfl,fun _=>Nat.le_refl _,fun _ _=>Nat.le_refl _,fun k b _ _ h=>⟨h,fun _ h=>h,fun arr e h'=>⟨arr,?_,rfl⟩⟩,
   fun k _ h=>⟨h,fun arr e h'=>⟨arr,e,?_,Nat.le_refl _⟩⟩,by simp,fun _ _ _ h=> .inl h,fun _ _ _ h=>h⟩
  ·exact(hother b (hne b _ h)).trans h'
  ·exact(hother _ (hne _ _ h)).trans h'
 refine⟨?_,fun C0 hsz hle=>?_⟩
 ·exact {
   cw:=rfl,glob:=(by first|exact hR.glob|exact hR.globOf (by first|exact hle.le0|exact hle|exact hle0|exact hCle.le0) (by first|rfl|exact h1.cw|(rw[hC'];first|done|exact hR.cw)|exact hR.cw)),size:=hR.size
   defers:=⟨hR.defers.1,fun d hd=>by
    obtain⟨D',e,h1,h2,h3,h4⟩:=hR.defers.2 d hd
    exact⟨D',e,h1,h2,h3,(hother D' fun e'=>hnd d hd (by rw[e,e'])).trans h4⟩⟩
   slot:=fun i hi=>(hR.slot i hi).le0 hle0,gb:=hR.gb,gt:=hR.gt,hw:=hR.hw
   box:=fun k sz es h=>(hR.box k sz es h).mono0 hle0 rfl (fun _=>rfl) (fun h=>hother _ (hne _ _ h))
   ownBox:=hR.ownBox
   immLt:=fun b i h=>by have:=hR.immLt b i h;simpa using this
   ownLt:=fun b o h=>by have:=hR.ownLt b o h;simpa using this
   below:=hR.below.trans ⟨rfl,rfl,rfl,by simp,fun b hb=>hother b fun e=>by have:=hR.base b hb;omega⟩
   base:=hR.base}
 ·refine⟨fun b i h=>?_,hle.gb,hle.jb,hle.gt,hle.hw,fun k b e1 e2 h=>?_,fun k e h=>?_,by have:=hle.size;simpa using this,hle.immOld,hle.ownOld,fun b hb h=>?_⟩
  ·obtain⟨a1,a2⟩:=hle.imm b i h
   exact⟨a1,(hcell b i a1).trans a2⟩
  ·obtain⟨a1,a2,a3⟩:=hle.tl k b e1 e2 h
   refine⟨a1,a2,fun arr e h'=>?_⟩
   obtain⟨arr',b1,b2⟩:=a3 arr e h'
   exact⟨arr',(hother b (hne b _ a1)).trans b1,b2⟩
  ·obtain⟨a1,a2⟩:=hle.bs k e h
   refine⟨a1,fun arr e h'=>?_⟩
   obtain⟨arr',e',b1,b2⟩:=a2 arr e h'
   exact⟨arr',e',(hother _ (hne _ _ a1)).trans b1,b2⟩
  ·exact(hother b (by omega)).trans (hle.free b hb h)
theorem gV{fn:Func}{R:Ending→World→Prop}{base:Nat→Prop}{w0:World}{tmps:Array Value}{C0:Ctx}(hsz:C0.w.heap.size≤w0.heap.size):∀(ds:List Deferred) {C:Ctx} {w:World},
  Rel N base w0 S C { tmps,defers:=ds} w→C0.le C→(∀C' w',C0.le C'→Rel N base w0 S C' { tmps,defers:=[]} w'→∃v,(results fn tmps).run P w' = .ok v w'∧R (.returned v) w') →
  LeavesInM (Fw none) 0 P fn tmps R ds .returning w
 | [],C,w,hR,hle,h=>h C w hle hR
 | d::ds,C,w,hR,hle,h=>by
  have hnd:=hR.defers.1
  obtain⟨D,e,h1,h2,h3,h4⟩:=hR.defers.2 d (by simp)
  rw[hR.cw]at h4
  have hR1:Rel N base w0 S C { tmps,defers:=ds} w:={ cw:=hR.cw,glob:=(by first|exact hR.glob|exact hR.globOf (by first|exact hle.le0|exact hle|exact hle0|exact hCle.le0) (by first|rfl|exact h1.cw|(rw[hC'];first|done|exact hR.cw)|exact hR.cw)),size:=hR.size,defers:=⟨(List.nodup_cons.1 hnd).2,fun d hd=>hR.defers.2 d (List.mem_cons_of_mem _ hd)⟩,slot:=hR.slot,gb:=hR.gb,gt:=hR.gt,hw:=hR.hw,box:=hR.box,ownBox:=hR.ownBox,immLt:=hR.immLt,ownLt:=hR.ownLt,below:=hR.below,base:=hR.base}
  obtain⟨hR2,hle2⟩:=hR1.shut h1 h2 h3 (fun d' hd e'=>(List.nodup_cons.1 hnd).1 (by rw[e, ←e'];exact hd)) (.deferred none)
  refine⟨by simp,.inl ⟨D,_,by rw[e],run_takeDeferred h4,gV hsz ds hR2 (hle2 C0 hsz hle) h⟩⟩
theorem Fx{f:FuncId}{fn:Func}{c:Code}{args:List AV}{res:AV}(hc:ak P f)(hf:P.funcs[f]?=some fn)(hb:fn.body=some c)
  (hst:(decide (args.length≤fn.ntmps)&&fn.results.toList.all (pu fn.ntmps))=true)
  (h:WpA false P fn.ntmps c (fun e S'=>(e = .normal∨e = .ret)∧Lj P fn S' res) (l8 args)):PureA P f args res:=by
 rw[Bool.and_eq_true]at hst
 refine⟨hc,fun w imm cargs hi hp=>callsIn_wide.1 (callsIn_of_wp_marks (F:=Fw none) (n:=0) hf hb trivial ?_)⟩
 have hR:=C6 (N:=fn.ntmps) hi hp (by simpa using hst.1)
 refine wpIn_mono (h none (fun _=>rfl) _ _ _ _ _ hR) ?_
 rintro e a' w' ⟨S',C',⟨he,hres⟩,hle,hR'⟩
 have post:LeavesInM (Fw none) 0 P fn a'.tmps (fun e w'=>∃y imm',e = .returned y∧(∀b i,imm' b i→b<w'.heap.size∧(b<w.heap.size→imm b i))∧PRel w' imm' res y∧Below w.heap.size w w') a'.defers .returning w':=by
  refine gV (w0:=w) (by exact Nat.le_refl _) a'.defers hR' hle fun C'' w'' hle'' hR''=>?_
  unfold Lj at hres
  obtain⟨l,ys,h1,h2,h3,h4⟩:=jy hR'' _ (fun r hr=>List.all_eq_true.1 hst.2 r hr) hres
  obtain⟨hl,_⟩:=h1
  have hrun:(results fn a'.tmps).run P w'' = .ok (if h:ys.toArray.size=1 then ys.toArray[0]else .tuple ys.toArray) w'':=by
   unfold results
   simp only[Sem.run_bind,Array.mapM_eq_mapM_toList,Sem.run_map]
   erw [h4];rfl
  have hrel:PRel w'' C''.still res (if h:ys.toArray.size=1 then ys.toArray[0]else .tuple ys.toArray):=by
   rw[hl]
   by_cases h1:ys.length=1
   ·rw[dif_pos (by simpa using h1)]
    obtain⟨y,rfl⟩:∃y,ys=[y]:=List.length_eq_one_iff.1 h1
    obtain⟨x,rfl⟩:∃x,l=[x]:=List.length_eq_one_iff.1 (by omega)
    exact h3 0 x y rfl rfl
   ·rw[dif_neg (by simpa using h1)]
    have:oneOf l = .tuple l:=by
     match l,h2,h1 with
     | [],_,_=>rfl
     | [x],h2,h1=>simp at h2;omega
     | _::_::_,_,_=>rfl
    rw[this]
    exact .tuple (by simpa using h2) (fun i x y hx hy=>h3 i x y hx (by simpa using hy))
  refine⟨_,hrun,_,C''.still,rfl,fun b i hb=>?_,hrel,qJ hR''.below⟩
  rcases hb with hb|⟨k,hk⟩
  ·refine⟨hR''.immLt b i hb,fun hlt=>?_⟩
   rcases hle''.immOld b i hlt hb with h|⟨k,h⟩|⟨k,h,_⟩
   ·exact h
   ·simp at h
   ·simp at h
  ·exact⟨(hR''.ownLt b _ hk).2,fun hlt=>absurd hlt (hR''.ownLt b _ hk).1⟩
 rcases he with rfl|rfl
 ·exact post
 ·exact post
end
theorem u0{P:Program}{f:FuncId}{fn:Func}(h:P.funcs[f]?=some fn)(h1:(fn.name == "runtime.NumGoroutine")=false)(h2:fn.body.isNone=false):ak P f:=by
 intro args w
 simp only[callFunc,Sem.run_bind,run_program,Result.andThen_ok,h,h1,h2,Bool.false_eq_true,if_false]
 rfl
end Go.Am
