/- Part 4 of the texts that the last one stands on. -/
import Derived.Test.YtgncapdjheghfaaGreatDoorB3
set_option linter.unusedVariables false
set_option linter.unusedSimpArgs false
namespace Go.Am
open Go.RowKit
def wV(P:Program):List ResultVar→(List AV→RM)→RM
 | [],k=>k []
 | .tmp t::rs,k=> .slot t fun v=>wV P rs fun l=>k (v::l)
 | .cell a t::rs,k=>g3 P t (.tmp a) fun v=>wV P rs fun l=>k (v::l)
theorem jz{P:Program}{N:Nat}{S:St}{base:Nat→Prop}{w0:World}{C:Ctx}{a:Act}{w:World}(hR:Rel N base w0 S C a w){K:List Wr→Prop}:∀(rs:List ResultVar) {k:List AV→RM},(∀r∈rs,pu N r=true) →
  (wV P rs k).wp0 P S K→∃l ys,(k l).wp0 P S K∧ys.length=l.length∧(∀(i:Nat) (x:AV) (y:Value),l[i]?=some x→ys[i]?=some y→KRel C x y) ∧
   (rs.mapM fun r=>(match r with
    | .tmp t=>Pure.pure (a.tmps.getD t undef)
    | .cell x t=>do loadVar t (←asAddr (a.tmps.getD x undef)):Sem Value)).run P w = .ok ys w
 | [],k,_,h=>⟨[],[],h,rfl,by simp,rfl⟩
 | .tmp t::rs,k,hin,h=>by
  simp only[wV,RM.wp0]at h
  obtain⟨l,ys,h1,h2,h3,h4⟩:=jz hR rs (fun r hr=>hin r (by simp[hr])) h
  have hv:=hR.slot t (by simpa[pu]using hin (.tmp t) (by simp))
  refine⟨_,a.tmps.getD t undef::ys,h1,by simp[h2],fun i x y hx hy=>?_,by simp only[List.mapM_cons,Sem.run_bind,Sem.run_pure,Result.andThen_ok,h4]⟩
  cases i with
  | zero=>simp only[List.getElem?_cons_zero,Option.some.injEq]at hx hy;subst hx hy;exact hv
  | succ i=>exact h3 i x y (by simpa using hx) (by simpa using hy)
 | .cell x t::rs,k,hin,h=>by
  simp only[wV]at h
  obtain⟨v,r,b,off,h,e,hl,hv⟩:=gh hR (by simpa[inN,pu]using hin (.cell x t) (by simp)) h
  obtain⟨l,ys,h1,h2,h3,h4⟩:=jz hR rs (fun r hr=>hin r (by simp[hr])) h
  have e':(asAddr (a.tmps.getD x undef)).run P w = .ok ⟨b,off,none⟩ w:=by
   have e1:a.tmps.getD x undef = .pointer (some ⟨b,off,none⟩):=e
   rw[e1];rfl
  refine⟨_,r::ys,h1,by simp[h2],fun i x y hx hy=>?_,by simp only[List.mapM_cons,Sem.run_bind,e',Sem.run_pure,Result.andThen_ok,hl,h4]⟩
  cases i with
  | zero=>simp only[List.getElem?_cons_zero,Option.some.injEq]at hx hy;subst hx hy;exact hv
  | succ i=>exact h3 i x y (by simpa using hx) (by simpa using hy)
def J3(P:Program)(fn:Func)(S:St)(res:AV):Prop :=
 (wV P fn.results.toList fun l=> .need (res=oneOf l) (.done [])).wp0 P S fun _=>True
def dV(pre:List cr)(args:List AV):St:={ slot:=fun i=>args.getD i (.v undef),box:=cD pre,tk:=fun _=>(0,0)}
theorem zU{P:Program}{N:Nat}{base:Nat→Prop}{C:Ctx}{w0 w:World}{pre:List cr}{args:List AV}{cargs:Array Value}(hR:Rel 0 base w0 (fS pre) C ⟨#[],[]⟩ w)(hp:G7 C args cargs)(hn:args.length≤N) :
  Rel N base w0 (dV pre args) C { tmps:=cargs++Array.replicate (N-cargs.size) undef,defers:=[]} w where
 cw:=hR.cw
 glob:=(by first|exact hR.glob|exact hR.globOf (by first|exact hle.le0|exact hle|exact hle0|exact hCle.le0) (by first|rfl|exact h1.cw|(rw[hC'];first|done|exact hR.cw)|exact hR.cw))
 size:=by have:=hp.1;simp;omega
 defers:=k9.nil _ _
 slot i hin:=by
  have hs:=hp.1
  by_cases h:i<args.length
  ·have e1:(dV pre args).slot i=args[i]:=by simp[dV,h]
   have e2:(cargs++Array.replicate (N-cargs.size) undef).getD i undef=cargs[i]:=by
    rw[Array.getD_eq_getD_getElem?,Array.getElem?_append_left (by omega)];simp[hs,h]
   rw[e1,e2]
   exact hp.2 i _ _ (by simp[h]) (by simp[hs,h])
  ·have e1:(dV pre args).slot i = .v undef:=by simp[dV,List.getD,List.getElem?_eq_none (by omega:args.length≤i)]
   have e2:(cargs++Array.replicate (N-cargs.size) undef).getD i undef=undef:=by
    rw[Array.getD_eq_getD_getElem?,Array.getElem?_append_right (by omega)]
    cases hq:(Array.replicate (N-cargs.size) undef)[i-cargs.size]? with
    | none=>rfl
    | some q=>simp[Array.getElem?_replicate]at hq;simp[hq.2]
   rw[e1,e2];exact .pure (.v _)
 gb:=hR.gb
 gt:=hR.gt
 hw:=hR.hw
 box:=hR.box
 ownBox:=hR.ownBox
 immLt:=hR.immLt
 ownLt:=hR.ownLt
 below:=hR.below
 base:=hR.base
theorem uO{P:Program}{f:FuncId}{fn:Func}{c:Code}{pre post:List cr}{args:List AV}{res:AV}(hc:ak P f)(hf:P.funcs[f]?=some fn)(hb:fn.body=some c)
  (hst:(decide (args.length≤fn.ntmps)&&fn.results.toList.all (pu fn.ntmps))=true)
  (h:WpA false P fn.ntmps c (fun e S'=>(e = .normal∨e = .ret)∧J3 P fn S' res∧∀p∈post,S'.box p.1=(p.2.1,some (p.2.2.1,p.2.2.2))) (dV pre args)):BoxA P (.fn f) pre args res post:=by
 rw[Bool.and_eq_true]at hst
 refine⟨hc,fun C w cargs hR0 hown hp=>callsIn_wide.1 (callsIn_of_wp_marks (F:=Fw none) (n:=0) hf hb trivial ?_)⟩
 have hR:=zU (P:=P) (N:=fn.ntmps) hR0 hp (by simpa using hst.1)
 refine wpIn_mono (h none (fun _=>rfl) _ _ _ _ _ hR) ?_
 rintro e a' w' ⟨S',C',⟨he,hres,hpost⟩,hle,hR'⟩
 have post':LeavesInM (Fw none) 0 P fn a'.tmps (fun e w'=>∃y S' C',e = .returned y∧C.le C'∧Rel 0 (fun b=>b<w.heap.size∧C.own b=none) w S' C' ⟨#[],[]⟩ w'∧KRel C' res y ∧
   ∀p∈post,S'.box p.1=(p.2.1,some (p.2.2.1,p.2.2.2))) a'.defers .returning w':=by
  refine gV (C0:=C) (by rw[hR0.cw];exact Nat.le_refl _) a'.defers hR' hle fun C'' w'' hle'' hR''=>?_
  unfold J3 at hres
  obtain⟨l,ys,h1,h2,h3,h4⟩:=jz hR'' _ (fun r hr=>List.all_eq_true.1 hst.2 r hr) hres
  obtain⟨hl,_⟩:=h1
  have hrun:(results fn a'.tmps).run P w'' = .ok (if h:ys.toArray.size=1 then ys.toArray[0]else .tuple ys.toArray) w'':=by
   unfold results
   simp only[Sem.run_bind,Array.mapM_eq_mapM_toList,Sem.run_map]
   erw [h4];rfl
  have hrel:KRel C'' res (if h:ys.toArray.size=1 then ys.toArray[0]else .tuple ys.toArray):=by
   rw[hl]
   by_cases h1:ys.length=1
   ·rw[dif_pos (by simpa using h1)]
    obtain⟨y,rfl⟩:∃y,ys=[y]:=List.length_eq_one_iff.1 h1
    obtain⟨x,rfl⟩:∃x,l=[x]:=List.length_eq_one_iff.1 (by omega)
    exact h3 0 x y rfl rfl
   ·rw[dif_neg (by simpa using h1)]
    have:oneOf l = .tuple l:=by
     match l,h2,h1 with
     | [],_,_=>rfl
     | [x],h2,h1=>simp at h2;omega
     | _::_::_,_,_=>rfl
    rw[this]
    exact .tuple (by simpa using h2) (fun i x y hx hy=>h3 i x y hx (by simpa using hy))
  exact⟨_,hrun,_,S',C'',rfl,hle'',hR''.bare,hrel,hpost⟩
 rcases he with rfl|rfl
 ·exact post'
 ·exact post'
def wU(T:Tab):List ResultVar→(List AV→RB)→RB
 | [],k=>k []
 | .tmp t::rs,k=> .slot t fun v=>wU T rs fun l=>k (v::l)
 | .cell a t::rs,k=>ky T t (.tmp a) fun v=>wU T rs fun l=>k (v::l)
theorem ig{P:Program}{T:Tab}(hT:T.Ok P):∀{rs:List ResultVar} {k:List AV→RB} {k':List AV→RM},(∀v,(k v).rm.leq P (k' v))→(wU T rs k).rm.leq P (wV P rs k')
 | [],_,_,h=>h []
 | .tmp t::rs,_,_,h=>rc fun v=>ig hT fun l=>h _
 | .cell a t::rs,_,_,h=>g4 (x:= .tmp a) hT fun v=>ig hT fun l=>h _
def rH:List cr→List (Key×Option jd)
 | []=>[]
 | (k,g,sz,es)::l=>(k,some (g,some (sz,es)))::rH l
noncomputable def endX(P:Program)(T:Tab)(rs:List ResultVar)(res:AV)(post:List cr)(e:Exit)(ss:SS):Prop :=
 match e with
 | .normal | .ret=>(wU T rs fun l=> .lst l fun l=> .need (Res res (oneOf l)) (Classical.propDecidable _) (.done [])).ev P ss (fun _ _=>True)∧vX ss fun _ bx _=>c9 (0,none) bx (rH post)
 | _=>False
theorem kF(pre:List cr)(k:Key):cD pre k=match bg (rH pre) k with
  | some (some c)=>c
  | _=>(0,none):=by
 induction pre with
 | nil=>rfl
 | cons p l ih =>
  obtain⟨j,g,sz,es⟩:=p
  simp only[cD,rH,bg]
  by_cases e:k=j
  ·subst e;simp[Key.beq_eq.2]
  ·have:k.beq j=false:=by
    cases hb:k.beq j with
    | false=>rfl
    | true=>exact absurd (Key.beq_eq.1 hb) e
   rw[if_neg e,this];exact ih
theorem sW(pre:List cr)(args:List AV):Knows ⟨cI 0 args,rH pre,[]⟩ (dV pre args) where
 slot i v h:=by
  have:=(dl args 0 i v h).2
  simp only[Nat.sub_zero]at this
  simp[dV,List.getD,this]
 box k:=by
  have:=kF pre k
  split
  ·rename_i c hc;simp only[dV,this,hc]
  ·trivial
  ·rename_i hc;simp only[dV,this,hc]
 tk k:=rfl
noncomputable def yz(P:Program)(T:Tab)(cx:Cx)(fn:Func)(res:AV)(post:List cr)(ss:SS):Prop :=
 match fn.body with
 | some c=>eU P T cx fn.ntmps c (endX P T fn.results.toList res post) ss
 | none=>False
theorem e5{bx:List (Key×Option jd)}{S:St} (hs:∀k,match bg bx k with
  | some (some c)=>S.box k=c
  | some none=>True
  | none=>S.box k=(0,none)):∀{post:List cr},c9 (0,none) bx (rH post)→∀p∈post,S.box p.1=(p.2.1,some (p.2.2.1,p.2.2.2))
 | [],_,p,hp=>by simp at hp
 | (k,g,sz,es)::l,h,p,hp=>by
  rcases List.mem_cons.1 hp with e|e
  ·subst e
   have h1:=h.1
   simp only at h1
   have:=hs k
   split at h1
   ·rename_i o ho
    rw[ho,h1]at this
    exact this
   ·cases h1
  ·exact e5 hs h.2 p e
theorem aN{P:Program}{T:Tab}(hT:T.Ok P)(cx:Cx)(hm:P.follows .mixedOrders=true){f:FuncId}{fn:Func}{pre post:List cr}{args:List AV}{res:AV}
  (hc:ak P f) (hf:P.funcs[f]?=some fn) (hok:GR fn args.length=true)
  (h:yz P T cx fn res post ⟨cI 0 args,rH pre,[]⟩) (hrd:cx.rd=false:=by rfl):BoxA P (.fn f) pre args res post:=by
 unfold yz at h
 unfold GR at hok
 split at h
 ·rename_i c hb
  rw[hb]at hok
  simp only[Bool.and_eq_true,decide_eq_true_eq]at hok
  refine uO hc hf hb (by rw[hok.1.2,decide_eq_true hok.1.1];rfl) (hrd▸bJ cx hm c hok.2 (bO cx c (fun e S'=>?_) (bI hT cx c (sW pre args) h)))
  rintro⟨ss',h1,h2⟩
  have key:((wU T fn.results.toList fun l=> .lst l fun l=> .need (Res res (oneOf l)) (Classical.propDecidable _) (.done [])).ev P ss' (fun _ _=>True)∧vX ss' fun _ bx _=>c9 (0,none) bx (rH post)) →
    J3 P fn S' res∧∀p∈post,S'.box p.1=(p.2.1,some (p.2.2.1,p.2.2.2)):=by
   rintro⟨h,hk⟩
   have h:=RB.ev_rm h1 _ h
   have h:=ig (rs:=fn.results.toList) (k':=fun l=> .need (res=oneOf l) (.done [])) hT (fun l=>au fun hr=>aA hr.eq (ar _)) _ _ h
   have h:=RM.wp_wp0 _ h
   exact⟨RM.wp0_mono _ h fun _ _=>trivial,e5 h1.box hk⟩
  cases e with
  | normal=>exact⟨.inl rfl,key h2⟩
  | ret=>exact⟨.inr rfl,key h2⟩
  | _=>exact h2.elim
 ·exact h.elim
def qj:List AV→List Tmp→List AV→(List AV→Prop)→Prop
 | l,[],_,K=>K l
 | l,_::_,[],K=>K l
 | l,p::ps,x::xs,K=>xI (l.set p x) fun l'=>qj l' ps xs K
theorem uh:∀(ps:List Tmp) (l args:List AV) (K:List AV→Prop),qj l ps args K=K (gu l ps args)
 | [],l,args,K=>by cases args<;>simp[qj,gu]
 | p::ps,l,[],K=>by simp[qj,gu]
 | p::ps,l,x::xs,K=>by simp only[qj,gu,nK,uh ps]
def mI:Nat→List AV→List (Nat×AV)
 | _,[]=>[]
 | i,x::xs=>match x with
  | .junk=>mI (i+1) xs
  | x=>(i,x)::mI (i+1) xs
theorem oU:∀(xs:List AV) (k i:Nat) (v:AV),cM (mI k xs) i=some v→k≤i∧xs[i-k]?=some v
 | [],k,i,v,h=>by simp[mI,cM]at h
 | x::xs,k,i,v,h=>by
  have skip:cM (mI (k+1) xs) i=some v→k≤i∧(x::xs)[i-k]?=some v:=fun h=>by
   obtain⟨h1,h2⟩:=oU xs (k+1) i v h
   refine⟨by omega,?_⟩
   rw[show i-k=(i-(k+1))+1 by omega]
   simpa using h2
  have take:cM ((k,x)::mI (k+1) xs) i=some v→k≤i∧(x::xs)[i-k]?=some v:=fun ht=>by
   clear h
   simp only[cM]at ht
   split at ht
   ·rename_i hb
    have:=Nat.eq_of_beq_eq_true hb
    subst this
    simpa using ht
   ·exact skip ht
  cases x<;>first|exact skip h|exact take h
def tM(kl:Key)(g:Nat)(st:LoopState)(pend:Option Code)(ps:Array Tmp)(as bo:Code)(l:List AV)(b b':Bool)(post:List cr)(ss:SS):Prop :=
 match ss with
 | ⟨_,bx,_⟩=>jL (bg bx kl) fun c=>jL c fun c=>okP (Nat.beq c.1 g) (jL c.2 fun d=>okP (Nat.beq d.1 0) (match d.2 with
  | [x]=>(x = .lp .busy none ps as bo l∧b=b')∧c9 (0,none) ((kl,some (g,some (0,[.lp st pend ps as bo l])))::bx) (rH post)
  | _=>False))
def endY(kl:Key)(g:Nat)(ps:Array Tmp)(as bo:Code)(l:List AV)(b:Bool)(post:List cr)(e:Exit)(ss:SS):Prop :=
 match e with
 | .normal=>tM kl g .ready none ps as bo l b true post ss
 | .ret=>tM kl g .done (some .ret) ps as bo l b false post ss
 | .exit i=>tM kl g .done (some (.exit i)) ps as bo l b false post ss
 | _=>False
def midY(P:Program)(T:Tab)(cx:Cx)(N:Nat)(kl:Key)(g:Nat)(ps:Array Tmp)(as bo:Code)(l:List AV)(b:Bool)(post:List cr)(e:Exit)(ss:SS):Prop :=
 match e,ss with
 | .normal,⟨s,bx,t⟩=>jL (bg bx kl) fun c=>c=some (g,some (0,[.lp .ready none ps as bo l]))∧eU P T cx N bo (endY kl g ps as bo l b post) ⟨s,(kl,some (g,some (0,[.lp .busy none ps as bo l])))::bx,t⟩
 | _,_=>False
theorem ju{kl:Key}{g:Nat}{st:LoopState}{pend:Option Code}{ps:Array Tmp}{as bo:Code}{l:List AV}{b b':Bool}{post:List cr}{ss:SS}{S:St}(hs:Knows ss S)(h:tM kl g st pend ps as bo l b b' post ss) :
  S.box kl=(g,some (0,[.lp .busy none ps as bo l]))∧b=b'∧∀p∈post,(S.put (.box kl (g,some (0,[.lp st pend ps as bo l])))).box p.1=(p.2.1,some (p.2.2.1,p.2.2.2)):=by
 obtain⟨s,bx,t⟩:=ss
 unfold tM at h
 simp only at h
 obtain⟨c,hc,k1⟩:=bF h
 obtain⟨c1,hc1,k2⟩:=bF k1
 rw[hc1]at hc
 obtain⟨e1,k3⟩:=dE k2
 obtain⟨d,hd,k4⟩:=bF k3
 obtain⟨e2,k5⟩:=dE k4
 obtain⟨g1,o1⟩:=c1
 obtain⟨sz,es⟩:=d
 simp only at hd e1 e2 k5
 have e1:=Nat.eq_of_beq_eq_true e1
 have e2:=Nat.eq_of_beq_eq_true e2
 subst hd e1 e2
 split at k5
 ·obtain⟨⟨rfl,rfl⟩,hk⟩:=k5
  have hb:=hs.box kl
  rw[hc]at hb
  exact⟨hb,rfl,e5 (hs.put (.box kl (g1,some (0,[.lp st pend ps as bo l])))).box hk⟩
 ·exact k5.elim
theorem bv{P:Program}{T:Tab}(hT:T.Ok P)(cx:Cx)(hm:P.follows .mixedOrders=true)(hrd:cx.rd=true){kl:Key}{g:Nat}{pre post:List cr}{args:List AV}{b:Bool}{ps:Array Tmp}{as bo:Code}{l:List AV}
  (hpre:cD pre kl=(g,some (0,[.lp .ready none ps as bo l]))) (hps:args.length=ps.size) (hin:(ez l.length as&&ez l.length bo)=true)
  (h:qj l ps.toList args fun l'=>eU P T cx l.length as (midY P T cx l.length kl g ps as bo l b post) ⟨mI 0 l',rH pre,[]⟩) :
  BoxA P (.yld kl g) pre args (.v (.bool b)) post:=by
 rw[uh]at h
 rw[Bool.and_eq_true]at hin
 have hk:Knows ⟨mI 0 (gu l ps.toList args),rH pre,[]⟩ (jA pre l ps args):=by
  refine⟨fun i v hv=>?_,fun k=>?_,fun k=>rfl⟩
  ·have:=(oU _ 0 i v hv).2
   simp only[Nat.sub_zero]at this
   simp[jA,List.getD,this]
  ·have:=kF pre k
   split
   ·rename_i c hc;simp only[jA,this,hc]
   ·trivial
   ·rename_i hc;simp only[jA,this,hc]
 refine yA hpre hps (hrd▸(bJ cx hm as hin.1 (bI hT cx as hk h)).mono fun e S1=>?_)
 rintro⟨ss1,h1,h2⟩
 cases e with
 | normal =>
  obtain⟨s,bx,t⟩:=ss1
  obtain⟨c,hc,rfl,h3⟩:=bF h2
  have hb:=h1.box kl
  simp only[hc]at hb
  refine⟨hb,(bJ cx hm bo hin.2 (bI hT cx bo (h1.put (.box kl (g,some (0,[.lp .busy none ps as bo l])))) h3)).mono fun e S2=>?_⟩
  rintro⟨ss2,k1,k2⟩
  cases e with
  | normal=>obtain⟨a1,a2,a3⟩:=ju k1 k2;exact⟨a1,a2,a3⟩
  | ret=>obtain⟨a1,a2,a3⟩:=ju k1 k2;exact⟨a1,a2,a3⟩
  | exit i=>obtain⟨a1,a2,a3⟩:=ju k1 k2;exact⟨a1,a2,a3⟩
  | _=>exact k2.elim
 | _=>exact h2.elim
end Go.Am
