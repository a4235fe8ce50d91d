/- Part 3 of the texts that the last one stands on. -/
import Derived.Laws.Strings
import Derived.Test.YtgncapdjheghfaaGreatDoorB2
set_option linter.unusedVariables false
set_option linter.unusedSimpArgs false
namespace Go.Am
open Go.RowKit
def St.same(S S':St):Loc→Prop
 | .slot i=>S.slot i=S'.slot i
 | .box k=>S.box k=S'.box k
 | .tk k=>S.tk k=S'.tk k
theorem St.ext_same{S S':St}(h:∀l,S.same S' l):S=S':=by
 cases S;cases S'
 congr
 ·exact funext fun i=>h (.slot i)
 ·exact funext fun k=>h (.box k)
 ·exact funext fun k=>h (.tk k)
theorem St.same_refl(S:St)(l:Loc):S.same S l:=by cases l<;>rfl
theorem St.same.symm{S S':St}{l:Loc}(h:S.same S' l):S'.same S l:=by cases l<;>exact Eq.symm h
theorem St.same.trans{A B C:St}{l:Loc}(h:A.same B l)(k:B.same C l):A.same C l:=by cases l<;>exact Eq.trans h k
theorem oD{S:St}{x:Wr}{l:Loc}(h:l≠x.loc):(S.put x).same S l:=by
 cases x<;>cases l<;>first
  | rfl
  | (exact fv _ _ (fun e=>h (by simp[Wr.loc,e])))
theorem ya{S S':St}{x:Wr}:(S.put x).same (S'.put x) x.loc:=by
 cases x<;>simp[St.put,St.same,Wr.loc,a8]
theorem CH{S S':St}{x:Wr}{l:Loc}(h:S.same S' l):(S.put x).same (S'.put x) l:=by
 by_cases e:l=x.loc
 ·subst e;exact ya
 ·exact(oD e).trans (h.trans (oD e).symm)
theorem lR{l:Loc}:∀(ws:List Wr) {S S':St},S.same S' l→(S.puts ws).same (S'.puts ws) l
 | [],_,_,h=>h
 | x::xs,_,_,h=>lR xs (CH h)
theorem d7{l:Loc}:∀(ws:List Wr) {S:St},l∉ws.map Wr.loc→(S.puts ws).same S l
 | [],S,_=>S.same_refl l
 | x::xs,S,h=>by
  simp only[List.map_cons,List.mem_cons,not_or]at h
  exact(d7 xs h.2).trans (oD h.1)
theorem tU{l:Loc}:∀(ws:List Wr) {S S':St},l∈ws.map Wr.loc→(S.puts ws).same (S'.puts ws) l
 | [],_,_,h=>by simp at h
 | x::xs,S,S',h=>by
  by_cases e:l=x.loc
  ·exact lR xs (e▸ya)
  ·simp only[List.map_cons,List.mem_cons]at h
   exact tU xs (h.resolve_left e)
def stD(D:Nat→Bool):Nat→List (List Wr)→St→St
 | _,[],S=>S
 | k,ws::rest,S=>stD D (k+1) rest (if D k then S.puts ws else S)
theorem e9{l:Loc}{D D':Nat→Bool}:∀(wrs:List (List Wr)) (k:Nat) {S S':St},
  (∀i ws,wrs[i]?=some ws→l∈ws.map Wr.loc→D (k+i)=D' (k+i))→S.same S' l→(stD D k wrs S).same (stD D' k wrs S') l
 | [],_,_,_,_,h=>h
 | ws::rest,k,S,S',hd,h=>by
  refine e9 rest (k+1) (fun i ws' h1 h2=>by have:=hd (i+1) ws' (by simpa using h1) h2;rwa [Nat.add_assoc,Nat.add_comm 1 i]) ?_
  by_cases hm:l∈ws.map Wr.loc
  ·have:=hd 0 ws rfl hm
   rw[Nat.add_zero]at this
   rw[this]
   split
   ·exact lR ws h
   ·exact h
  ·have h1:(if D k then S.puts ws else S).same S l:=by split;exact d7 ws hm;exact S.same_refl l
   have h2:(if D' k then S'.puts ws else S').same S' l:=by split;exact d7 ws hm;exact S'.same_refl l
   exact h1.trans (h.trans h2.symm)
theorem rW{l:Loc}{D:Nat→Bool}{X:St}:∀(wrs:List (List Wr)) (k i:Nat) (ws:List Wr) {S:St},wrs[i]?=some ws→l∈ws.map Wr.loc→D (k+i)=true →
  (∀j ws',i<j→wrs[j]?=some ws'→l∈ws'.map Wr.loc→D (k+j)=false)→(stD D k wrs S).same (X.puts ws) l
 | [],_,i,ws,S,h,_,_,_=>by simp at h
 | w0::rest,k,0,ws,S,h,hm,hd,hj=>by
  simp only[List.getElem?_cons_zero,Option.some.injEq]at h
  subst h
  simp only[Nat.add_zero]at hd
  simp only[stD,hd,if_true]
  have:(stD D (k+1) rest (S.puts w0)).same (stD (fun _=>false) (k+1) rest (S.puts w0)) l :=
   e9 rest (k+1) (fun i ws' h1 h2=>by have:=hj (i+1) ws' (by omega) (by simpa using h1) h2;rw[Nat.add_assoc,Nat.add_comm 1 i];exact this) (St.same_refl _ _)
  refine this.trans ?_
  have none:∀(r:List (List Wr)) (k:Nat) (T:St),stD (fun _=>false) k r T=T:=by
   intro r
   induction r with
   | nil=>intros;rfl
   | cons x xs ih=>intro k T;simp only[stD];exact ih _ _
  rw[none]
  exact tU w0 hm
 | w0::rest,k,i+1,ws,S,h,hm,hd,hj=>by
  simp only[stD]
  exact rW rest (k+1) i ws (by simpa using h) hm (by rw[Nat.add_assoc,Nat.add_comm 1 i];exact hd)
   (fun j ws' h1 h2 h3=>by have:=hj (j+1) ws' (by omega) (by simpa using h2) h3;rw[Nat.add_assoc,Nat.add_comm 1 j];exact this)
section
variable {P:Program} {S S':St}
theorem RM.wp_some(m:RM):∀{K:List Loc→List Wr→Prop},m.wp P S K→∃l ws,K l ws∧m.wp P S (fun l' ws'=>l'=l∧ws'=ws):=by
 induction m with
 | mty k ih=>exact fun⟨ks,h⟩=>let ⟨l,ws,h1,h2⟩:=ih _ h;⟨l,ws,h1,ks,h2⟩
 | keys k ih=>exact fun⟨ks,h⟩=>let ⟨l,ws,h1,h2⟩:=ih _ h;⟨l,ws,h1,ks,h2⟩
 | callx f args pre k ih=>exact fun⟨r,post,hr,h⟩=>let ⟨l,ws,h1,h2⟩:=ih _ _ h;⟨l,ws,h1,r,post,hr,h2⟩
 | done ws=>exact fun h=>⟨[],ws,h,rfl,rfl⟩
 | slot i k ih=>exact fun h=>let ⟨l,ws,h1,h2⟩:=ih _ h;⟨_,ws,h1,RM.wp_mono (k (S.slot i)) (fun l' ws' ⟨a,b⟩=>⟨by rw[a],b⟩) h2⟩
 | box key k ih=>exact fun h=>let ⟨l,ws,h1,h2⟩:=ih _ h;⟨_,ws,h1,RM.wp_mono (k (S.box key)) (fun l' ws' ⟨a,b⟩=>⟨by rw[a],b⟩) h2⟩
 | tk key k ih=>exact fun h=>let ⟨l,ws,h1,h2⟩:=ih _ h;⟨_,ws,h1,RM.wp_mono (k (S.tk key)) (fun l' ws' ⟨a,b⟩=>⟨by rw[a],b⟩) h2⟩
 | sem s k ih=>exact fun⟨r,hr,h⟩=>let ⟨l,ws,h1,h2⟩:=ih _ h;⟨l,ws,h1,r,hr,h2⟩
 | call f args snap k ih=>exact fun⟨r,hr,h⟩=>let ⟨l,ws,h1,h2⟩:=ih _ h;⟨l,ws,h1,r,hr,h2⟩
 | need p k ih=>exact fun⟨hp,h⟩=>let ⟨l,ws,h1,h2⟩:=ih h;⟨l,ws,h1,hp,h2⟩
 | fail=>exact fun h=>h.elim
theorem RM.wp_local(m:RM):∀{K:List Loc→List Wr→Prop},m.wp P S K→(∀l ws,K l ws→∀x∈l,S.same S' x)→m.wp P S' K:=by
 induction m with
 | mty k ih=>exact fun⟨ks,h⟩ hs=>⟨ks,ih _ h hs⟩
 | keys k ih=>exact fun⟨ks,h⟩ hs=>⟨ks,ih _ h hs⟩
 | callx f args pre k ih=>exact fun⟨r,post,hr,h⟩ hs=>⟨r,post,hr,ih _ _ h hs⟩
 | done ws=>exact fun h _=>h
 | slot i k ih =>
  intro K h hs
  obtain⟨l,ws,h1,_⟩:=RM.wp_some (k (S.slot i)) h
  have e:S.slot i=S'.slot i:=hs _ _ h1 (.slot i) (List.mem_cons_self ..)
  have:=ih _ h (fun l ws hk x hx=>hs _ _ hk x (List.mem_cons_of_mem _ hx))
  show(k (S'.slot i)).wp P S' _
  rw[←e];exact this
 | box key k ih =>
  intro K h hs
  obtain⟨l,ws,h1,_⟩:=RM.wp_some (k (S.box key)) h
  have e:S.box key=S'.box key:=hs _ _ h1 (.box key) (List.mem_cons_self ..)
  have:=ih _ h (fun l ws hk x hx=>hs _ _ hk x (List.mem_cons_of_mem _ hx))
  show(k (S'.box key)).wp P S' _
  rw[←e];exact this
 | tk key k ih =>
  intro K h hs
  obtain⟨l,ws,h1,_⟩:=RM.wp_some (k (S.tk key)) h
  have e:S.tk key=S'.tk key:=hs _ _ h1 (.tk key) (List.mem_cons_self ..)
  have:=ih _ h (fun l ws hk x hx=>hs _ _ hk x (List.mem_cons_of_mem _ hx))
  show(k (S'.tk key)).wp P S' _
  rw[←e];exact this
 | sem s k ih=>exact fun⟨r,hr,h⟩ hs=>⟨r,hr,ih _ h hs⟩
 | call f args snap k ih=>exact fun⟨r,hr,h⟩ hs=>⟨r,hr,ih _ h hs⟩
 | need p k ih=>exact fun⟨hp,h⟩ hs=>⟨hp,ih h hs⟩
 | fail=>exact fun h _=>h.elim
variable {cx:Cx} {ops:Array Oper} {o:Oper}
theorem qq{K:List Loc→List Wr→Prop}(h:dQ P cx ops o S K):∃l ws,K l ws∧dQ P cx ops o S (fun l' ws'=>l'=l∧ws'=ws):=by
 unfold dQ at *
 split at h
 ·exact RM.wp_some _ h
 ·split at h
  ·exact h.elim
  ·split at h
   ·split at h
    ·obtain⟨l,ws,h1,h2⟩:=RM.wp_some _ h
     rename_i hb
     exact⟨_,ws,h1,by simp only[hb,if_true];exact RM.wp_mono _ (fun l' ws' ⟨a,b⟩=>⟨by rw[a],b⟩) h2⟩
    ·rename_i hb
     exact⟨_,_,h,by simp[hb]⟩
   ·exact⟨_,_,h,rfl,rfl⟩
   ·exact h.elim
theorem d8{K K':List Loc→List Wr→Prop}(hk:∀l ws,K l ws→K' l ws)(h:dQ P cx ops o S K):dQ P cx ops o S K':=by
 unfold dQ at *
 cases hg:o.guard with
 | none=>simp only[hg]at h ⊢;exact RM.wp_mono _ hk h
 | some jw =>
  obtain⟨j,want⟩:=jw
  simp only[hg]at h ⊢
  cases ht:(ops[j]?).bind (·.dst)with
  | none=>simp only[ht]at h
  | some t =>
   simp only[ht]at h ⊢
   split at h
   ·split at h
    ·rename_i hb;rw[if_pos hb];exact RM.wp_mono _ (fun l ws=>hk _ ws) h
    ·rename_i hb;rw[if_neg hb];exact hk _ _ h
   ·exact hk _ _ h
   ·exact h.elim
theorem jH{K:List Loc→List Wr→Prop}(h:dQ P cx ops o S K)(hs:∀l ws,K l ws→∀x∈l,S.same S' x):dQ P cx ops o S' K:=by
 obtain⟨l0,ws0,hk0,_⟩:=qq h
 have h0:=hs _ _ hk0
 unfold dQ at *
 cases hg:o.guard with
 | none=>simp only[hg]at h ⊢;exact RM.wp_local _ h hs
 | some jw =>
  obtain⟨j,want⟩:=jw
  simp only[hg]at h ⊢
  cases ht:(ops[j]?).bind (·.dst)with
  | none=>simp only[ht]at h
  | some t =>
   simp only[ht]at h ⊢
   have e:S.slot t=S'.slot t:=by
    split at h
    ·split at h
     ·obtain⟨l,ws,h1,_⟩:=RM.wp_some _ h
      exact hs _ _ h1 (.slot t) (by simp)
     ·exact hs _ _ h (.slot t) (by simp)
    ·exact hs _ _ h (.slot t) (by simp)
    ·exact h.elim
   rw[←e]
   split at h
   ·split at h
    ·rename_i hb;rw[if_pos hb];exact RM.wp_local _ h (fun l ws hk x hx=>hs _ _ hk x (List.mem_cons_of_mem _ hx))
    ·rename_i hb;rw[if_neg hb];exact h
   ·exact h
   ·exact h.elim
end
theorem AD{P:Program}{S:St}{b:AV}{k:Value→RB}{K:List Loc→List Wr→Prop}:(At b k).rm.wp P S K↔∃key,dR b=some key∧(k key).rm.wp P S K:=by
 cases b with
 | v y=>exact⟨fun h=>⟨y,rfl,h⟩,fun⟨key,h,h'⟩=>by cases h;exact h'⟩
 | agg cs =>
  simp only[At,dR]
  cases eB cs with
  | none=>exact⟨fun h=>h.elim,fun⟨key,h,_⟩=>by simp at h⟩
  | some l=>exact⟨fun h=>⟨_,rfl,h⟩,fun⟨key,h,h'⟩=>by cases h;exact h'⟩
 | _=>exact⟨fun h=>h.elim,fun⟨key,h,_⟩=>by simp[dR]at h⟩
theorem ux{b b':AV}{key:Value}(hv:dR b=some key)(hb:toPure b=some b'):dR b'=some key:=by
 have uE:∀{cs:List AV} {l:List Value},eB cs=some l→∀{cs'},eH cs=some cs'→cs'=cs:=by
  intro cs
  induction cs with
  | nil=>intro l h cs' h';simp[eH]at h';exact h'
  | cons x xs ih =>
   intro l h cs' h'
   simp only[eB]at h
   split at h
   ·rename_i y ys h1 h2
    cases x<;>simp[pc]at h1
    simp only[eH,pure1]at h'
    split at h'
    ·rename_i a b e1 e2
     simp at h'
     simp at e1
     subst e1
     rw[ih h2 e2]at h'
     exact h'.symm
    ·simp at h'
   ·simp at h
 cases b with
 | v y=>simp[toPure,pure1]at hb;subst hb;exact hv
 | agg cs =>
  simp only[dR]at hv
  cases hl:eB cs with
  | none=>simp[hl]at hv
  | some l =>
   simp only[toPure]at hb
   cases hp:eH cs with
   | none=>simp[hp]at hb
   | some cs' =>
    simp[hp]at hb
    rw[uE hl hp]at hb
    subst hb
    simp only[dR];exact hv
 | _=>simp[dR]at hv
theorem CK.eq_refl{c:CK}{v:Value}(h:c.typed v=true):eqC v v=true:=by
 cases c<;>cases v<;>simp[CK.typed,eqC]at *
theorem xF:∀{cs:List CK} {vs:List Value},aV cs vs=true→eqL vs vs=true
 | [],[],_=>rfl
 | [],_::_,h=>by simp[aV]at h
 | _::_,[],h=>by simp[aV]at h
 | c::cs,v::vs,h=>by
  simp only[aV]at h
  split at h
  ·rename_i hc
   simp[eqL,CK.eq_refl hc,xF h]
  ·simp at h
theorem KK.eq_refl{kk:KK}{v:Value}(h:kk.typed v=true):eqV v v=true:=by
 cases kk with
 | one c =>
  have:=CK.eq_refl (c:=c) (v:=v) (by simpa[KK.typed]using h)
  cases v<;>first|exact this|(simp[eqC]at this)
 | agg cs=>cases v<;>simp[KK.typed]at h;simpa[eqV]using xF h
theorem gB{kk:KK}{key:Value}{e:List AV}:∀{es:List AV} {n:Nat} {q:Nat×AV},bb kk es key n=some (some q)→bb kk (es++e) key n=some (some q)
 | [],n,q,h=>by simp[bb]at h
 | x::es,n,q,h=>by
  have hx:∃a b,x = .tuple [a,b]:=by
   cases x<;>try(simp[bb]at h;done)
   rename_i l
   match l,h with
   | [a,b],_=>exact⟨a,b,rfl⟩
  obtain⟨a,b,rfl⟩:=hx
  simp only[List.cons_append,bb]at h ⊢
  split at h
  ·split at h
   ·split at h
    ·rename_i h1 h2;rw[if_pos h1,if_pos h2];exact h
    ·rename_i h1 h2;rw[if_pos h1,if_neg h2];exact gB h
   ·simp at h
  ·simp at h
theorem gA{kk:KK}{key:Value}{a' v:AV}(ht:kk.typed key=true)(hv:dR a'=some key):∀{es:List AV} {n:Nat},bb kk es key n=some none→∃i,bb kk (es++[.tuple [a',v]]) key n=some (some (i,v))
 | [],n,h=>⟨n,by simp only[List.nil_append,bb,hv,ht,if_true,KK.eq_refl ht]⟩
 | x::es,n,h=>by
  have hx:∃a b,x = .tuple [a,b]:=by
   cases x<;>try(simp[bb]at h;done)
   rename_i l
   match l,h with
   | [a,b],_=>exact⟨a,b,rfl⟩
  obtain⟨a,b,rfl⟩:=hx
  simp only[List.cons_append,bb]at h ⊢
  split at h
  ·split at h
   ·split at h
    ·simp at h
    ·rename_i h1 h2;rw[if_pos h1,if_neg h2];exact gA ht hv h
   ·simp at h
  ·simp at h
section
variable {P:Program} {cx:Cx} {ops:Array Oper}
theorem y7{oq op:Oper}{t:TypeId}{x ix:Tmp}(hq:oq.op = .lookup t (.tmp x) (.tmp ix) false)(hp:op.op = .mapEntry t (.tmp x) (.tmp ix))(gq:oq.guard=none)(gp:op.guard=none){S:St}{l lp:List Loc}{ws wp:List Wr}
  (h1:dQ P cx ops oq S (fun l' ws'=>l'=l∧ws'=ws)) (h2:dQ P cx ops op S (fun l' ws'=>l'=lp∧ws'=wp)) (hs:∀i,Loc.slot i∈l→Loc.slot i∉wp.map Wr.loc) :
  dQ P cx ops oq (S.puts wp) (fun l' ws'=>l'=l∧ws'=ws):=by
 simp only[dQ,gq,hq,opA,mf,g5,bf,RB.rm,RM.wp,AD]at h1 ⊢
 simp only[dQ,gp,hp,opA,mf,kv,bf,RB.rm,RM.wp,AD]at h2
 obtain⟨p,hm,key,hk,ht,h1⟩:=h1
 obtain⟨p',hm',key',hk',ht',h2⟩:=h2
 rw[hk]at hk';cases hk'
 cases hb:toPure (S.slot ix)with
 | none=>simp only[hb]at h2;exact h2.elim
 | some b' =>
  simp only[hb]at h2
  cases ha:S.slot x with
  | mp k g =>
   simp only[ha,B1,RB.rm,RM.wp]at h1 h2
   cases hc:(S.box k).2 with
   | none=>simp only[hc]at h2;exact h2.elim
   | some d =>
    obtain⟨sz,es⟩:=d
    simp only[hc]at h1 h2
    obtain⟨e1,e2,h1⟩:=h1
    obtain⟨_,_,h2⟩:=h2
    cases es with
    | nil=>exact h2.elim
    | cons c0 es =>
     cases c0<;>try exact h2.elim
     rename_i cv
     cases cv<;>try exact h2.elim
     rename_i ik c
     cases ik<;>try exact h2.elim
     simp only at h1 h2
     have e1':=Nat.eq_of_beq_eq_true e1
     have e2':=Nat.eq_of_beq_eq_true e2
     have hz:p'.2=p.2:=by
      obtain⟨kt,et,i,z,a1,a2,a3,a4,_⟩:=hm.ty
      obtain⟨kt',et',i',z',b1,b2,b3,b4,_⟩:=hm'.ty
      rw[a1]at b1;cases b1
      rw[a2]at b2;cases b2
      rw[a3]at b3;cases b3
      rw[a4,b4]
     have hw:∃es',((S.puts wp).box k=vM (S.box k).1 c es')∧(es'=es∨es'=es++[.tuple [b',p.2]]):=by
      cases hf:bb p'.1 es key 0 with
      | none=>simp only[hf]at h2;exact h2.elim
      | some o =>
       cases o with
       | some q =>
        simp only[hf,RM.wp]at h2
        obtain⟨_,rfl⟩:=h2
        refine⟨es,?_,.inl rfl⟩
        simp only[St.puts]
        have:∀(v:AV) (T:St),(T.puts (putA op.dst v)).box k=T.box k:=by intro v T;cases op.dst<;>rfl
        rw[this]
        simp only[St.put,a8]
       | none =>
        simp only[hf,RM.wp]at h2
        obtain⟨_,rfl⟩:=h2
        refine⟨es++[.tuple [b',p.2]],?_,.inr rfl⟩
        simp only[St.puts]
        have:∀(v:AV) (T:St),(T.puts (putA op.dst v)).box k=T.box k:=by intro v T;cases op.dst<;>rfl
        rw[this]
        simp only[St.put,a8,hz]
     obtain⟨es',hbox,hes⟩:=hw
     have hl:l=[Loc.slot x,Loc.slot ix,Loc.box k]:=by
      cases hf:bb p.1 es key 0 with
      | none=>simp only[hf]at h1;exact h1.elim
      | some o=>cases o with
       | some q=>simp only[hf,dJ,RB.rm,RM.wp]at h1;exact h1.1.symm
       | none=>simp only[hf,dJ,RB.rm,RM.wp]at h1;exact h1.1.symm
     have hx:(S.puts wp).slot x=S.slot x:=d7 (l:= .slot x) wp (hs x (by rw[hl];simp))
     have hix:(S.puts wp).slot ix=S.slot ix:=d7 (l:= .slot ix) wp (hs ix (by rw[hl];simp))
     refine⟨p,hm,key,by rw[hix];exact hk,ht,?_⟩
     simp only[hx,ha,B1,RB.rm,RM.wp,hbox,vM,e1,Nat.beq_refl,true_and]
     cases hf:bb p.1 es key 0 with
     | none=>simp only[hf]at h1;exact h1.elim
     | some o =>
      cases o with
      | some q =>
       have:bb p.1 es' key 0=some (some q):=by
        rcases hes with rfl|rfl
        ·exact hf
        ·exact gB hf
       simp only[hf]at h1
       simp only[this]
       exact h1
      | none =>
       simp only[hf]at h1
       rcases hes with rfl|rfl
       ·simp only[hf];exact h1
       ·obtain⟨i,hi⟩:=gA (v:=p.2) ht (ux hk hb) hf
        simp only[hi]
        exact h1
  | _=>simp only[ha,B1]at h2;exact h2.elim
end
def B6:List Oper→List Nat→List Nat
 | [],acc=>acc
 | o::os,acc=>B6 os (acc++[o.after.toList.foldl (fun s e=>if Region.binds .any e then s|||2^e.on|||acc.getD e.on 0 else s) 0])
inductive Prec (ops:Array Oper):Nat→Nat→Prop
 | edge {o:Oper} {e:Edge} {j:Nat} (ho:ops[j]?=some o) (he:e∈o.after) (hb:Region.binds .any e=true):Prec ops e.on j
 | trans {i j k:Nat}:Prec ops i j→Prec ops j k→Prec ops i k
def gM(ops:List Oper)(k:Nat):Bool :=
 match ops with
 | []=>true
 | o::os=>o.after.toList.all (fun e=> !Region.binds .any e||decide (e.on<k))&&gM os (k+1)
theorem gz(acc:List Nat)(i:Nat):∀(l:List Edge) (s:Nat),(l.foldl (fun s e=>if Region.binds .any e then s|||2^e.on|||acc.getD e.on 0 else s) s).testBit i=true →
  s.testBit i=true∨∃e∈l,Region.binds .any e=true∧(e.on=i∨(acc.getD e.on 0).testBit i=true)
 | [],s,h=> .inl h
 | e::l,s,h=>by
  rcases gz acc i l _ h with h|⟨e',he',hb,h⟩
  ·dsimp only at h
   split at h
   ·rename_i hb
    simp only[Nat.testBit_or,Bool.or_eq_true,Nat.testBit_two_pow,decide_eq_true_eq]at h
    rcases h with(h|h)|h
    ·exact .inl h
    ·exact .inr ⟨e,by simp,hb,.inl h⟩
    ·exact .inr ⟨e,by simp,hb,.inr h⟩
   ·exact .inl h
  ·exact .inr ⟨e',by simp[he'],hb,h⟩
theorem pU(ops:Array Oper):∀(os:List Oper) (acc:List Nat),(∀i o,os[i]?=some o→ops[acc.length+i]?=some o) →
  (∀j i,(acc.getD j 0).testBit i=true→Prec ops i j)→∀j i,((B6 os acc).getD j 0).testBit i=true→Prec ops i j
 | [],acc,_,h=>h
 | o::os,acc,ho,h=>by
  refine pU ops os _ (fun i o' h1=>by have:=ho (i+1) o' (by simpa using h1);simpa[Nat.add_assoc,Nat.add_comm 1 i]using this) ?_
  intro j i hj
  by_cases h1:j<acc.length
  ·rw[List.getD_eq_getElem?_getD,List.getElem?_append_left h1, ←List.getD_eq_getElem?_getD]at hj
   exact h j i hj
  ·rw[List.getD_eq_getElem?_getD,List.getElem?_append_right (by omega)]at hj
   by_cases h2:j=acc.length
   ·subst h2
    simp only[Nat.sub_self,List.getElem?_cons_zero,Option.getD_some]at hj
    have hoj:=ho 0 o rfl
    rw[Nat.add_zero]at hoj
    rcases gz acc i _ _ hj with h|⟨e,he,hb,h3⟩
    ·simp at h
    ·have hp:=Prec.edge (ops:=ops) hoj (by simpa using he) hb
     rcases h3 with h3|h3
     ·rw[←h3];exact hp
     ·exact .trans (h _ _ h3) hp
   ·have:j-acc.length=(j-acc.length-1)+1:=by omega
    rw[this]at hj
    simp at hj
theorem fA{ops:Array Oper}:∀(os:List Oper) (k:Nat),gM os k=true→∀i o,os[i]?=some o→∀e∈o.after,Region.binds .any e=true→e.on<k+i
 | [],_,_,i,o,h,_,_,_=>by simp at h
 | o::os,k,h,i,o',ho,e,he,hb=>by
  simp only[gM,Bool.and_eq_true]at h
  cases i with
  | zero =>
   simp only[List.getElem?_cons_zero,Option.some.injEq]at ho
   subst ho
   have:=List.all_eq_true.1 h.1 e (by simpa using he)
   simpa[hb]using this
  | succ i =>
   have:=fA (ops:=ops) os (k+1) h.2 i o' (by simpa using ho) e he hb
   omega
theorem Prec.lt{ops:Array Oper}(h:gM ops.toList 0=true){i j:Nat}(hp:Prec ops i j):i<j:=by
 induction hp with
 | edge ho he hb=>have:=fA (ops:=ops) ops.toList 0 h _ _ (by simpa using ho) _ he hb;omega
 | trans _ _ h1 h2=>omega
def lk(a b:List Loc×List Loc):Bool:=a.2.any (fun l=>b.1.contains l||b.2.contains l)||b.2.any (fun l=>a.1.contains l)
def gG(ms:List Nat)(i:Nat)(a:List Loc×List Loc):Nat→List (List Loc×List Loc)→List Nat
 | _,[]=>[]
 | j,b::rest=>match !lk a b||(ms.getD j 0).testBit i with
  | true=>gG ms i a (j+1) rest
  | false=>j::gG ms i a (j+1) rest
def Bn(a b:Oper):Bool :=
 match a.guard,b.guard with
 | none,none=>match a.op,b.op with
  | .lookup t (.tmp x) (.tmp ix) false,.mapEntry t' (.tmp x') (.tmp ix')=>Nat.beq t t'&&Nat.beq x x'&&Nat.beq ix ix'
  | _,_=>false
 | _,_=>false
def GV:Loc→Bool
 | .slot _=>true
 | _=>false
def LG(ops:Array Oper)(all:List (List Loc×List Loc))(i:Nat)(a:List Loc×List Loc):List Nat→Bool
 | []=>true
 | [j]=>match ops[i]?,ops[j]?,all[j]? with
  | some oi,some oj,some b=>Bn oi oj&&b.2.all (fun l=> !GV l|| !a.1.contains l)&&a.2.all (fun l=> !b.1.contains l&& !b.2.contains l)&&((all.take j).drop i).all (fun r=>r.2.all fun l=> !a.1.contains l)
  | _,_,_=>false
 | _=>false
def Ci(ops:Array Oper)(all:List (List Loc×List Loc))(ms:List Nat):Nat→List (List Loc×List Loc)→Bool
 | _,[]=>true
 | i,a::rest=>LG ops all i a (gG ms i a (i+1) rest)&&Ci ops all ms (i+1) rest
def mv(ops:Array Oper)(infos:List (List Loc×List Loc)):Bool:=gM ops.toList 0&&Ci ops infos (B6 ops.toList []) 0 infos
theorem nt{ms:List Nat}{i:Nat}{a:List Loc×List Loc}:∀(l:List (List Loc×List Loc)) (j k:Nat) (b:List Loc×List Loc),l[k]?=some b→lk a b=true→(ms.getD (j+k) 0).testBit i=false→j+k∈gG ms i a j l
 | [],_,k,b,h,_,_=>by simp at h
 | x::xs,j,k,b,hb,hc,ht=>by
  simp only[gG]
  cases k with
  | zero =>
   simp only[List.getElem?_cons_zero,Option.some.injEq]at hb;subst hb
   rw[Nat.add_zero]at ht ⊢
   simp only[hc,ht,Bool.not_true,Bool.or_false]
   exact List.mem_cons_self ..
  | succ k =>
   have:=nt xs (j+1) k b (by simpa using hb) hc (by rw[Nat.add_assoc,Nat.add_comm 1 k];exact ht)
   rw[Nat.add_assoc,Nat.add_comm 1 k]at this
   split
   ·exact this
   ·exact List.mem_cons_of_mem _ this
theorem tp{ops:Array Oper}{all:List (List Loc×List Loc)}{ms:List Nat}:∀(l:List (List Loc×List Loc)) (i:Nat),Ci ops all ms i l=true→∀p a,l[p]?=some a→LG ops all (i+p) a (gG ms (i+p) a (i+p+1) (l.drop (p+1)))=true
 | [],_,_,p,a,h=>by simp at h
 | x::xs,i,h,p,a,ha=>by
  simp only[Ci,Bool.and_eq_true]at h
  cases p with
  | zero=>simp only[List.getElem?_cons_zero,Option.some.injEq]at ha;subst ha;simpa using h.1
  | succ p =>
   have:=tp xs (i+1) h.2 p a (by simpa using ha)
   rw[show i+(p+1)=i+1+p by omega]
   simpa using this
structure Ex (ops:Array Oper) (all:List (List Loc×List Loc)) (ms:List Nat) (i j:Nat) (a b:List Loc×List Loc):Prop where
 lt:i<j
 pair:∃oi oj,ops[i]?=some oi∧ops[j]?=some oj∧Bn oi oj=true
 slots:∀n,Loc.slot n∈b.2→Loc.slot n∉a.1
 wr:∀l∈a.2,l∉b.1∧l∉b.2
 between:∀r c,i≤r→r<j→all[r]?=some c→∀l∈c.2,l∉a.1
 only:∀j' c,i<j'→j'≠j→all[j']?=some c→lk a c=true→(ms.getD j' 0).testBit i=true
theorem zb{ops:Array Oper}{ms:List Nat}{all:List (List Loc×List Loc)}(h:Ci ops all ms 0 all=true){p q:Nat}{a b:List Loc×List Loc}(hpq:p<q)(ha:all[p]?=some a)(hb:all[q]?=some b)(hc:lk a b=true) :
  (ms.getD q 0).testBit p=true∨Ex ops all ms p q a b:=by
 cases ht:(ms.getD q 0).testBit p with
 | true=>exact .inl rfl
 | false =>
  refine .inr ?_
  have hx:=tp all 0 h p a ha
  rw[Nat.zero_add]at hx
  have hbad:∀q' c,p<q'→all[q']?=some c→lk a c=true→(ms.getD q' 0).testBit p=false→q'∈gG ms p a (p+1) (all.drop (p+1)):=fun q' c hq' hc' hcl ht'=>by
   have:=nt (ms:=ms) (i:=p) (a:=a) (all.drop (p+1)) (p+1) (q'-(p+1)) c (by rw[List.getElem?_drop,show p+1+(q'-(p+1))=q' by omega];exact hc') hcl (by rw[show p+1+(q'-(p+1))=q' by omega];exact ht')
   rw[show p+1+(q'-(p+1))=q' by omega]at this
   exact this
  have hq:=hbad q b hpq hb hc ht
  generalize gG ms p a (p+1) (all.drop (p+1))=bad at *
  match bad,hx,hq with
  | [j],hx,hq =>
   simp only[List.mem_singleton]at hq
   subst hq
   simp only[LG]at hx
   split at hx
   ·rename_i oi oj b' e1 e2 e3
    rw[hb]at e3;cases e3
    simp only[Bool.and_eq_true]at hx
    obtain⟨⟨⟨x1,x2⟩,x3⟩,x4⟩:=hx
    refine⟨hpq,⟨oi,oj,e1,e2,x1⟩,fun n hn hn'=>?_,fun l hl=>?_,fun r c hr hr' hrc l hl hl'=>?_,fun j' c hj hne hjc hcl=>?_⟩
    ·have:=List.all_eq_true.1 x2 _ hn
     simp[GV]at this
     exact this hn'
    ·have:=List.all_eq_true.1 x3 l hl
     simpa using this
    ·have hm:c∈(all.take q).drop p:=by
      refine List.mem_of_getElem? (i:=r-p) ?_
      rw[List.getElem?_drop,show p+(r-p)=r by omega,List.getElem?_take,if_pos hr']
      exact hrc
     have:=List.all_eq_true.1 (List.all_eq_true.1 x4 c hm) l hl
     simp at this
     exact this hl'
    ·cases ht':(ms.getD j' 0).testBit p with
     | true=>rfl
     | false =>
      have:=hbad j' c hj hjc hcl ht'
      simp only[List.mem_singleton]at this
      exact absurd this hne
   ·simp at hx
def JY(P:Program)(cx:Cx)(ops:Array Oper):List Nat→St→List (List Loc×List Loc)→(List (List Loc×List Loc)→St→Prop)→Prop
 | [],S,acc,K=>K acc S
 | i::is,S,acc,K =>
  match ops[i]? with
  | none=>False
  | some o=>dQ P cx ops o S fun l ws=>JY P cx ops is (S.puts ws) (acc++[(l,ws.map Wr.loc)]) K
def LY(P:Program)(cx:Cx)(ops:Array Oper)(S:St)(K:St→Prop):Prop :=
 JY P cx ops (List.range ops.size) S [] fun infos S'=>mv ops infos=true∧K S'
section
variable {P:Program} {cx:Cx} {ops:Array Oper}
theorem rX{D:Nat→Bool}:∀(wrs:List (List Wr)) (k:Nat) (ws:List Wr) (S:St),stD D k (wrs++[ws]) S=if D (k+wrs.length)then(stD D k wrs S).puts ws else stD D k wrs S
 | [],k,ws,S=>by simp[stD]
 | w::wrs,k,ws,S=>by
  simp only[List.cons_append,stD,List.length_cons]
  rw[rX wrs (k+1) ws]
  rw[show k+1+wrs.length=k+(wrs.length+1) by omega]
theorem rV{D:Nat→Bool}:∀(wrs:List (List Wr)) (k:Nat) (S:St),(∀i,i<wrs.length→D (k+i)=true)→stD D k wrs S=stD (fun _=>true) k wrs S
 | [],_,_,_=>rfl
 | w::wrs,k,S,h=>by
  simp only[stD]
  have:=h 0 (by simp)
  rw[Nat.add_zero]at this
  rw[this]
  exact rV wrs (k+1) _ fun i hi=>by have:=h (i+1) (by simp;omega);rwa [Nat.add_assoc,Nat.add_comm 1 i]
theorem si(S0:St):∀(is:List Nat) (k:Nat) (wrs:List (List Wr)) (logs:List (List Loc)) {K:List (List Loc×List Loc)→St→Prop},is=List.range' k (ops.size-k)→wrs.length=k→logs.length=k→k≤ops.size →
  (∀i o,i<k→ops[i]?=some o→∃l ws,logs[i]?=some l∧wrs[i]?=some ws∧dQ P cx ops o (stD (fun j=>decide (j<i)) 0 wrs S0) (fun l' ws'=>l'=l∧ws'=ws)) →
  JY P cx ops is (stD (fun _=>true) 0 wrs S0) (logs.zip (wrs.map fun ws=>ws.map Wr.loc)) K →
  ∃(wrs':List (List Wr)) (logs':List (List Loc)),wrs'.length=ops.size∧logs'.length=ops.size ∧
   (∀i o,ops[i]?=some o→∃l ws,logs'[i]?=some l∧wrs'[i]?=some ws∧dQ P cx ops o (stD (fun j=>decide (j<i)) 0 wrs' S0) (fun l' ws'=>l'=l∧ws'=ws)) ∧
   K (logs'.zip (wrs'.map fun ws=>ws.map Wr.loc)) (stD (fun _=>true) 0 wrs' S0)
 | [],k,wrs,logs,K,hr,hw,hl,hk,hrun,h=>by
  have:k=ops.size:=by
   have:=congrArg List.length hr
   simp at this;omega
  subst this
  refine⟨wrs,logs,hw,hl,fun i o ho=>hrun i o (Array.getElem?_eq_some_iff.1 ho).1 ho,h⟩
 | i::is,k,wrs,logs,K,hr,hw,hl,hk,hrun,h=>by
  have hlt:k<ops.size:=by
   have:=congrArg List.length hr
   simp at this;omega
  have hsz:ops.size-k=(ops.size-(k+1))+1:=by omega
  rw[hsz,List.range'_succ]at hr
  simp only[List.cons.injEq]at hr
  obtain⟨rfl,rfl⟩:=hr
  simp only[JY]at h
  split at h
  ·exact h.elim
  ·rename_i o ho
   obtain⟨l,ws,h1,h2⟩:=qq h
   have hpre:∀j,j≤i→stD (fun p=>decide (p<j)) 0 (wrs++[ws]) S0=stD (fun p=>decide (p<j)) 0 wrs S0:=by
    intro j hj
    rw[rX,Nat.zero_add,hw,if_neg (by simp;omega)]
   refine si S0 _ (i+1) (wrs++[ws]) (logs++[l]) rfl (by simp[hw]) (by simp[hl]) (by omega) (fun p o' hp ho'=>?_) ?_
   ·by_cases hpi:p=i
    ·subst hpi
     rw[ho]at ho';cases ho'
     refine⟨l,ws,by rw[List.getElem?_append_right (by omega),hl];simp,by rw[List.getElem?_append_right (by omega),hw];simp,?_⟩
     rw[hpre _ (Nat.le_refl _),rV wrs 0 S0 (fun q hq=>by simp;omega)]
     exact h2
    ·obtain⟨l',ws',a1,a2,a3⟩:=hrun p o' (by omega) ho'
     refine⟨l',ws',by rw[List.getElem?_append_left (by omega)];exact a1,by rw[List.getElem?_append_left (by omega)];exact a2,?_⟩
     rw[hpre p (by omega)];exact a3
   ·rw[rX,if_pos rfl,List.map_append,List.zip_append (by simp[hl,hw])]
    exact h1
theorem Lh(l:List Nat)(p q:Nat→Bool)(hpq:∀i,q i=true→p i=true){i:Nat}(hi:i∈l)(h1:p i=true)(h2:q i=false):(l.filter q).length<(l.filter p).length:=by
 induction l with
 | nil=>simp at hi
 | cons x xs ih =>
  have hle:∀l:List Nat,(l.filter q).length≤(l.filter p).length:=by
   intro l
   induction l with
   | nil=>simp
   | cons y ys ih =>
    simp only[List.filter_cons]
    cases hq:q y with
    | true=>rw[if_pos rfl,if_pos (hpq y hq)];simpa using ih
    | false =>
     rw[if_neg Bool.false_ne_true]
     split
     ·simp only[List.length_cons];omega
     ·exact ih
  simp only[List.filter_cons]
  rcases List.mem_cons.1 hi with rfl|hi
  ·rw[if_neg (by simp[h2]),if_pos h1]
   have:=hle xs
   simp;omega
  ·have:=ih hi
   cases hq:q x with
   | true=>rw[if_pos rfl,if_pos (hpq x hq)];simpa using this
   | false =>
    rw[if_neg Bool.false_ne_true]
    split
    ·simp only[List.length_cons];omega
    ·exact this
theorem zQ{lo:Option Nat}{N:Nat}{base:Nat→Prop}{w0:World}{S:St}{C:Ctx}{a:Act}{w:World}{Q:Exit→Act→World→Prop}{K:St→Prop}(hin:Cr N ops=true)(hR:Rel N base w0 S C a w)
  (hk:∀S' C' a' w',K S'→C.le C'→Rel N base w0 S' C' a' w'→Q .normal a' w') (h:LY P cx ops S K) :
  wpAnyIn (Fw lo) 0 P .any ops Q ops.size (Array.replicate ops.size false) a w:=by
 obtain⟨wrs,logs,hwl,hll,hrun,hok,hK⟩:=si (P:=P) (cx:=cx) (ops:=ops) S (List.range ops.size) 0 [] [] (K:=fun infos S'=>mv ops infos=true∧K S')
  (by simp[List.range_eq_range']) rfl rfl (Nat.zero_le _) (by simp) h
 simp only[mv,Bool.and_eq_true]at hok
 obtain⟨hback,hall⟩:=hok
 have hprec:=pU ops ops.toList [] (fun i o hi=>by simpa using hi) (by simp)
 have hzip:∀(i:Nat) (l:List Loc) (w:List Wr),logs[i]?=some l→wrs[i]?=some w→(logs.zip (wrs.map fun ws=>ws.map Wr.loc))[i]?=some (l,w.map Wr.loc):=fun i l w h1 h2=>by
  rw[List.getElem?_zip_eq_some];simp[h1,h2]
 have comp:∀p q lp wp lq wq,p<q→logs[p]?=some lp→wrs[p]?=some wp→logs[q]?=some lq→wrs[q]?=some wq→lk (lp,wp.map Wr.loc) (lq,wq.map Wr.loc)=true →
   Prec ops p q∨Ex ops (logs.zip (wrs.map fun ws=>ws.map Wr.loc)) (B6 ops.toList []) p q (lp,wp.map Wr.loc) (lq,wq.map Wr.loc):=by
  intro p q lp wp lq wq hpq h1 h2 h3 h4 hc
  rcases zb hall hpq (hzip _ _ _ h1 h2) (hzip _ _ _ h3 h4) hc with h|h
  ·exact .inl (hprec q p h)
  ·exact .inr h
 have hlogs:∀i,i<ops.size→∃l ws,logs[i]?=some l∧wrs[i]?=some ws:=fun i hi=>⟨logs[i],wrs[i],by simp[hll,hi],by simp[hwl,hi]⟩
 have main:∀(fuel:Nat) (listed:Array Bool) (C1:Ctx) (a1:Act) (w1:World),listed.size=ops.size→((List.range ops.size).filter fun i=> !listed.getD i false).length≤fuel →
   (∀i j,Prec ops i j→listed.getD j false=true→listed.getD i false=true)→C.le C1→Rel N base w0 (stD (fun i=>listed.getD i false) 0 wrs S) C1 a1 w1 →
   wpAnyIn (Fw lo) 0 P .any ops Q fuel listed a1 w1:=by
  intro fuel
  induction fuel with
  | zero =>
   intro listed C1 a1 w1 hsz hf hdown hle hR1
   have hallL:∀i,i<ops.size→listed.getD i false=true:=by
    intro i hi
    have hnil:=List.eq_nil_of_length_eq_zero (Nat.le_zero.1 hf)
    rw[List.filter_eq_nil_iff]at hnil
    have:=hnil i (by simpa using hi)
    simpa using this
   refine⟨?_,hk _ C1 _ _ hK hle ?_⟩
   ·unfold Region.ready
    rw[List.filter_eq_nil_iff]
    intro i hi
    have:=hallL i (by simpa using hi)
    have e:listed.getD i true=true:=by
     rw[Array.getD_eq_getD_getElem?]at this ⊢
     have hi':i<listed.size:=by rw[hsz];simpa using hi
     simpa[hi']using this
    simp[e]
   ·rw[←rV wrs 0 S (D:=fun i=>listed.getD i false) (fun i hi=>by rw[Nat.zero_add];exact hallL i (by omega))]
    exact hR1
  | succ fuel ih =>
   intro listed C1 a1 w1 hsz hf hdown hle hR1
   have hgt:∀i,i<ops.size→listed.getD i true=listed.getD i false:=fun i hi=>by
    have hi':i<listed.size:=by omega
    simp[Array.getD,hi']
   have hready:∀i,i∈Region.ready .any ops listed→i<ops.size∧listed.getD i false=false∧∃o,ops[i]?=some o∧∀e∈o.after,Region.binds .any e=true→listed.getD e.on false=true:=by
    intro i hi
    unfold Region.ready at hi
    simp only[List.mem_filter,List.mem_range,Bool.and_eq_true,Bool.not_eq_true']at hi
    obtain⟨hlt,h1,h2⟩:=hi
    refine⟨hlt,by rw[←hgt i hlt];exact h1,ops[i],by simp[hlt],fun e he hb=>?_⟩
    simp only[Array.getElem?_eq_getElem hlt,Option.map_some,Option.getD_some]at h2
    have:=Array.all_eq_true'.1 h2 e he
    simpa[hb]using this
   refine⟨fun hnil=>?_,fun i hi=>?_⟩
   ·
    have hallL:∀i,i<ops.size→listed.getD i false=true:=by
     intro i
     induction i using Nat.strongRecOn with
     | _ i ihi =>
      intro hi
      cases hl:listed.getD i false with
      | true=>rfl
      | false =>
       exfalso
       have:i∈Region.ready .any ops listed:=by
        unfold Region.ready
        simp only[List.mem_filter,List.mem_range,Bool.and_eq_true,Bool.not_eq_true']
        refine⟨hi,by rw[hgt i hi];exact hl,?_⟩
        simp only[Array.getElem?_eq_getElem hi,Option.map_some,Option.getD_some]
        refine Array.all_eq_true'.2 fun e he=>?_
        cases hb:Region.binds .any e with
        | false=>rfl
        | true =>
         have hlt:e.on<i:=by
          have:=fA (ops:=ops) ops.toList 0 hback i ops[i] (by simp[hi]) e he hb
          omega
         have:=ihi e.on hlt (by omega)
         simp[this]
       rw[hnil]at this
       simp at this
    refine hk _ C1 _ _ hK hle ?_
    rw[←rV wrs 0 S (D:=fun i=>listed.getD i false) (fun i hi=>by rw[Nat.zero_add];exact hallL i (by omega))]
    exact hR1
   ·obtain⟨hlt,hni,o,ho,hedges⟩:=hready i hi
    obtain⟨l,ws,hl1,hw1,hst⟩:=hrun i o ho
    have hpre:∀j,Prec ops j i→listed.getD j false=true:=by
     intro j hp
     have:∀{x y:Nat},Prec ops x y→y=i→listed.getD x false=true:=by
      intro x y hp
      induction hp with
      | edge ho' he hb=>intro e;subst e;rw[ho]at ho';cases ho';exact hedges _ he hb
      | trans h1 h2 ih1 ih2=>intro e;subst e;exact hdown _ _ h1 (ih2 rfl)
     exact this hp rfl
    have hpost:∀j,Prec ops i j→listed.getD j false=false:=by
     intro j hp
     cases hj:listed.getD j false with
     | false=>rfl
     | true=>have:=hdown i j hp hj;rw[hni]at this;cases this
    have hst':dQ P cx ops o (stD (fun i=>listed.getD i false) 0 wrs S) (fun l' ws'=>l'=l∧ws'=ws):=by
     by_cases hex:∃j lj wj,Ex ops (logs.zip (wrs.map fun ws=>ws.map Wr.loc)) (B6 ops.toList []) i j (l,ws.map Wr.loc) (lj,wj.map Wr.loc)∧logs[j]?=some lj∧wrs[j]?=some wj∧listed.getD j false=true
     ·
      obtain⟨p,lp,wp,hx,hlp,hwp,hDp⟩:=hex
      obtain⟨oi,oj,e1,e2,e3⟩:=hx.pair
      rw[ho]at e1;cases e1
      obtain⟨l2,w2,b1,b2,hstp⟩:=hrun p oj e2
      rw[hlp]at b1;cases b1
      rw[hwp]at b2;cases b2
      have hpl:p<wrs.length:=(List.getElem?_eq_some_iff.1 hwp).1
      have hlw:∀r c,i≤r→r<p→wrs[r]?=some c→∀x∈c.map Wr.loc,x∉l:=fun r c hr hr' hc x hxc=>by
       have hrl:r<ops.size:=by omega
       obtain⟨lr,wr,c1,c2⟩:=hlogs r hrl
       rw[hc]at c2;cases c2
       exact hx.between r _ hr hr' (hzip _ _ _ c1 hc) x hxc
      have hstq:dQ P cx ops o (stD (fun j=>decide (j<p)) 0 wrs S) (fun l' ws'=>l'=l∧ws'=ws):=by
       refine jH hst fun l' ws' hk' x hxl=>?_
       obtain⟨rfl,rfl⟩:=hk'
       refine e9 wrs 0 (fun j wj hj hm=>?_) (S.same_refl x)
       rw[Nat.zero_add]
       by_cases h1:j<i
       ·have:=hx.lt;simp[h1];omega
       ·by_cases h2:j<p
        ·exact absurd hxl (hlw j wj (by omega) h2 hj x hm)
        ·simp[h1,h2]
      have hboth:dQ P cx ops o ((stD (fun j=>decide (j<p)) 0 wrs S).puts wp) (fun l' ws'=>l'=l∧ws'=ws):=by
       unfold Bn at e3
       split at e3
       ·rename_i g1 g2
        split at e3
        ·rename_i t x ix t' x' ix' q1 q2
         simp only[Bool.and_eq_true]at e3
         have t1:=Nat.eq_of_beq_eq_true e3.1.1
         have t2:=Nat.eq_of_beq_eq_true e3.1.2
         have t3:=Nat.eq_of_beq_eq_true e3.2
         subst t1 t2 t3
         exact y7 q1 q2 g1 g2 hstq hstp (fun n hn hn'=>hx.slots n hn' hn)
        ·simp at e3
       ·simp at e3
      refine jH hboth fun l' ws' hk' x hxl=>?_
      obtain⟨rfl,rfl⟩:=hk'
      have hsplit:(stD (fun j=>decide (j<p)) 0 wrs S).puts wp=stD (fun j=>decide (j<p+1)) 0 wrs S:=by
       refine St.ext_same fun y=>?_
       by_cases hy:y∈wp.map Wr.loc
       ·refine(rW wrs 0 p wp hwp hy (by simp) fun j wj hij hj hm=>by simp;omega).symm
       ·refine(d7 wp hy).trans (e9 wrs 0 (fun j wj hj hm=>?_) (S.same_refl y))
        rw[Nat.zero_add]
        by_cases e:j=p
        ·subst e;rw[hwp]at hj;cases hj;exact absurd hm hy
        ·by_cases h1:j<p
         ·simp[h1];omega
         ·simp[h1];omega
      rw[hsplit]
      refine e9 wrs 0 (fun j wj hj hm=>?_) (S.same_refl x)
      rw[Nat.zero_add]
      have hjl:j<ops.size:=by rw[←hwl];exact(List.getElem?_eq_some_iff.1 hj).1
      obtain⟨lj,wj',hlj,hwj⟩:=hlogs j hjl
      rw[hj]at hwj;cases hwj
      by_cases h1:j<i
      ·have hcl:lk (lj,wj.map Wr.loc) (l',ws'.map Wr.loc)=true:=by
        simp only[lk,Bool.or_eq_true,List.any_eq_true,List.contains_iff_mem]
        exact .inl ⟨x,hm,.inl hxl⟩
       rcases comp j i lj wj l' ws' h1 hlj hj hl1 hw1 hcl with hp|hp
       ·rw[hpre j hp];have:=hx.lt;simp;omega
       ·exact absurd hxl (hp.wr x hm).1
      ·by_cases h2:j<p
       ·exact absurd hxl (hlw j wj (by omega) h2 hj x hm)
       ·by_cases h3:j=p
        ·subst h3;rw[hDp];simp
        ·have hcl:lk (l',ws'.map Wr.loc) (lj,wj.map Wr.loc)=true:=by
          simp only[lk,Bool.or_eq_true,List.any_eq_true,List.contains_iff_mem]
          exact .inr ⟨x,hm,hxl⟩
         have:=hprec _ _ (hx.only j _ (by have:=hx.lt;omega) h3 (hzip _ _ _ hlj hj) hcl)
         rw[hpost j this];simp;omega
     ·refine jH hst fun l' ws' hk' x hx=>?_
      obtain⟨rfl,rfl⟩:=hk'
      refine e9 wrs 0 (fun j wj hj hm=>?_) (S.same_refl x)
      rw[Nat.zero_add]
      have hjl:j<ops.size:=by rw[←hwl];exact(List.getElem?_eq_some_iff.1 hj).1
      obtain⟨lj,wj',hlj,hwj⟩:=hlogs j hjl
      rw[hj]at hwj;cases hwj
      rcases Nat.lt_trichotomy j i with hji|hji|hji
      ·rcases comp j i lj wj l' ws' hji hlj hj hl1 hw1 (by
        simp only[lk,Bool.or_eq_true,List.any_eq_true,List.contains_iff_mem]
        exact .inl ⟨x,hm,.inl hx⟩)with this|this
       ·rw[hpre j this];simp[hji]
       ·exact absurd hx (this.wr x hm).1
      ·subst hji;rw[hni];simp
      ·rcases comp i j l' ws' lj wj hji hl1 hw1 hlj hj (by
        simp only[lk,Bool.or_eq_true,List.any_eq_true,List.contains_iff_mem]
        exact .inr ⟨x,hm,hx⟩)with this|this
       ·rw[hpost j this];simp;omega
       ·cases hD:listed.getD j false with
        | true=>exact absurd ⟨j,lj,wj,this,hlj,hj,hD⟩ hex
        | false=>simp;omega
    have hnext:(stD (fun i=>listed.getD i false) 0 wrs S).puts ws=stD (fun j=>(listed.setIfInBounds i true).getD j false) 0 wrs S:=by
     have hset:∀j,(listed.setIfInBounds i true).getD j false=if j=i then true else listed.getD j false:=by
      intro j
      rw[Array.getD_eq_getD_getElem?,Array.getElem?_setIfInBounds,Array.getD_eq_getD_getElem?]
      by_cases e:j=i
      ·subst e;simp[hsz,hlt]
      ·simp[e,Ne.symm e]
     refine St.ext_same fun x=>?_
     by_cases hx:x∈ws.map Wr.loc
     ·refine(rW wrs 0 i ws hw1 hx (by rw[Nat.zero_add,hset];simp) fun j wj hij hj hm=>?_).symm
      rw[Nat.zero_add,hset,if_neg (by omega)]
      have hjl:j<ops.size:=by rw[←hwl];exact(List.getElem?_eq_some_iff.1 hj).1
      obtain⟨lj,wj',hlj,hwj⟩:=hlogs j hjl
      rw[hj]at hwj;cases hwj
      rcases comp i j l ws lj wj hij hl1 hw1 hlj hj (by
       simp only[lk,Bool.or_eq_true,List.any_eq_true,List.contains_iff_mem]
       exact .inl ⟨x,hx,.inr hm⟩)with this|this
      ·exact hpost j this
      ·exact absurd hm (this.wr x hx).2
     ·refine(d7 ws hx).trans (e9 wrs 0 (fun j wj hj hm=>?_) (S.same_refl x))
      rw[Nat.zero_add,hset]
      by_cases e:j=i
      ·subst e;rw[hw1]at hj;cases hj;exact absurd hm hx
      ·rw[if_neg e]
    have hio:KN N ops o=true:=List.all_eq_true.1 hin o (by simpa using Array.mem_of_getElem? ho)
    have hset:∀j,(listed.setIfInBounds i true).getD j false=if j=i then true else listed.getD j false:=by
     intro j
     rw[Array.getD_eq_getD_getElem?,Array.getElem?_setIfInBounds,Array.getD_eq_getD_getElem?]
     by_cases e:j=i
     ·subst e;simp[hsz,hlt]
     ·simp[e,Ne.symm e]
    have:=o6 (lo:=lo) (Q:=Q) (next:=wpAnyIn (Fw lo) 0 P .any ops Q fuel (listed.setIfInBounds i true)) cx hio hR1 (fun l' ws' C' a' w' hk' hle' hR'=>by
     obtain⟨rfl,rfl⟩:=hk'
     refine ih _ C' a' w' (by simpa using hsz) ?_ (fun p q hp hq=>?_) (hle.trans hle') (by rw[←hnext];exact hR')
     ·have:=Lh (List.range ops.size) (fun j=> !listed.getD j false) (fun j=> !(listed.setIfInBounds i true).getD j false) (fun j hj=>by
       rw[hset]at hj;split at hj
       ·simp at hj
       ·exact hj) (i:=i) (by simpa using hlt) (by simp[hni]) (by rw[hset];simp)
      omega
     ·rw[hset]at hq ⊢
      by_cases e:p=i
      ·simp[e]
      ·rw[if_neg e]
       by_cases e2:q=i
       ·subst e2;exact hpre p hp
       ·rw[if_neg e2]at hq;exact hdown p q hp hq) hst'
    unfold wpOpIn
    simp only[ho]
    split
    ·rename_i hw;rw[if_pos hw]at this;exact this
    ·rename_i hw;rw[if_neg hw]at this;exact⟨fun _ _=>trivial,this⟩
 refine main ops.size _ C a w (by simp) (Nat.le_trans (List.length_filter_le _ _) (by simp)) (fun i j _ hj=>?_) (.refl C) ?_
 ·exfalso
  simp[Array.getD]at hj
 ·have none:∀(r:List (List Wr)) (k:Nat) (T:St),stD (fun i=>(Array.replicate ops.size false).getD i false) k r T=T:=by
   intro r
   induction r with
   | nil=>intros;rfl
   | cons x xs ih =>
    intro k T
    simp only[stD]
    rw[if_neg (by simp[Array.getD])]
    exact ih _ _
  rw[none];exact hR
end
end Go.Am
namespace Go.Am
open Go.RowKit
section
variable {P:Program} {N:Nat} {base:Nat→Prop} {w0:World} {S:St} {C:Ctx} {a:Act} {w:World}
theorem Rel.bare(hR:Rel N base w0 S C a w):Rel 0 base w0 S C ⟨#[],[]⟩ w where
 cw:=hR.cw
 glob:=(by first|exact hR.glob|exact hR.globOf (by first|exact hle.le0|exact hle|exact hle0|exact hCle.le0) (by first|rfl|exact h1.cw|(rw[hC'];first|done|exact hR.cw)|exact hR.cw))
 size:=rfl
 defers:=k9.nil _ _
 slot i hi:=absurd hi (by omega)
 gb:=hR.gb
 gt:=hR.gt
 hw:=hR.hw
 box:=hR.box
 ownBox:=hR.ownBox
 immLt:=hR.immLt
 ownLt:=hR.ownLt
 below:=hR.below
 base:=hR.base
theorem Rel.allocFree(hR:Rel N base w0 S C a w)(o:Obj):C.le { C with w:=w.alloc o}∧Rel N base w0 S { C with w:=w.alloc o} a (w.alloc o)∧C.own w.heap.size=none∧∀i,¬C.imm w.heap.size i:=by
 have hbase:=hR.baseLe
 have hw:=hR.cw
 subst hw
 have hold:∀b,b<C.w.heap.size→(C.w.alloc o).heap[b]?=C.w.heap[b]?:=fun b hb=>Below.heap_alloc _ _ _ hb
 have hle:C.le { C with w:=C.w.alloc o}:=by
  refine⟨fun b i h=>⟨h,World.cell?_of_block (hold b (hR.immLt b i h))⟩,fun _=>Nat.le_refl _,fun _ _=>rfl,fun _=>Nat.le_refl _,fun _ _=>Nat.le_refl _,
   fun k b _ _ h=>⟨h,fun _ h=>h,fun arr e h'=>⟨arr,(hold b (hR.ownLt _ _ h).2).trans h',rfl⟩⟩,fun k _ h=>⟨h,fun arr e h'=>⟨arr,e,(hold _ (hR.ownLt _ _ h).2).trans h',Nat.le_refl _⟩⟩,
   by simp,fun _ _ _ h=> .inl h,fun _ _ _ h=>h,fun b hb _=>hold b hb⟩
 refine⟨hle,?_,?_,fun i h=>absurd (hR.immLt _ i h) (Nat.lt_irrefl _)⟩
 ·exact {
   cw:=rfl,glob:=(by first|exact hR.glob|exact hR.globOf (by first|exact hle.le0|exact hle|exact hle0|exact hCle.le0) (by first|rfl|exact h1.cw|(rw[hC'];first|done|exact hR.cw)|exact hR.cw)),size:=hR.size,defers:=hR.defers.le hle,slot:=fun i hi=>(hR.slot i hi).le hle,gb:=hR.gb,gt:=hR.gt,hw:=hR.hw
   box:=fun k sz es h=>(hR.box k sz es h).mono hle rfl (fun _=>rfl) (fun h=>hold _ (hR.ownLt _ _ h).2)
   ownBox:=hR.ownBox
   immLt:=fun b i h=>by have:=hR.immLt b i h;simp;omega
   ownLt:=fun b o h=>by have:=hR.ownLt b o h;exact⟨this.1,by have:=this.2;simp;omega⟩
   below:=hR.below.alloc hbase _,base:=hR.base}
 ·cases h:C.own C.w.heap.size with
  | none=>rfl
  | some o=>exact absurd (hR.ownLt _ _ h).2 (Nat.lt_irrefl _)
def Aw(S:St)(N:Nat)(l:List AV):Prop:=l.length=N∧∀(i:Nat) (x:AV),l[i]?=some x→x = .junk∨x=S.slot i
def oF(S:St)(kl:Key)(ps:Array Tmp)(as bo:Code)(l:List AV):St:=S.put (.box kl ((S.box kl).1+1,some (0,[.lp .ready none ps as bo l])))
def iJ(kl:Key)(g:Nat)(Q:Exit→St→Prop)(S:St):Prop :=
 match S.box kl with
 | (g',some (0,[.lp st pend _ _ _ _]))=>g'=g∧st≠ .busy∧(match pend with
  | none=>Q .normal (S.put (.box kl (g,none)))
  | some .ret=>Q .ret (S.put (.box kl (g,none)))
  | some (.exit i)=>Q (.exit i) (S.put (.box kl (g,none)))
  | some _=>False)
 | _=>False
def px(P:Program)(N:Nat)(kl:Key)(g:Operand)(ps:Array Tmp)(as bo:Code)(Q:Exit→St→Prop)(S:St):Prop :=
 ∃l fid fs cs,Aw S N l∧S.val g = .func (.func fid) fs cs ∧
  (gX none (.fn fid) (fs++[.yld kl ((S.box kl).1+1)]++cs)).wp0 P (oF S kl ps as bo l) fun ws=>iJ kl ((S.box kl).1+1) Q ((oF S kl ps as bo l).puts ws)
theorem s9(hR:Rel N base w0 S C a w){k:Key}{g:Nat}{st:LoopState}{pend:Option Code}{ps:Array Tmp}{as bo:Code}{l:List AV}(hb:S.box k=(g,some (0,[.lp st pend ps as bo l]))) :
  C.own (C.jb k)=some (.box k)∧∃(fn:FuncId) (ts:Array Value) (d:Nat),w.heap[C.jb k]?=some (.loop { state:=st,pending:=pend,fn,tmps:=ts,params:=ps,assign:=as,body:=bo,defers:=d}) ∧
   ts.size=l.length∧∀(i:Nat) (x:AV) (y:Value),l[i]?=some x→ts[i]?=some y→KRel C x y:=by
 obtain⟨ho,o,hh,hobj⟩:=(hR.box k 0 [.lp st pend ps as bo l] (by rw[hb])).map rfl
 rw[hR.cw]at hh
 refine⟨ho,?_⟩
 generalize hl:([.lp st pend ps as bo l]:List AV)=m at hobj
 cases hobj with
 | map=>cases hl
 | iter=>cases hl
 | loop h1 h2=>cases hl;exact⟨_,_,_,hh,h1,h2⟩
theorem Rel.lpWrite(hR:Rel N base w0 S C a w){k:Key}{g:Nat}{st:LoopState}{pend:Option Code}{ps:Array Tmp}{as bo:Code}{l:List AV}(hb:S.box k=(g,some (0,[.lp st pend ps as bo l])))(st':LoopState)(pend':Option Code)
  {fn:FuncId} {ts:Array Value} {d:Nat} (hh:w.heap[C.jb k]?=some (.loop { state:=st,pending:=pend,fn,tmps:=ts,params:=ps,assign:=as,body:=bo,defers:=d}))
  (h1:ts.size=l.length) (h2:∀(i:Nat) (x:AV) (y:Value),l[i]?=some x→ts[i]?=some y→KRel C x y) :
  ∃C',C.le C'∧C'.gb=C.gb∧C'.jb=C.jb∧Rel N base w0 (S.put (.box k (g,some (0,[.lp st' pend' ps as bo l])))) C' a (w.putObj (C.jb k) (.loop { state:=st',pending:=pend',fn,tmps:=ts,params:=ps,assign:=as,body:=bo,defers:=d})):=by
 obtain⟨ho,_⟩:=s9 hR hb
 have hlt:C.jb k<w.heap.size:=(Array.getElem?_eq_some_iff.1 hh).1
 have:=hR.objWrite k (some (0,[.lp st' pend' ps as bo l])) ho (w':=w.putObj (C.jb k) (.loop { state:=st',pending:=pend',fn,tmps:=ts,params:=ps,assign:=as,body:=bo,defers:=d})) (fun b hb=>World.putObj_heap_other hb) (by simp) rfl rfl rfl
  (fun arr e h=>by rw[hh]at h;cases h) (fun C' hle hw him hj ho' hg sz es1 h=>by
   cases h
   exact⟨fun h=>absurd rfl h,fun _=>⟨by rw[hj,ho'];exact ho,_,by rw[hw,hj];exact World.putObj_heap_same hlt,.loop h1 fun i x y hx hy=>(h2 i x y hx hy).le hle⟩,fun h=>absurd rfl h,fun _ _ h=>absurd rfl h,fun _ _ h=>absurd rfl h⟩)
 rw[hb]at this
 exact this
theorem Rel.lpForget(hR:Rel N base w0 S C a w){k:Key}{g:Nat}(hb:(S.box k).1=g)(ho:C.own (C.jb k)=some (.box k)){r:Loop}(hh:w.heap[C.jb k]?=some (.loop r))(o:Obj) :
  ∃C',C.le C'∧Rel N base w0 (S.put (.box k (g,none))) C' a (w.putObj (C.jb k) o):=by
 have:=hR.objWrite k none ho (w':=w.putObj (C.jb k) o) (fun b hb=>World.putObj_heap_other hb) (by simp) rfl rfl rfl
  (fun arr e h=>by rw[hh]at h;cases h) (fun C' hle hw him hj ho' hg sz es1 h=>by cases h)
 rw[hb]at this
 obtain⟨C',h1,_,_,h2⟩:=this
 exact⟨C',h1,h2⟩
theorem Aw.rel(hR:Rel N base w0 S C a w){l:List AV}(h:Aw S N l):a.tmps.size=l.length∧∀(i:Nat) (x:AV) (y:Value),l[i]?=some x→a.tmps[i]?=some y→KRel C x y:=by
 refine⟨by rw[hR.size,h.1],fun i x y hx hy=>?_⟩
 rcases h.2 i x hx with rfl|rfl
 ·exact .pure (.junk y)
 ·have hi:i<N:=by rw[←h.1];exact(List.getElem?_eq_some_iff.1 hx).1
  have:=hR.slot i hi
  rw[Array.getD_eq_getD_getElem?,hy]at this
  exact this
theorem rJ{Q:Exit→St→Prop}{kl:Key}{g L:Nat}{w2:World}{C2 C':Ctx}(hle:C2.le C')(hgb:C2.gb kl=g)(hjb:C2.jb kl=L)(hleC:C.le C2)(hR':Rel N base w0 S C' a w2)(hK:iJ kl g Q S)(v:Value) :
  rangePost (Fw none) 0 P L (fun e a' w'=>∃S' C',Q e S'∧C.le C'∧Rel N base w0 S' C' a' w') a (.returned v) w2:=by
 unfold iJ at hK
 split at hK
 ·rename_i g' st pend ps' as' bo' l' hbx
  obtain⟨rfl,hst,hK⟩:=hK
  obtain⟨hown',fn',ts',d',hh',_,_⟩:=s9 hR' hbx
  have hj:C'.jb kl=L:=by
   rw[←hjb]
   refine hle.jb kl ?_
   rw[hgb,hR'.gb,hbx]
  obtain⟨C3,hle3,hR3⟩:=hR'.lpForget (g:=g') (by rw[hbx]) hown' hh' (.loop { state:= .exhausted,pending:=pend,fn:=fn',tmps:=ts',params:=ps',assign:=as',body:=bo',defers:=d'})
  rw[hj]at hh' hR3
  have hend:=run_endLoop (P:=P) hh' hst
  refine⟨pend,_,hend,?_⟩
  have hleAll:=(hleC.trans hle).trans hle3
  cases pend with
  | none=>exact⟨_,C3,hK,hleAll,hR3⟩
  | some c =>
   cases c<;>first|exact hK.elim|skip
   ·exact wpIn_exit ⟨_,C3,hK,hleAll,hR3⟩
   ·exact wpIn_ret ⟨_,C3,hK,hleAll,hR3⟩
 ·exact hK.elim
theorem Eh{C:Ctx}{vf vc:Array Value}{fs cs:List AV}{y:Value}{x0:AV}(h1:vf.size=fs.length)(h2:vc.size=cs.length)(h3:∀(i:Nat) (x:AV) (y:Value),fs[i]?=some x→vf[i]?=some y→KRel C x y)
  (h4:∀(i:Nat) (x:AV) (y:Value),cs[i]?=some x→vc[i]?=some y→KRel C x y) (h0:KRel C x0 y) :
  (vf++#[y]++vc).size=(fs++[x0]++cs).length∧∀(i:Nat) (x:AV) (z:Value),(fs++[x0]++cs)[i]?=some x→(vf++#[y]++vc)[i]?=some z→KRel C x z:=by
 refine⟨by simp[h1,h2];omega,fun i x z hx hy=>?_⟩
 have e:(vf++#[y]++vc)[i]?=(vf.toList++[y]++vc.toList)[i]?:=by
  rw[←Array.getElem?_toList];simp
 rw[e]at hy
 by_cases hi:i<fs.length
 ·rw[List.append_assoc,List.getElem?_append_left hi]at hx
  rw[List.append_assoc,List.getElem?_append_left (by simpa[h1]using hi)]at hy
  exact h3 i x z hx (by simpa using hy)
 ·rw[List.append_assoc,List.getElem?_append_right (by omega)]at hx
  rw[List.append_assoc,List.getElem?_append_right (by simp[h1];omega)]at hy
  simp only[Array.length_toList,h1]at hy
  cases hj:i-fs.length with
  | zero=>rw[hj]at hx hy;simp at hx hy;subst hx hy;exact h0
  | succ j=>rw[hj]at hx hy;simp at hx hy;exact h4 j x z hx hy
theorem qD{Q:Exit→St→Prop}{kl:Key}{g:Operand}{ps:Array Tmp}{as bo:Code}(hin:inN N g=true)(h:px P N kl g ps as bo Q S):WpA false P N (.rangeFunc g ps as bo) Q S:=by
 intro lo hlo base w0 C a w hR
 rw[hlo rfl]
 obtain⟨l,fid,fs,cs,hsn,hg,h⟩:=h
 refine wpIn_rangeFunc fun fn _=>?_
 have hv:=hR.val hin
 rw[hg]at hv
 generalize hyg:a.eval g=yg at hv
 obtain⟨vf,vc,hy,h1,h2,h3,h4⟩:∃vf vc,yg = .func (.func fid) vf vc∧vf.size=fs.length∧vc.size=cs.length∧(∀(i:Nat) (x:AV) (y:Value),fs[i]?=some x→vf[i]?=some y→KRel C x y) ∧
   (∀(i:Nat) (x:AV) (y:Value),cs[i]?=some x→vc[i]?=some y→KRel C x y):=by
  cases hv with
  | pure hp=>cases hp with
   | func a b c d=>exact⟨_,_,rfl,a,b,fun i x y h1 h2=> .pure (c i x y h1 h2),fun i x y h1 h2=> .pure (d i x y h1 h2)⟩
  | func a b c d=>exact⟨_,_,rfl,a,b,c,d⟩
 obtain⟨hle1,hR1,hown1,himm1⟩:=hR.allocFree (.deferred (some []))
 obtain⟨a',ha'⟩:∃a':Act,a'={ a with defers:=[{ target:= .collected w.heap.size,args:=#[]}]++a.defers}:=⟨_,rfl⟩
 have hR1':Rel N base w0 S { C with w:=w.alloc (.deferred (some []))} a' (w.alloc (.deferred (some []))):=by
  rw[ha']
  exact {
    cw:=hR1.cw,glob:=hR1.glob,size:=hR1.size,slot:=hR1.slot,gb:=hR1.gb,gt:=hR1.gt,hw:=hR1.hw,box:=hR1.box,ownBox:=hR1.ownBox,immLt:=hR1.immLt,ownLt:=hR1.ownLt,below:=hR1.below,base:=hR1.base
    defers:=by
     refine⟨List.nodup_cons.2 ⟨fun hm=>?_,hR1.defers.1⟩,fun d hd=>?_⟩
     ·obtain⟨D,e,_,_,_,h5⟩:=hR.defers.2 _ hm
      cases e
      rw[hR.cw]at h5
      exact absurd (Array.getElem?_eq_some_iff.1 h5).1 (Nat.lt_irrefl _)
     ·rcases List.mem_cons.1 hd with rfl|hd
      ·exact⟨w.heap.size,rfl,hown1,hR.below.size,himm1,World.alloc_heap_new _ _⟩
      ·exact hR1.defers.2 d hd}
 obtain⟨hs1,hs2⟩:=hsn.rel hR
 obtain⟨o2,ho2⟩:∃o2:Obj,o2 = .loop { state:= .ready,pending:=none,fn,tmps:=a.tmps,params:=ps,assign:=as,body:=bo,defers:=w.heap.size}:=⟨_,rfl⟩
 obtain⟨C2,hle2,hgb2,hjb2,him2,hown2,hw2,hR2⟩:=hR1'.newObj kl (some (0,[.lp .ready none ps as bo l])) o2 fun C' hle hw him hj ho hg sz es he=>by
  cases he
  refine⟨fun h=>absurd rfl h,fun _=>⟨by rw[hj];exact ho,o2,by rw[hw,hj];exact heap_alloc_new _ _,?_⟩,fun h=>absurd rfl h,fun _ _ h=>absurd rfl h,fun _ _ h=>absurd rfl h⟩
  rw[ho2]
  exact .loop hs1 fun i x y hx hy=>((hs2 i x y hx hy).le hle1).le hle
 have hsz1:(w.alloc (.deferred (some []))).heap.size=w.heap.size+1:=by simp
 obtain⟨L,hL⟩:∃L,L=w.heap.size+1:=⟨_,rfl⟩
 rw[hsz1, ←hL]at hjb2
 have hyv:KRel C2 (.yld kl ((S.box kl).1+1)) (.func (.yield L) #[] #[]):=by rw[←hgb2, ←hjb2];exact .yld
 have hleC:=hle1.trans hle2
 obtain⟨hl1,hl2⟩:=Eh h1 h2 (fun i x y hx hy=>(h3 i x y hx hy).le hleC) (fun i x y hx hy=>(h4 i x y hx hy).le hleC) hyv
 obtain⟨R,hRdef⟩:∃R,R=rangePost (Fw none) 0 P L (fun e a' w'=>∃S' C',Q e S'∧C.le C'∧Rel N base w0 S' C' a' w') a':=⟨_,rfl⟩
 have key:ak P fid∧Calls P fid (vf++#[.func (.yield L) #[] #[]]++vc) ((w.alloc (.deferred (some []))).alloc o2) R:=by
  refine ny (o:={ dst:=none,op:= .alloc 0,type:=0,pos := "",after:=#[],guard:=none}) (fid:= .fn fid) (ys:=vf++#[.func (.yield L) #[] #[]]++vc)
   (next:=fun a'' w''=>a''=a'→R (.returned undef) w'') (K:=fun ws=>iJ kl ((S.box kl).1+1) Q ((oF S kl ps as bo l).puts ws)) hR2 ?_ ?_ hl1 hl2 h
  ·intro ws C' a'' w' hK hle hR' e
   subst e
   rw[hRdef]
   exact rJ hle hgb2 hjb2 hleC hR' hK _
  ·intro hc C1 _ _ hr
   refine⟨hc,Calls.mono hr ?_⟩
   rintro e w' ⟨y,rfl,h⟩
   have:=h rfl
   rw[hRdef]at this ⊢
   exact this
 obtain⟨W2,hW2⟩:∃W2,W2=(w.alloc (.deferred (some []))).alloc o2:=⟨_,rfl⟩
 rw[←hW2]at key
 refine⟨L,[{ target:= .collected w.heap.size,args:=#[]}],W2,{ target:= .fn (.func fid) vc,args:=vf++#[.func (.yield L) #[] #[]]},W2,fid,vf++#[.func (.yield L) #[] #[]]++vc,W2,
  by rw[hL,hW2,ho2];exact run_enterLoop_outer fn a.tmps ps as bo,?_,fun _ _=>trivial,?_,ne,?_⟩
 ·rw[hy]at hyg
  simp only[resolve,hyg,Deferred.ofValue,Sem.run_pure]
  simp[Act.eval]
 ·simp only[invoke]
  exact key.1 _ _
 ·rw[←ha', ←hRdef]
  exact xz key.2
def gu:List AV→List Tmp→List AV→List AV
 | l,p::ps,x::xs=>gu (l.set p x) ps xs
 | l,_,_=>l
def jA(pre:List cr)(l:List AV)(ps:Array Tmp)(args:List AV):St:={ slot:=fun i=>(gu l ps.toList args).getD i (.v undef),box:=cD pre,tk:=fun _=>(0,0)}
def FF(kl:Key)(g:Nat)(ps:Array Tmp)(as bo:Code)(l:List AV)(b:Bool)(post:List cr)(e:Exit)(S:St):Prop :=
 S.box kl=(g,some (0,[.lp .busy none ps as bo l]))∧match e with
  | .normal=>b=true∧∀p∈post,(S.put (.box kl (g,some (0,[.lp .ready none ps as bo l])))).box p.1=(p.2.1,some (p.2.2.1,p.2.2.2))
  | .ret=>b=false∧∀p∈post,(S.put (.box kl (g,some (0,[.lp .done (some .ret) ps as bo l])))).box p.1=(p.2.1,some (p.2.2.1,p.2.2.2))
  | .exit i=>b=false∧∀p∈post,(S.put (.box kl (g,some (0,[.lp .done (some (.exit i)) ps as bo l])))).box p.1=(p.2.1,some (p.2.2.1,p.2.2.2))
  | _=>False
theorem ui{C:Ctx}:∀(ps:List Tmp) (args:List AV) (l:List AV) (ts:Array Value) (ys:List Value),ys.length=args.length→ts.size=l.length →
  (∀(i:Nat) (x:AV) (y:Value),l[i]?=some x→ts[i]?=some y→KRel C x y)→(∀(i:Nat) (x:AV) (y:Value),args[i]?=some x→ys[i]?=some y→KRel C x y) →
  ((
   ps.zip ys).foldl (fun tmps (t,a)=>tmps.setIfInBounds t a) ts).size=(gu l ps args).length ∧
   ∀(i:Nat) (x:AV) (y:Value),(gu l ps args)[i]?=some x→((ps.zip ys).foldl (fun tmps (t,a)=>tmps.setIfInBounds t a) ts)[i]?=some y→KRel C x y
 | [],args,l,ts,ys,hl,hs,h1,h2=>by simpa[gu]using⟨hs,h1⟩
 | p::ps,[],l,ts,ys,hl,hs,h1,h2=>by
  have:ys=[]:=List.length_eq_zero_iff.1 hl
  subst this
  simpa[gu]using⟨hs,h1⟩
 | p::ps,x::xs,l,ts,[],hl,hs,h1,h2=>by simp at hl
 | p::ps,x::xs,l,ts,y::ys,hl,hs,h1,h2=>by
  simp only[List.zip_cons_cons,List.foldl_cons,gu]
  refine ui ps xs (l.set p x) (ts.setIfInBounds p y) ys (by simpa using hl) (by simp[hs]) (fun i u v hu hv=>?_) (fun i u v hu hv=>h2 (i+1) u v (by simpa using hu) (by simpa using hv))
  by_cases hi:p=i
  ·subst hi
   have hlt:p<l.length:=by simpa using(List.getElem?_eq_some_iff.1 hu).1
   rw[List.getElem?_set_self hlt]at hu
   have hlt2:p<ts.size:=by rw[hs];exact hlt
   rw[Array.getElem?_setIfInBounds_self_of_lt hlt2]at hv
   cases hu;cases hv
   exact h2 0 _ _ rfl rfl
  ·rw[List.getElem?_set_ne hi]at hu
   rw[Array.getElem?_setIfInBounds_ne hi]at hv
   exact h1 i u v hu hv
theorem oP:∀(ps:List Tmp) (args:List AV) (l:List AV),(gu l ps args).length=l.length
 | [],_,_=>by simp[gu]
 | _::_,[],_=>by simp[gu]
 | p::ps,x::xs,l=>by rw[gu,oP ps xs];simp
theorem yA{kl:Key}{g:Nat}{pre post:List cr}{args:List AV}{b:Bool}{ps:Array Tmp}{as bo:Code}{l:List AV}(hpre:cD pre kl=(g,some (0,[.lp .ready none ps as bo l])))(hps:args.length=ps.size)
  (h:WpA true P l.length as (zY (fun S1=>S1.box kl=(g,some (0,[.lp .ready none ps as bo l]))∧WpA true P l.length bo (FF kl g ps as bo l b post) (S1.put (.box kl (g,some (0,[.lp .busy none ps as bo l]))))) (fun _ _=>False)) (jA pre l ps args)) :
  BoxA P (.yld kl g) pre args (.v (.bool b)) post:=by
 refine⟨trivial,fun C w cargs hR hown hargs hg=>?_⟩
 obtain⟨ho,fn,ts,d,hh,hts,hrel⟩:=s9 (S:=fS pre) hR (k:=kl) hpre
 refine⟨_,_,_,_,run_yield hh (by rw[hargs.1,hps]),?_⟩
 refine roundIn_of_wpIn (F:=Fence.wide) trivial ?_
 obtain⟨hsz,hsl⟩:=ui (C:=C) ps.toList args l ts cargs.toList (by simpa using hargs.1) hts hrel (fun i x y hx hy=>hargs.2 i x y hx (by simpa using hy))
 have hzip:(ps.zip cargs).foldl (fun tmps (t,a)=>tmps.setIfInBounds t a) ts=(ps.toList.zip cargs.toList).foldl (fun tmps (t,a)=>tmps.setIfInBounds t a) ts:=by
  rw[←Array.foldl_toList,Array.toList_zip]
 have hR0:Rel l.length (fun b=>b<w.heap.size∧C.own b=none) w (jA pre l ps args) C { tmps:=(ps.zip cargs).foldl (fun tmps (t,a)=>tmps.setIfInBounds t a) ts,defers:=[]} w :=
  {
   cw:=hR.cw
   glob:=hR.glob
   size:=by rw[hzip,hsz,oP]
   defers:=k9.nil _ _
   slot:=fun i hi=>by
    have hi':i<(gu l ps.toList args).length:=by rw[oP];exact hi
    simp only[jA]
    rw[hzip,Array.getD_eq_getD_getElem?,List.getD_eq_getElem?_getD]
    have h1:(gu l ps.toList args)[i]?=some (gu l ps.toList args)[i]:=by simp[hi']
    have h2:((ps.toList.zip cargs.toList).foldl (fun tmps (t,a)=>tmps.setIfInBounds t a) ts)[i]?=some ((ps.toList.zip cargs.toList).foldl (fun tmps (t,a)=>tmps.setIfInBounds t a) ts)[i]:=Array.getElem?_eq_getElem (by rw[hsz];exact hi')
    rw[h1,h2]
    exact hsl i _ _ h1 h2
   gb:=hR.gb,gt:=hR.gt,hw:=hR.hw,box:=hR.box,ownBox:=hR.ownBox,immLt:=hR.immLt,ownLt:=hR.ownLt,below:=hR.below,base:=hR.base}
 refine wpIn_mono (h (some (C.jb kl)) (by simp) _ _ C _ _ hR0) ?_
 rintro e a1 w1 ⟨S1,C1,hq,hle1,hR1⟩
 cases e with
 | normal =>
  obtain⟨hb1,hbody⟩:=hq
  obtain⟨ho1,fn1,ts1,d1,hh1,hts1,hrel1⟩:=s9 hR1 hb1
  have hj1:C1.jb kl=C.jb kl:=hle1.jb kl (by rw[hg,hR1.gb,hb1])
  obtain⟨C2,hle2,hgb2,hjb2,hR2⟩:=hR1.lpWrite hb1 .busy none hh1 hts1 hrel1
  have hh1':=hh1
  rw[hj1]at hh1' hR2
  refine⟨_,run_beginRound hh1' rfl,wpIn_mono (hbody (some (C.jb kl)) (by simp) _ _ C2 _ _ hR2) ?_⟩
  rintro e a3 w3 ⟨S3,C3,⟨hb3,hq3⟩,hle3,hR3⟩
  obtain⟨ho3,fn3,ts3,d3,hh3,hts3,hrel3⟩:=s9 hR3 hb3
  have hj3:C3.jb kl=C.jb kl:=by
   rw[←hj1, ←hjb2]
   exact hle3.jb kl (by rw[hgb2,hR1.gb,hb1,hR3.gb,hb3])
  have hleAll:=(hle1.trans hle2).trans hle3
  have fin:∀st' pend',∃C4,C.le C4∧Rel 0 (fun b=>b<w.heap.size∧C.own b=none) w (S3.put (.box kl (g,some (0,[.lp st' pend' ps as bo l])))) C4 ⟨#[],[]⟩
    (w3.putObj (C.jb kl) (.loop { state:=st',pending:=pend',fn:=fn3,tmps:=ts3,params:=ps,assign:=as,body:=bo,defers:=d3})):=fun st' pend'=>by
   obtain⟨C4,hle4,_,_,hR4⟩:=hR3.lpWrite hb3 st' pend' hh3 hts3 hrel3
   rw[hj3]at hR4
   exact⟨C4,hleAll.trans hle4,hR4.bare⟩
  rw[hj3]at hh3
  cases e with
  | normal =>
   obtain⟨rfl,hpost⟩:=hq3
   obtain⟨C4,hle4,hR4⟩:=fin .ready none
   exact⟨_,_,run_endRound none hh3,_,_,C4,rfl,hle4,hR4,.pure (.v _),hpost⟩
  | ret =>
   obtain⟨rfl,hpost⟩:=hq3
   obtain⟨C4,hle4,hR4⟩:=fin .done (some .ret)
   exact⟨_,_,run_endRound (some .ret) hh3,_,_,C4,rfl,hle4,hR4,.pure (.v _),hpost⟩
  | exit i =>
   obtain⟨rfl,hpost⟩:=hq3
   obtain⟨C4,hle4,hR4⟩:=fin .done (some (.exit i))
   exact⟨_,_,run_endRound (some (.exit i)) hh3,_,_,C4,rfl,hle4,hR4,.pure (.v _),hpost⟩
  | _=>exact hq3.elim
 | _=>exact hq.elim
end
end Go.Am
namespace Go.Am
open Go.RowKit
def uL(S S1:St):Prop:=∀N base w0 C a w,Rel N base w0 S C a w→∃C',C.le C'∧Rel N base w0 S1 C' a w
theorem uL.refl(S:St):uL S S:=fun _ _ _ C _ _ h=>⟨C,.refl C,h⟩
theorem Ed{rd:Bool}{P:Program}{N:Nat}{c:Code}{Q:Exit→St→Prop}{S S1:St}(ht:uL S S1)(h:WpA rd P N c Q S1):WpA rd P N c Q S:=by
 intro lo hlo base w0 C a w hR
 obtain⟨C1,hle,hR1⟩:=ht N base w0 C a w hR
 exact wpIn_mono (h lo hlo base w0 C1 a w hR1) fun e a' w' ⟨S',C',h1,h2,h3⟩=>⟨S',C',h1,hle.trans h2,h3⟩
def Ctx.melt(C:Ctx)(ks:List Key):Ctx where
 w:=C.w
 imm b i:=C.imm b i∨∃k,dC k ks=true∧C.own b=some (.box k)
 own b:=match C.own b with
  | some (.box k)=>match dC k ks with
   | true=>none
   | false=>some (.box k)
  | o=>o
 gb k:=match dC k ks with
  | true=>C.gb k+1
  | false=>C.gb k
 jb:=C.jb
 gt:=C.gt
 hw:=C.hw
theorem d4{C:Ctx}{ks:List Key}{b:Nat}(h:∀k,C.own b=some (.box k)→¬dC k ks=true):(C.melt ks).own b=C.own b:=by
 simp only[Ctx.melt]
 split
 ·rename_i k hk
  split
  ·rename_i hm;exact absurd hm (h k hk)
  ·rw[hk]
 ·rfl
theorem dB{C:Ctx}{ks:List Key}{b:Nat}{o:Owner}(h:(C.melt ks).own b=some o):C.own b=some o∧∀k,o = .box k→¬dC k ks=true:=by
 simp only[Ctx.melt]at h
 split at h
 ·rename_i k hk
  split at h
  ·cases h
  ·rename_i hm
   cases h
   exact⟨hk,fun k' e=>by cases e;simp[hm]⟩
 ·rename_i hne
  exact⟨h,fun k e=>by subst e;exact absurd h (hne k)⟩
section
variable {P:Program} {N:Nat} {base:Nat→Prop} {w0:World} {S:St} {C:Ctx} {a:Act} {w:World}
theorem nY(hR:Rel N base w0 S C a w)(ks:List Key):C.le (C.melt ks) where
 imm b i h:=⟨.inl h,rfl⟩
 gb k:=by simp only[Ctx.melt];split<;>omega
 jb _ _:=rfl
 gt _:=Nat.le_refl _
 hw _ _:=Nat.le_refl _
 tl k b _ _ h:=by
  refine⟨by rw[d4 (fun k' hk'=>by rw[h]at hk';cases hk')];exact h,fun i hi=>?_,fun arr _ ha=>⟨arr,ha,rfl⟩⟩
  rcases hi with hi|⟨k',_,h2⟩
  ·exact hi
  ·rw[h]at h2;cases h2
 bs k e h:=by
  have hm:¬dC k ks=true:=fun hm=>by simp only[Ctx.melt,hm]at e;omega
  exact⟨by rw[show(C.melt ks).own (C.jb k)=C.own (C.jb k)from d4 (fun k' hk'=>by rw[h]at hk';cases hk';exact hm)];exact h,fun arr e' ha=>⟨arr,e',ha,Nat.le_refl _⟩⟩
 size:=Nat.le_refl _
 immOld b i _ h:=by
  rcases h with h|⟨k,hm,h2⟩
  ·exact .inl h
  ·exact .inr (.inr ⟨k,h2,by simp only[Ctx.melt,h2,hm],by simp only[Ctx.melt,hm];omega⟩)
 ownOld b o _ h:=(dB h).1
 free _ _ _:=rfl
theorem pV(hR:Rel N base w0 S C a w){ks:List Key}{key:Key}{g sz n cap:Nat}{es l:List AV}{y:Value}(hm:dC key ks=true)(hs:S.box key=(g,some (sz,es)))(h0:sz≠0)(hn:n≤es.length)
  (hl:eA (es.take n)=some l) (hv:KRel C (.own key g sz n cap) y):PRel C.w (C.melt ks).imm (.slice sz l .no) y:=by
 have hg:(S.box key).1=g:=by rw[hs]
 have hs2:(S.box key).2=some (sz,es):=by rw[hs]
 have hcase:(∃cap,y = .slice (some ⟨C.jb key,0,none⟩) n cap∧n≤cap∧cap≤maxLen)∨(n=0∧∃b,y = .slice b 0 0∧(b=none∨∃x z,b=some ⟨x,z,none⟩)):=by
  cases hv with
  | pure hp=>cases hp
  | ownOld hlt=>rw[hR.gb,hg]at hlt;omega
  | own h hm=>exact .inl ⟨_,rfl,h,hm⟩
  | ownNil hb=>exact .inr ⟨rfl,_,rfl,hb⟩
 rcases hcase with⟨cap,rfl,hcap,hmax⟩|⟨rfl,b,rfl,hb⟩
 rotate_left
 ·have:l=[]:=by simpa[eA]using hl.symm
  subst this
  rcases hb with rfl|⟨x,z,rfl⟩
  ·exact .nil _ _ (.inl rfl)
  ·exact .slice (es:=[]) (fun _ _=>undef) (Nat.le_refl _) (.inl rfl) (by simp) (by simp) (by simp) (by simp)
 obtain⟨hll,hle⟩:=lQ hl
 have hll':l.length=n:=by rw[hll];simp;omega
 have hc:∀(i:Nat) (e:AV) (c:Nat) (x:AV),l[i]?=some e→e.cells[c]?=some x→∃y,C.w.cell? ⟨C.jb key,i * sz+c,none⟩=some y∧(C.melt ks).imm (C.jb key) (i * sz+c)∧y.oneCell'=true∧PRel C.w (C.melt ks).imm x y:=by
  intro i e c x he hx
  obtain⟨u,hu,hp⟩:=hle i e he
  obtain⟨v,hv',hp'⟩:=(gi hp).2 c x hx
  rw[List.getElem?_take]at hu
  split at hu
  ·obtain⟨y,h1,h2,h3⟩:=jP hR hs2 h0 hu hv'
   obtain⟨ho,_⟩:=(hR.box key sz es hs2).own h0 (by intro h;simp[h]at hu)
   exact⟨y,by rw[hR.cw];exact h1,.inr ⟨key,hm,ho⟩,h3,(h2.pure1 hp').mono fun _ _ h=>⟨.inl h,rfl⟩⟩
  ·simp at hu
 have:=PRel.slice (w:=C.w) (imm:=(C.melt ks).imm) (sz:=sz) (es:=l) (tok:= .no) (b:=C.jb key) (off:=0) (cap:=cap) (fun i c=>(C.w.cell? ⟨C.jb key,i * sz+c,none⟩).getD undef) (by omega) (.inl rfl) hmax (fun i e he=>by
  obtain⟨u,hu,hp⟩:=hle i e he
  rw[(gi hp).1]
  rw[List.getElem?_take]at hu
  split at hu
  ·exact(hR.box key _ es hs2).wid h0 i u hu
  ·simp at hu) (fun i e c x he hx=>by
  obtain⟨y,a1,a2,a3,a4⟩:=hc i e c x he hx
  simp[a1,a2,a3]) (fun i e c x he hx=>by
  obtain⟨y,a1,a2,a3,a4⟩:=hc i e c x he hx
  simp[a1,a4])
 rw[hll']at this
 exact this
theorem Fi(hR:Rel N base w0 S C a w)(ks:List Key){kb:Key}{gk sz:Nat}{cells cells':List AV}(hb:S.box kb=(gk,some (sz,[.agg cells])))(h0:sz≠0)(hkb:¬dC kb ks=true)(hl:cells'.length=cells.length)
  (hc:∀(i:Nat) (x x':AV) (y:Value),cells[i]?=some x→cells'[i]?=some x'→KRel C x y→KRel (C.melt ks) x' y) {S1:St} (hslot:S1.slot=S.slot) (htk:S1.tk=S.tk)
  (hkb1:S1.box kb=(gk,some (sz,[.agg cells']))) (hks:∀k,dC k ks=true→S1.box k=((S.box k).1+1,none)) (hother:∀k,¬dC k ks=true→k≠kb→S1.box k=S.box k) :
  Rel N base w0 S1 (C.melt ks) a w:=by
 have hle:=nY hR ks
 have hkb2:(S.box kb).2=some (sz,[.agg cells]):=by rw[hb]
 exact {
  cw:=hR.cw,glob:=(by first|exact hR.glob|exact hR.globOf (by first|exact hle.le0|exact hle|exact hle0|exact hCle.le0) (by first|rfl|exact h1.cw|(rw[hC'];first|done|exact hR.cw)|exact hR.cw)),size:=hR.size,defers:=hR.defers.le hle
  slot:=fun i hi=>by rw[hslot];exact(hR.slot i hi).le hle
  gb:=fun k=>by
   simp only[Ctx.melt]
   split
   ·rename_i hm;rw[hks k hm,hR.gb]
   ·rename_i hm
    by_cases e:k=kb
    ·subst e;rw[hkb1,hR.gb,hb]
    ·rw[hother k (by simp[hm]) e,hR.gb]
  gt:=fun k=>by rw[htk];exact hR.gt k
  hw:=fun k=>by rw[htk];exact hR.hw k
  box:=fun k sz' es' h=>by
   by_cases hm:dC k ks=true
   ·rw[hks k hm]at h;cases h
   ·by_cases e:k=kb
    ·subst e
     rw[hkb1]at h
     simp only[Option.some.injEq,Prod.mk.injEq]at h
     obtain⟨rfl,rfl⟩:=h
     have hB:=hR.box k sz _ hkb2
     have hwid:cells.length=sz:=hB.wid h0 0 _ rfl
     refine⟨fun _ i e he=>?_,fun h=>absurd h h0,fun _ _=>?_,fun T hT h0 _=>hB.ety T hT h0 (by simp),fun T hT h0 h1=>?_⟩
     rotate_right
     ·obtain⟨ho,arr,ha⟩:=hB.row T hT h0 h1
      exact⟨by rw[show(C.melt ks).jb k=C.jb k from rfl,d4 (fun k' hk'=>by rw[ho]at hk';cases hk';exact hm)];exact ho,arr,ha⟩
     ·cases i with
      | zero=>simp at he;subst he;simpa[AV.cells,hl]using hwid
      | succ i=>simp at he
     ·obtain⟨ho,arr,et,ha,hsz,hcell⟩:=hB.own h0 (by simp)
      refine⟨by rw[show(C.melt ks).jb k=C.jb k from rfl,d4 (fun k' hk'=>by rw[ho]at hk';cases hk';exact hm)];exact ho,arr,et,ha,by simpa using hsz,fun i e c x' he hx'=>?_⟩
      cases i with
      | succ i=>simp at he
      | zero =>
       simp at he;subst he
       simp only[AV.cells]at hx'
       have hclt:c<cells.length:=by rw[←hl];exact(List.getElem?_eq_some_iff.1 hx').1
       obtain⟨y,h1,h2,h3⟩:=hcell 0 _ c cells[c] rfl (by simp[AV.cells,hclt])
       exact⟨y,h1,hc c _ _ y (by simp[hclt]) hx' h2,h3⟩
    ·rw[hother k hm e]at h
     refine(hR.box k sz' es' h).mono hle rfl (fun ho=>d4 (fun k' hk'=>by rw[ho]at hk';cases hk';exact hm)) (fun _=>rfl)
  ownBox:=fun b k h i hi=>by
   obtain⟨h1,h2⟩:=dB h
   rcases hi with hi|⟨k',hm,h3⟩
   ·exact hR.ownBox b k h1 i hi
   ·rw[h1]at h3;cases h3;exact h2 k rfl hm
  immLt:=fun b i h=>by
   rcases h with h|⟨k,_,h2⟩
   ·exact hR.immLt b i h
   ·exact(hR.ownLt b _ h2).2
  ownLt:=fun b o h=>hR.ownLt b o (dB h).1
  below:=hR.below
  base:=hR.base}
end
def ma(used:List Key):List AV→(List AV→List Wr→RB)→RB
 | [],k=>k [] []
 | x::xs,k=>match x with
  | .own key g sz n _=> .box key fun g' sz' es=> .ok (!dC key used) (.ok (Nat.beq g' g) (.ok (Nat.beq sz' sz) (.ok (Nat.ble 1 sz) (cP (n≤es.length) (.optL (eA (es.take n)) fun l=>ma (key::used) xs fun cs ws=>k (.slice sz l .no::cs) (.box key (g'+1,none)::ws))))))
  | x=>ma used xs fun cs ws=>k (x::cs) ws
def C7(kb:Key):RB :=
 .box kb fun g sz es=> .ok (Nat.ble 1 sz) (match es with
  | [.agg cells]=>ma [kb] cells fun cs ws=> .done (.box kb (g,some (sz,[.agg cs]))::ws)
  | _=> .fail)
def C8(d:Nat)(key:Key)(g sz n:Nat):RB :=
 .box key fun g' sz' es=> .ok (Nat.beq g' g) (.ok (Nat.beq sz' sz) (.ok (Nat.ble 1 sz) (cP (n≤es.length) (.optL (eA (es.take n)) fun l=> .done [.slot d (.slice sz l .no),.box key (g'+1,none)]))))
def uo(d:Nat):RB :=
 .slot d fun x=>match x with
  | .ptr kb _ _ _ _=>C7 kb
  | .own key g sz n _=>C8 d key g sz n
  | _=> .fail
structure Stone (S:St) (cells:List AV) (used ks:List Key) (cs:List AV) (ws:List Wr):Prop where
 len:cs.length=cells.length
 ws:ws=ks.map fun k=> .box k ((S.box k).1+1,none)
 new:∀k∈ks,¬dC k used=true
 fits:∀{N:Nat} {base:Nat→Prop} {w0:World} {C:Ctx} {a:Act} {w:World},Rel N base w0 S C a w→∀kk:List Key,(∀k∈ks,dC k kk=true) →
  ∀(i:Nat) (x x':AV) (y:Value),cells[i]?=some x→cs[i]?=some x'→KRel C x y→KRel (C.melt kk) x' y
theorem io{P:Program}{S:St}:∀(cells:List AV) (used:List Key) {k:List AV→List Wr→RB} {K:List Wr→Prop},(ma used cells k).rm.wp0 P S K→∃ks cs ws,Stone S cells used ks cs ws∧(k cs ws).rm.wp0 P S K
 | [],used,k,K,h=>⟨[],[],[],⟨rfl,rfl,by simp,fun _ _ _ i x x' y hx=>by simp at hx⟩,h⟩
 | x::xs,used,k,K,h=>by
  have other:(ma used xs fun cs ws=>k (x::cs) ws).rm.wp0 P S K→∃ks cs ws,Stone S (x::xs) used ks cs ws∧(k cs ws).rm.wp0 P S K:=by
   intro h
   obtain⟨ks,cs,ws,hs,h⟩:=io xs used h
   refine⟨ks,x::cs,ws,⟨by simp[hs.len],hs.ws,hs.new,fun hR kk hk i x1 x1' y hx hx' hv=>?_⟩,h⟩
   cases i with
   | zero=>simp at hx hx';subst hx hx';exact hv.le (nY hR kk)
   | succ i=>exact hs.fits hR kk hk i x1 x1' y (by simpa using hx) (by simpa using hx') hv
  cases x with
  | own key g0 sz n cap =>
   simp only[ma,RB.rm,RM.wp0,cP]at h
   split at h
   ·rename_i d hbx
    obtain⟨sz',es⟩:=d
    simp only at h
    obtain⟨hu,hg,hz,h0,hn,h⟩:=h
    obtain⟨l,hl,h⟩:=kE h
    have hz:sz'=sz:=Nat.eq_of_beq_eq_true hz
    subst hz
    have hg:(S.box key).1=g0:=Nat.eq_of_beq_eq_true hg
    have h0:sz'≠0:=by have:=Nat.le_of_ble_eq_true h0;omega
    have hu:¬dC key used=true:=by simpa using hu
    obtain⟨ks,cs,ws,hs,h⟩:=io xs (key::used) h
    have hbox:S.box key=(g0,some (sz',es)):=by rw[←hbx, ←hg]
    refine⟨key::ks,.slice sz' l .no::cs,.box key ((S.box key).1+1,none)::ws,⟨by simp[hs.len],by rw[hs.ws];rfl,fun k hk=>?_,fun hR kk hk i x1 x1' y hx hx' hv=>?_⟩,h⟩
    ·rcases List.mem_cons.1 hk with rfl|hk
     ·exact hu
     ·intro hm
      exact hs.new k hk (b9.2 (List.mem_cons_of_mem _ (b9.1 hm)))
    ·cases i with
     | zero =>
      simp at hx hx';subst hx hx'
      exact .pure (pV hR (hk key (List.mem_cons_self ..)) hbox h0 hn hl hv)
     | succ i=>exact hs.fits hR kk (fun k hk'=>hk k (List.mem_cons_of_mem _ hk')) i x1 x1' y (by simpa using hx) (by simpa using hx') hv
   ·exact h.elim
  | _=>exact other h
theorem oE(S0:St):∀(ks:List Key) (S:St),(S.puts (ks.map fun k=>Wr.box k ((S0.box k).1+1,none))).slot=S.slot∧(S.puts (ks.map fun k=>Wr.box k ((S0.box k).1+1,none))).tk=S.tk ∧
  (∀k,k∈ks→(S.puts (ks.map fun k=>Wr.box k ((S0.box k).1+1,none))).box k=((S0.box k).1+1,none))∧∀k,¬k∈ks→(S.puts (ks.map fun k=>Wr.box k ((S0.box k).1+1,none))).box k=S.box k
 | [],S=>⟨rfl,rfl,fun k h=>by simp at h,fun _ _=>rfl⟩
 | x::ks,S=>by
  obtain⟨h1,h2,h3,h4⟩:=oE S0 ks (S.put (.box x ((S0.box x).1+1,none)))
  refine⟨h1,h2,fun k hk=>?_,fun k hk=>?_⟩
  ·by_cases hm:k∈ks
   ·exact h3 k hm
   ·have e:k=x:=by
     rcases List.mem_cons.1 hk with e|h
     ·exact e
     ·exact absurd h hm
    subst e
    exact(h4 k hm).trans (by simp[St.put,upd])
  ·have hm:¬k∈ks:=fun h=>hk (List.mem_cons_of_mem _ h)
   have hne:k≠x:=fun e=>hk (by rw[e];exact List.mem_cons_self ..)
   exact(h4 k hm).trans (by simp[St.put,upd,hne])
theorem un{P:Program}{S:St}{kb:Key}{K:List Wr→Prop}(h:(C7 kb).rm.wp0 P S K):∃ws,K ws∧uL S (S.puts ws):=by
 simp only[C7,RB.rm,RM.wp0]at h
 split at h
 ·rename_i d hbx
  obtain⟨sz,es⟩:=d
  simp only at h
  obtain⟨h0,h⟩:=h
  have h0:sz≠0:=by have:=Nat.le_of_ble_eq_true h0;omega
  split at h
  ·rename_i cells
   obtain⟨ks,cs,ws,hs,h⟩:=io cells [kb] h
   have hK:K (.box kb ((S.box kb).1,some (sz,[.agg cs]))::ws):=h
   refine⟨_,hK,fun N base w0 C a w hR=>⟨C.melt ks,nY hR ks,?_⟩⟩
   have hbox:S.box kb=((S.box kb).1,some (sz,[.agg cells])):=by rw[←hbx]
   have hkb:¬kb∈ks:=fun hm=>hs.new kb hm (b9.2 (List.mem_singleton.2 rfl))
   rw[hs.ws]
   obtain⟨p1,p2,p3,p4⟩:=oE S ks (S.put (.box kb ((S.box kb).1,some (sz,[.agg cs]))))
   refine Fi hR ks (kb:=kb) (cells':=cs) hbox h0 (fun hm=>hkb (b9.1 hm)) hs.len (fun i x x' y h1 h2 h3=>hs.fits hR ks (fun k hk=>b9.2 hk) i x x' y h1 h2 h3) p1 p2 ?_ (fun k hk=>p3 k (b9.1 hk)) (fun k hk hne=>?_)
   ·exact(p4 kb hkb).trans (by simp[St.put,upd])
   ·exact(p4 k (fun hm=>hk (b9.2 hm))).trans (by simp[St.put,upd,hne])
  ·exact h.elim
 ·exact h.elim
theorem ur{P:Program}{S:St}{d:Nat}{key:Key}{g sz n cap:Nat}{K:List Wr→Prop}(hd:S.slot d = .own key g sz n cap)(h:(C8 d key g sz n).rm.wp0 P S K):∃ws,K ws∧uL S (S.puts ws):=by
 simp only[C8,RB.rm,RM.wp0,cP]at h
 split at h
 ·rename_i q hbx
  obtain⟨sz',es⟩:=q
  simp only at h
  obtain⟨hg,hz,h0,hn,h⟩:=h
  obtain⟨l,hl,h⟩:=kE h
  have hz:sz'=sz:=Nat.eq_of_beq_eq_true hz
  subst hz
  have hg:(S.box key).1=g:=Nat.eq_of_beq_eq_true hg
  have h0:sz'≠0:=by have:=Nat.le_of_ble_eq_true h0;omega
  have hbox:S.box key=(g,some (sz',es)):=by rw[←hbx, ←hg]
  have hK:K [.slot d (.slice sz' l .no),.box key ((S.box key).1+1,none)]:=h
  refine⟨_,hK,fun N base w0 C a w hR=>⟨C.melt [key],nY hR [key],?_⟩⟩
  have hle:=nY hR [key]
  have hm:dC key [key]=true:=b9.2 (List.mem_singleton.2 rfl)
  have hmn:∀k,dC k [key]=true→k=key:=fun k hk=>List.mem_singleton.1 (b9.1 hk)
  exact {
   cw:=hR.cw,glob:=hR.globOf hle.le0 hR.cw,size:=hR.size,defers:=hR.defers.le hle
   slot:=fun i hi=>by
    simp only[St.puts,St.put]
    by_cases e:i=d
    ·subst e
     rw[a8]
     have hv:=hR.slot i hi
     rw[hd]at hv
     exact .pure (pV hR hm hbox h0 hn hl hv)
    ·rw[fv _ _ e];exact(hR.slot i hi).le hle
   gb:=fun k=>by
    simp only[Ctx.melt,St.puts,St.put]
    split
    ·rename_i hk
     rw[hmn k hk,a8,hR.gb]
    ·rename_i hk
     rw[fv _ _ (fun e=>by rw[e,hm]at hk;cases hk),hR.gb]
   gt:=fun k=>hR.gt k
   hw:=fun k=>hR.hw k
   box:=fun k sz1 es1 h1=>by
    by_cases e:k=key
    ·subst e
     simp only[St.puts,St.put,a8]at h1
     cases h1
    ·simp only[St.puts,St.put,fv _ _ e]at h1
     exact(hR.box k sz1 es1 h1).mono hle rfl (fun ho=>d4 (fun k' hk'=>by rw[ho]at hk';cases hk';exact fun hk=>e (hmn k hk))) (fun _=>rfl)
   ownBox:=fun b k h i hi=>by
    obtain⟨h1,h2⟩:=dB h
    rcases hi with hi|⟨k',hk',h3⟩
    ·exact hR.ownBox b k h1 i hi
    ·rw[h1]at h3;cases h3;exact h2 k rfl hk'
   immLt:=fun b i h=>by
    rcases h with h|⟨k,_,h2⟩
    ·exact hR.immLt b i h
    ·exact(hR.ownLt b _ h2).2
   ownLt:=fun b o h=>hR.ownLt b o (dB h).1
   below:=hR.below
   base:=hR.base}
 ·exact h.elim
theorem uq{P:Program}{S:St}{d:Nat}{K:List Wr→Prop}(h:(uo d).rm.wp0 P S K):∃ws,K ws∧uL S (S.puts ws):=by
 simp only[uo,RB.rm,RM.wp0]at h
 split at h
 ·exact un h
 ·rename_i hd
  exact ur hd h
 ·exact h.elim
end Go.Am
namespace Go.Am
open Go.RowKit
def Ce(Q:Exit→St→Prop):Exit→St→Prop
 | .goto _,_=>False
 | e,S=>Q e S
def CR(P:Program)(cx:Cx)(ops:Array Oper):List Oper→St→(St→Prop)→Prop
 | [],S,K=>K S
 | o::os,S,K=>dQ P cx ops o S fun _ ws=>CR P cx ops os (S.puts ws) K
def xA(P:Program)(cx:Cx)(ops:Array Oper):List Oper→St→List (List Loc×List Loc)→(List (List Loc×List Loc)→St→Prop)→Prop
 | [],S,acc,K=>K acc S
 | o::os,S,acc,K=>dQ P cx ops o S fun l ws=>xA P cx ops os (S.puts ws) (acc++[(l,ws.map Wr.loc)]) K
theorem uc{P:Program}{cx:Cx}{ops:Array Oper}{K:St→Prop}:∀(os:List Oper) (k:Nat) {S:St},os=ops.toList.drop k→CR P cx ops os S K→Jc P cx ops (List.range' k os.length) S K
 | [],k,S,_,h=>h
 | o::os,k,S,he,h=>by
  have ho:ops[k]?=some o:=by
   have:=congrArg (fun l=>l[0]?) he
   simpa[List.getElem?_drop]using this.symm
  simp only[List.length_cons,List.range'_succ,Jc,ho]
  exact d8 (fun l ws h'=>uc os (k+1) (by rw[←List.drop_drop, ←he];simp) h') h
theorem sg{P:Program}{cx:Cx}{ops:Array Oper}{K:List (List Loc×List Loc)→St→Prop}:∀(os:List Oper) (k:Nat) {S:St} {acc:List (List Loc×List Loc)},os=ops.toList.drop k →
  xA P cx ops os S acc K→JY P cx ops (List.range' k os.length) S acc K
 | [],k,S,_,_,h=>h
 | o::os,k,S,_,he,h=>by
  have ho:ops[k]?=some o:=by
   have:=congrArg (fun l=>l[0]?) he
   simpa[List.getElem?_drop]using this.symm
  simp only[List.length_cons,List.range'_succ,JY,ho]
  exact d8 (fun l ws h'=>sg os (k+1) (by rw[←List.drop_drop, ←he];simp) h') h
def ll(P:Program)(cx:Cx)(N:Nat):Code→(Exit→St→Prop)→St→Prop
 | .skip,Q,S=>Q .normal S
 | .region _ ops d,Q,S=>∃S1,uL S S1∧(if d then xA P cx ops ops.toList S1 [] fun infos S'=>mv ops infos=true∧Q .normal S' else CR P cx ops ops.toList S1 (Q .normal))
 | .seq x y,Q,S=>ll P cx N x (zY (ll P cx N y Q) Q) S
 | .cond c x y,Q,S=>∃t,S.val c = .v (.bool t)∧(t=true→ll P cx N x Q S)∧(t=false→ll P cx N y Q S)
 | .block i c,Q,S=>ll P cx N c (pz i Q) S
 | .loop c,Q,S=>WpA cx.rd P N (.loop c) Q S
 | .rangeFunc g ps as bo,Q,S=>cx.rd=false∧px P N (cx.loopKey ps) g ps as bo Q S
 | .exit i,Q,S=>Q (.exit i) S
 | .scope c,Q,S=>ll P cx N c (Ce Q) S
 | .label _,Q,S=>Q .normal S
 | .goto _,_,_=>False
 | .ret,Q,S=>Q .ret S
 | .refuse _,_,_=>False
def ez(N:Nat):Code→Bool
 | .region _ ops _=>Cr N ops
 | .seq x y=>ez N x&&ez N y
 | .cond c x y=>inN N c&&ez N x&&ez N y
 | .block _ c | .loop c | .scope c=>ez N c
 | .rangeFunc g _ _ _=>inN N g
 | .goto _ | .refuse _=>false
 | _=>true
theorem bJ{P:Program}(cx:Cx){N:Nat}(hm:P.follows .mixedOrders=true):∀(c:Code) {Q:Exit→St→Prop} {S:St},ez N c=true→ll P cx N c Q S→WpA cx.rd P N c Q S
 | .skip,_,_,_,h=>Ec h
 | .region _ ops d,Q,S0,hin,h=>by
  have hin:Cr N ops=true:=hin
  obtain⟨S,ht,h⟩:=h
  refine Ed ht ?_
  cases d with
  | false =>
   refine yq cx hin ?_
   have:=uc ops.toList 0 (by simp) h
   rwa [Array.length_toList, ←List.range_eq_range']at this
  | true =>
   intro lo hlo base w0 C a w hR
   have h:LY P cx ops S (Q .normal):=by
    have:=sg (P:=P) (cx:=cx) (K:=fun infos S'=>mv ops infos=true∧Q .normal S') (acc:=[]) ops.toList 0 (by simp) h
    rwa [Array.length_toList, ←List.range_eq_range']at this
   obtain⟨hle,hR'⟩:=hR.world (w':={ w with drawn:=w.drawn+1}) rfl rfl rfl rfl
   exact wpIn_region_any hm (zQ hin hR' (fun S' C' a' w' h1 h2 h3=>⟨S',C',h1,hle.trans h2,h3⟩) h)
 | .seq x y,Q,S,hin,h=>Ha ((bJ cx hm x (by simp only[ez,Bool.and_eq_true]at hin;exact hin.1) h).mono fun e S' h'=>by
   cases e with
   | normal=>exact bJ cx hm y (by simp only[ez,Bool.and_eq_true]at hin;exact hin.2) h'
   | _=>exact h')
 | .cond c x y,Q,S,hin,h=>by
  obtain⟨t,ht,h1,h2⟩:=h
  simp only[ez,Bool.and_eq_true]at hin
  refine D9 hin.1.1 ht ?_
  cases t with
  | true=>exact bJ cx hm x hin.1.2 (h1 rfl)
  | false=>exact bJ cx hm y hin.2 (h2 rfl)
 | .block i c,_,_,hin,h=>Ay (bJ cx hm c hin h)
 | .loop c,_,_,_,h=>h
 | .rangeFunc g ps as bo,_,_,hin,h=>by
  obtain⟨hrd,h⟩:=h
  rw[hrd]
  exact qD hin h
 | .exit i,_,_,_,h=>Ea h
 | .scope c,Q,S,hin,h=>AA ((bJ cx hm c hin h).mono fun e S' h'=>by cases e<;>exact h')
 | .label _,_,_,_,h=>Az h
 | .goto _,_,_,_,h=>h.elim
 | .ret,_,_,_,h=>G9 h
 | .refuse _,_,_,_,h=>h.elim
theorem zK{P:Program}(cx:Cx)(hm:P.follows .mixedOrders=true){f:FuncId}{fn:Func}{c:Code}{args:List AV}{res:AV}{N:Nat}(hc:ak P f)(hf:P.funcs[f]?=some fn)(hb:fn.body=some c)(hN:fn.ntmps=N)
  (hst:(decide (args.length≤N)&&fn.results.toList.all (pu N))=true) (hin:ez N c=true)
  (h:ll P cx N c (fun e S'=>(e = .normal∨e = .ret)∧Lj P fn S' res) (l8 args)) (hrd:cx.rd=false:=by rfl):PureA P f args res:=by
 subst hN
 have:=bJ cx hm c hin h
 rw[hrd]at this
 exact Fx hc hf hb hst this
theorem BZ{P:Program}(cx:Cx){N:Nat}(hm:P.follows .mixedOrders=true){c:Code}{Q:Exit→St→Prop}{S:St}(I:Nat→St→Prop)(n₀:Nat)(hin:ez N c=true)(h₀:I n₀ S)
  (round:∀n S,I n S→ll P cx N c (zY (fun S'=>∃n',n'<n∧I n' S') Q) S):WpA cx.rd P N (.loop c) Q S :=
 Eb I n₀ h₀ fun n S hI=>bJ cx hm c hin (round n S hI)
theorem mb(s s':ByteArray):(s.toList==s'.toList)=decide (s=s'):=by
 rw[ByteArray.toList_eq,ByteArray.toList_eq]
 by_cases h:s=s'
 ·simp[h]
 ·have:¬s.data=s'.data:=fun e=>h (by cases s;cases s';simp only at e;rw[e])
  simp[h,this]
section
variable {P:Program} {S:St} {K:List Loc→List Wr→Prop}
theorem dO{s:Sem Value}{r:Value}{k:Value→RM}(h:∀w,s.run P w = .ok r w):(RM.sem s k).wp P S K=(k r).wp P S K:=by
 refine propext ⟨fun⟨r',h',hk⟩=>?_,fun hk=>⟨r,h,hk⟩⟩
 have:=h' default
 rw[h default]at this
 cases this;exact hk
variable {t t':TypeId} {x y:Operand} {k:IntKind} {a b:Int}
@[simp] theorem wp_lss{g:Value→RM}:(RM.sem (dP .lss t x y (.int k a) (.int k b)) g).wp P S K=(g (.bool (decide (a<b)))).wp P S K :=
 dO fun w=>by simp[dP,eqGuard,binOp,Op.intCmp]
@[simp] theorem wp_leq{g:Value→RM}:(RM.sem (dP .leq t x y (.int k a) (.int k b)) g).wp P S K=(g (.bool (decide (a≤b)))).wp P S K :=
 dO fun w=>by simp[dP,eqGuard,binOp,Op.intCmp]
@[simp] theorem wp_gtr{g:Value→RM}:(RM.sem (dP .gtr t x y (.int k a) (.int k b)) g).wp P S K=(g (.bool (decide (b<a)))).wp P S K :=
 dO fun w=>by simp[dP,eqGuard,binOp,Op.intCmp]
@[simp] theorem wp_geq{g:Value→RM}:(RM.sem (dP .geq t x y (.int k a) (.int k b)) g).wp P S K=(g (.bool (decide (b≤a)))).wp P S K :=
 dO fun w=>by simp[dP,eqGuard,binOp,Op.intCmp]
@[simp] theorem wp_eql{g:Value→RM}:(RM.sem (dP .eql t x y (.int k a) (.int k b)) g).wp P S K=(g (.bool (decide (a=b)))).wp P S K :=
 dO fun w=>by simp[dP,eqGuard,binOp,Op.intCmp];rfl
@[simp] theorem wp_neq{g:Value→RM}:(RM.sem (dP .neq t x y (.int k a) (.int k b)) g).wp P S K=(g (.bool (!decide (a=b)))).wp P S K :=
 dO fun w=>by simp[dP,eqGuard,binOp,Op.intCmp];rfl
@[simp] theorem wp_not{g:Value→RM}{p:Bool}:(RM.sem (Op.unary .not (.bool p)) g).wp P S K=(g (.bool (!p))).wp P S K :=
 dO fun w=>by simp[Op.unary]
@[simp] theorem wp_seql{g:Value→RM}{s s':ByteArray}:(RM.sem (dP .eql t x y (.string s) (.string s')) g).wp P S K=(g (.bool (decide (s=s')))).wp P S K :=
 dO fun w=>by simp[dP,eqGuard,binOp,Op.stringOp,mb]
@[simp] theorem wp_sneq{g:Value→RM}{s s':ByteArray}:(RM.sem (dP .neq t x y (.string s) (.string s')) g).wp P S K=(g (.bool (!decide (s=s')))).wp P S K :=
 dO fun w=>by simp[dP,eqGuard,binOp,Op.stringOp,mb]
end
theorem DE{ι α:Type}[DecidableEq ι](f:ι→α)(i:ι)(x:α)(j:ι):upd f i x j=if j=i then x else f j:=rfl
@[simp] theorem J1(args:List AV)(i:Nat):(l8 args).slot i=args.getD i (.v undef):=rfl
@[simp] theorem KZ(args:List AV)(k:Key):(l8 args).box k=(0,none):=rfl
@[simp] theorem Lr(args:List AV)(k:Key):(l8 args).tk k=(0,0):=rfl
attribute [simp] ll CR xA dQ opA tr lG Co g3 lO zh zd J0 pZ lK d5 fR lH dt eM zf iG oh d6
 val uE fo putA asV J5 oG Fz RM.wp RM.wp0 St.puts St.put St.val zY pz Ce dR pc eB toPure pure1 eH de jl uj AV.cells AV.storable AV.ok1 Cx.key DE
 ud frz oneOf ofValue i5 snap zT oV mJ wN eA Wr.loc
end Go.Am
namespace Go.Am
open Go.RowKit
inductive BT (α:Type) where
 | lf
 | nd (k:Nat) (v:α) (l r:BT α)
def BT.get{α:Type}:BT α→Nat→Option α
 | .lf,_=>none
 | .nd k v l r,i=>match Nat.beq i k with
  | true=>some v
  | false=>match Nat.ble i k with
   | true=>l.get i
   | false=>r.get i
def BT.All{α:Type}(p:Nat→α→Prop):BT α→Prop
 | .lf=>True
 | .nd k v l r=>p k v∧l.All p∧r.All p
theorem BT.All.get{α:Type}{p:Nat→α→Prop}:∀{t:BT α} {i:Nat} {v:α},t.All p→t.get i=some v→p i v
 | .lf,_,_,_,h=>by simp[BT.get]at h
 | .nd k x l r,i,v,ha,h=>by
  simp only[BT.get]at h
  split at h
  ·rename_i e
   have:=Nat.eq_of_beq_eq_true e
   simp at h;subst h this;exact ha.1
  ·split at h
   ·exact ha.2.1.get h
   ·exact ha.2.2.get h
inductive UK where
 | int (k:IntKind)
 | str
 | map
 | bytes
structure Tab where
 var:BT (Bool×Nat)
 slice:BT (Nat×Nat×Nat)
 array:BT (Nat×Nat)
 zero:BT (Nat×AV)
 field:BT (List (Option Nat))
 places:BT (List (Nat×Nat))
 placesN:BT Nat
 map:BT (KK×AV)
 eq:BT (List CK)
 und:BT UK
 fieldV:BT (List (Option (Bool×Nat×Nat)))
 indexV:BT (Bool×Nat×Nat)
def nth{α:Type}:List α→Nat→Option α
 | [],_=>none
 | x::_,0=>some x
 | _::l,n+1=>nth l n
theorem dr{α:Type}:∀(l:List α) (i:Nat),nth l i=l[i]?
 | [],_=>by simp[nth]
 | x::_,0=>by simp[nth]
 | _::l,n+1=>by simp[nth,dr l n]
structure Tab.Ok (T:Tab) (P:Program):Prop where
 var:T.var.All fun t x=>bG P t=some x
 slice:T.slice.All fun t x=>aU P t=some x
 array:T.array.All fun t x=>ey P t=some x
 zero:T.zero.All fun t x=>bm P t=some x
 field:T.field.All fun t l=>∀f o,nth l f=some (some o)→b8 P t f=some o
 places:T.places.All fun t l=>bS P t=some fun i=>l[i]?
 placesN:T.placesN.All fun t n=>bS P t=some fun i=>some (i * n,n)
 map:T.map.All fun t p=>MapTy P t p
 eq:T.eq.All fun t cs=>(∃n,n≤10000∧mn P n t=some cs)∧bE P t=true∧P.eqGuardType P.depth t=false
 und:T.und.All fun t u=>match u with
  | .int k=>P.underlying t=some (.int k)
  | .str=>P.underlying t=some .string
  | .map=>∃a b,P.underlying t=some (.map a b)
  | .bytes=>∃e,P.underlying t=some (.slice e)∧P.underlying e=some (.int .u8)
 fieldV:T.fieldV.All fun t l=>∀f q,nth l f=some (some q)→dH P t f=some q
 indexV:T.indexV.All fun t q=>tI P t=some q∧∃len e,P.underlying t=some (.array len e)
structure SS where
 slots:List (Nat×AV):=[]
 boxes:List (Key×Option jd):=[]
 toks:List (Key×Option (Nat×Nat)):=[]
def cM:List (Nat×AV)→Nat→Option AV
 | [],_=>none
 | (j,v)::l,i=>match Nat.beq i j with
  | true=>some v
  | false=>cM l i
def bg{α:Type}:List (Key×Option α)→Key→Option (Option α)
 | [],_=>none
 | (j,v)::l,i=>match Key.beq i j with
  | true=>some v
  | false=>bg l i
structure Knows (ss:SS) (S:St):Prop where
 slot:∀i v,cM ss.slots i=some v→S.slot i=v
 box:∀k,match bg ss.boxes k with
  | some (some c)=>S.box k=c
  | some none=>True
  | none=>S.box k=(0,none)
 tk:∀k,match bg ss.toks k with
  | some (some c)=>S.tk k=c
  | some none=>True
  | none=>S.tk k=(0,0)
def SS.put(ss:SS):Wr→SS
 | .slot i v=>{ ss with slots:=(i,v)::ss.slots}
 | .box k c=>{ ss with boxes:=(k,some c)::ss.boxes}
 | .tk k c=>{ ss with toks:=(k,some c)::ss.toks}
def SS.puts(ss:SS):List Wr→SS
 | []=>ss
 | x::xs=>(ss.put x).puts xs
theorem Knows.put{ss:SS}{S:St}(h:Knows ss S)(x:Wr):Knows (ss.put x) (S.put x):=by
 cases x with
 | slot i v =>
  refine⟨fun j u hu=>?_,h.box,h.tk⟩
  simp only[SS.put,cM]at hu
  simp only[St.put,upd]
  split at hu
  ·rename_i e
   rw[if_pos (Nat.eq_of_beq_eq_true e)];simpa using hu
  ·rename_i e
   rw[if_neg (fun e'=>by rw[e',Nat.beq_refl]at e;simp at e)];exact h.slot j u hu
 | box k c =>
  refine⟨h.slot,fun j=>?_,h.tk⟩
  simp only[SS.put,bg,St.put,upd]
  by_cases e:j=k
  ·rw[Key.beq_eq.2 e,if_pos e]
  ·have:j.beq k=false:=by
    cases hb:j.beq k with
    | true=>exact absurd (Key.beq_eq.1 hb) e
    | false=>rfl
   rw[this,if_neg e];exact h.box j
 | tk k c =>
  refine⟨h.slot,h.box,fun j=>?_⟩
  simp only[SS.put,bg,St.put,upd]
  by_cases e:j=k
  ·rw[Key.beq_eq.2 e,if_pos e]
  ·have:j.beq k=false:=by
    cases hb:j.beq k with
    | true=>exact absurd (Key.beq_eq.1 hb) e
    | false=>rfl
   rw[this,if_neg e];exact h.tk j
theorem Knows.puts:∀(ws:List Wr) {ss:SS} {S:St},Knows ss S→Knows (ss.puts ws) (S.puts ws)
 | [],_,_,h=>h
 | x::xs,_,_,h=>Knows.puts xs (h.put x)
def okP(b:Bool)(K:Prop):Prop:=match b with
 | true=>K
 | false=>False
theorem kg{b:Bool}{K:Prop}(h:b=true)(k:K):okP b K:=by subst h;exact k
theorem dE{b:Bool}{K:Prop}(h:okP b K):b=true∧K:=by
 cases b with
 | true=>exact⟨rfl,h⟩
 | false=>exact h.elim
def brP(b:Bool)(A B:Prop):Prop:=match b with
 | true=>A
 | false=>B
theorem AO{b:Bool}{A B:Prop}(h:b=true→A)(k:b=false→B):brP b A B:=by cases b<;>simp_all [brP]
theorem bH{p:Prop}[Decidable p]{A B:Prop}(h:p→A)(k:¬p→B):brP (decide p) A B:=by
 by_cases hp:p
 ·simp[brP,hp,h hp]
 ·simp[brP,hp,k hp]
theorem Hm{b:Bool}{A B:Prop}(h:brP b B A):brP (!b) A B:=by cases b<;>exact h
theorem Et{p:Prop}[Decidable p]{A B:Prop}(h:p→B)(k:¬p→A):brP (!decide p) A B:=Hm (bH h k)
theorem ck{b:Bool}{A B:Prop}(hb:b=true)(h:A):brP b A B:=by subst hb;exact h
theorem ct{b:Bool}{A B:Prop}(hb:b=false)(h:B):brP b A B:=by subst hb;exact h
def jL{α:Type}(o:Option α)(K:α→Prop):Prop:=match o with
 | some x=>K x
 | none=>False
theorem ah{α:Type}{o:Option α}{x:α}{K:α→Prop}(h:o=some x)(k:K x):jL o K:=by subst h;exact k
theorem bF{α:Type}{o:Option α}{K:α→Prop}(h:jL o K):∃x,o=some x∧K x:=by
 cases o with
 | some x=>exact⟨x,rfl,h⟩
 | none=>exact h.elim
def Ll(o:Option (Option jd))(K:Nat→Prop):Prop:=match o with
 | some (some c)=>K c.1
 | some none=>∀g,K g
 | none=>K 0
def Lm(o:Option (Option (Nat×Nat)))(K:Nat→Nat→Prop):Prop:=match o with
 | some (some c)=>K c.1 c.2
 | some none=>∀g h,K g h
 | none=>K 0 0
def xI:List AV→(List AV→Prop)→Prop
 | [],K=>K []
 | x::xs,K=>xI xs fun ys=>K (x::ys)
theorem nK:∀(l:List AV) (K:List AV→Prop),xI l K=K l
 | [],_=>rfl
 | x::xs,K=>nK xs _
def Hn(P:Program)(f:FuncId)(args:List AV)(snap:Bool)(K:AV→Prop):Prop:=∃r,(if snap then PureF P f args r else PureA P f args r)∧K r
def LB(K:List Key→Prop):Prop:=∃ks,K ks
def Kd(P:Program)(f:Tgt)(args:List AV)(pre:List cr)(K:AV→List cr→Prop):Prop:=∃r post,BoxA P f pre args r post∧K r post
def za(o:Option (Option jd))(K:Prop):Prop:=match o with
 | none=>K
 | some (some (0,none))=>K
 | _=>False
def Kw(o:Option (Option (Nat×AV)))(A:Nat→AV→Prop)(B:Prop):Prop:=match o with
 | some (some p)=>A p.1 p.2
 | some none=>B
 | none=>False
def RB.ev(P:Program)(ss:SS):RB→(List Loc→List Wr→Prop)→Prop
 | .find o k k',K=>Kw o (fun i v=>(k i v).ev P ss K) (k'.ev P ss K)
 | .keys k,K=>LB fun ks=>(k ks).ev P ss K
 | .callx f args pre k,K=>Kd P f args pre fun r post=>(k r post).ev P ss K
 | .absent key k,K=>za (bg ss.boxes key) (k.ev P ss fun l ws=>K (.box key::l) ws)
 | .optL o k,K=>jL o fun l=>(k l).ev P ss K
 | .done ws,K=>K [] ws
 | .slot i k,K=>jL (cM ss.slots i) fun v=>(k v).ev P ss fun l ws=>K (.slot i::l) ws
 | .box key k,K=>jL (bg ss.boxes key) fun c=>jL c fun c=>jL c.2 fun d=>(k c.1 d.1 d.2).ev P ss fun l ws=>K (.box key::l) ws
 | .gen key k,K=>Ll (bg ss.boxes key) fun g=>(k g).ev P ss fun l ws=>K (.box key::l) ws
 | .tk key k,K=>Lm (bg ss.toks key) fun g h=>(k g h).ev P ss fun l ws=>K (.tk key::l) ws
 | .sem s k,K=>∃r,(∀w,s.run P w = .ok r w)∧(k r).ev P ss K
 | .call f args snap k,K=>Hn P f args snap fun r=>(k r).ev P ss K
 | .need p _ k,K=>p∧k.ev P ss K
 | .ok b k,K=>okP b (k.ev P ss K)
 | .opt o k,K=>jL o fun e=>(k e).ev P ss K
 | .lst l k,K=>xI l fun l'=>(k l').ev P ss K
 | .br b x y,K=>brP b (x.ev P ss K) (y.ev P ss K)
 | .fail,_=>False
theorem RB.ev_rm{P:Program}{ss:SS}{S:St}(hs:Knows ss S)(r:RB):∀{K:List Loc→List Wr→Prop},r.ev P ss K→r.rm.wp P S K:=by
 induction r with
 | find o k k' ih ih' =>
  intro K h
  simp only[RB.ev]at h
  unfold Kw at h
  cases o with
  | none=>exact h.elim
  | some o =>
   cases o with
   | none=>exact ih' h
   | some p=>exact ih _ _ h
 | keys k ih=>exact fun⟨ks,h⟩=>⟨ks,ih ks h⟩
 | callx f args pre k ih=>exact fun⟨r,post,hr,h⟩=>⟨r,post,hr,ih r post h⟩
 | absent key k ih =>
  intro K h
  have:=hs.box key
  simp only[RB.ev]at h
  unfold za at h
  split at h
  ·rename_i hc
   rw[hc]at this
   exact⟨this,ih h⟩
  ·rename_i hc
   rw[hc]at this
   exact⟨this,ih h⟩
  ·exact h.elim
 | optL o k ih =>
  intro K h
  obtain⟨e,rfl,h⟩:=bF h
  exact ih e h
 | done ws=>exact fun h=>h
 | slot i k ih =>
  intro K h
  obtain⟨v,hv,h⟩:=bF h
  simp only[RB.rm,RM.wp,hs.slot i v hv]
  exact ih v h
 | box key k ih =>
  intro K h
  simp only[RB.ev]at h
  obtain⟨c,hc,h1⟩:=bF h
  obtain⟨d,hd,h2⟩:=bF h1
  obtain⟨e,he,h3⟩:=bF h2
  obtain⟨g,o⟩:=d
  simp only at he
  subst hd he
  have:=hs.box key
  rw[hc]at this
  simp only at this
  simp only[RB.rm,RM.wp,this]
  exact ih _ _ _ h3
 | gen key k ih =>
  intro K h
  have:=hs.box key
  simp only[RB.ev]at h
  unfold Ll at h
  simp only[RB.rm,RM.wp]
  split at h
  ·rename_i c hc;rw[hc]at this;simp only at this;rw[this];exact ih _ h
  ·exact ih _ (h _)
  ·rename_i hc;rw[hc]at this;simp only at this;rw[this];exact ih _ h
 | tk key k ih =>
  intro K h
  have:=hs.tk key
  simp only[RB.ev]at h
  unfold Lm at h
  simp only[RB.rm,RM.wp]
  split at h
  ·rename_i c hc;rw[hc]at this;simp only at this;rw[this];exact ih _ _ h
  ·exact ih _ _ (h _ _)
  ·rename_i hc;rw[hc]at this;simp only at this;rw[this];exact ih _ _ h
 | sem s k ih=>exact fun⟨r,hr,h⟩=>⟨r,hr,ih r h⟩
 | call f args snap k ih=>exact fun⟨r,hr,h⟩=>⟨r,hr,ih r h⟩
 | need p d k ih=>exact fun⟨hp,h⟩=>⟨hp,ih h⟩
 | ok b k ih=>exact fun h=>⟨(dE h).1,ih (dE h).2⟩
 | opt o k ih =>
  intro K h
  obtain⟨e,rfl,h⟩:=bF h
  exact ih e h
 | lst l k ih =>
  intro K h
  simp only[RB.ev,nK]at h
  exact ih l h
 | br b x y ih1 ih2 =>
  intro K h
  cases b with
  | true=>exact ih1 h
  | false=>exact ih2 h
 | fail=>exact fun h=>h.elim
end Go.Am
namespace Go.Am
open Go.RowKit
def RM.leq(P:Program)(a b:RM):Prop:=∀S K,a.wp P S K→b.wp P S K
section
variable {P:Program} {T:Tab}
theorem ar(a:RM):a.leq P a:=fun _ _ h=>h
theorem al(a:RM):RM.fail.leq P a:=fun _ _ h=>h.elim
theorem rc{i:Nat}{k k':AV→RM}(h:∀v,(k v).leq P (k' v)):(RM.slot i k).leq P (.slot i k'):=fun S _ hk=>h (S.slot i) _ _ hk
theorem BQ{i:Key}{k k':Nat×Option (Nat×List AV)→RM}(h:∀v,(k v).leq P (k' v)):(RM.box i k).leq P (.box i k'):=fun S _ hk=>h (S.box i) _ _ hk
theorem GX{i:Key}{k k':Nat×Nat→RM}(h:∀v,(k v).leq P (k' v)):(RM.tk i k).leq P (.tk i k'):=fun S _ hk=>h (S.tk i) _ _ hk
theorem au{p:Prop}{a b:RM}(h:p→a.leq P b):(RM.need p a).leq P b:=fun S K hk=>h hk.1 S K hk.2
theorem aA{p:Prop}{a b:RM}(hp:p)(h:a.leq P b):a.leq P (.need p b):=fun S K hk=>⟨hp,h S K hk⟩
theorem bu{s:Sem Value}{r:Value}{a:RM}{k:Value→RM}(hs:∀w,s.run P w = .ok r w)(h:a.leq P (k r)):a.leq P (.sem s k):=fun S K hk=>⟨r,hs,h S K hk⟩
theorem j5{s:Sem Value}{k k':Value→RM}(h:∀r,(k r).leq P (k' r)):(RM.sem s k).leq P (.sem s k'):=fun S K ⟨r,hs,hk⟩=>⟨r,hs,h r S K hk⟩
theorem xN{f:FuncId}{args:List AV}{snap:Bool}{k k':AV→RM}(h:∀r,(k r).leq P (k' r)):(RM.call f args snap k).leq P (.call f args snap k'):=fun S K ⟨r,hs,hk⟩=>⟨r,hs,h r S K hk⟩
theorem iC{key:Key}{k:Nat→Nat→List AV→RB}{k':Nat×Option (Nat×List AV)→RM}(h:∀g sz es,(k g sz es).rm.leq P (k' (g,some (sz,es)))) :
  (RB.box key k).rm.leq P (.box key k'):=by
 intro S K hk
 simp only[RB.rm,RM.wp]at hk ⊢
 cases hb:S.box key with
 | mk g o =>
  rw[hb]at hk
  cases o with
  | none=>exact hk.elim
  | some d=>exact h g d.1 d.2 S _ hk
theorem lz{l:List AV}{i:Nat}{k:AV→RB}{b:RM}(h:∀x,l[i]?=some x→(k x).rm.leq P b):(RB.opt (nth l i) k).rm.leq P b:=by
 rw[dr]
 cases hx:l[i]? with
 | none=>exact fun S K hk=>hk.elim
 | some x=>exact h x hx
theorem eN{n:Nat}(h:Nat.ble 1 n=true):n≠0:=by have:=Nat.le_of_ble_eq_true h;omega
theorem ec{key:Key}{k:Nat→RB}{k':Nat×Option (Nat×List AV)→RM}(h:∀c,(k c.1).rm.leq P (k' c)) :
 (RB.gen key k).rm.leq P (.box key k'):=BQ h
theorem aE{x:Operand}{k:AV→RB}{k':AV→RM}(h:∀v,(k v).rm.leq P (k' v)):(bf x k).rm.leq P (val x k'):=by
 cases x with
 | tmp t=>exact rc h
 | _=>exact h _
theorem cL:∀{xs:List Operand} {k:List AV→RB} {k':List AV→RM},(∀v,(k v).rm.leq P (k' v))→(fq xs k).rm.leq P (uE xs k')
 | [],_,_,h=>h []
 | _::_,_,_,h=>aE fun a=>cL fun l=>h (a::l)
theorem qF{x:AV}{k:Value→RB}{k':Value→RM}(h:∀v,(k v).rm.leq P (k' v)):(At x k).rm.leq P (asV x k'):=by
 unfold At asV
 split
 ·exact h _
 ·simp only[dR]
  split
  ·rename_i l hl;rw[hl];exact h _
  ·exact al _
 ·exact al _
def qd(agg:Bool)(cs:List AV)(off n:Nat)(k:AV→RB):RB :=
 match agg with
 | true=> .ok (Nat.ble (off+n) cs.length) (.lst ((cs.drop off).take n) fun l=>k (.agg l))
 | false=> .opt (nth cs off) k
theorem iK{agg:Bool}{cs:List AV}{off n:Nat}{k:AV→RB}{k':AV→RM}(h:∀v,(k v).rm.leq P (k' v)):(qd agg cs off n k).rm.leq P (oG agg cs off n k'):=by
 unfold qd oG
 cases agg with
 | true =>
  rw[if_pos rfl]
  exact au fun hb=>aA (Nat.le_of_ble_eq_true hb) (h _)
 | false =>
  rw[if_neg (by simp)]
  simp only[RB.rm,dr]
  cases cs[off]? with
  | none=>exact al _
  | some x=>exact h x
def ky(T:Tab)(t:TypeId)(x:Operand)(k:AV→RB):RB :=
 match T.var.get t with
 | some (agg,n)=>bf x fun x=>match x with
  | .ptr key g sz i off=> .box key fun g' sz' es=> .ok (Nat.beq g' g) (.ok (Nat.beq sz' sz) (.ok (Nat.ble 1 sz) (.opt (nth es i) fun e=>qd agg e.cells off n k)))
  | .cptr cs=>qd agg cs 0 n k
  | _=> .fail
 | none=> .fail
theorem g4(hT:T.Ok P){t:TypeId}{x:Operand}{k:AV→RB}{k':AV→RM}(h:∀v,(k v).rm.leq P (k' v)):(ky T t x k).rm.leq P (g3 P t x k'):=by
 unfold ky g3
 split
 ·rename_i agg n ht
  rw[hT.var.get ht]
  refine aE fun v=>?_
  split
  ·refine iC fun g' sz' es=>au fun h1=>au fun h2=>au fun h3=>?_
   refine aA ⟨Nat.eq_of_beq_eq_true h1,Nat.eq_of_beq_eq_true h2,eN h3⟩ ?_
   exact lz fun e he=>by rw[he];exact iK h
  ·exact iK h
  ·exact al _
 ·exact al _
def qr(v:AV)(k:RB):RB :=
 match v with
 | .agg _=>k
 | v=> .ok v.ok1 k
theorem iN{v:AV}{k:RB}{b:RM}(h:(v.storable=true∧(v.ok1=true∨∃cs,v = .agg cs))→k.rm.leq P b):(qr v k).rm.leq P b:=by
 unfold qr
 split
 ·exact h ⟨rfl,.inr ⟨_,rfl⟩⟩
 ·rename_i hn
  refine au fun h1=>h ⟨?_,.inl h1⟩
  cases v<;>first|exact h1|rfl
def I5(e:AV)(off:Nat)(v:AV)(k:AV→RB):RB :=
 match(match Nat.beq off 0 with|true=>Nat.beq v.cells.length e.cells.length|false=>false)with
 | true=>k v
 | false=> .lst (e.cells.take off++v.cells++e.cells.drop (off+v.cells.length)) fun l=>k (.agg l)
theorem CG{e v:AV}{off:Nat}{k:AV→RB}{b:RM}(h:(k (Fz e off v)).rm.leq P b):(I5 e off v k).rm.leq P b:=by
 unfold I5
 unfold Fz at h
 split
 ·rename_i hb
  split at hb
  ·rename_i h0
   rw[if_pos ⟨Nat.eq_of_beq_eq_true h0,Nat.eq_of_beq_eq_true hb⟩]at h;exact h
  ·simp at hb
 ·rename_i hb
  rw[if_neg (fun⟨h0,h1⟩=>by
   subst h0
   simp only[Nat.beq_refl]at hb
   rw[h1,Nat.beq_refl]at hb;simp at hb)]at h
  exact h
def rC(T:Tab)(t:TypeId)(x y:Operand):RB :=
 match T.var.get t with
 | some (_,n)=>bf x fun x=>match x with
  | .ptr key g sz i off=>bf y fun v=> .box key fun g' sz' es =>
   .ok (Nat.beq g' g) (.ok (Nat.beq sz' sz) (.ok (Nat.ble 1 sz) (.ok (Nat.beq v.cells.length n) (.ok (Nat.ble (off+n) sz) (qr v (.opt (nth es i) fun e=>I5 e off v fun e'=> .lst (es.set i e') fun es'=> .done [.box key (g',some (sz',es'))]))))))
  | _=> .fail
 | none=> .fail
theorem tE(hT:T.Ok P){t:TypeId}{x y:Operand}:(rC T t x y).rm.leq P (lO P t x y):=by
 unfold rC lO
 split
 ·rename_i agg n ht
  rw[hT.var.get ht]
  refine aE fun v=>?_
  split
  ·refine aE fun v=>iC fun g' sz' es=>au fun h1=>au fun h2=>au fun h0=>au fun h3=>au fun h4=>iN fun h5=>?_
   refine aA ⟨Nat.eq_of_beq_eq_true h1,Nat.eq_of_beq_eq_true h2,eN h0,h5.1,Nat.eq_of_beq_eq_true h3,Nat.le_of_ble_eq_true h4,h5.2⟩ ?_
   exact lz fun e he=>by rw[he];exact CG (ar _)
  ·exact al _
 ·exact al _
def vP(key:Key)(d:Tmp)(v:AV):RB :=
 qr v (.ok (Nat.ble 1 v.cells.length) (.gen key fun g=> .done [.box key (g+1,some (v.cells.length,[v])),.slot d (.ptr key (g+1) v.cells.length 0 0)]))
theorem og{key:Key}{d:Tmp}{v:AV}:(vP key d v).rm.leq P (tt key d v) :=
 iN fun h=>au fun h0=>aA ⟨h.1,eN h0⟩ (ec fun c=>ar _)
def xW(cx:Cx)(dst:Option Tmp)(v:AV):RB :=
 match dst with
 | some d=> .ok (Nat.ble cx.l 999) (vP (cx.key d) d v)
 | none=> .fail
theorem pY{cx:Cx}{dst:Option Tmp}{v:AV}:(xW cx dst v).rm.leq P (tr cx dst v):=by
 unfold xW tr
 split
 ·exact au fun h=>aA (Nat.le_of_ble_eq_true h) og
 ·exact al _
def rn(T:Tab)(cx:Cx)(dst:Option Tmp)(t:TypeId):RB :=
 match T.zero.get t with
 | some (_,z)=>match dst with
  | some d=>match y8 d cx.ty with
   | true=>vP (cx.keyT d t) d (xG z)
   | false=>xW cx (some d) z
  | none=> .fail
 | none=> .fail
theorem tq(hT:T.Ok P){cx:Cx}{dst:Option Tmp}{t:TypeId}:(rn T cx dst t).rm.leq P (lG P cx dst t):=by
 unfold rn lG
 split
 ·rename_i ht
  rw[hT.zero.get ht]
  cases dst with
  | none=>exact al _
  | some d =>
   simp only
   cases hm:y8 d cx.ty with
   | true =>
    rw[fD]at hm
    rw[if_pos hm]
    exact og
   | false =>
    rw[fD]at hm
    rw[if_neg (by rw[hm];simp)]
    exact pY
 ·exact al _
def Cp(dst:Option Tmp)(x:Operand):RB :=
 bf x fun x=>match x with
  | .ptr k g sz i off=> .gen k fun g'=> .ok (Nat.beq g' g) (dJ dst (.ptr k g sz i off))
  | .cptr cs=>dJ dst (.cptr cs)
  | .func (.func f) fs cs=>dJ dst (.func (.func f) fs cs)
  | _=> .fail
theorem zi{dst:Option Tmp}{x:Operand}:(Cp dst x).rm.leq P (zh dst x):=by
 unfold Cp zh
 refine aE fun v=>?_
 split
 ·exact ec fun c=>au fun h=>aA (Nat.eq_of_beq_eq_true h) (ar _)
 ·exact ar _
 ·exact ar _
 ·exact al _
theorem bj{p:Prop}[Decidable p]{k:RB}{b:RM}(h:p→k.rm.leq P b):(cP p k).rm.leq P b:=au h
def IS(k:IntKind)(n:Int)(r:Value→RB):RB :=
 match k with
 | .i64=>cP (inI n) (r (.int .i64 n))
 | k=>r (.int k (k.wrap n))
def Lw(op:BinOp)(k k':IntKind)(a b:Int)(r:Value→RB):RB :=
 match op with
 | .shl=>cP (0≤b) (r (.int k (k.wrap (a * 2^min b.toNat k.bits))))
 | .shr=>cP (0≤b) (r (.int k (a.fdiv (2^min b.toNat k.bits))))
 | op=> .ok (decide (k=k')) (match op with
  | .add=>IS k (a+b) r
  | .sub=>IS k (a-b) r
  | .mul=>IS k (a * b) r
  | .quo=>cP (b≠0) (IS k (a.tdiv b) r)
  | .rem=>cP (b≠0) (r (.int k (a.tmod b)))
  | .and=>r (.int k (k.wrap ((BitVec.ofInt k.bits a&&&BitVec.ofInt k.bits b).toNat:Nat)))
  | .or=>r (.int k (k.wrap ((BitVec.ofInt k.bits a|||BitVec.ofInt k.bits b).toNat:Nat)))
  | .xor=>r (.int k (k.wrap ((BitVec.ofInt k.bits a^^^BitVec.ofInt k.bits b).toNat:Nat)))
  | .andNot=>r (.int k (k.wrap ((BitVec.ofInt k.bits a&&& ~~~BitVec.ofInt k.bits b).toNat:Nat)))
  | .lss=>r (.bool (decide (a<b)))
  | .leq=>r (.bool (decide (a≤b)))
  | .gtr=>r (.bool (decide (b<a)))
  | .geq=>r (.bool (decide (b≤a)))
  | .eql=>r (.bool (decide (a=b)))
  | .neq=>r (.bool (!decide (a=b)))
  | _=> .fail)
theorem kf{k:IntKind}{n:Int}{r:Value→RB}{s:Sem Value}{r':Value→RM}(h:∀v,(r v).rm.leq P (r' v))(hs:∀w,s.run P w = .ok (.int k (k.wrap n)) w):(IS k n r).rm.leq P (.sem s r'):=by
 unfold IS
 split
 ·refine bj fun hi=>bu (r:= .int .i64 n) (fun w=>?_) (h _)
  rw[hs w,IntWalk.i64_in _ hi]
 ·exact bu hs (h _)
theorem Em{op:BinOp}{k k':IntKind}{a b:Int}{t:TypeId}{x y:Operand}{r:Value→RB}{r':Value→RM}(h:∀v,(r v).rm.leq P (r' v)) :
  (Lw op k k' a b r).rm.leq P (.sem (dP op t x y (.int k a) (.int k' b)) r'):=by
 unfold Lw
 split
 ·refine bj fun hb=>bu (fun w=>?_) (h _)
  simp[dP,eqGuard,binOp,Op.shift,Int.not_lt.2 hb]
 ·refine bj fun hb=>bu (fun w=>?_) (h _)
  simp[dP,eqGuard,binOp,Op.shift,Int.not_lt.2 hb]
 ·rename_i hn1 hn2
  refine au fun hk=>?_
  have hk:k=k':=of_decide_eq_true hk
  subst hk
  cases op<;>simp only
  case add=>exact kf h fun w=>by simp[dP,eqGuard,binOp,Op.intArith]
  case sub=>exact kf h fun w=>by simp[dP,eqGuard,binOp,Op.intArith]
  case mul=>exact kf h fun w=>by simp[dP,eqGuard,binOp,Op.intArith]
  case quo=>exact bj fun hb=>kf h fun w=>by simp[dP,eqGuard,binOp,Op.intDiv,hb]
  case rem=>exact bj fun hb=>bu (fun w=>by simp[dP,eqGuard,binOp,Op.intDiv,hb]) (h _)
  case and=>exact bu (fun w=>by simp[dP,eqGuard,binOp,Op.intBits]) (h _)
  case or=>exact bu (fun w=>by simp[dP,eqGuard,binOp,Op.intBits]) (h _)
  case xor=>exact bu (fun w=>by simp[dP,eqGuard,binOp,Op.intBits]) (h _)
  case andNot=>exact bu (fun w=>by simp[dP,eqGuard,binOp,Op.intBits]) (h _)
  case lss=>exact bu (fun w=>by simp[dP,eqGuard,binOp,Op.intCmp]) (h _)
  case leq=>exact bu (fun w=>by simp[dP,eqGuard,binOp,Op.intCmp]) (h _)
  case gtr=>exact bu (fun w=>by simp[dP,eqGuard,binOp,Op.intCmp]) (h _)
  case geq=>exact bu (fun w=>by simp[dP,eqGuard,binOp,Op.intCmp]) (h _)
  case eql=>exact bu (fun w=>by simp[dP,eqGuard,binOp,Op.intCmp];rfl) (h _)
  case neq=>exact bu (fun w=>by simp[dP,eqGuard,binOp,Op.intCmp];rfl) (h _)
  all_goals exact al _
def LL(op:BinOp)(s s':ByteArray)(r:Value→RB):RB :=
 match op with
 | .eql=>r (.bool (decide (s=s')))
 | .neq=>r (.bool (!decide (s=s')))
 | .lss=>r (.bool (Op.bytesLess s.toList s'.toList))
 | .geq=>r (.bool (!Op.bytesLess s.toList s'.toList))
 | .leq=>r (.bool (Op.bytesLess s.toList s'.toList||decide (s=s')))
 | .gtr=>r (.bool !(Op.bytesLess s.toList s'.toList||decide (s=s')))
 | .add=>cP (((s.size+s'.size:Nat):Int)≤IntKind.i64.max) (r (.string (s++s')))
 | _=> .fail
theorem FO{op:BinOp}{s s':ByteArray}{t:TypeId}{x y:Operand}{r:Value→RB}{r':Value→RM}(h:∀v,(r v).rm.leq P (r' v)) :
  (LL op s s' r).rm.leq P (.sem (dP op t x y (.string s) (.string s')) r'):=by
 unfold LL
 split
 ·exact bu (fun w=>by simp[dP,eqGuard,binOp,Op.stringOp,mb]) (h _)
 ·exact bu (fun w=>by simp[dP,eqGuard,binOp,Op.stringOp,mb]) (h _)
 ·exact bu (fun w=>by simp[dP,eqGuard,binOp,Op.stringOp]) (h _)
 ·exact bu (fun w=>by simp[dP,eqGuard,binOp,Op.stringOp]) (h _)
 ·exact bu (fun w=>by simp[dP,eqGuard,binOp,Op.stringOp,mb]) (h _)
 ·exact bu (fun w=>by simp[dP,eqGuard,binOp,Op.stringOp,mb]) (h _)
 ·refine bj fun hb=>bu (fun w=>?_) (h _)
  simp only[dP,eqGuard,binOp,Op.stringOp]
  have:((s.size+s'.size:Nat):Int)≤9223372036854775807:=hb
  simp[Int.not_lt.2 hb]
  omega
 ·exact al _
def Lt(op:BinOp)(cs:List CK)(us vs:List Value)(r:Value→RB):RB :=
 .ok (aV cs us) (.ok (aV cs vs) (match op with
  | .eql=>r (.bool (eqL us vs))
  | .neq=>r (.bool (!eqL us vs))
  | _=> .fail))
def KI(op:BinOp)(r:Bool)(k:Bool→RB):RB :=
 match op with
 | .eql=>k r
 | .neq=>k (!r)
 | _=> .fail
def Cm(T:Tab)(dst:Option Tmp)(op:BinOp)(t:TypeId)(x y:Operand):RB :=
 bf x fun a=>bf y fun b=>match IQ y with
 | true=>match nilA a with
  | some r=>match T.slice.get t with
   | some _=>KI op r fun r=>dJ dst (.v (.bool r))
   | none=> .fail
  | none=> .fail
 | false=>match a,b with
  | .v (.int k a),.v (.int k' b)=>Lw op k k' a b fun r=>dJ dst (ofValue r)
  | .v (.string s),.v (.string s')=>LL op s s' fun r=>dJ dst (ofValue r)
  | .agg as,.agg bs=>match T.eq.get t with
   | some cs=>match eB as with
    | some us=>match eB bs with
     | some vs=>Lt op cs us vs fun r=>dJ dst (ofValue r)
     | none=> .fail
    | none=> .fail
   | none=> .fail
  | a,b=>At a fun u=>At b fun v=> .sem (dP op t x y u v) fun r=>dJ dst (ofValue r)
theorem Ee(hT:T.Ok P){op:BinOp}{t:TypeId}{cs:List CK}(ht:T.eq.get t=some cs){us vs:List Value}{x y:Operand}{r:Value→RB}{r':Value→RM}(h:∀v,(r v).rm.leq P (r' v)) :
  (Lt op cs us vs r).rm.leq P (.sem (dP op t x y (.agg us.toArray) (.agg vs.toArray)) r'):=by
 obtain⟨⟨n,hn,he⟩,ha,hg⟩:=hT.eq.get ht
 unfold Lt
 refine au fun h1=>au fun h2=>?_
 split
 ·exact bu (fun w=>(mF he hn ha hg (by simpa using h1) (by simpa using h2) x y w).1) (h _)
 ·exact bu (fun w=>(mF he hn ha hg (by simpa using h1) (by simpa using h2) x y w).2) (h _)
 ·exact al _
theorem ze(hT:T.Ok P){dst:Option Tmp}{op:BinOp}{t:TypeId}{x y:Operand}:(Cm T dst op t x y).rm.leq P (zd P dst op t x y):=by
 unfold Cm zd
 refine aE fun a=>aE fun b=>?_
 cases hnc:IQ y with
 | true =>
  simp only
  cases hn:nilA a with
  | none=>exact al _
  | some r =>
   simp only
   cases hs:T.slice.get t with
   | none=>exact al _
   | some q =>
    rw[hT.slice.get hs]
    simp only
    unfold KI tj
    split<;>first|exact ar _|exact al _
 | false =>
 simp only
 split
 ·exact Em fun v=>ar _
 ·exact FO fun v=>ar _
 ·split
  ·rename_i cs ht
   split
   ·rename_i us hu
    split
    ·rename_i vs hv
     simp only[asV,dR,hu,hv,Option.map_some]
     exact Ee hT ht fun v=>ar _
    ·exact al _
   ·exact al _
  ·exact al _
 ·exact qF fun u=>qF fun v=>j5 fun r=>ar _
def IW(dst:Option Tmp)(op:UnOp)(x:Operand):RB :=
 bf x fun a=>match op,a with
  | .not,.v (.bool b)=>dJ dst (.v (.bool (!b)))
  | .neg,.v (.int k n)=>IS k (0-n) fun r=>dJ dst (ofValue r)
  | op,a=>At a fun u=> .sem (Op.unary op u) fun r=>dJ dst (ofValue r)
theorem Cq{dst:Option Tmp}{op:UnOp}{x:Operand}:(IW dst op x).rm.leq P (J0 dst op x):=by
 unfold IW J0
 refine aE fun a=>?_
 split
 ·exact bu (r:= .bool _) (fun w=>by simp[Op.unary]) (ar _)
 ·exact kf (fun v=>ar _) fun w=>by simp[Op.unary,Op.intArith]
 ·exact qF fun v=>j5 fun r=>ar _
def Kn(k':IntKind)(n:Int)(r:Value→RB):RB :=
 match k' with
 | .i64=>cP (inI n) (r (.int .i64 n))
 | k=>r (.int k (k.wrap n))
def vT(T:Tab)(dst:Option Tmp)(s t:TypeId)(x:Operand):RB :=
 bf x fun a=>match a with
  | .v (.int k n)=>match T.und.get s with
   | some (.int _)=>match T.und.get t with
    | some (.int k')=>Kn k' n fun r=>dJ dst (ofValue r)
    | some .str=>dJ dst (.v (.string (Utf8.encode n)))
    | _=> .fail
   | _=> .fail
  | .v (.string z)=>match T.und.get s with
   | some .str=>match T.und.get t with
    | some .str=>dJ dst (.v (.string z))
    | _=> .fail
   | _=> .fail
  | .slice _ es _=>match T.und.get s with
   | some .bytes=>match T.und.get t with
    | some .str=>match ld es with
     | some l=>dJ dst (.v (.string ⟨l.toArray⟩))
     | none=> .fail
    | _=> .fail
   | _=> .fail
  | _=> .fail
theorem vU(hT:T.Ok P){dst:Option Tmp}{s t:TypeId}{x:Operand}:(vT T dst s t x).rm.leq P (pZ P dst s t x):=by
 unfold vT pZ
 refine aE fun a=>?_
 split
 ·rename_i k n
  simp only[nr]
  split
  ·rename_i k1 hs
   split
   ·rename_i k' ht
    have h1:P.underlying s=some (.int k1):=hT.und.get hs
    have h2:P.underlying t=some (.int k'):=hT.und.get ht
    have hrun:∀w,(convert s t (.int k n)).run P w = .ok (.int k' (k'.wrap n)) w:=fun w=>by
     simp[convert,run_underlying h1,run_underlying h2,Conv.intToInt]
    unfold Kn
    split
    ·refine bj fun hi=>bu (r:= .int .i64 n) (fun w=>?_) (ar _)
     rw[hrun w,IntWalk.i64_in _ hi]
    ·exact bu hrun (ar _)
   ·rename_i ht
    have h1:P.underlying s=some (.int k1):=hT.und.get hs
    have h2:P.underlying t=some .string:=hT.und.get ht
    exact bu (r:= .string (Utf8.encode n)) (fun w=>by simp[convert,run_underlying h1,run_underlying h2,Conv.intToString]) (ar _)
   ·exact al _
  ·exact al _
 ·rename_i z
  simp only[nr]
  split
  ·rename_i hs
   split
   ·rename_i ht
    have h1:P.underlying s=some .string:=hT.und.get hs
    have h2:P.underlying t=some .string:=hT.und.get ht
    exact bu (r:= .string z) (fun w=>by simp[convert,run_underlying h1,run_underlying h2]) (ar _)
   ·exact al _
  ·exact al _
 ·rename_i es _
  split
  ·rename_i hs
   split
   ·rename_i ht
    split
    ·rename_i l hl
     obtain⟨e,h1,h3⟩:∃e,P.underlying s=some (.slice e)∧P.underlying e=some (.int .u8):=hT.und.get hs
     have h2:P.underlying t=some .string:=hT.und.get ht
     simp only[nr,h1,h2,h3,hl]
     exact ar _
    ·exact al _
   ·exact al _
  ·exact al _
 ·exact al _
def rv(T:Tab)(dst:Option Tmp)(t:TypeId)(x:Operand)(f:Nat):RB :=
 match T.field.get t with
 | some l=>match nth l f with
  | some (some o)=>bf x fun x=>match x with
   | .ptr k g sz i off=> .gen k fun g'=> .ok (Nat.beq g' g) (dJ dst (.ptr k g sz i (off+o)))
   | .cptr cs=> .lst (cs.drop o) fun cs=>dJ dst (.cptr cs)
   | _=> .fail
  | _=> .fail
 | none=> .fail
theorem tA(hT:T.Ok P){dst:Option Tmp}{t:TypeId}{x:Operand}{f:Nat}:(rv T dst t x f).rm.leq P (lK P dst t x f):=by
 unfold rv lK
 split
 ·rename_i l hl
  split
  ·rename_i o ho
   rw[hT.field.get hl f o ho]
   refine aE fun v=>?_
   split
   ·exact ec fun c=>au fun h=>aA (Nat.eq_of_beq_eq_true h) (ar _)
   ·exact ar _
   ·exact al _
  ·exact al _
 ·exact al _
def gZ(T:Tab)(dst:Option Tmp)(t:TypeId)(x ix:Operand):RB :=
 bf x fun a=>bf ix fun j=>match j with
  | .v (.int _ n)=>match a with
   | .slice sz es _=>match T.slice.get t with
    | some (_,n',_)=> .ok (Nat.beq n' sz) (cP (0≤n) (.opt (nth es n.toNat) fun e=>dJ dst (.cptr e.cells)))
    | none=> .fail
   | .own k g sz m cap=>match T.slice.get t with
    | some (_,n',_)=> .ok (Nat.beq n' sz) (cP (0≤n∧n<m) (.gen k fun g'=> .ok (Nat.beq g' g) (dJ dst (.ptr k g sz n.toNat 0))))
    | none=> .fail
   | .ptr k g sz i off=>match T.array.get t with
    | some (len,n')=>cP (0≤n∧n<len) (.gen k fun g'=> .ok (Nat.beq g' g) (dJ dst (.ptr k g sz i (off+n.toNat * n'))))
    | none=> .fail
   | .cptr cs=>match T.array.get t with
    | some (len,n')=>cP (0≤n∧n<len) (dJ dst (.cptr (cs.drop (n.toNat * n'))))
    | none=> .fail
   | _=> .fail
  | _=> .fail
theorem mO(hT:T.Ok P){dst:Option Tmp}{t:TypeId}{x ix:Operand}:(gZ T dst t x ix).rm.leq P (d5 P dst t x ix):=by
 unfold gZ d5
 refine aE fun a=>aE fun j=>?_
 split
 ·rename_i kk n
  simp only[asV,dR]
  split
  ·split
   ·rename_i ht
    rw[hT.slice.get ht]
    refine au fun h1=>bj fun h2=>aA h2 (aA (Nat.eq_of_beq_eq_true h1) ?_)
    exact lz fun e he=>by rw[he];exact ar _
   ·exact al _
  ·split
   ·rename_i ht
    rw[hT.slice.get ht]
    refine au fun h1=>bj fun h2=>aA h2.1 (aA ⟨Nat.eq_of_beq_eq_true h1,h2.2⟩ (ec fun c=>au fun h3=>aA (Nat.eq_of_beq_eq_true h3) (ar _)))
   ·exact al _
  ·split
   ·rename_i ht
    rw[hT.array.get ht]
    exact bj fun h2=>aA h2.1 (aA h2.2 (ec fun c=>au fun h3=>aA (Nat.eq_of_beq_eq_true h3) (ar _)))
   ·exact al _
  ·split
   ·rename_i ht
    rw[hT.array.get ht]
    exact bj fun h2=>aA h2.1 (aA h2.2 (ar _))
   ·exact al _
  ·exact al _
 ·exact al _
def om(T:Tab)(dst:Option Tmp)(t:TypeId)(x:Operand)(f:Nat):RB :=
 bf x fun x=>match x with
  | .agg cs=>match T.fieldV.get t with
   | some l=>match nth l f with
    | some (some q)=>qd q.1 cs q.2.1 q.2.2 (dJ dst)
    | _=> .fail
   | none=> .fail
  | _=> .fail
theorem rx(hT:T.Ok P){dst:Option Tmp}{t:TypeId}{x:Operand}{f:Nat}:(om T dst t x f).rm.leq P (kw P dst t x f):=by
 unfold om kw
 refine aE fun v=>?_
 split
 ·split
  ·rename_i l hl
   split
   ·rename_i q hq
    simp only[hT.fieldV.get hl f q hq]
    exact iK fun v=>ar _
   ·exact al _
  ·exact al _
 ·exact al _
def oo(T:Tab)(dst:Option Tmp)(t:TypeId)(x ix:Operand):RB :=
 bf x fun a=>bf ix fun j=>match a,j with
  | .agg cs,.v (.int _ n)=>match T.indexV.get t with
   | some q=>cP (0≤n∧n<q.2.1) (qd q.1 cs (n.toNat * q.2.2) q.2.2 (dJ dst))
   | none=> .fail
  | _,_=> .fail
theorem rz(hT:T.Ok P){dst:Option Tmp}{t:TypeId}{x ix:Operand}:(oo T dst t x ix).rm.leq P (kx P dst t x ix):=by
 unfold oo kx
 refine aE fun a=>aE fun j=>?_
 split
 ·split
  ·rename_i q hq
   simp only[(hT.indexV.get hq).1]
   exact bj fun h=>aA h (iK fun v=>ar _)
  ·exact al _
 ·exact al _
def lJ(dst:Option Tmp)(x:Operand)(i:Nat):RB :=
 bf x fun x=>match x with
  | .tuple vs=> .opt (nth vs i) fun v=>dJ dst v
  | _=> .fail
theorem po{dst:Option Tmp}{x:Operand}{i:Nat}:(lJ dst x i).rm.leq P (fR dst x i):=by
 unfold lJ fR
 refine aE fun a=>?_
 split
 ·refine lz fun e he=>?_
  simp only[he]
  exact ar _
 ·exact al _
def E2(place:List (Nat×Nat)):List AV→List (Nat×AV)→(List AV→RB)→RB
 | cs,[],k=>k cs
 | cs,(i,v)::rest,k=>match nth place i with
  | some (off,n)=> .ok (Nat.beq v.cells.length n) (.ok (Nat.ble (off+n) cs.length) (qr v (.lst (cs.take off++v.cells++cs.drop (off+n)) fun cs'=>E2 place cs' rest k)))
  | none=> .fail
theorem sQ{place:List (Nat×Nat)}{k:List AV→RB}{k':List AV→RM}(h:∀l,(k l).rm.leq P (k' l)):∀(parts:List (Nat×AV)) (cs:List AV),
  (E2 place cs parts k).rm.leq P (match jl (fun i=>place[i]?) cs parts with
   | some cs=>k' cs
   | none=> .fail)
 | [],cs=>h cs
 | (i,v)::rest,cs=>by
  simp only[E2]
  split
  ·rename_i off n hp
   rw[dr]at hp
   refine au fun h1=>au fun h2=>iN fun h3=>?_
   simp only[jl,hp]
   rw[if_pos ⟨Nat.eq_of_beq_eq_true h1,Nat.le_of_ble_eq_true h2,h3.1⟩]
   exact sQ h rest _
  ·exact al _
def E3(sz:Nat):List AV→List (Nat×AV)→(List AV→RB)→RB
 | cs,[],k=>k cs
 | cs,(i,v)::rest,k=> .ok (Nat.beq v.cells.length sz) (.ok (Nat.ble (i * sz+sz) cs.length) (qr v (.lst (cs.take (i * sz)++v.cells++cs.drop (i * sz+sz)) fun cs'=>E3 sz cs' rest k)))
theorem sR{sz:Nat}{k:List AV→RB}{k':List AV→RM}(h:∀l,(k l).rm.leq P (k' l)):∀(parts:List (Nat×AV)) (cs:List AV),
  (E3 sz cs parts k).rm.leq P (match jl (fun i=>some (i * sz,sz)) cs parts with
   | some cs=>k' cs
   | none=> .fail)
 | [],cs=>h cs
 | (i,v)::rest,cs=>by
  simp only[E3]
  refine au fun h1=>au fun h2=>iN fun h3=>?_
  simp only[jl]
  rw[if_pos ⟨Nat.eq_of_beq_eq_true h1,Nat.le_of_ble_eq_true h2,h3.1⟩]
  exact sR h rest _
def rq(T:Tab)(dst:Option Tmp)(t:TypeId)(parts:List (Nat×Operand)):RB :=
 match T.zero.get t with
 | some (_,z)=>match T.places.get t with
  | some place=>fq (parts.map (·.2)) fun l=>E2 place z.cells ((parts.map (·.1)).zip l) fun cs=>dJ dst (.agg cs)
  | none=>match T.placesN.get t with
   | some n=>fq (parts.map (·.2)) fun l=>E3 n z.cells ((parts.map (·.1)).zip l) fun cs=>dJ dst (.agg cs)
   | none=> .fail
 | none=> .fail
theorem tv(hT:T.Ok P){dst:Option Tmp}{t:TypeId}{parts:List (Nat×Operand)}:(rq T dst t parts).rm.leq P (lH P dst t parts):=by
 unfold rq lH
 split
 ·rename_i hz
  rw[hT.zero.get hz]
  split
  ·rename_i hp
   rw[hT.places.get hp]
   exact cL fun l=>sQ (fun l=>ar _) _ _
  ·split
   ·rename_i hp
    rw[hT.placesN.get hp]
    exact cL fun l=>sR (fun l=>ar _) _ _
   ·exact al _
 ·exact al _
def uk(n:Nat):List AV→Bool
 | []=>true
 | x::xs=>match Nat.beq x.cells.length n with
  | true=>match x.storable with
   | true=>uk n xs
   | false=>false
  | false=>false
theorem oS{n:Nat}:∀{l:List AV},uk n l=true→uj n l=true
 | [],_=>rfl
 | x::xs,h=>by
  simp only[uk]at h
  split at h
  ·rename_i h1
   split at h
   ·rename_i h2
    rw[uj,Nat.eq_of_beq_eq_true h1,h2,oS h];simp
   ·simp at h
  ·simp at h
def Ch:Nat→List (Nat×Operand)→Nat→Bool
 | i,[],n=>Nat.beq i n
 | i,(j,_)::l,n=>match Nat.beq i j with
  | true=>Ch (i+1) l n
  | false=>false
theorem rj:∀{l:List (Nat×Operand)} {i n:Nat},Ch i l n=true→i≤n∧l.map (·.1)=List.range' i (n-i)
 | [],i,n,h=>by have:=Nat.eq_of_beq_eq_true h;subst this;simp
 | (j,_)::l,i,n,h=>by
  simp only[Ch]at h
  split at h
  ·rename_i hj
   have:=Nat.eq_of_beq_eq_true hj
   subst this
   obtain⟨h1,h2⟩:=rj h
   refine⟨by omega,?_⟩
   rw[List.map_cons,h2,show n-i=(n-(i+1))+1 by omega,List.range'_succ]
  ·simp at h
def gg(T:Tab)(dst:Option Tmp)(t:TypeId)(len:Nat)(parts:List (Nat×Operand)):RB :=
 match T.slice.get t with
 | some (e,n,_)=>match T.zero.get e with
  | some (n',_)=> .ok (Ch 0 parts len) (.ok (Nat.ble (len * n) 16777216) (.ok (Nat.ble 1 n) (.ok (Nat.beq n' n) (fq (parts.map (·.2)) fun l =>
   match de l with
   | some es=> .ok (uk n es) (.lst es fun es=>dJ dst (.slice n es .tight))
   | none=> .fail))))
  | none=> .fail
 | none=> .fail
theorem lI(hT:T.Ok P){dst:Option Tmp}{t:TypeId}{len:Nat}{parts:List (Nat×Operand)}:(gg T dst t len parts).rm.leq P (dt P dst t len parts):=by
 unfold gg dt
 split
 ·rename_i e n b ht
  rw[hT.slice.get ht]
  split
  ·rename_i n' z hz
   refine au fun h1=>au fun h2=>au fun h3=>au fun h4=>aA ⟨?_,?_,Nat.le_of_ble_eq_true h3,?_⟩ (cL fun l=>?_)
   ·rw[(rj h1).2,List.range_eq_range'];rfl
   ·exact Nat.le_of_ble_eq_true h2
   ·rw[hT.zero.get hz, ←Nat.eq_of_beq_eq_true h4];rfl
   ·cases de l with
    | none=>exact al _
    | some es=>exact au fun h5=>aA (oS h5) (ar _)
  ·exact al _
 ·exact al _
def fE(T:Tab)(cx:Cx)(d:Tmp)(t:TypeId)(len:Nat)(parts:List (Nat×Operand)):RB :=
 match T.slice.get t with
 | some (e,n,_)=>match T.zero.get e with
  | some (n',_)=> .ok (Ch 0 parts len) (.ok (Nat.ble (len * n) 16777216) (.ok (Nat.ble 1 n) (.ok (Nat.beq n' n) (fq (parts.map (·.2)) fun l =>
   match de l with
   | some es=> .ok (uk n es) (.ok (Nat.ble cx.l 999) <| .lst es fun es=> .gen (cx.key d) fun g=> .done [.box (cx.key d) (g+1,some (n,es)),.slot d (.own (cx.key d) (g+1) n es.length 0)])
   | none=> .fail))))
  | none=> .fail
 | none=> .fail
theorem kq(hT:T.Ok P){cx:Cx}{d:Tmp}{t:TypeId}{len:Nat}{parts:List (Nat×Operand)}:(fE T cx d t len parts).rm.leq P (dF P cx d t len parts):=by
 unfold fE dF
 split
 ·rename_i e n b ht
  rw[hT.slice.get ht]
  split
  ·rename_i n' z hz
   refine au fun h1=>au fun h2=>au fun h3=>au fun h4=>aA ⟨?_,?_,Nat.le_of_ble_eq_true h3,?_⟩ (cL fun l=>?_)
   ·rw[(rj h1).2,List.range_eq_range'];rfl
   ·exact Nat.le_of_ble_eq_true h2
   ·rw[hT.zero.get hz, ←Nat.eq_of_beq_eq_true h4];rfl
   ·cases de l with
    | none=>exact al _
    | some es =>
     refine au fun h5=>au fun h6=>aA ⟨oS h5,Nat.le_of_ble_eq_true h6⟩ ?_
     show(RB.rm (RB.gen (cx.key d) fun g=>RB.done [Wr.box (cx.key d) (g+1,some (n,es)),Wr.slot d (AV.own (cx.key d) (g+1) n es.length 0)])).leq P _
     exact ec fun c=>ar _
  ·exact al _
 ·exact al _
def jt(dst:Option Tmp)(fn:Fn)(first captured:List Operand):RB :=
 fq first fun a=>fq captured fun b=>dJ dst (.func fn a b)
theorem ou{dst:Option Tmp}{fn:Fn}{first captured:List Operand}:(jt dst fn first captured).rm.leq P (eM dst fn first captured):=by
 unfold jt eM
 exact cL fun a=>cL fun b=>ar _
def Cn(T:Tab)(dst:Option Tmp)(t:TypeId)(x:Operand):RB :=
 bf x fun x=>match x with
  | .slice _ es _=>match T.slice.get t with
   | some _=>dJ dst (.v (.int .i64 es.length))
   | none=> .fail
  | .own k g _ n _=>match T.slice.get t with
   | some _=> .gen k fun g'=> .ok (Nat.beq g' g) (dJ dst (.v (.int .i64 n)))
   | none=> .fail
  | .v (.string s)=>match T.und.get t with
   | some .str=>dJ dst (.v (.int .i64 s.size))
   | _=> .fail
  | .mp k g=>match T.und.get t with
   | some .map=>tB dst (.mp k g)
   | _=> .fail
  | _=> .fail
theorem zg(hT:T.Ok P){dst:Option Tmp}{t:TypeId}{x:Operand}:(Cn T dst t x).rm.leq P (zf P dst t x):=by
 unfold Cn zf
 refine aE fun v=>?_
 split
 ·split
  ·rename_i ht;rw[hT.slice.get ht];exact ar _
  ·exact al _
 ·split
  ·rename_i ht;rw[hT.slice.get ht];exact ec fun c=>au fun h=>aA (Nat.eq_of_beq_eq_true h) (ar _)
  ·exact al _
 ·split
  ·rename_i s _ ht
   have h1:P.underlying t=some .string:=hT.und.get ht
   exact bu (r:= .int .i64 s.size) (fun w=>by simp[Builtin.len_,run_underlying h1,goInt]) (ar _)
  ·exact al _
 ·split
  ·rename_i ht
   obtain⟨a,b,h1⟩:=hT.und.get ht
   rw[h1];exact ar _
  ·exact al _
 ·exact al _
theorem kZ{es:List AV}{sz n:Nat}(h:jc es sz n=true):es≠[]→sz=n:=by
 intro he
 unfold jc at h
 split at h
 ·rename_i h1;exact Nat.eq_of_beq_eq_true h1
 ·split at h
  ·exact absurd rfl he
  ·simp at h
theorem vg{b:AV}{k:AV→RB}{k':AV→RM}(h:∀v,(k v).rm.leq P (k' v)):(ve b k).rm.leq P (sr b k'):=by
 unfold ve sr
 split
 ·exact bj fun hc=>aA hc (h _)
 ·rename_i hne
  first
   | (
    split
    ·exact absurd rfl (hne _ _ _)
    ·exact h _)
   | exact h _
def n9(T:Tab)(cx:Cx)(dst:Option Tmp)(t:TypeId)(x y:Operand):RB :=
 match T.slice.get t,dst with
 | some (e,n,by_),some d=>match T.zero.get e with
  | some (n',_)=> .ok (Nat.beq n' n) (.ok (Nat.ble 1 n) (bf x fun a=>bf y fun b=>ve b fun b=>match a,b with
   | .slice sz es tok,.slice sz' es' _ =>
    .ok (jc es sz n) (.ok (jc es' sz' n) (cP ((es.length+es'.length) * by_≤140737488355328∧es.length+es'.length≤maxLen)
     (match tok with
     | .tight=> .tk (cx.key d) fun c _=> .done [.tk (cx.key d) (c+1,es.length+es'.length),.slot d (.slice n (es++es') (.own (cx.key d) (c+1)))]
     | .own k g=> .tk k fun c h=> .ok (Nat.beq c g) (.ok (decide (h=es.length)) (.ok (Nat.beq sz n) (.done [.tk k (c,es.length+es'.length),.slot d (.slice n (es++es') (.own k g))])))
     | .no=> .fail)))
   | _,_=> .fail))
  | none=> .fail
 | _,_=> .fail
theorem rp(hT:T.Ok P){cx:Cx}{dst:Option Tmp}{t:TypeId}{x y:Operand}:(n9 T cx dst t x y).rm.leq P (iG P cx dst t x y):=by
 unfold n9 iG
 split
 ·rename_i e n by_ d ht
  rw[hT.slice.get ht]
  split
  ·rename_i n' z hz
   refine au fun h1=>au fun h2=>aE fun a=>aE fun b=>vg fun b=>?_
   split
   ·rename_i sz es tok sz' es' tok'
    refine au fun h3=>au fun h4=>bj fun h5=>aA ⟨h5.1,h5.2,Nat.le_of_ble_eq_true h2,kZ h3,kZ h4,by rw[hT.zero.get hz, ←Nat.eq_of_beq_eq_true h1];rfl⟩ ?_
    split
    ·exact GX fun c=>ar _
    ·exact GX fun c=>au fun h6=>au fun h7=>au fun h8=>aA ⟨Nat.eq_of_beq_eq_true h6,of_decide_eq_true h7,Nat.eq_of_beq_eq_true h8⟩ (ar _)
    ·exact al _
   ·exact al _
  ·exact al _
 ·exact al _
theorem j4{o:Option (List AV)}{k:List AV→RB}{b:RM}(h:∀x,o=some x→(k x).rm.leq P b):(RB.optL o k).rm.leq P b:=by
 cases ho:o with
 | none=>exact fun S K hk=>hk.elim
 | some x=>exact h x ho
def ql(x:AV)(k:AV→RB):RB :=
 match x with
 | .ptr key g sz i off=> .box key fun g' sz' es=> .ok (Nat.beq g' g) (.ok (Nat.beq sz' sz) (.ok (Nat.ble 1 sz) (.opt (nth es i) fun e=> .optL (zL e.cells) fun cs=> .lst (cs.drop off) fun cs=>k (.cptr cs))))
 | .own key g sz n _=> .box key fun g' sz' es=> .ok (Nat.beq g' g) (.ok (Nat.beq sz' sz) (.ok (Nat.ble 1 sz) (cP (n≤es.length) (.optL (eA (es.take n)) fun l=>k (.slice sz l .no)))))
 | .sl key g sz i off n=> .box key fun g' sz' es=> .ok (Nat.beq g' g) (.ok (Nat.beq sz' sz) (.ok (Nat.ble 1 sz) (.ok (Nat.ble (off+n) sz) (.opt (nth es i) fun e=> .optL (eH e.cells) fun cs=> .lst ((cs.drop off).take n) fun cs=>k (.slice 1 cs .no)))))
 | x=>match toPure x with
  | some y=>k y
  | none=> .fail
theorem qm{x:AV}{k:AV→RB}{k':AV→RM}(h:∀v,(k v).rm.leq P (k' v)):(ql x k).rm.leq P (oV x k'):=by
 cases x with
 | ptr key g sz i off =>
  refine iC fun g' sz' es=>au fun h1=>au fun h2=>au fun h0=>aA ⟨Nat.eq_of_beq_eq_true h1,Nat.eq_of_beq_eq_true h2,eN h0⟩ ?_
  refine lz fun e he=>?_
  rw[he]
  simp only
  refine j4 fun l hl=>?_
  rw[hl]
  exact h _
 | own key g sz n cap =>
  refine iC fun g' sz' es=>au fun h1=>au fun h2=>au fun h0=>bj fun h3=>aA ⟨Nat.eq_of_beq_eq_true h1,Nat.eq_of_beq_eq_true h2,eN h0,h3⟩ ?_
  refine j4 fun l hl=>?_
  rw[hl]
  exact h _
 | sl key g sz i off n =>
  refine iC fun g' sz' es=>au fun h1=>au fun h2=>au fun h0=>au fun h3=>aA ⟨Nat.eq_of_beq_eq_true h1,Nat.eq_of_beq_eq_true h2,eN h0,Nat.le_of_ble_eq_true h3⟩ ?_
  refine lz fun e he=>?_
  rw[he]
  simp only
  refine j4 fun l hl=>?_
  rw[hl]
  exact h _
 | v y=>exact h _
 | slice sz es tok=>exact h _
 | cptr cs=>exact h _
 | junk=>exact al _
 | mp k g=>exact al _
 | yld k g=>exact al _
 | lp=>exact al _
 | agg cs =>
  simp only[ql,oV,toPure]
  cases eH cs with
  | none=>exact al _
  | some cs=>exact h _
 | tuple cs =>
  simp only[ql,oV,toPure]
  cases eH cs with
  | none=>exact al _
  | some cs=>exact h _
 | func fn fs cs =>
  simp only[ql,oV,toPure]
  cases eH fs with
  | none=>exact al _
  | some cs' =>
   cases eH cs with
   | none=>exact al _
   | some cs=>exact h _
def oX:List AV→(List AV→RB)→RB
 | [],k=>k []
 | x::xs,k=>ql x fun y=>oX xs fun l=>k (y::l)
theorem gv:∀{xs:List AV} {k:List AV→RB} {k':List AV→RM},(∀v,(k v).rm.leq P (k' v))→(oX xs k).rm.leq P (mJ xs k')
 | [],_,_,h=>h []
 | _::_,_,_,h=>qm fun a=>gv fun l=>h (a::l)
def FL(x:AV)(k:AV→RB):RB :=
 match x with
 | .func fn fs cs=>oX fs fun a=>oX cs fun b=>k (.func fn a b)
 | x=>ql x k
theorem ul{x:AV}{k:AV→RB}{k':AV→RM}(h:∀v,(k v).rm.leq P (k' v)):(FL x k).rm.leq P (snap x k'):=by
 cases x with
 | func fn fs cs=>exact gv fun a=>gv fun b=>h _
 | _=>simp only[FL,snap];exact qm h
def CX:List AV→(List AV→RB)→RB
 | [],k=>k []
 | x::xs,k=>FL x fun y=>CX xs fun l=>k (y::l)
theorem qp:∀{xs:List AV} {k:List AV→RB} {k':List AV→RM},(∀v,(k v).rm.leq P (k' v))→(CX xs k).rm.leq P (zT xs k')
 | [],_,_,h=>h []
 | _::_,_,_,h=>ul fun a=>qp fun l=>h (a::l)
theorem Fe{k k':List Key→RM}(h:∀v,(k v).leq P (k' v)):(RM.keys k).leq P (.keys k'):=fun S _ ⟨ks,hk⟩=>⟨ks,h ks _ _ hk⟩
theorem BR{f:Tgt}{args:List AV}{pre:List cr}{k k':AV→List cr→RM}(h:∀r post,(k r post).leq P (k' r post)):(RM.callx f args pre k).leq P (.callx f args pre k') :=
 fun S _ ⟨r,post,hr,hk⟩=>⟨r,post,hr,h r post _ _ hk⟩
def CL:List Key→(List cr→RB)→RB
 | [],k=>k []
 | key::rest,k=> .box key fun g sz es=>CL rest fun l=>k ((key,g,sz,es)::l)
theorem qe:∀{ks:List Key} {k:List cr→RB} {k':List cr→RM},(∀v,(k v).rm.leq P (k' v))→(CL ks k).rm.leq P (CJ ks k')
 | [],_,_,h=>h []
 | _::_,_,_,h=>iC fun g sz es=>qe fun l=>h _
def yl(ks:List Key):List cr→(List cr→RB)→RB
 | [],k=>k []
 | (key,g,sz,es)::l,k=> .optL (uv ks sz es) fun es'=>yl ks l fun l'=>k ((key,g,sz,es')::l')
theorem mc{ks:List Key}:∀{l:List cr} {k:List cr→RB} {b:RM},(∀v,pb ks l=some v→(k v).rm.leq P b)→(yl ks l k).rm.leq P b
 | [],_,_,h=>h [] rfl
 | (key,g,sz,es)::l,k,b,h=>j4 fun es' he=>mc fun l' hl=>h _ (by simp only[pb,he,hl])
def IL:List cr→RB→RB
 | [],k=>k
 | (key,_)::rest,k=> .absent key (IL rest k)
theorem th:∀{l:List cr} {k:RB} {k':RM},k.rm.leq P k'→(IL l k).rm.leq P (KG l k')
 | [],_,_,h=>h
 | (key,_)::rest,_,_,h=>BQ fun c=>au fun hc=>aA hc (th h)
def iH(dst:Option Tmp)(fid:Tgt)(l:List AV):RB :=
 .keys fun ks=> .ok (gC ks) (.ok (fid.inK ks) (CL ks fun pre=>yl ks pre fun pre'=> .optL (tkL (tk2 ks) l) fun l'=> .lst l' fun l'=> .callx fid l' pre' fun r post =>
  match dK pre' post with
  | some new=>IL new (.ok (gC (aK post)) (.opt (tk3 (aK post) r) fun r'=>yl (aK post) post fun post'=> .done (wrE post'++putA dst r')))
  | none=> .fail))
theorem Ff{o:Option AV}{k:AV→RB}{b:RM}(h:∀x,o=some x→(k x).rm.leq P b):(RB.opt o k).rm.leq P b:=by
 cases ho:o with
 | none=>exact fun S K hk=>hk.elim
 | some x=>exact h x ho
theorem gY{dst:Option Tmp}{fid:Tgt}{l:List AV}:(iH dst fid l).rm.leq P (gX dst fid l):=by
 unfold iH gX
 refine Fe fun ks=>au fun hn=>au fun hn2=>aA ⟨hn,hn2⟩ (qe fun pre=>mc fun pre' hp=>j4 fun l' hl=>?_)
 rw[hp,hl]
 refine BR fun r post=>?_
 simp only[]
 cases hs:dK pre' post with
 | none=>exact al _
 | some new =>
  refine th (k:= .ok _ _) (au fun hd=>aA hd (Ff fun r' hr=>mc fun post' hp'=>?_))
  rw[hr,hp']
  exact ar _
def vR(cx:Cx)(dst:Option Tmp)(f:Operand)(args:List Operand):RB :=
 bf f fun f=>match f with
  | .func (.func fid) fs cs=>fq args fun l=>match y8 fid cx.mat with
   | true=>iH dst (.fn fid) (fs++l++cs)
   | false=>match de (fs++l++cs)with
    | some l'=> .lst l' fun l'=> .call fid l' false fun r=>dJ dst r
    | none=>CX (fs++l++cs) fun l'=> .call fid l' true fun r=>dJ dst r
  | .yld k g=>fq args fun l=> .gen k fun g'=> .ok (Nat.beq g' g) (iH dst (.yld k g) l)
  | _=> .fail
theorem vS{cx:Cx}{dst:Option Tmp}{f:Operand}{args:List Operand}:(vR cx dst f args).rm.leq P (oh cx dst f args):=by
 unfold vR oh
 refine aE fun f=>?_
 split
 ·refine cL fun l=>?_
  split
  ·rename_i hm
   rw[fD]at hm
   simp only[hm,if_true]
   exact gY
  ·rename_i hm
   rw[fD]at hm
   simp only[hm,Bool.false_eq_true,if_false]
   split
   ·rename_i hl;rw[hl];exact xN fun r=>ar _
   ·rename_i hl;rw[hl];exact qp fun l=>xN fun r=>ar _
 ·exact cL fun l=>ec fun c=>au fun h=>aA (Nat.eq_of_beq_eq_true h) gY
 ·exact al _
def g6(T:Tab)(dst:Option Tmp)(t:TypeId)(x:Operand)(lo hi mx:Option Operand):RB :=
 bf x fun a=>match a with
  | .slice sz es tok=>match T.slice.get t with
   | some (_,n,_)=> .ok (jc es sz n) (match lo,hi,mx with
    | none,some h,none=>bf h fun h=>match h with
     | .v (.int _ h)=>cP (0≤h∧h≤es.length) (dJ dst (.slice sz (es.take h.toNat) (JC tok es)))
     | _=> .fail
    | some l,none,none=>bf l fun l=>match l with
     | .v (.int _ l)=>cP (0≤l∧l≤es.length) (dJ dst (.slice sz (es.drop l.toNat) .no))
     | _=> .fail
    | some l,some h,none=>bf l fun l=>bf h fun h=>match l,h with
     | .v (.int _ l),.v (.int _ h)=>cP (0≤l∧l≤h∧h≤es.length) (dJ dst (.slice sz ((es.take h.toNat).drop l.toNat) .no))
     | _,_=> .fail
    | none,none,none=>dJ dst (.slice sz es .no)
    | some l,some h,some m=>bf l fun l=>bf h fun h=>bf m fun m=>match l,h,m with
     | .v (.int _ l),.v (.int _ h),.v (.int _ m)=>cP (0≤l∧l≤h∧h=m∧h≤es.length) (dJ dst (.slice sz ((es.take h.toNat).drop l.toNat) .tight))
     | _,_,_=> .fail
    | none,some h,some m=>bf h fun h=>bf m fun m=>match h,m with
     | .v (.int _ h),.v (.int _ m)=>cP (0≤h∧h=m∧h≤es.length) (dJ dst (.slice sz (es.take h.toNat) .tight))
     | _,_=> .fail
    | _,_,_=> .fail)
   | none=> .fail
  | .own k g sz m cap=>match T.slice.get t with
   | some (_,n,_)=> .ok (Nat.beq n sz) (match lo,hi,mx with
    | none,some h,none=>bf h fun h=>match h with
     | .v (.int _ h)=>cP (0≤h∧h≤m) (.gen k fun g'=> .ok (Nat.beq g' g) (dJ dst (.own k g sz h.toNat cap)))
     | _=> .fail
    | _,_,_=> .fail)
   | none=> .fail
  | .ptr k g sz i off=>match T.array.get t with
   | some (n,1)=>match lo,hi,mx with
    | none,none,none=> .ok (Nat.ble n 16777216) (.gen k fun g'=> .ok (Nat.beq g' g) (dJ dst (.sl k g sz i off n)))
    | _,_,_=> .fail
   | _=> .fail
  | .cptr cs=>match T.array.get t with
   | some (n,1)=>match lo,hi,mx with
    | none,none,none=> .ok (Nat.ble n 16777216) (.ok (Nat.ble n cs.length) (.lst (cs.take n) fun l=> .ok (KM l) (dJ dst (.slice 1 l .no))))
    | _,_,_=> .fail
   | _=> .fail
  | .v (.string s)=>fq (lo.toList++hi.toList++mx.toList) fun l =>
    match lo,hi,mx,l with
    | none,some _,none,[.v u]=> .sem (Instr.sliceAt t (.string s) none (some u) none) fun r=>dJ dst (ofValue r)
    | some _,none,none,[.v u]=> .sem (Instr.sliceAt t (.string s) (some u) none none) fun r=>dJ dst (ofValue r)
    | some _,some _,none,[.v u,.v u']=> .sem (Instr.sliceAt t (.string s) (some u) (some u') none) fun r=>dJ dst (ofValue r)
    | _,_,_,_=> .fail
  | _=> .fail
theorem sX{n:Nat}(h:Nat.ble n 16777216=true):n≤maxLen:=Nat.le_trans (Nat.le_of_ble_eq_true h) (by unfold maxLen;decide)
theorem mR(hT:T.Ok P){dst:Option Tmp}{t:TypeId}{x:Operand}{lo hi mx:Option Operand}:(g6 T dst t x lo hi mx).rm.leq P (d6 P dst t x lo hi mx):=by
 unfold g6 d6
 refine aE fun a=>?_
 split
 ·split
  ·rename_i ht
   rw[hT.slice.get ht]
   refine au fun h1=>aA (kZ h1) ?_
   split
   ·refine aE fun h=>?_
    split
    ·exact bj fun h=>aA h (ar _)
    ·exact al _
   ·refine aE fun h=>?_
    split
    ·exact bj fun h=>aA h (ar _)
    ·exact al _
   ·refine aE fun l=>aE fun h=>?_
    split
    ·exact bj fun h=>aA h (ar _)
    ·exact al _
   ·exact ar _
   ·refine aE fun l=>aE fun h=>aE fun m=>?_
    split
    ·exact bj fun h=>aA h (ar _)
    ·exact al _
   ·refine aE fun h=>aE fun m=>?_
    split
    ·exact bj fun h=>aA h (ar _)
    ·exact al _
   ·exact al _
  ·exact al _
 ·split
  ·rename_i n ht
   rw[hT.slice.get ht]
   refine au fun h1=>?_
   split
   ·refine aE fun h=>?_
    split
    ·exact bj fun h=>aA ⟨Nat.eq_of_beq_eq_true h1,h.1,h.2⟩ (ec fun g'=>au fun h1=>aA (Nat.eq_of_beq_eq_true h1) (ar _))
    ·exact al _
   ·exact al _
  ·exact al _
 ·split
  ·rename_i n ht
   rw[hT.array.get ht]
   split
   ·exact au fun h0=>aA (sX h0) (ec fun g'=>au fun h1=>aA (Nat.eq_of_beq_eq_true h1) (ar _))
   ·exact al _
  ·exact al _
 ·split
  ·rename_i n ht
   rw[hT.array.get ht]
   split
   ·exact au fun h0=>au fun h1=>au fun h2=>aA ⟨sX h0,Nat.le_of_ble_eq_true h1,h2⟩ (ar _)
   ·exact al _
  ·exact al _
 ·refine cL fun l=>?_
  split
  ·exact j5 fun r=>ar _
  ·exact j5 fun r=>ar _
  ·exact j5 fun r=>ar _
  ·exact al _
 ·exact al _
def opB(T:Tab)(cx:Cx)(o:Oper):RB :=
 match o.op with
 | .move x | .assign x=>bf x (dJ o.dst)
 | .pick c a b=>bf c fun c=>bf a fun a=>bf b fun b=>match c with
  | .v (.bool t)=> .br t (dJ o.dst a) (dJ o.dst b)
  | _=> .fail
 | .alloc e=>rn T cx o.dst e
 | .box _ x=>bf x (xW cx o.dst)
 | .build t parts=>rq T o.dst t parts.toList
 | .buildSlice t len parts=>match o.dst with
  | some d=>match y8 d cx.ow with
   | true=>fE T cx d t len parts.toList
   | false=>gg T o.dst t len parts.toList
  | none=> .fail
 | .load t x=>ky T t x (dJ o.dst)
 | .store t x y=>match o.dst with
  | none=>rC T t x y
  | some _=> .fail
 | .makeSlice t x y=>match o.dst with
  | some d=>match T.slice.get t with
   | some (e,n,by_)=>match T.zero.get e with
    | some (n',z)=>fm cx d n by_ n' z x y
    | none=> .fail
   | none=> .fail
  | none=> .fail
 | .nilCheck x=>Cp o.dst x
 | .binOp op t x y _=>Cm T o.dst op t x y
 | .unOp op _ x=>IW o.dst op x
 | .convert s t x=>vT T o.dst s t x
 | .makeFunc fn first captured=>jt o.dst fn first.toList captured.toList
 | .slice t x lo hi mx=>g6 T o.dst t x lo hi mx
 | .fieldAddr t x f=>rv T o.dst t x f
 | .indexAddr t x ix=>gZ T o.dst t x ix
 | .extract x i=>lJ o.dst x i
 | .makeMap _ none=>match o.dst with
  | some d=>lM cx d
  | none=> .fail
 | .lookup t x ix ok=>match T.map.get t with
  | some p=>g5 p o.dst ok x ix
  | none=> .fail
 | .mapUpdate t m k v | .insert t m k v=>match o.dst with
  | none=>match T.map.get t with
   | some p=>kD p m k v
   | none=> .fail
  | some _=> .fail
 | .mapEntry t m k=>match T.map.get t with
  | some p=>kv p o.dst m k
  | none=> .fail
 | .entryStore _ m s v=>match o.dst with
  | none=>eF m s v
  | some _=> .fail
 | .index t x ix=>match T.und.get t with
  | some .str=>nj o.dst x ix
  | some _=> .fail
  | none=>match T.indexV.get t with
   | some _=>oo T o.dst t x ix
   | none=> .fail
 | .field t x f=>om T o.dst t x f
 | .range t x=>match o.dst with
  | some d=>match T.und.get t with
   | some .str=>nk cx d x
   | _=> .fail
  | none=> .fail
 | .next x true=>rA o.dst x
 | .call c=>match c.callee with
  | .builtin .len=>match c.args.toList,c.argTypes.toList with
   | [x],[t]=>Cn T o.dst t x
   | _,_=> .fail
  | .builtin .cap=>match c.args.toList,c.argTypes.toList with
   | [x],[t]=>match T.slice.get t with
    | some _=>xX o.dst x
    | none=> .fail
   | _,_=> .fail
  | .builtin .append=>match c.args.toList,c.argTypes.toList with
   | [x,y],[t,t']=>match Nat.beq t t' with
    | true=>(match o.dst with
     | some d=>match y8 d cx.ow with
      | true=>(match T.slice.get t with
       | some (e,n,by_)=>match T.zero.get e with
        | some (n',_)=>ko cx d n by_ n' x y
        | none=> .fail
       | none=> .fail)
      | false=>n9 T cx o.dst t x y
     | none=> .fail)
    | false=>(match o.dst with
     | some d=>match y8 d cx.ow with
      | true=>(match T.und.get t' with
       | some .str=>(match T.slice.get t with
        | some (e,n,by_)=>match T.zero.get e with
         | some (n',_)=>kj cx d e n by_ n' x y
         | none=> .fail
        | none=> .fail)
       | some (.int _)=>(match T.slice.get t with
        | some (e,n,by_)=>match T.zero.get e with
         | some (n',z)=>ki cx d n by_ n' z x y
         | none=> .fail
        | none=> .fail)
       | _=> .fail)
      | false=> .fail
     | none=> .fail)
   | _,_=> .fail
  | .builtin .copy=>match c.args.toList,c.argTypes.toList with
   | [x,y],[t,t']=> .ok (Nat.beq t t') (match T.slice.get t with
    | some (_,n,_)=>rt o.dst n x y
    | none=> .fail)
   | _,_=> .fail
  | .builtin .min=>p5 false o.dst c.args.toList
  | .builtin .max=>p5 true o.dst c.args.toList
  | .builtin .clear=>match c.args.toList,c.argTypes.toList with
   | [x],[t]=>match T.und.get t with
    | some .map=>ni o.dst x
    | _=> .fail
   | _,_=> .fail
  | .value f=>vR cx o.dst f c.args.toList
  | _=> .fail
 | _=> .fail
theorem IV(hT:T.Ok P){cx:Cx}{o:Oper}:(opB T cx o).rm.leq P (opA P cx o):=by
 unfold opB opA
 cases o.op with
 | move x=>exact aE fun v=>ar _
 | assign x=>exact aE fun v=>ar _
 | pick c a b =>
  refine aE fun c=>aE fun a=>aE fun b=>?_
  split
  ·rename_i t
   cases t<;>exact ar _
  ·exact al _
 | alloc e=>exact tq hT
 | box t x=>exact aE fun v=>pY
 | build t parts=>exact tv hT
 | buildSlice t len parts =>
  simp only
  cases hd:o.dst with
  | none=>exact al _
  | some d =>
   simp only
   cases hm:y8 d cx.ow with
   | true =>
    rw[fD]at hm
    rw[if_pos hm]
    exact kq hT
   | false =>
    rw[fD]at hm
    rw[if_neg (by rw[hm];simp)]
    exact lI hT
 | load t x=>exact g4 hT fun v=>ar _
 | store t x y =>
  simp only
  split
  ·rename_i hd;rw[if_pos hd];exact tE hT
  ·exact al _
 | makeSlice t x y =>
  cases hd:o.dst with
  | none=>exact al _
  | some d =>
   simp only
   split
   ·rename_i ht
    rw[hT.slice.get ht]
    simp only
    split
    ·rename_i hz;rw[hT.zero.get hz];exact ar _
    ·exact al _
   ·exact al _
 | nilCheck x=>exact zi
 | binOp op t x y z=>exact ze hT
 | unOp op t x=>exact Cq
 | convert s t x=>exact vU hT
 | makeFunc fn first captured=>exact ou
 | slice t x lo hi mx=>exact mR hT
 | fieldAddr t x f=>exact tA hT
 | indexAddr t x ix=>exact mO hT
 | extract x i=>exact po
 | makeMap t r =>
  cases r with
  | none =>
   simp only
   cases o.dst<;>exact ar _
  | some=>exact al _
 | lookup t x ix ok =>
  simp only
  split
  ·rename_i p hp;exact fun S K h=>⟨p,hT.map.get hp,h⟩
  ·exact al _
 | mapUpdate t x ix y =>
  simp only
  split
  ·rename_i hd
   rw[if_pos hd]
   split
   ·rename_i p hp;exact fun S K h=>⟨p,hT.map.get hp,h⟩
   ·exact al _
  ·exact al _
 | insert t x ix y =>
  simp only
  split
  ·rename_i hd
   rw[if_pos hd]
   split
   ·rename_i p hp;exact fun S K h=>⟨p,hT.map.get hp,h⟩
   ·exact al _
  ·exact al _
 | mapEntry t x ix =>
  simp only
  split
  ·rename_i p hp;exact fun S K h=>⟨p,hT.map.get hp,h⟩
  ·exact al _
 | entryStore t x ix y =>
  simp only
  split
  ·rename_i hd;rw[if_pos hd];exact ar _
  ·exact al _
 | index t x ix =>
  simp only
  split
  ·rename_i ht
   have h1:P.underlying t=some .string:=hT.und.get ht
   rw[h1];exact ar _
  ·exact al _
  ·split
   ·rename_i q hq
    obtain⟨len,e,hu⟩:=(hT.indexV.get hq).2
    rw[hu];exact rz hT
   ·exact al _
 | field t x f=>exact rx hT
 | range t x =>
  simp only
  split
  ·rename_i d hd
   split
   ·rename_i ht
    have h1:P.underlying t=some .string:=hT.und.get ht
    rw[h1,hd];exact ar _
   ·exact al _
  ·exact al _
 | next x b =>
  cases b with
  | true=>exact ar _
  | false=>exact al _
 | call c =>
  simp only
  cases c.callee with
  | builtin b =>
   cases b with
   | len =>
    simp only
    split
    ·rename_i h1 h2;rw[h1,h2];exact zg hT
    ·exact al _
   | cap =>
    simp only
    split
    ·rename_i h1 h2;rw[h1,h2]
     simp only
     split
     ·rename_i ht
      rw[hT.slice.get ht]
      exact ar _
     ·exact al _
    ·exact al _
   | append =>
    simp only
    split
    ·rename_i t t' h1 h2;rw[h1,h2]
     simp only
     cases h:Nat.beq t t' with
     | true =>
      simp only
      rw[if_pos (Nat.eq_of_beq_eq_true h)]
      cases hd:o.dst with
      | none=>exact al _
      | some d =>
       simp only
       cases hm:y8 d cx.ow with
       | true =>
        rw[fD]at hm
        rw[if_pos hm]
        simp only
        split
        ·rename_i e n by_ ht
         rw[hT.slice.get ht]
         simp only
         split
         ·rename_i hz
          rw[hT.zero.get hz]
          exact ar _
         ·exact al _
        ·exact al _
       | false =>
        rw[fD]at hm
        rw[if_neg (by rw[hm];simp)]
        exact rp hT
     | false =>
      simp only
      rw[if_neg (fun e=>by rw[e,Nat.beq_refl]at h;simp at h)]
      cases hd:o.dst with
      | none=>exact al _
      | some d =>
       simp only
       cases hm:y8 d cx.ow with
       | true =>
        rw[fD]at hm
        rw[if_pos hm]
        simp only
        split
        ·rename_i hus
         have h1:P.underlying t'=some .string:=hT.und.get hus
         rw[h1]
         simp only
         split
         ·rename_i e n by_ ht
          rw[hT.slice.get ht]
          simp only
          split
          ·rename_i hz
           rw[hT.zero.get hz]
           exact ar _
          ·exact al _
         ·exact al _
        ·rename_i k1 hus
         have h1:=hT.und.get hus
         simp only at h1
         rw[h1]
         simp only
         split
         ·rename_i e n by_ ht
          rw[hT.slice.get ht]
          simp only
          split
          ·rename_i hz
           rw[hT.zero.get hz]
           exact ar _
          ·exact al _
         ·exact al _
        ·exact al _
       | false=>exact al _
    ·exact al _
   | copy =>
    simp only
    split
    ·rename_i h1 h2;rw[h1,h2]
     refine au fun h=>?_
     simp only
     rw[if_pos (Nat.eq_of_beq_eq_true h)]
     split
     ·rename_i ht;rw[hT.slice.get ht];exact ar _
     ·exact al _
    ·exact al _
   | min=>exact ar _
   | max=>exact ar _
   | clear =>
    simp only
    split
    ·rename_i h1 h2;rw[h1,h2]
     split
     ·rename_i ht
      obtain⟨a,b,h1⟩:=hT.und.get ht
      simp only[h1];exact ar _
     ·exact al _
    ·exact al _
   | _=>exact al _
  | value f=>exact vS
  | _=>exact al _
 | _=>exact al _
end
end Go.Am
namespace Go.Am
open Go.RowKit
def rI:List Wr→List (Nat×AV)→List (Key×Option jd)→List (Key×Option (Nat×Nat))→(SS→Prop)→Prop
 | [],s,b,t,K=>K ⟨s,b,t⟩
 | .slot i v::ws,s,b,t,K=>rI ws ((i,v)::s) b t K
 | .box k c::ws,s,b,t,K=>rI ws s ((k,some c)::b) t K
 | .tk k c::ws,s,b,t,K=>rI ws s b ((k,some c)::t) K
theorem iI:∀(ws:List Wr) (ss:SS) (K:SS→Prop),rI ws ss.slots ss.boxes ss.toks K=K (ss.puts ws)
 | [],_,_=>rfl
 | .slot i v::ws,ss,K=>iI ws (ss.put (.slot i v)) K
 | .box k c::ws,ss,K=>iI ws (ss.put (.box k c)) K
 | .tk k c::ws,ss,K=>iI ws (ss.put (.tk k c)) K
def SS.know(ss:SS)(x:Operand)(b:Bool):SS :=
 match x,ss with
 | .tmp t,⟨s,bs,ts⟩=>⟨(t,.v (.bool b))::s,bs,ts⟩
 | _,ss=>ss
theorem Knows.know{ss:SS}{S:St}(hs:Knows ss S){x:Operand}{b:Bool}(h:S.val x = .v (.bool b)):Knows (ss.know x b) S:=by
 cases x with
 | tmp t =>
  refine⟨fun i v hv=>?_,hs.box,hs.tk⟩
  simp only[SS.know,cM]at hv
  split at hv
  ·rename_i hb
   rw[Nat.eq_of_beq_eq_true hb, ←Option.some.inj hv];exact h
  ·exact hs.slot i v hv
 | _=>exact hs
def jF(P:Program)(T:Tab)(cx:Cx)(ops:List Oper)(o:Oper)(ss:SS)(K:SS→List Loc→List Wr→Prop):Prop :=
 match o.guard with
 | none=>(opB T cx o).ev P ss (K ss)
 | some (j,want)=>match nth ops j with
  | some oj=>match oj.dst with
   | some t=>jL (cM ss.slots t) fun v=>match v with
    | .v (.bool b)=>match want with
     | true=>brP b ((opB T cx o).ev P ss fun l ws=>K (ss.know (.tmp t) true) (.slot t::l) ws) (K (ss.know (.tmp t) false) [.slot t] (putA o.dst (.v undef)))
     | false=>brP b (K (ss.know (.tmp t) true) [.slot t] (putA o.dst (.v undef))) ((opB T cx o).ev P ss fun l ws=>K (ss.know (.tmp t) false) (.slot t::l) ws)
    | .v (.tuple _)=>K ss [.slot t] (putA o.dst (.v undef))
    | _=>False
   | none=>False
  | none=>False
def I6(ws:List Wr)(ss:SS)(K:SS→Prop):Prop :=
 match ss with
 | ⟨s,b,t⟩=>rI ws s b t K
def Lq(P:Program)(T:Tab)(cx:Cx)(ops:List Oper):List Oper→SS→(SS→Prop)→Prop
 | [],ss,K=>K ss
 | o::os,ss,K=>jF P T cx ops o ss fun ss _ ws=>I6 ws ss fun ss'=>Lq P T cx ops os ss' K
def Ke(P:Program)(T:Tab)(cx:Cx)(ops:List Oper):List Oper→SS→List (List Loc×List Loc)→(List (List Loc×List Loc)→SS→Prop)→Prop
 | [],ss,acc,K=>K acc ss
 | o::os,ss,acc,K=>jF P T cx ops o ss fun ss l ws=>I6 ws ss fun ss'=>Ke P T cx ops os ss' (acc++[(l,ws.map Wr.loc)]) K
theorem yb(ws:List Wr)(ss:SS)(K:SS→Prop):I6 ws ss K=K (ss.puts ws):=iI ws ss K
theorem Bl{P:Program}{T:Tab}(hT:T.Ok P){cx:Cx}{o:Oper}{ss:SS}{S:St}(hs:Knows ss S){K:List Loc→List Wr→Prop}(h:(opB T cx o).ev P ss K):(opA P cx o).wp P S K :=
 IV hT _ _ (RB.ev_rm hs _ h)
theorem o5{P:Program}{T:Tab}(hT:T.Ok P){cx:Cx}{ops:Array Oper}{o:Oper}{ss:SS}{S:St}(hs:Knows ss S){K:SS→List Loc→List Wr→Prop}
  (h:jF P T cx ops.toList o ss K):dQ P cx ops o S fun l ws=>∃ss',Knows ss' S∧K ss' l ws:=by
 unfold jF at h
 unfold dQ
 split
 ·rename_i hg;rw[hg]at h;exact RM.wp_mono _ (fun l ws hk=>⟨ss,hs,hk⟩) (Bl hT hs h)
 ·rename_i j want hg
  rw[hg]at h
  simp only[dr,Array.getElem?_toList]at h
  split at h
  ·rename_i oj hj
   rw[hj]
   simp only[Option.bind_some]
   split at h
   ·rename_i t ht
    rw[ht]
    simp only
    obtain⟨v,hl,h⟩:=bF h
    have hv:=hs.slot _ _ hl
    clear hl
    rw[hv]
    split at h
    ·rename_i b
     simp only
     cases want<;>cases b<;>simp only[brP]at h
     ·rw[if_pos rfl];exact RM.wp_mono _ (fun l ws hk=>⟨_,hs.know (x:= .tmp t) hv,hk⟩) (Bl hT hs h)
     ·rw[if_neg (by simp)];exact⟨_,hs.know (x:= .tmp t) hv,h⟩
     ·rw[if_neg (by simp)];exact⟨_,hs.know (x:= .tmp t) hv,h⟩
     ·rw[if_pos rfl];exact RM.wp_mono _ (fun l ws hk=>⟨_,hs.know (x:= .tmp t) hv,hk⟩) (Bl hT hs h)
    ·exact⟨_,hs,h⟩
    ·exact h.elim
   ·exact h.elim
  ·exact h.elim
def LW(Q:SS→Prop)(S:St):Prop:=∃ss,Knows ss S∧Q ss
def BV(Q:Exit→SS→Prop)(e:Exit)(S:St):Prop:=∃ss,Knows ss S∧Q e ss
theorem qg{P:Program}{T:Tab}(hT:T.Ok P){cx:Cx}{ops:Array Oper}{K:SS→Prop}:∀(os:List Oper) {ss:SS} {S:St},Knows ss S→Lq P T cx ops.toList os ss K→CR P cx ops os S (LW K)
 | [],ss,S,hs,h=>⟨ss,hs,h⟩
 | o::os,ss,S,hs,h=>by
  simp only[Lq]at h
  simp only[CR]
  exact d8 (fun l ws ⟨ss',hs',h'⟩=>qg hT os (hs'.puts ws) (by rwa [yb]at h')) (o5 hT hs h)
theorem pB{P:Program}{T:Tab}(hT:T.Ok P){cx:Cx}{ops:Array Oper}{K:List (List Loc×List Loc)→SS→Prop}:∀(os:List Oper) {ss:SS} {S:St} {acc:List (List Loc×List Loc)},Knows ss S →
  Ke P T cx ops.toList os ss acc K→xA P cx ops os S acc fun infos=>LW (K infos)
 | [],ss,S,_,hs,h=>⟨ss,hs,h⟩
 | o::os,ss,S,_,hs,h=>by
  simp only[Ke]at h
  simp only[xA]
  exact d8 (fun l ws ⟨ss',hs',h'⟩=>pB hT os (hs'.puts ws) (by rwa [yb]at h')) (o5 hT hs h)
def ut(next:SS→Prop)(Q:Exit→SS→Prop):Exit→SS→Prop
 | .normal,S=>next S
 | .exit i,S=>Q (.exit i) S
 | .ret,S=>Q .ret S
 | e,S=>Q e S
def GL(id:Nat)(Q:Exit→SS→Prop):Exit→SS→Prop
 | .exit id',S=>match Nat.beq id' id with
  | true=>Q .normal S
  | false=>Q (.exit id') S
 | .normal,S=>Q .normal S
 | .ret,S=>Q .ret S
 | e,S=>Q e S
def IR(Q:Exit→SS→Prop):Exit→SS→Prop
 | .goto _,_=>False
 | .normal,S=>Q .normal S
 | .exit i,S=>Q (.exit i) S
 | .ret,S=>Q .ret S
 | e,S=>Q e S
structure LoopW (rd:Bool) (P:Program) (N:Nat) (c:Code) (Q:Exit→SS→Prop) (ss:SS):Prop where
 go:∀S,Knows ss S→WpA rd P N (.loop c) (BV Q) S
def L6(x:Operand)(ss:SS)(K:AV→Prop):Prop :=
 match x with
 | .tmp t=>jL (cM ss.slots t) K
 | .const v=>K (ofValue v)
 | _=>False
def ER(v:AV)(A B:Prop):Prop :=
 match v with
 | .v (.bool t)=>brP t A B
 | _=>False
structure DrawOk (ops:Array Oper) (infos:List (List Loc×List Loc)):Prop where
 ok:mv ops infos=true
def wZ:Nat→List (Nat×AV)→List AV→(List AV→Prop)→Prop
 | 0,_,acc,K=>K acc
 | n+1,sl,acc,K=>match cM sl n with
  | some v=>wZ n sl (v::acc) K
  | none=>wZ n sl (.junk::acc) K
def Bf(pend:Option Code)(Q:Exit→SS→Prop)(ss:SS):Prop :=
 match pend with
 | none=>Q .normal ss
 | some .ret=>Q .ret ss
 | some (.exit i)=>Q (.exit i) ss
 | some _=>False
def Cg:LoopState→Bool
 | .busy=>false
 | _=>true
def ib(kl:Key)(g:Nat)(Q:Exit→SS→Prop)(ss:SS):Prop :=
 match ss with
 | ⟨s,b,t⟩=>jL (bg b kl) fun c=>jL c fun c=>jL c.2 fun d=>okP (Nat.beq c.1 g) (okP (Nat.beq d.1 0) (match d.2 with
  | [.lp st pend _ _ _ _]=>okP (Cg st) (Bf pend Q ⟨s,(kl,some (g,none))::b,t⟩)
  | _=>False))
def CI(P:Program)(T:Tab)(N:Nat)(kl:Key)(g:Operand)(ps:Array Tmp)(as bo:Code)(Q:Exit→SS→Prop)(ss:SS):Prop :=
 match ss with
 | ⟨s,b,t⟩=>jL (match g with | .tmp i=>cM s i|_=>none) fun v=>match v with
  | .func (.func fid) fs cs=>Ll (bg b kl) fun g0=>wZ N s [] fun l =>
   (iH none (.fn fid) (fs++[.yld kl (g0+1)]++cs)).ev P ⟨s,(kl,some (g0+1,some (0,[.lp .ready none ps as bo l])))::b,t⟩ fun _ ws =>
    rI ws s ((kl,some (g0+1,some (0,[.lp .ready none ps as bo l])))::b) t fun ss2=>ib kl (g0+1) Q ss2
  | _=>False
def oL(P:Program)(T:Tab)(cx:Cx)(ops:Array Oper)(d:Bool)(Q:SS→Prop)(ss:SS):Prop :=
 match d with
 | true=>Ke P T cx ops.toList ops.toList ss [] fun infos ss'=>DrawOk ops infos∧Q ss'
 | false=>Lq P T cx ops.toList ops.toList ss Q
def eU(P:Program)(T:Tab)(cx:Cx)(N:Nat):Code→(Exit→SS→Prop)→SS→Prop
 | .skip,Q,ss=>Q .normal ss
 | .region id ops d,Q,ss=>match LA id cx.fz with
  | none=>oL P T cx ops d (Q .normal) ss
  | some kb=>match ss with
   | ⟨s,b,t⟩=>(uo kb).ev P ⟨s,b,t⟩ fun _ ws=>rI ws s b t (oL P T cx ops d (Q .normal))
 | .seq x y,Q,ss=>eU P T cx N x (ut (eU P T cx N y Q) Q) ss
 | .cond c x y,Q,ss=>L6 c ss fun v=>ER v (eU P T cx N x Q (ss.know c true)) (eU P T cx N y Q (ss.know c false))
 | .block i c,Q,ss=>eU P T cx N c (GL i Q) ss
 | .loop c,Q,ss=>LoopW cx.rd P N c Q ss
 | .rangeFunc g ps as bo,Q,ss=>okP (!cx.rd) (CI P T N (cx.loopKey ps) g ps as bo Q ss)
 | .exit i,Q,ss=>Q (.exit i) ss
 | .scope c,Q,ss=>eU P T cx N c (IR Q) ss
 | .label _,Q,ss=>Q .normal ss
 | .goto _,_,_=>False
 | .ret,Q,ss=>Q .ret ss
 | .refuse _,_,_=>False
theorem RM.wp0_mono{P:Program}{S:St}(m:RM):∀{K K':List Wr→Prop},m.wp0 P S K→(∀ws,K ws→K' ws)→m.wp0 P S K':=by
 induction m with
 | mty k ih=>exact fun⟨ks,h⟩ hk=>⟨ks,ih _ h hk⟩
 | keys k ih=>exact fun⟨ks,h⟩ hk=>⟨ks,ih _ h hk⟩
 | callx f args pre k ih=>exact fun⟨r,post,hr,h⟩ hk=>⟨r,post,hr,ih _ _ h hk⟩
 | done ws=>exact fun h hk=>hk _ h
 | slot i k ih=>exact fun h hk=>ih _ h hk
 | box key k ih=>exact fun h hk=>ih _ h hk
 | tk key k ih=>exact fun h hk=>ih _ h hk
 | sem s k ih=>exact fun⟨r,hr,h⟩ hk=>⟨r,hr,ih _ h hk⟩
 | call f args snap k ih=>exact fun⟨r,hr,h⟩ hk=>⟨r,hr,ih _ h hk⟩
 | need p k ih=>exact fun⟨hp,h⟩ hk=>⟨hp,ih h hk⟩
 | fail=>exact fun h _=>h
theorem px.mono{P:Program}{N:Nat}{kl:Key}{g:Operand}{ps:Array Tmp}{as bo:Code}{Q Q':Exit→St→Prop}{S:St}(h:px P N kl g ps as bo Q S)(hq:∀e S,Q e S→Q' e S):px P N kl g ps as bo Q' S:=by
 obtain⟨l,fid,fs,cs,h1,h2,h3⟩:=h
 refine⟨l,fid,fs,cs,h1,h2,RM.wp0_mono _ h3 fun ws h=>?_⟩
 unfold iJ at h ⊢
 split at h
 ·refine⟨h.1,h.2.1,?_⟩
  have:=h.2.2
  split at this<;>first|exact hq _ _ this|exact this
 ·exact h
theorem qn:∀(n:Nat) {sl:List (Nat×AV)} {acc:List AV} {K:List AV→Prop},wZ n sl acc K→∃l,K (l++acc)∧l.length=n∧∀(i:Nat) (x:AV),l[i]?=some x→x = .junk∨cM sl i=some x
 | 0,_,acc,K,h=>⟨[],h,rfl,by simp⟩
 | n+1,sl,acc,K,h=>by
  simp only[wZ]at h
  have key:∀v,(v = .junk∨cM sl n=some v)→wZ n sl (v::acc) K→∃l,K (l++acc)∧l.length=n+1∧∀(i:Nat) (x:AV),l[i]?=some x→x = .junk∨cM sl i=some x:=by
   intro v hv h
   obtain⟨l,h1,h2,h3⟩:=qn n h
   refine⟨l++[v],by simpa using h1,by simp[h2],fun i x hx=>?_⟩
   by_cases hi:i<l.length
   ·rw[List.getElem?_append_left hi]at hx;exact h3 i x hx
   ·rw[List.getElem?_append_right (by omega)]at hx
    by_cases hz:i-l.length=0
    ·rw[hz]at hx;simp at hx;subst hx
     rw[show i=n by omega];exact hv
    ·rw[List.getElem?_eq_none (by simp;omega)]at hx;simp at hx
  split at h
  ·rename_i v hv;exact key v (.inr hv) h
  ·exact key _ (.inl rfl) h
theorem tV{P:Program}{T:Tab}(_hT:T.Ok P){N:Nat}{kl:Key}{g:Operand}{ps:Array Tmp}{as bo:Code}{Q:Exit→SS→Prop}{ss:SS}{S:St}(hs:Knows ss S)(h:CI P T N kl g ps as bo Q ss) :
  px P N kl g ps as bo (BV Q) S:=by
 obtain⟨s,b,t⟩:=ss
 unfold CI at h
 simp only at h
 obtain⟨v,hv,h⟩:=bF h
 have hg:S.val g=v:=by
  cases g with
  | tmp i=>exact hs.slot i v hv
  | _=>simp at hv
 split at h
 ·rename_i fid fs cs
  have h:wZ N s [] fun l=>(iH none (.fn fid) (fs++[.yld kl ((S.box kl).1+1)]++cs)).ev P ⟨s,(kl,some ((S.box kl).1+1,some (0,[.lp .ready none ps as bo l])))::b,t⟩ fun _ ws =>
    rI ws s ((kl,some ((S.box kl).1+1,some (0,[.lp .ready none ps as bo l])))::b) t fun ss2=>ib kl ((S.box kl).1+1) Q ss2:=by
   have hb:=hs.box kl
   unfold Ll at h
   split at h
   ·rename_i c hc;rw[hc]at hb;rw[show S.box kl=c from hb];exact h
   ·exact h _
   ·rename_i hc;rw[hc]at hb;rw[show S.box kl=(0,none)from hb];exact h
  obtain⟨l,h,hl,hlk⟩:=qn N h
  rw[List.append_nil]at h
  refine⟨l,fid,fs,cs,⟨hl,fun i x hx=>(hlk i x hx).imp id fun h=>(hs.slot i x h).symm⟩,hg,?_⟩
  have hs1:Knows ⟨s,(kl,some ((S.box kl).1+1,some (0,[.lp .ready none ps as bo l])))::b,t⟩ (oF S kl ps as bo l):=hs.put (.box kl ((S.box kl).1+1,some (0,[.lp .ready none ps as bo l])))
  have h:=RM.wp_wp0 _ (gY (P:=P) _ _ (RB.ev_rm hs1 _ h))
  refine RM.wp0_mono _ h ?_
  rintro ws ⟨_,h⟩
  have h:ib kl ((S.box kl).1+1) Q (SS.puts ⟨s,(kl,some ((S.box kl).1+1,some (0,[.lp .ready none ps as bo l])))::b,t⟩ ws):=by
   have:=iI ws ⟨s,(kl,some ((S.box kl).1+1,some (0,[.lp .ready none ps as bo l])))::b,t⟩ (fun ss2=>ib kl ((S.box kl).1+1) Q ss2)
   exact this▸h
  have hs2:=hs1.puts ws
  revert h hs2
  generalize SS.puts ⟨s,(kl,some ((S.box kl).1+1,some (0,[.lp .ready none ps as bo l])))::b,t⟩ ws=ss2
  generalize (oF S kl ps as bo l).puts ws=S2
  intro h hs2
  obtain⟨s2,b2,t2⟩:=ss2
  unfold ib at h
  simp only at h
  obtain⟨c,hc,k1⟩:=bF h
  clear h
  obtain⟨c1,hc1,k2⟩:=bF k1
  clear k1
  rw[hc1]at hc
  clear hc1
  obtain⟨d,hd,k3⟩:=bF k2
  clear k2
  obtain⟨e1,k4⟩:=dE k3
  clear k3
  obtain⟨e2,k5⟩:=dE k4
  clear k4
  have hb2:S2.box kl=c1:=by have:=hs2.box kl;rw[hc]at this;exact this
  obtain⟨g1,o1⟩:=c1
  obtain⟨sz,es⟩:=d
  simp only at hd e1 e2 k5
  have e1:=Nat.eq_of_beq_eq_true e1
  have e2:=Nat.eq_of_beq_eq_true e2
  subst hd e1 e2
  split at k5
  ·rename_i st pend _ _ _ _
   obtain⟨hst,k6⟩:=dE k5
   unfold iJ
   rw[hb2]
   refine⟨rfl,fun e=>by rw[e]at hst;simp[Cg]at hst,?_⟩
   have hs3:=hs2.put (.box kl ((S.box kl).1+1,none))
   unfold Bf at k6
   split at k6
   ·exact⟨_,hs3,k6⟩
   ·exact⟨_,hs3,k6⟩
   ·exact⟨_,hs3,k6⟩
   ·exact k6.elim
  ·exact k5.elim
 ·exact h.elim
theorem bO{P:Program}(cx:Cx){N:Nat}:∀(c:Code) {Q Q':Exit→St→Prop} {S:St},(∀e S,Q e S→Q' e S)→ll P cx N c Q S→ll P cx N c Q' S
 | .skip,_,_,_,hq,h=>hq _ _ h
 | .region _ ops d,Q,Q',S0,hq,h=>by
  obtain⟨S,ht,h⟩:=h
  refine⟨S,ht,?_⟩
  cases d with
  | true =>
   refine(?_:xA P cx ops ops.toList S [] _)
   have h:xA P cx ops ops.toList S [] _:=h
   have:∀(os:List Oper) (S:St) (acc:List (List Loc×List Loc)) {K K':List (List Loc×List Loc)→St→Prop},(∀i S,K i S→K' i S)→xA P cx ops os S acc K→xA P cx ops os S acc K':=by
    intro os
    induction os with
    | nil=>exact fun S acc K K' hk h=>hk _ _ h
    | cons o os ih=>exact fun S acc K K' hk h=>d8 (fun l ws h'=>ih _ _ hk h') h
   exact this _ _ _ (fun i S ⟨a,b⟩=>⟨a,hq _ _ b⟩) h
  | false =>
   refine(?_:CR P cx ops ops.toList S _)
   have h:CR P cx ops ops.toList S _:=h
   have:∀(os:List Oper) (S:St) {K K':St→Prop},(∀S,K S→K' S)→CR P cx ops os S K→CR P cx ops os S K':=by
    intro os
    induction os with
    | nil=>exact fun S K K' hk h=>hk _ h
    | cons o os ih=>exact fun S K K' hk h=>d8 (fun l ws h'=>ih _ hk h') h
   exact this _ _ (fun S b=>hq _ _ b) h
 | .seq x y,_,_,_,hq,h=>bO cx x (fun e S h'=>by
   cases e with
   | normal=>exact bO cx y hq h'
   | _=>exact hq _ _ h') h
 | .cond c x y,_,_,_,hq,⟨t,ht,h1,h2⟩=>⟨t,ht,fun e=>bO cx x hq (h1 e),fun e=>bO cx y hq (h2 e)⟩
 | .block i c,_,_,_,hq,h=>bO cx c (fun e S h'=>by
   cases e with
   | exit j =>
    simp only[pz]at h' ⊢
    split
    ·rename_i e;rw[if_pos e]at h';exact hq _ _ h'
    ·rename_i e;rw[if_neg e]at h';exact hq _ _ h'
   | _=>exact hq _ _ h') h
 | .loop c,_,_,_,hq,h=>WpA.mono h hq
 | .rangeFunc ..,_,_,_,hq,h=>⟨h.1,h.2.mono hq⟩
 | .exit i,_,_,_,hq,h=>hq _ _ h
 | .scope c,_,_,_,hq,h=>bO cx c (fun e S h'=>by cases e<;>first|exact hq _ _ h'|exact h') h
 | .label _,_,_,_,hq,h=>hq _ _ h
 | .goto _,_,_,_,_,h=>h
 | .ret,_,_,_,hq,h=>hq _ _ h
 | .refuse _,_,_,_,_,h=>h
theorem kP{P:Program}{T:Tab}(hT:T.Ok P){cx:Cx}{ops:Array Oper}{d:Bool}{Q:Exit→SS→Prop}{ss:SS}{S:St}(hs:Knows ss S)(h:oL P T cx ops d (Q .normal) ss) :
  if d then xA P cx ops ops.toList S [] fun infos S'=>mv ops infos=true∧BV Q .normal S' else CR P cx ops ops.toList S (BV Q .normal):=by
 cases d with
 | true =>
  have h:Ke P T cx ops.toList ops.toList ss [] _:=h
  refine(?_:xA P cx ops ops.toList S [] _)
  have:=pB (ops:=ops) hT ops.toList hs h
  have mono:∀(os:List Oper) (S:St) (acc:List (List Loc×List Loc)) {K K':List (List Loc×List Loc)→St→Prop},(∀i S,K i S→K' i S)→xA P cx ops os S acc K→xA P cx ops os S acc K':=by
   intro os
   induction os with
   | nil=>exact fun S acc K K' hk h=>hk _ _ h
   | cons o os ih=>exact fun S acc K K' hk h=>d8 (fun l ws h'=>ih _ _ hk h') h
  exact mono _ _ _ (fun i S' ⟨ss',h1,h2,h3⟩=>⟨h2.ok,ss',h1,h3⟩) this
 | false=>exact qg (ops:=ops) hT ops.toList hs h
theorem bI{P:Program}{T:Tab}(hT:T.Ok P)(cx:Cx){N:Nat}:∀(c:Code) {Q:Exit→SS→Prop} {ss:SS} {S:St},Knows ss S→eU P T cx N c Q ss→ll P cx N c (BV Q) S
 | .skip,_,ss,_,hs,h=>⟨ss,hs,h⟩
 | .region id ops d,Q,ss,S,hs,h=>by
  have h:(match LA id cx.fz with
   | none=>oL P T cx ops d (Q .normal) ss
   | some kb=>match ss with
    | ⟨s,b,t⟩=>(uo kb).ev P ⟨s,b,t⟩ fun _ ws=>rI ws s b t (oL P T cx ops d (Q .normal))):=h
  split at h
  ·exact⟨S,.refl S,kP hT hs h⟩
  ·obtain⟨s,b,t⟩:=ss
   obtain⟨ws,⟨_,hK⟩,ht⟩:=uq (RM.wp_wp0 _ ((uo _).ev_rm hs h))
   rw[iI ws ⟨s,b,t⟩]at hK
   exact⟨_,ht,kP hT (hs.puts ws) hK⟩
 | .seq x y,Q,ss,S,hs,h=>by
  have h:eU P T cx N x (ut (eU P T cx N y Q) Q) ss:=h
  refine bO cx x (fun e S'=>?_) (bI hT cx x hs h)
  rintro⟨ss',h1,h2⟩
  cases e with
  | normal=>exact bI hT cx y h1 h2
  | _=>exact⟨ss',h1,h2⟩
 | .cond c x y,Q,ss,S,hs,h=>by
  have h:L6 c ss fun v=>ER v (eU P T cx N x Q (ss.know c true)) (eU P T cx N y Q (ss.know c false)):=h
  have:∃v,S.val c=v∧ER v (eU P T cx N x Q (ss.know c true)) (eU P T cx N y Q (ss.know c false)):=by
   cases c with
   | tmp t=>obtain⟨v,hv,h⟩:=bF h;exact⟨v,hs.slot _ _ hv,h⟩
   | const v=>exact⟨_,rfl,h⟩
   | _=>exact h.elim
  obtain⟨v,hv,h⟩:=this
  unfold ER at h
  split at h
  ·rename_i t
   refine⟨t,hv,?_,?_⟩
   ·rintro rfl;exact bI hT cx x (hs.know hv) h
   ·rintro rfl;exact bI hT cx y (hs.know hv) h
  ·exact h.elim
 | .block i c,Q,ss,S,hs,h=>by
  refine bO cx c (fun e S'=>?_) (bI hT cx c hs h)
  rintro⟨ss',h1,h2⟩
  cases e with
  | exit j =>
   simp only[pz]
   simp only[GL]at h2
   split at h2
   ·rename_i e;rw[if_pos (Nat.eq_of_beq_eq_true e)];exact⟨ss',h1,h2⟩
   ·rename_i e;rw[if_neg (fun e'=>by rw[e',Nat.beq_refl]at e;simp at e)];exact⟨ss',h1,h2⟩
  | _=>exact⟨ss',h1,h2⟩
 | .loop c,Q,ss,S,hs,h=>h.go S hs
 | .rangeFunc g ps as bo,_,_,_,hs,h=>by
  obtain⟨h1,h⟩:=dE h
  exact⟨by simpa using h1,tV hT hs h⟩
 | .exit i,_,ss,_,hs,h=>⟨ss,hs,h⟩
 | .scope c,Q,ss,S,hs,h=>by
  refine bO cx c (fun e S'=>?_) (bI hT cx c hs h)
  rintro⟨ss',h1,h2⟩
  cases e with
  | goto=>exact h2.elim
  | _=>exact⟨ss',h1,h2⟩
 | .label _,_,ss,_,hs,h=>⟨ss,hs,h⟩
 | .goto _,_,_,_,_,h=>h.elim
 | .ret,_,ss,_,hs,h=>⟨ss,hs,h⟩
 | .refuse _,_,_,_,_,h=>h.elim
def il(l:List (Nat×AV)):List (Nat×AV)→Prop
 | []=>True
 | (i,v)::l'=>jL (cM l i) (fun u=>u=v)∧il l l'
theorem im{l:List (Nat×AV)}:∀{l':List (Nat×AV)},il l l'→∀i v,cM l' i=some v→cM l i=some v
 | [],_,i,v,h=>by simp[cM]at h
 | (j,u)::l',⟨h1,h2⟩,i,v,h=>by
  obtain⟨u',e,rfl⟩:=bF h1
  simp only[cM]at h
  split at h
  ·rename_i hb
   have:=Nat.eq_of_beq_eq_true hb
   subst this
   rw[e, ←h]
  ·exact im h2 i v h
def eY{α:Type}(k:Key):List (Key×α)→Bool
 | []=>false
 | (j,_)::l=>match Key.beq k j with
  | true=>true
  | false=>eY k l
def c9{α:Type}(z:α)(l:List (Key×Option α)):List (Key×Option α)→Prop
 | []=>True
 | (k,o)::l'=>(match o with
  | none=>True
  | some c=>match bg l k with
   | some o'=>o'=some c
   | none=>c=z)∧c9 z l l'
def nO{α:Type}(l':List (Key×Option α)):List (Key×Option α)→Bool
 | []=>true
 | (k,_)::l=>match eY k l' with
  | true=>nO l' l
  | false=>false
structure Weaker (ss ss':SS):Prop where
 go:∀S,Knows ss S→Knows ss' S
theorem fN{α:Type}:∀{l:List (Key×Option α)} {k:Key},bg l k=none↔eY k l=false
 | [],k=>by simp[bg,eY]
 | (j,v)::l,k=>by
  simp only[bg,eY]
  cases hb:k.beq j with
  | true=>simp
  | false=>simp only[];exact fN
theorem gT{α:Type}{l':List (Key×Option α)}:∀{l:List (Key×Option α)},nO l' l=true→∀k,eY k l=true→eY k l'=true
 | [],_,k,h=>by simp[eY]at h
 | (j,v)::l,h,k,hk=>by
  simp only[nO]at h
  split at h
  ·rename_i hj
   simp only[eY]at hk
   split at hk
   ·rename_i hb;rw[Key.beq_eq.1 hb];exact hj
   ·exact gT h k hk
  ·simp at h
theorem e6{α:Type}{z:α}{l:List (Key×Option α)}:∀{l':List (Key×Option α)},c9 z l l'→∀k c,bg l' k=some (some c)→bg l k=some (some c)∨(bg l k=none∧c=z)
 | [],_,k,c,h=>by simp[bg]at h
 | (j,o)::l',⟨h1,h2⟩,k,c,h=>by
  simp only[bg]at h
  split at h
  ·rename_i hb
   have:=Key.beq_eq.1 hb
   subst this
   simp only[Option.some.injEq]at h
   subst h
   simp only at h1
   split at h1
   ·rename_i o' ho;left;rw[ho,h1]
   ·rename_i ho;exact .inr ⟨ho,h1⟩
  ·exact e6 h2 k c h
def uB(ss ss':SS):Prop :=
 okP (nO ss'.boxes ss.boxes) (okP (nO ss'.toks ss.toks) (il ss.slots ss'.slots∧c9 (0,none) ss.boxes ss'.boxes∧c9 (0,0) ss.toks ss'.toks))
theorem uC{ss ss':SS}(h:uB ss ss'):Weaker ss ss':=by
 obtain⟨c1,h⟩:=dE h
 obtain⟨c2,h1,h2,h3⟩:=dE h
 refine⟨fun S hs=>⟨fun i v hv=>hs.slot i v (im h1 i v hv),fun k=>?_,fun k=>?_⟩⟩
 ·split
  ·rename_i c hc
   have:=hs.box k
   rcases e6 h2 k c hc with h|⟨h,rfl⟩
   ·rw[h]at this;exact this
   ·rw[h]at this;exact this
  ·trivial
  ·rename_i hn
   have:=hs.box k
   have hl:bg ss.boxes k=none:=by
    rw[fN]at hn ⊢
    cases hk:eY k ss.boxes with
    | false=>rfl
    | true=>rw[gT c1 k hk]at hn;simp at hn
   rw[hl]at this;exact this
 ·split
  ·rename_i c hc
   have:=hs.tk k
   rcases e6 h3 k c hc with h|⟨h,rfl⟩
   ·rw[h]at this;exact this
   ·rw[h]at this;exact this
  ·trivial
  ·rename_i hn
   have:=hs.tk k
   have hl:bg ss.toks k=none:=by
    rw[fN]at hn ⊢
    cases hk:eY k ss.toks with
    | false=>rfl
    | true=>rw[gT c2 k hk]at hn;simp at hn
   rw[hl]at this;exact this
theorem LC{P:Program}{T:Tab}(hT:T.Ok P)(cx:Cx){N:Nat}(hm:P.follows .mixedOrders=true){c:Code}{Q:Exit→SS→Prop}{ss:SS}{α:Type}(I:α→SS)(inv:α→Prop)(m:α→Nat)(a₀:α)(hin:ez N c=true)
  (hi₀:inv a₀) (h₀:Weaker ss (I a₀)) (round:∀a,inv a→eU P T cx N c (ut (fun ss'=>∃a',inv a'∧m a'<m a∧uB ss' (I a')) Q) (I a)):LoopW cx.rd P N c Q ss:=by
 refine⟨fun S hs=>BZ cx hm (fun n S=>∃a,m a=n∧inv a∧Knows (I a) S) (m a₀) hin ⟨a₀,rfl,hi₀,h₀.go S hs⟩ ?_⟩
 rintro n S ⟨a,rfl,hi,hk⟩
 refine bO cx c (fun e S'=>?_) (bI hT cx c hk (round a hi))
 rintro⟨ss',h1,h2⟩
 cases e with
 | normal =>
  obtain⟨a',hi',hm',hw⟩:=h2
  exact⟨m a',hm',a',rfl,hi',(uC hw).go _ h1⟩
 | _=>exact⟨ss',h1,h2⟩
def Lk(x:AV)(k:AV→RB):RB :=
 match x with
 | .agg cs=>oX cs fun l=>k (.agg l)
 | x=>FL x k
theorem xJ{P:Program}{x:AV}{k:AV→RB}{k':AV→RM}(h:∀v,(k v).rm.leq P (k' v)):(Lk x k).rm.leq P (frz x k'):=by
 cases x with
 | agg cs=>exact gv fun l=>h _
 | _=>simp only[Lk,frz];exact ul h
def KQ(T:Tab):List ResultVar→(List AV→RB)→RB
 | [],k=>k []
 | .tmp t::rs,k=> .slot t fun v=>Lk v fun v=>KQ T rs fun l=>k (v::l)
 | .cell a t::rs,k=>ky T t (.tmp a) fun v=>Lk v fun v=>KQ T rs fun l=>k (v::l)
theorem rL{P:Program}{T:Tab}(hT:T.Ok P):∀{rs:List ResultVar} {k:List AV→RB} {k':List AV→RM},(∀v,(k v).rm.leq P (k' v))→(KQ T rs k).rm.leq P (ud P rs k')
 | [],_,_,h=>h []
 | .tmp t::rs,_,_,h=>rc fun v=>xJ fun v=>rL hT fun l=>h _
 | .cell a t::rs,_,_,h=>g4 (x:= .tmp a) hT fun v=>xJ fun v=>rL hT fun l=>h _
structure Res (res l:AV):Prop where
 eq:res=l
noncomputable def endB(P:Program)(T:Tab)(rs:List ResultVar)(res:AV)(e:Exit)(ss:SS):Prop :=
 match e with
 | .normal | .ret=>(KQ T rs fun l=> .lst l fun l=> .need (Res res (oneOf l)) (Classical.propDecidable _) (.done [])).ev P ss fun _ _=>True
 | _=>False
def cI:Nat→List AV→List (Nat×AV)
 | _,[]=>[]
 | i,x::xs=>(i,x)::cI (i+1) xs
theorem dl:∀(xs:List AV) (k i:Nat) (v:AV),cM (cI k xs) i=some v→k≤i∧xs[i-k]?=some v
 | [],k,i,v,h=>by simp[cI,cM]at h
 | x::xs,k,i,v,h=>by
  simp only[cI,cM]at h
  split at h
  ·rename_i hb
   have:=Nat.eq_of_beq_eq_true hb
   subst this
   simpa using h
  ·rename_i hb
   have hne:i≠k:=fun e=>by rw[e,Nat.beq_refl]at hb;simp at hb
   obtain⟨h1,h2⟩:=dl xs (k+1) i v h
   refine⟨by omega,?_⟩
   rw[show i-k=(i-(k+1))+1 by omega]
   simpa using h2
theorem vI(args:List AV):Knows ⟨cI 0 args,[],[]⟩ (l8 args) where
 slot i v h:=by
  have:=(dl args 0 i v h).2
  simp only[Nat.sub_zero]at this
  simp[l8,List.getD,this]
 box k:=rfl
 tk k:=rfl
noncomputable def Ka(P:Program)(T:Tab)(cx:Cx)(fn:Func)(res:AV)(ss:SS):Prop :=
 match fn.body with
 | some c=>eU P T cx fn.ntmps c (endB P T fn.results.toList res) ss
 | none=>False
def GR(fn:Func)(n:Nat):Bool :=
 match fn.body with
 | some c=>decide (n≤fn.ntmps)&&fn.results.toList.all (pu fn.ntmps)&&ez fn.ntmps c
 | none=>false
theorem ag{P:Program}{T:Tab}(hT:T.Ok P)(cx:Cx)(hm:P.follows .mixedOrders=true){f:FuncId}{fn:Func}{args:List AV}{res:AV}
  (hc:ak P f) (hf:P.funcs[f]?=some fn) (hok:GR fn args.length=true)
  (h:Ka P T cx fn res ⟨cI 0 args,[],[]⟩) (hrd:cx.rd=false:=by rfl):PureA P f args res:=by
 unfold Ka at h
 unfold GR at hok
 split at h
 ·rename_i c hb
  rw[hb]at hok
  simp only[Bool.and_eq_true,decide_eq_true_eq]at hok
  refine zK cx hm hc hf hb rfl (by rw[hok.1.2,decide_eq_true hok.1.1];rfl) hok.2 (bO cx c (fun e S'=>?_) (bI hT cx c (vI args) h)) hrd
  rintro⟨ss',h1,h2⟩
  have key:(KQ T fn.results.toList fun l=> .lst l fun l=> .need (Res res (oneOf l)) (Classical.propDecidable _) (.done [])).ev P ss' (fun _ _=>True)→Lj P fn S' res:=by
   intro h
   have h:=RB.ev_rm h1 _ h
   have h:=rL (rs:=fn.results.toList) (k':=fun l=> .need (res=oneOf l) (.done [])) hT (fun l=>au fun hr=>aA hr.eq (ar _)) _ _ h
   have h:=RM.wp_wp0 _ h
   exact RM.wp0_mono _ h fun _ _=>trivial
  cases e with
  | normal=>exact⟨.inl rfl,key h2⟩
  | ret=>exact⟨.inr rfl,key h2⟩
  | _=>exact h2.elim
 ·exact h.elim
def G3:AV→Bool
 | .v _=>true
 | _=>false
def plainL:List AV→Bool
 | []=>true
 | x::xs=>match G3 x with
  | true=>plainL xs
  | false=>false
theorem plainL_get:∀{l:List AV},plainL l=true→∀(i:Nat) (x:AV),l[i]?=some x→G3 x=true
 | [],_,i,x,h=>by simp at h
 | a::l,hl,i,x,h=>by
  simp only[plainL]at hl
  split at hl
  ·rename_i ha
   cases i with
   | zero=>simp at h;subst h;exact ha
   | succ i=>exact plainL_get hl i x (by simpa using h)
  ·simp at hl
end Go.Am
namespace Go.Am
open Go.RowKit
def KF(i:Nat):List Nat→Bool
 | []=>false
 | j::l=>match Nat.beq i j with
  | true=>true
  | false=>KF i l
def BI(ws:List Nat):List (Nat×AV)→(List (Nat×AV)→Prop)→Prop
 | [],K=>K []
 | (i,v)::l,K=>match KF i ws with
  | true=>BI ws l K
  | false=>BI (i::ws) l fun l'=>K ((i,v)::l')
def yU{α:Type}(ws:List Key):List (Key×Option α)→(List (Key×Option α)→Prop)→Prop
 | [],K=>K []
 | (i,v)::l,K=>match dC i ws with
  | true=>yU ws l K
  | false=>yU (i::ws) l fun l'=>K ((i,v)::l')
theorem nZ{i:Nat}:∀{l:List Nat},KF i l=true↔i∈l
 | []=>by simp[KF]
 | j::l=>by
  simp only[KF]
  cases hb:Nat.beq i j with
  | true=>simp[Nat.eq_of_beq_eq_true hb]
  | false =>
   have:i≠j:=fun e=>by rw[e,Nat.beq_refl]at hb;simp at hb
   simp[nZ,this]
theorem lx:∀(l:List (Nat×AV)) {ws:List Nat} {K:List (Nat×AV)→Prop},BI ws l K→∃l',K l'∧∀i v,cM l' i=some v→i∉ws∧cM l i=some v
 | [],ws,K,h=>⟨[],h,by simp[cM]⟩
 | (j,u)::l,ws,K,h=>by
  simp only[BI]at h
  split at h
  ·rename_i hm
   obtain⟨l',hk,hl⟩:=lx l h
   refine⟨l',hk,fun i v hi=>?_⟩
   obtain⟨h1,h2⟩:=hl i v hi
   refine⟨h1,?_⟩
   have:Nat.beq i j=false:=by
    cases hb:Nat.beq i j with
    | false=>rfl
    | true=>rw[Nat.eq_of_beq_eq_true hb]at h1;exact absurd (nZ.1 hm) h1
   simp[cM,this,h2]
  ·rename_i hm
   obtain⟨l',hk,hl⟩:=lx l h
   refine⟨_,hk,fun i v hi=>?_⟩
   simp only[cM]at hi ⊢
   split at hi
   ·rename_i hb
    have:=Nat.eq_of_beq_eq_true hb
    subst this
    exact⟨fun hi'=>by rw[nZ.2 hi']at hm;simp at hm,hi⟩
   ·obtain⟨h1,h2⟩:=hl i v hi
    exact⟨fun hi'=>h1 (List.mem_cons_of_mem _ hi'),h2⟩
theorem iA{α:Type}:∀(l:List (Key×Option α)) {ws:List Key} {K:List (Key×Option α)→Prop},yU ws l K →
  ∃l',K l'∧(∀i v,bg l' i=some v→i∉ws∧bg l i=some v)∧(∀i v,bg l i=some v→i∉ws→bg l' i=some v)
 | [],ws,K,h=>⟨[],h,by simp[bg],by simp[bg]⟩
 | (j,u)::l,ws,K,h=>by
  simp only[yU]at h
  split at h
  ·rename_i hm
   obtain⟨l',hk,hl,hr⟩:=iA l h
   refine⟨l',hk,fun i v hi=>?_,fun i v hi hn=>?_⟩
   ·obtain⟨h1,h2⟩:=hl i v hi
    refine⟨h1,?_⟩
    have:i.beq j=false:=by
     cases hb:i.beq j with
     | false=>rfl
     | true=>rw[Key.beq_eq.1 hb]at h1;exact absurd (b9.1 hm) h1
    simp[bg,this,h2]
   ·simp only[bg]at hi
    split at hi
    ·rename_i hb;rw[Key.beq_eq.1 hb]at hn;exact absurd (b9.1 hm) hn
    ·exact hr i v hi hn
  ·rename_i hm
   obtain⟨l',hk,hl,hr⟩:=iA l h
   refine⟨_,hk,fun i v hi=>?_,fun i v hi hn=>?_⟩
   ·simp only[bg]at hi ⊢
    split at hi
    ·rename_i hb
     have:=Key.beq_eq.1 hb
     subst this
     exact⟨fun hi'=>by rw[b9.2 hi']at hm;simp at hm,hi⟩
    ·obtain⟨h1,h2⟩:=hl i v hi
     exact⟨fun hi'=>h1 (List.mem_cons_of_mem _ hi'),h2⟩
   ·simp only[bg]at hi ⊢
    split at hi
    ·exact hi
    ·rename_i hb
     exact hr i v hi (by
      intro hc
      rcases List.mem_cons.1 hc with e|e
      ·rw[Key.beq_eq.2 e]at hb;simp at hb
      ·exact hn e)
def Be:List Oper→List Nat
 | []=>[]
 | o::os=>match o.dst with
  | some d=>d::Be os
  | none=>Be os
def eT:List Oper→List Nat
 | []=>[]
 | o::os=>match o.op,o.dst with
  | .alloc _,some d=>d::eT os
  | .box _ _,some d=>d::eT os
  | .makeMap _ _,some d=>d::eT os
  | .makeSlice _ _ _,some d=>d::eT os
  | .range _ _,some d=>d::eT os
  | .call c,some d=>match c.callee with
   | .builtin .append=>d::eT os
   | _=>eT os
  | _,_=>eT os
def qv:List Oper→List Nat
 | []=>[]
 | o::os=>match o.op,o.dst with
  | .call c,some d=>match c.callee with
   | .builtin .append=>d::qv os
   | _=>qv os
  | _,_=>qv os
def dn(f:List Oper→List Nat):Code→List Nat→List Nat
 | .region _ ops _,l=>f ops.toList++l
 | .seq x y,l=>dn f x (dn f y l)
 | .cond _ x y,l=>dn f x (dn f y l)
 | .block _ c,l | .loop c,l | .scope c,l=>dn f c l
 | _,l=>l
def mD:Code→List Nat→List Nat
 | .rangeFunc _ ps _ _,l=>match ps.toList with
  | []=>9999::l
  | p::_=>(10000+p)::l
 | .seq x y,l=>mD x (mD y l)
 | .cond _ x y,l=>mD x (mD y l)
 | .block _ c,l | .loop c,l | .scope c,l=>mD c l
 | _,l=>l
def pR(cx:Cx):List Nat→List Key
 | []=>[]
 | d::ds=>cx.key d::pR cx ds
def Fd(cx:Cx):List Nat→(List Key→Prop)→Prop
 | [],K=>K []
 | d::ds,K=>Fd cx ds fun l=>K (cx.key d::l)
theorem q8(cx:Cx):∀(l:List Nat) (K:List Key→Prop),Fd cx l K=K (pR cx l)
 | [],_=>rfl
 | _::ds,_=>q8 cx ds _
def iY{α:Type}:List Key→List (Key×Option α)
 | []=>[]
 | k::ks=>(k,none)::iY ks
def GS{α β:Type}:List (α×β)→List α
 | []=>[]
 | (a,_)::l=>a::GS l
theorem gS{α:Type}{k:Key}:∀{a b:List (Key×α)},eY k (a++b)=(eY k a||eY k b)
 | [],b=>by simp[eY]
 | (j,v)::a,b=>by
  simp only[List.cons_append,eY]
  split<;>simp[gS]
theorem nN{α:Type}{k:Key}:∀{ks:List Key},eY k (iY (α:=α) ks)=true↔k∈ks
 | []=>by simp[iY,eY]
 | j::ks=>by
  simp only[iY,eY]
  cases hb:k.beq j with
  | true=>simp[Key.beq_eq.1 hb]
  | false =>
   have:k≠j:=fun e=>by rw[Key.beq_eq.2 e]at hb;simp at hb
   simp[nN,this]
theorem ly{α:Type}{k:Key}:∀{l:List (Key×α)},eY k l=true↔k∈GS l
 | []=>by simp[eY,GS]
 | (j,v)::l=>by
  simp only[eY,GS]
  cases hb:k.beq j with
  | true=>simp[Key.beq_eq.1 hb]
  | false =>
   have:k≠j:=fun e=>by rw[Key.beq_eq.2 e]at hb;simp at hb
   simp[ly,this]
theorem mr:∀{a b:List (Nat×AV)} {i:Nat} {v:AV},cM (a++b) i=some v→cM a i=some v∨cM b i=some v
 | [],b,i,v,h=> .inr h
 | (j,u)::a,b,i,v,h=>by
  simp only[List.cons_append,cM]at h ⊢
  split at h
  ·exact .inl h
  ·exact mr h
theorem ej{α:Type}:∀{a b:List (Key×Option α)} {i:Key} {v:Option α},bg (a++b) i=some v→bg a i=some v∨(bg a i=none∧bg b i=some v)
 | [],b,i,v,h=> .inr ⟨rfl,h⟩
 | (j,u)::a,b,i,v,h=>by
  simp only[List.cons_append,bg]at h ⊢
  split at h
  ·exact .inl h
  ·exact ej h
theorem jp{α:Type}:∀{ks:List Key} {i:Key} {v:Option α},bg (iY (α:=α) ks) i=some v→v=none
 | [],i,v,h=>by simp[iY,bg]at h
 | k::ks,i,v,h=>by
  simp only[iY,bg]at h
  split at h
  ·exact(Option.some.inj h).symm
  ·exact jp h
def vX(ss:SS)(K:List (Nat×AV)→List (Key×Option jd)→List (Key×Option (Nat×Nat))→Prop):Prop :=
 match ss with
 | ⟨s,b,t⟩=>K s b t
theorem cb(ss:SS)(K:List (Nat×AV)→List (Key×Option jd)→List (Key×Option (Nat×Nat))→Prop):vX ss K=K ss.slots ss.boxes ss.toks:=rfl
theorem ai{l l':List (Nat×AV)}{i:Nat}{v:AV}(h:cM l i=some v)(k:il l l'):il l ((i,v)::l'):=⟨ah h rfl,k⟩
theorem aL{α:Type}{z:α}{l l':List (Key×Option α)}{k:Key}{c:α}(h:bg l k=some (some c))(t:c9 z l l'):c9 z l ((k,some c)::l'):=by
 refine⟨?_,t⟩
 simp only[h]
theorem vG{α:Type}{z:α}{l l':List (Key×Option α)}{k:Key}(t:c9 z l l'):c9 z l ((k,none)::l'):=⟨trivial,t⟩
theorem bW{α:Type}{z:α}{l l':List (Key×Option α)}{k:Key}(h:bg l k=none)(t:c9 z l l'):c9 z l ((k,some z)::l'):=by
 refine⟨?_,t⟩
 simp only[h]
def Iv(over:List (Nat×AV))(bov:List (Key×Option jd))(tov:List (Key×Option (Nat×Nat)))(bk tk:List Key)(ks:List (Nat×AV))(kb:List (Key×Option jd))(kt:List (Key×Option (Nat×Nat))):SS :=
 ⟨over++ks,bov++(iY bk++kb),tov++(iY tk++kt)⟩
theorem xE{α:Type}{bov:List (Key×Option α)}{bk ws:List Key}{l l':List (Key×Option α)}(hws:∀k,k∈ws→k∈bk∨eY k bov=true)
  (hr:∀i v,bg l i=some v→i∉ws→bg l' i=some v) {k:Key} (h:bg (bov++(iY bk++l')) k=none):bg l k=none:=by
 cases hl:bg l k with
 | none=>rfl
 | some v =>
  exfalso
  rw[fN,gS,gS]at h
  simp only[Bool.or_eq_false_iff]at h
  by_cases hw:k∈ws
  ·rcases hws k hw with h1|h1
   ·rw[nN.2 h1]at h;simp at h
   ·rw[h1]at h;simp at h
  ·have:=hr k v hl hw
   rw[fN.2 h.2.2]at this;simp at this
theorem aO{P:Program}{T:Tab}(hT:T.Ok P)(cx:Cx){N:Nat}(hm:P.follows .mixedOrders=true){c:Code}{Q:Exit→SS→Prop}{ss:SS}{α:Type}
  (over:α→List (Nat×AV)) (bov:α→List (Key×Option jd)) (tov:α→List (Key×Option (Nat×Nat))) (inv:α→Prop) (m:α→Nat) (a₀:α) (hin:ez N c=true) (hi₀:inv a₀)
  (h:vX ss fun sl bx tk=>Fd cx (dn eT c (mD c [])) fun bk=>Fd cx (dn qv c []) fun tkk =>
   BI (dn Be c []) sl fun ks=>yU (GS (bov a₀)++bk) bx fun kb=>yU (GS (tov a₀)++tkk) tk fun kt =>
   (il sl (over a₀)∧c9 (0,none) bx (bov a₀)∧c9 (0,0) tk (tov a₀)) ∧
   ∀a,inv a→eU P T cx N c (ut (fun ss'=>∃a',inv a'∧m a'<m a∧uB ss' (Iv (over a') (bov a') (tov a') bk tkk ks kb kt)) Q)
    (Iv (over a) (bov a) (tov a) bk tkk ks kb kt)):LoopW cx.rd P N c Q ss:=by
 rw[cb]at h
 rw[q8,q8]at h
 obtain⟨ks,h,hks⟩:=lx _ h
 obtain⟨kb,h,hkb,hkb'⟩:=iA _ h
 obtain⟨kt,⟨⟨h1,h2,h3⟩,hround⟩,hkt,hkt'⟩:=iA _ h
 refine LC hT cx hm (fun a=>Iv (over a) (bov a) (tov a) (pR cx (dn eT c (mD c []))) (pR cx (dn qv c [])) ks kb kt) inv m a₀ hin hi₀ ⟨fun S hs=>⟨fun i v hv=>?_,fun k=>?_,fun k=>?_⟩⟩ hround
 ·rcases mr hv with h|h
  ·exact hs.slot i v (im h1 i v h)
  ·exact hs.slot i v (hks i v h).2
 ·have hb:=hs.box k
  split
  ·rename_i c' hc
   rcases ej hc with h|⟨h,h'⟩
   ·rcases e6 h2 k c' h with h|⟨h,h'⟩
    ·rw[h]at hb;exact hb
    ·rw[h]at hb;rw[h'];exact hb
   ·rcases ej h' with h|⟨_,h⟩
    ·have:=jp h;simp at this
    ·rw[(hkb k _ h).2]at hb;exact hb
  ·trivial
  ·rename_i hn
   have:=xE (ws:=GS (bov a₀)++pR cx (dn eT c (mD c []))) (by
    intro k hk
    rcases List.mem_append.1 hk with h|h
    ·exact .inr (ly.2 h)
    ·exact .inl h) hkb' hn
   rw[this]at hb;exact hb
 ·have hb:=hs.tk k
  split
  ·rename_i c' hc
   rcases ej hc with h|⟨h,h'⟩
   ·rcases e6 h3 k c' h with h|⟨h,h'⟩
    ·rw[h]at hb;exact hb
    ·rw[h]at hb;rw[h'];exact hb
   ·rcases ej h' with h|⟨_,h⟩
    ·have:=jp h;simp at this
    ·rw[(hkt k _ h).2]at hb;exact hb
  ·trivial
  ·rename_i hn
   have:=xE (ws:=GS (tov a₀)++pR cx (dn qv c [])) (by
    intro k hk
    rcases List.mem_append.1 hk with h|h
    ·exact .inr (ly.2 h)
    ·exact .inl h) hkt' hn
   rw[this]at hb;exact hb
theorem Rel.reslot{N:Nat}{base:Nat→Prop}{w0:World}{S:St}{C:Ctx}{a:Act}{w:World}(hR:Rel N base w0 S C a w){i:Nat}{v:AV}(hv:i<N→KRel C v (a.tmps.getD i undef)) :
  Rel N base w0 (S.put (.slot i v)) C a w where
 cw:=hR.cw
 glob:=(by first|exact hR.glob|exact hR.globOf (by first|exact hle.le0|exact hle|exact hle0|exact hCle.le0) (by first|rfl|exact h1.cw|(rw[hC'];first|done|exact hR.cw)|exact hR.cw))
 size:=hR.size
 defers:=hR.defers
 slot j hj:=by
  simp only[St.put]
  by_cases h:j=i
  ·subst h;rw[a8];exact hv hj
  ·rw[fv _ _ h];exact hR.slot j hj
 gb:=hR.gb
 gt:=hR.gt
 hw:=hR.hw
 box:=hR.box
 ownBox:=hR.ownBox
 immLt:=hR.immLt
 ownLt:=hR.ownLt
 below:=hR.below
 base:=hR.base
theorem KRel.tight{C:Ctx}{sz n:Nat}{es:List AV}{y:Value}(h:KRel C (.slice sz es .tight) y)(hs:es≠[]→sz=n){k:Key}{g:Nat}(hg:C.gt k=g)(hw:C.hw k=es.length) :
  KRel C (.slice n es (.own k g)) y:=by
 cases h with
 | pure hp =>
  have hp:=hp.resz hs
  cases hp with
  | nil=>exact .tokNil _ _ _
  | slice ys hcap ht hm hsz hc hp' =>
   rcases ht with h|h
   ·cases h
   ·exact .tok (.slice ys hcap (.inl rfl) hm hsz hc hp') (by omega) fun _=>⟨by omega,fun _=> .inl h.2⟩
theorem Hb{rd:Bool}{P:Program}{N:Nat}{c:Code}{Q:Exit→St→Prop}{S:St}{i n sz:Nat}{es:List AV}(k:Key)(hi:S.slot i = .slice sz es .tight)(hs:es≠[]→sz=n)
  (h:WpA rd P N c Q ((S.put (.tk k ((S.tk k).1+1,es.length))).put (.slot i (.slice n es (.own k ((S.tk k).1+1)))))):WpA rd P N c Q S:=by
 intro lo hlo base w0 C a w hR
 obtain⟨C',hle,h1,h2,h3,h4,hR'⟩:=hR.newTok k es.length
 refine wpIn_mono (h lo hlo base w0 C' a w (hR'.reslot fun hN=>?_)) fun e a' w' ⟨S',C'',k1,k2,k3⟩=>⟨S',C'',k1,hle.trans k2,k3⟩
 have hv:=(hR.slot i hN).le hle
 rw[hi]at hv
 exact hv.tight hs (by rw[h1,hR.gt]) h2
theorem fC{rd:Bool}{P:Program}{N:Nat}{c:Code}{Q:Exit→SS→Prop}{ss:SS}(i n:Nat)(k:Key)
  (h:vX ss fun sl bx tk=>jL (cM sl i) fun v=>match v with
   | .slice sz es tok=>match tok with
    | .tight=>okP (jc es sz n) (Lm (bg tk k) fun g _=>LoopW rd P N c Q ⟨(i,.slice n es (.own k (g+1)))::sl,bx,(k,some (g+1,es.length))::tk⟩)
    | _=>False
   | _=>False):LoopW rd P N c Q ss:=by
 rw[cb]at h
 obtain⟨v,hv,h⟩:=bF h
 split at h
 ·rename_i sz es tok
  split at h
  ·obtain⟨hw,h⟩:=dE h
   refine⟨fun S hs=>?_⟩
   have hg:LoopW rd P N c Q ⟨(i,.slice n es (.own k ((S.tk k).1+1)))::ss.slots,ss.boxes,(k,some ((S.tk k).1+1,es.length))::ss.toks⟩:=by
    have ht:=hs.tk k
    unfold Lm at h
    split at h
    ·rename_i c' hc;rw[hc]at ht;rw[show S.tk k=c' from ht];exact h
    ·exact h _ (S.tk k).2
    ·rename_i hc;rw[hc]at ht;rw[show S.tk k=(0,0)from ht];exact h
   exact Hb k (hs.slot i _ hv) (kZ hw) (hg.go _ ((hs.put (.tk k ((S.tk k).1+1,es.length))).put (.slot i (.slice n es (.own k ((S.tk k).1+1))))))
  ·exact h.elim
 ·exact h.elim
end Go.Am
