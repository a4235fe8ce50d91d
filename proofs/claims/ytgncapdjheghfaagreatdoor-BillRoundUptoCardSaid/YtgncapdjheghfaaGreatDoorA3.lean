/- Part 3 of the texts that the last one stands on. -/
import Derived.Laws.Strings
import Derived.Test.YtgncapdjheghfaaGreatDoorA2
set_option linter.unusedVariables false
set_option linter.unusedSimpArgs false
namespace Go.Am
open Go.RowKit
def St.same(S S':St):Loc→Prop
 | .slot i=>S.slot i=S'.slot i
 | .box k=>S.box k=S'.box k
 | .tk k=>S.tk k=S'.tk k
theorem St.ext_same{S S':St}(h:∀l,S.same S' l):S=S':=by
 cases S;cases S'
 congr
 ·exact funext fun i=>h (.slot i)
 ·exact funext fun k=>h (.box k)
 ·exact funext fun k=>h (.tk k)
theorem St.same_refl(S:St)(l:Loc):S.same S l:=by cases l<;>rfl
theorem St.same.symm{S S':St}{l:Loc}(h:S.same S' l):S'.same S l:=by cases l<;>exact Eq.symm h
theorem St.same.trans{A B C:St}{l:Loc}(h:A.same B l)(k:B.same C l):A.same C l:=by cases l<;>exact Eq.trans h k
theorem oG{S:St}{x:Wr}{l:Loc}(h:l≠x.loc):(S.put x).same S l:=by
 cases x<;>cases l<;>first
  | rfl
  | (exact fr _ _ (fun e=>h (by simp[Wr.loc,e])))
theorem xP{S S':St}{x:Wr}:(S.put x).same (S'.put x) x.loc:=by
 cases x<;>simp[St.put,St.same,Wr.loc,a6]
theorem B6{S S':St}{x:Wr}{l:Loc}(h:S.same S' l):(S.put x).same (S'.put x) l:=by
 by_cases e:l=x.loc
 ·subst e;exact xP
 ·exact(oG e).trans (h.trans (oG e).symm)
theorem l8{l:Loc}:∀(ws:List Wr) {S S':St},S.same S' l→(S.puts ws).same (S'.puts ws) l
 | [],_,_,h=>h
 | x::xs,_,_,h=>l8 xs (B6 h)
theorem d5{l:Loc}:∀(ws:List Wr) {S:St},l∉ws.map Wr.loc→(S.puts ws).same S l
 | [],S,_=>S.same_refl l
 | x::xs,S,h=>by
  simp only[List.map_cons,List.mem_cons,not_or]at h
  exact(d5 xs h.2).trans (oG h.1)
theorem tW{l:Loc}:∀(ws:List Wr) {S S':St},l∈ws.map Wr.loc→(S.puts ws).same (S'.puts ws) l
 | [],_,_,h=>by simp at h
 | x::xs,S,S',h=>by
  by_cases e:l=x.loc
  ·exact l8 xs (e▸xP)
  ·simp only[List.map_cons,List.mem_cons]at h
   exact tW xs (h.resolve_left e)
def stD(D:Nat→Bool):Nat→List (List Wr)→St→St
 | _,[],S=>S
 | k,ws::rest,S=>stD D (k+1) rest (if D k then S.puts ws else S)
theorem e9{l:Loc}{D D':Nat→Bool}:∀(wrs:List (List Wr)) (k:Nat) {S S':St},
  (∀i ws,wrs[i]?=some ws→l∈ws.map Wr.loc→D (k+i)=D' (k+i))→S.same S' l→(stD D k wrs S).same (stD D' k wrs S') l
 | [],_,_,_,_,h=>h
 | ws::rest,k,S,S',hd,h=>by
  refine e9 rest (k+1) (fun i ws' h1 h2=>by have:=hd (i+1) ws' (by simpa using h1) h2;rwa [Nat.add_assoc,Nat.add_comm 1 i]) ?_
  by_cases hm:l∈ws.map Wr.loc
  ·have:=hd 0 ws rfl hm
   rw[Nat.add_zero]at this
   rw[this]
   split
   ·exact l8 ws h
   ·exact h
  ·have h1:(if D k then S.puts ws else S).same S l:=by split;exact d5 ws hm;exact S.same_refl l
   have h2:(if D' k then S'.puts ws else S').same S' l:=by split;exact d5 ws hm;exact S'.same_refl l
   exact h1.trans (h.trans h2.symm)
theorem rT{l:Loc}{D:Nat→Bool}{X:St}:∀(wrs:List (List Wr)) (k i:Nat) (ws:List Wr) {S:St},wrs[i]?=some ws→l∈ws.map Wr.loc→D (k+i)=true →
  (∀j ws',i<j→wrs[j]?=some ws'→l∈ws'.map Wr.loc→D (k+j)=false)→(stD D k wrs S).same (X.puts ws) l
 | [],_,i,ws,S,h,_,_,_=>by simp at h
 | w0::rest,k,0,ws,S,h,hm,hd,hj=>by
  simp only[List.getElem?_cons_zero,Option.some.injEq]at h
  subst h
  simp only[Nat.add_zero]at hd
  simp only[stD,hd,if_true]
  have:(stD D (k+1) rest (S.puts w0)).same (stD (fun _=>false) (k+1) rest (S.puts w0)) l :=
   e9 rest (k+1) (fun i ws' h1 h2=>by have:=hj (i+1) ws' (by omega) (by simpa using h1) h2;rw[Nat.add_assoc,Nat.add_comm 1 i];exact this) (St.same_refl _ _)
  refine this.trans ?_
  have none:∀(r:List (List Wr)) (k:Nat) (T:St),stD (fun _=>false) k r T=T:=by
   intro r
   induction r with
   | nil=>intros;rfl
   | cons x xs ih=>intro k T;simp only[stD];exact ih _ _
  rw[none]
  exact tW w0 hm
 | w0::rest,k,i+1,ws,S,h,hm,hd,hj=>by
  simp only[stD]
  exact rT rest (k+1) i ws (by simpa using h) hm (by rw[Nat.add_assoc,Nat.add_comm 1 i];exact hd)
   (fun j ws' h1 h2 h3=>by have:=hj (j+1) ws' (by omega) (by simpa using h2) h3;rw[Nat.add_assoc,Nat.add_comm 1 j];exact this)
section
variable {P:Program} {S S':St}
theorem RM.wp_some(m:RM):∀{K:List Loc→List Wr→Prop},m.wp P S K→∃l ws,K l ws∧m.wp P S (fun l' ws'=>l'=l∧ws'=ws):=by
 induction m with
 | mty k ih=>exact fun⟨ks,h⟩=>let ⟨l,ws,h1,h2⟩:=ih _ h;⟨l,ws,h1,ks,h2⟩
 | keys k ih=>exact fun⟨ks,h⟩=>let ⟨l,ws,h1,h2⟩:=ih _ h;⟨l,ws,h1,ks,h2⟩
 | callx f args pre k ih=>exact fun⟨r,post,hr,h⟩=>let ⟨l,ws,h1,h2⟩:=ih _ _ h;⟨l,ws,h1,r,post,hr,h2⟩
 | done ws=>exact fun h=>⟨[],ws,h,rfl,rfl⟩
 | slot i k ih=>exact fun h=>let ⟨l,ws,h1,h2⟩:=ih _ h;⟨_,ws,h1,RM.wp_mono (k (S.slot i)) (fun l' ws' ⟨a,b⟩=>⟨by rw[a],b⟩) h2⟩
 | box key k ih=>exact fun h=>let ⟨l,ws,h1,h2⟩:=ih _ h;⟨_,ws,h1,RM.wp_mono (k (S.box key)) (fun l' ws' ⟨a,b⟩=>⟨by rw[a],b⟩) h2⟩
 | tk key k ih=>exact fun h=>let ⟨l,ws,h1,h2⟩:=ih _ h;⟨_,ws,h1,RM.wp_mono (k (S.tk key)) (fun l' ws' ⟨a,b⟩=>⟨by rw[a],b⟩) h2⟩
 | sem s k ih=>exact fun⟨r,hr,h⟩=>let ⟨l,ws,h1,h2⟩:=ih _ h;⟨l,ws,h1,r,hr,h2⟩
 | call f args snap k ih=>exact fun⟨r,hr,h⟩=>let ⟨l,ws,h1,h2⟩:=ih _ h;⟨l,ws,h1,r,hr,h2⟩
 | need p k ih=>exact fun⟨hp,h⟩=>let ⟨l,ws,h1,h2⟩:=ih h;⟨l,ws,h1,hp,h2⟩
 | fail=>exact fun h=>h.elim
theorem RM.wp_local(m:RM):∀{K:List Loc→List Wr→Prop},m.wp P S K→(∀l ws,K l ws→∀x∈l,S.same S' x)→m.wp P S' K:=by
 induction m with
 | mty k ih=>exact fun⟨ks,h⟩ hs=>⟨ks,ih _ h hs⟩
 | keys k ih=>exact fun⟨ks,h⟩ hs=>⟨ks,ih _ h hs⟩
 | callx f args pre k ih=>exact fun⟨r,post,hr,h⟩ hs=>⟨r,post,hr,ih _ _ h hs⟩
 | done ws=>exact fun h _=>h
 | slot i k ih =>
  intro K h hs
  obtain⟨l,ws,h1,_⟩:=RM.wp_some (k (S.slot i)) h
  have e:S.slot i=S'.slot i:=hs _ _ h1 (.slot i) (List.mem_cons_self ..)
  have:=ih _ h (fun l ws hk x hx=>hs _ _ hk x (List.mem_cons_of_mem _ hx))
  show(k (S'.slot i)).wp P S' _
  rw[←e];exact this
 | box key k ih =>
  intro K h hs
  obtain⟨l,ws,h1,_⟩:=RM.wp_some (k (S.box key)) h
  have e:S.box key=S'.box key:=hs _ _ h1 (.box key) (List.mem_cons_self ..)
  have:=ih _ h (fun l ws hk x hx=>hs _ _ hk x (List.mem_cons_of_mem _ hx))
  show(k (S'.box key)).wp P S' _
  rw[←e];exact this
 | tk key k ih =>
  intro K h hs
  obtain⟨l,ws,h1,_⟩:=RM.wp_some (k (S.tk key)) h
  have e:S.tk key=S'.tk key:=hs _ _ h1 (.tk key) (List.mem_cons_self ..)
  have:=ih _ h (fun l ws hk x hx=>hs _ _ hk x (List.mem_cons_of_mem _ hx))
  show(k (S'.tk key)).wp P S' _
  rw[←e];exact this
 | sem s k ih=>exact fun⟨r,hr,h⟩ hs=>⟨r,hr,ih _ h hs⟩
 | call f args snap k ih=>exact fun⟨r,hr,h⟩ hs=>⟨r,hr,ih _ h hs⟩
 | need p k ih=>exact fun⟨hp,h⟩ hs=>⟨hp,ih h hs⟩
 | fail=>exact fun h _=>h.elim
variable {cx:Cx} {ops:Array Oper} {o:Oper}
theorem qu{K:List Loc→List Wr→Prop}(h:dT P cx ops o S K):∃l ws,K l ws∧dT P cx ops o S (fun l' ws'=>l'=l∧ws'=ws):=by
 unfold dT at *
 split at h
 ·exact RM.wp_some _ h
 ·split at h
  ·exact h.elim
  ·split at h
   ·split at h
    ·obtain⟨l,ws,h1,h2⟩:=RM.wp_some _ h
     rename_i hb
     exact⟨_,ws,h1,by simp only[hb,if_true];exact RM.wp_mono _ (fun l' ws' ⟨a,b⟩=>⟨by rw[a],b⟩) h2⟩
    ·rename_i hb
     exact⟨_,_,h,by simp[hb]⟩
   ·exact⟨_,_,h,rfl,rfl⟩
   ·exact h.elim
theorem d6{K K':List Loc→List Wr→Prop}(hk:∀l ws,K l ws→K' l ws)(h:dT P cx ops o S K):dT P cx ops o S K':=by
 unfold dT at *
 cases hg:o.guard with
 | none=>simp only[hg]at h ⊢;exact RM.wp_mono _ hk h
 | some jw =>
  obtain⟨j,want⟩:=jw
  simp only[hg]at h ⊢
  cases ht:(ops[j]?).bind (·.dst)with
  | none=>simp only[ht]at h
  | some t =>
   simp only[ht]at h ⊢
   split at h
   ·split at h
    ·rename_i hb;rw[if_pos hb];exact RM.wp_mono _ (fun l ws=>hk _ ws) h
    ·rename_i hb;rw[if_neg hb];exact hk _ _ h
   ·exact hk _ _ h
   ·exact h.elim
theorem jR{K:List Loc→List Wr→Prop}(h:dT P cx ops o S K)(hs:∀l ws,K l ws→∀x∈l,S.same S' x):dT P cx ops o S' K:=by
 obtain⟨l0,ws0,hk0,_⟩:=qu h
 have h0:=hs _ _ hk0
 unfold dT at *
 cases hg:o.guard with
 | none=>simp only[hg]at h ⊢;exact RM.wp_local _ h hs
 | some jw =>
  obtain⟨j,want⟩:=jw
  simp only[hg]at h ⊢
  cases ht:(ops[j]?).bind (·.dst)with
  | none=>simp only[ht]at h
  | some t =>
   simp only[ht]at h ⊢
   have e:S.slot t=S'.slot t:=by
    split at h
    ·split at h
     ·obtain⟨l,ws,h1,_⟩:=RM.wp_some _ h
      exact hs _ _ h1 (.slot t) (by simp)
     ·exact hs _ _ h (.slot t) (by simp)
    ·exact hs _ _ h (.slot t) (by simp)
    ·exact h.elim
   rw[←e]
   split at h
   ·split at h
    ·rename_i hb;rw[if_pos hb];exact RM.wp_local _ h (fun l ws hk x hx=>hs _ _ hk x (List.mem_cons_of_mem _ hx))
    ·rename_i hb;rw[if_neg hb];exact h
   ·exact h
   ·exact h.elim
end
theorem Aa{P:Program}{S:St}{b:AV}{k:Value→RB}{K:List Loc→List Wr→Prop}:(zU b k).rm.wp P S K↔∃key,dU b=some key∧(k key).rm.wp P S K:=by
 cases b with
 | v y=>exact⟨fun h=>⟨y,rfl,h⟩,fun⟨key,h,h'⟩=>by cases h;exact h'⟩
 | agg cs =>
  simp only[zU,dU]
  cases ep cs with
  | none=>exact⟨fun h=>h.elim,fun⟨key,h,_⟩=>by simp at h⟩
  | some l=>exact⟨fun h=>⟨_,rfl,h⟩,fun⟨key,h,h'⟩=>by cases h;exact h'⟩
 | _=>exact⟨fun h=>h.elim,fun⟨key,h,_⟩=>by simp[dU]at h⟩
theorem ux{b b':AV}{key:Value}(hv:dU b=some key)(hb:toPure b=some b'):dU b'=some key:=by
 have uD:∀{cs:List AV} {l:List Value},ep cs=some l→∀{cs'},eD cs=some cs'→cs'=cs:=by
  intro cs
  induction cs with
  | nil=>intro l h cs' h';simp[eD]at h';exact h'
  | cons x xs ih =>
   intro l h cs' h'
   simp only[ep]at h
   split at h
   ·rename_i y ys h1 h2
    cases x<;>simp[pi]at h1
    simp only[eD,pure1]at h'
    split at h'
    ·rename_i a b e1 e2
     simp at h'
     simp at e1
     subst e1
     rw[ih h2 e2]at h'
     exact h'.symm
    ·simp at h'
   ·simp at h
 cases b with
 | v y=>simp[toPure,pure1]at hb;subst hb;exact hv
 | agg cs =>
  simp only[dU]at hv
  cases hl:ep cs with
  | none=>simp[hl]at hv
  | some l =>
   simp only[toPure]at hb
   cases hp:eD cs with
   | none=>simp[hp]at hb
   | some cs' =>
    simp[hp]at hb
    rw[uD hl hp]at hb
    subst hb
    simp only[dU];exact hv
 | _=>simp[dU]at hv
theorem CK.eq_refl{c:CK}{v:Value}(h:c.typed v=true):eqC v v=true:=by
 cases c<;>cases v<;>simp[CK.typed,eqC]at *
theorem xw:∀{cs:List CK} {vs:List Value},aV cs vs=true→eqL vs vs=true
 | [],[],_=>rfl
 | [],_::_,h=>by simp[aV]at h
 | _::_,[],h=>by simp[aV]at h
 | c::cs,v::vs,h=>by
  simp only[aV]at h
  split at h
  ·rename_i hc
   simp[eqL,CK.eq_refl hc,xw h]
  ·simp at h
theorem KK.eq_refl{kk:KK}{v:Value}(h:kk.typed v=true):eqV v v=true:=by
 cases kk with
 | one c =>
  have:=CK.eq_refl (c:=c) (v:=v) (by simpa[KK.typed]using h)
  cases v<;>first|exact this|(simp[eqC]at this)
 | agg cs=>cases v<;>simp[KK.typed]at h;simpa[eqV]using xw h
theorem gL{kk:KK}{key:Value}{e:List AV}:∀{es:List AV} {n:Nat} {q:Nat×AV},a8 kk es key n=some (some q)→a8 kk (es++e) key n=some (some q)
 | [],n,q,h=>by simp[a8]at h
 | x::es,n,q,h=>by
  have hx:∃a b,x = .tuple [a,b]:=by
   cases x<;>try(simp[a8]at h;done)
   rename_i l
   match l,h with
   | [a,b],_=>exact⟨a,b,rfl⟩
  obtain⟨a,b,rfl⟩:=hx
  simp only[List.cons_append,a8]at h ⊢
  split at h
  ·split at h
   ·split at h
    ·rename_i h1 h2;rw[if_pos h1,if_pos h2];exact h
    ·rename_i h1 h2;rw[if_pos h1,if_neg h2];exact gL h
   ·simp at h
  ·simp at h
theorem gK{kk:KK}{key:Value}{a' v:AV}(ht:kk.typed key=true)(hv:dU a'=some key):∀{es:List AV} {n:Nat},a8 kk es key n=some none→∃i,a8 kk (es++[.tuple [a',v]]) key n=some (some (i,v))
 | [],n,h=>⟨n,by simp only[List.nil_append,a8,hv,ht,if_true,KK.eq_refl ht]⟩
 | x::es,n,h=>by
  have hx:∃a b,x = .tuple [a,b]:=by
   cases x<;>try(simp[a8]at h;done)
   rename_i l
   match l,h with
   | [a,b],_=>exact⟨a,b,rfl⟩
  obtain⟨a,b,rfl⟩:=hx
  simp only[List.cons_append,a8]at h ⊢
  split at h
  ·split at h
   ·split at h
    ·simp at h
    ·rename_i h1 h2;rw[if_pos h1,if_neg h2];exact gK ht hv h
   ·simp at h
  ·simp at h
section
variable {P:Program} {cx:Cx} {ops:Array Oper}
theorem yP{oq op:Oper}{t:TypeId}{x ix:Tmp}(hq:oq.op = .lookup t (.tmp x) (.tmp ix) false)(hp:op.op = .mapEntry t (.tmp x) (.tmp ix))(gq:oq.guard=none)(gp:op.guard=none){S:St}{l lp:List Loc}{ws wp:List Wr}
  (h1:dT P cx ops oq S (fun l' ws'=>l'=l∧ws'=ws)) (h2:dT P cx ops op S (fun l' ws'=>l'=lp∧ws'=wp)) (hs:∀i,Loc.slot i∈l→Loc.slot i∉wp.map Wr.loc) :
  dT P cx ops oq (S.puts wp) (fun l' ws'=>l'=l∧ws'=ws):=by
 simp only[dT,gq,hq,opA,mo,iq,bc,RB.rm,RM.wp,Aa]at h1 ⊢
 simp only[dT,gp,hp,opA,mo,kM,bc,RB.rm,RM.wp,Aa]at h2
 obtain⟨p,hm,key,hk,ht,h1⟩:=h1
 obtain⟨p',hm',key',hk',ht',h2⟩:=h2
 rw[hk]at hk';cases hk'
 cases hb:toPure (S.slot ix)with
 | none=>simp only[hb]at h2;exact h2.elim
 | some b' =>
  simp only[hb]at h2
  cases ha:S.slot x with
  | mp k g =>
   simp only[ha,Bq,RB.rm,RM.wp]at h1 h2
   cases hc:(S.box k).2 with
   | none=>simp only[hc]at h2;exact h2.elim
   | some d =>
    obtain⟨sz,es⟩:=d
    simp only[hc]at h1 h2
    obtain⟨e1,e2,h1⟩:=h1
    obtain⟨_,_,h2⟩:=h2
    cases es with
    | nil=>exact h2.elim
    | cons c0 es =>
     cases c0<;>try exact h2.elim
     rename_i cv
     cases cv<;>try exact h2.elim
     rename_i ik c
     cases ik<;>try exact h2.elim
     simp only at h1 h2
     have e1':=Nat.eq_of_beq_eq_true e1
     have e2':=Nat.eq_of_beq_eq_true e2
     have hz:p'.2=p.2:=by
      obtain⟨kt,et,i,z,a1,a2,a3,a4,_⟩:=hm.ty
      obtain⟨kt',et',i',z',b1,b2,b3,b4,_⟩:=hm'.ty
      rw[a1]at b1;cases b1
      rw[a2]at b2;cases b2
      rw[a3]at b3;cases b3
      rw[a4,b4]
     have hw:∃es',((S.puts wp).box k=vN (S.box k).1 c es')∧(es'=es∨es'=es++[.tuple [b',p.2]]):=by
      cases hf:a8 p'.1 es key 0 with
      | none=>simp only[hf]at h2;exact h2.elim
      | some o =>
       cases o with
       | some q =>
        simp only[hf,RM.wp]at h2
        obtain⟨_,rfl⟩:=h2
        refine⟨es,?_,.inl rfl⟩
        simp only[St.puts]
        have:∀(v:AV) (T:St),(T.puts (putA op.dst v)).box k=T.box k:=by intro v T;cases op.dst<;>rfl
        rw[this]
        simp only[St.put,a6]
       | none =>
        simp only[hf,RM.wp]at h2
        obtain⟨_,rfl⟩:=h2
        refine⟨es++[.tuple [b',p.2]],?_,.inr rfl⟩
        simp only[St.puts]
        have:∀(v:AV) (T:St),(T.puts (putA op.dst v)).box k=T.box k:=by intro v T;cases op.dst<;>rfl
        rw[this]
        simp only[St.put,a6,hz]
     obtain⟨es',hbox,hes⟩:=hw
     have hl:l=[Loc.slot x,Loc.slot ix,Loc.box k]:=by
      cases hf:a8 p.1 es key 0 with
      | none=>simp only[hf]at h1;exact h1.elim
      | some o=>cases o with
       | some q=>simp only[hf,dJ,RB.rm,RM.wp]at h1;exact h1.1.symm
       | none=>simp only[hf,dJ,RB.rm,RM.wp]at h1;exact h1.1.symm
     have hx:(S.puts wp).slot x=S.slot x:=d5 (l:= .slot x) wp (hs x (by rw[hl];simp))
     have hix:(S.puts wp).slot ix=S.slot ix:=d5 (l:= .slot ix) wp (hs ix (by rw[hl];simp))
     refine⟨p,hm,key,by rw[hix];exact hk,ht,?_⟩
     simp only[hx,ha,Bq,RB.rm,RM.wp,hbox,vN,e1,Nat.beq_refl,true_and]
     cases hf:a8 p.1 es key 0 with
     | none=>simp only[hf]at h1;exact h1.elim
     | some o =>
      cases o with
      | some q =>
       have:a8 p.1 es' key 0=some (some q):=by
        rcases hes with rfl|rfl
        ·exact hf
        ·exact gL hf
       simp only[hf]at h1
       simp only[this]
       exact h1
      | none =>
       simp only[hf]at h1
       rcases hes with rfl|rfl
       ·simp only[hf];exact h1
       ·obtain⟨i,hi⟩:=gK (v:=p.2) ht (ux hk hb) hf
        simp only[hi]
        exact h1
  | _=>simp only[ha,Bq]at h2;exact h2.elim
end
def Bw:List Oper→List Nat→List Nat
 | [],acc=>acc
 | o::os,acc=>Bw os (acc++[o.after.toList.foldl (fun s e=>if Region.binds .any e then s|||2^e.on|||acc.getD e.on 0 else s) 0])
inductive Prec (ops:Array Oper):Nat→Nat→Prop
 | edge {o:Oper} {e:Edge} {j:Nat} (ho:ops[j]?=some o) (he:e∈o.after) (hb:Region.binds .any e=true):Prec ops e.on j
 | trans {i j k:Nat}:Prec ops i j→Prec ops j k→Prec ops i k
def gZ(ops:List Oper)(k:Nat):Bool :=
 match ops with
 | []=>true
 | o::os=>o.after.toList.all (fun e=> !Region.binds .any e||decide (e.on<k))&&gZ os (k+1)
theorem gJ(acc:List Nat)(i:Nat):∀(l:List Edge) (s:Nat),(l.foldl (fun s e=>if Region.binds .any e then s|||2^e.on|||acc.getD e.on 0 else s) s).testBit i=true →
  s.testBit i=true∨∃e∈l,Region.binds .any e=true∧(e.on=i∨(acc.getD e.on 0).testBit i=true)
 | [],s,h=> .inl h
 | e::l,s,h=>by
  rcases gJ acc i l _ h with h|⟨e',he',hb,h⟩
  ·dsimp only at h
   split at h
   ·rename_i hb
    simp only[Nat.testBit_or,Bool.or_eq_true,Nat.testBit_two_pow,decide_eq_true_eq]at h
    rcases h with(h|h)|h
    ·exact .inl h
    ·exact .inr ⟨e,by simp,hb,.inl h⟩
    ·exact .inr ⟨e,by simp,hb,.inr h⟩
   ·exact .inl h
  ·exact .inr ⟨e',by simp[he'],hb,h⟩
theorem p6(ops:Array Oper):∀(os:List Oper) (acc:List Nat),(∀i o,os[i]?=some o→ops[acc.length+i]?=some o) →
  (∀j i,(acc.getD j 0).testBit i=true→Prec ops i j)→∀j i,((Bw os acc).getD j 0).testBit i=true→Prec ops i j
 | [],acc,_,h=>h
 | o::os,acc,ho,h=>by
  refine p6 ops os _ (fun i o' h1=>by have:=ho (i+1) o' (by simpa using h1);simpa[Nat.add_assoc,Nat.add_comm 1 i]using this) ?_
  intro j i hj
  by_cases h1:j<acc.length
  ·rw[List.getD_eq_getElem?_getD,List.getElem?_append_left h1, ←List.getD_eq_getElem?_getD]at hj
   exact h j i hj
  ·rw[List.getD_eq_getElem?_getD,List.getElem?_append_right (by omega)]at hj
   by_cases h2:j=acc.length
   ·subst h2
    simp only[Nat.sub_self,List.getElem?_cons_zero,Option.getD_some]at hj
    have hoj:=ho 0 o rfl
    rw[Nat.add_zero]at hoj
    rcases gJ acc i _ _ hj with h|⟨e,he,hb,h3⟩
    ·simp at h
    ·have hp:=Prec.edge (ops:=ops) hoj (by simpa using he) hb
     rcases h3 with h3|h3
     ·rw[←h3];exact hp
     ·exact .trans (h _ _ h3) hp
   ·have:j-acc.length=(j-acc.length-1)+1:=by omega
    rw[this]at hj
    simp at hj
theorem fv{ops:Array Oper}:∀(os:List Oper) (k:Nat),gZ os k=true→∀i o,os[i]?=some o→∀e∈o.after,Region.binds .any e=true→e.on<k+i
 | [],_,_,i,o,h,_,_,_=>by simp at h
 | o::os,k,h,i,o',ho,e,he,hb=>by
  simp only[gZ,Bool.and_eq_true]at h
  cases i with
  | zero =>
   simp only[List.getElem?_cons_zero,Option.some.injEq]at ho
   subst ho
   have:=List.all_eq_true.1 h.1 e (by simpa using he)
   simpa[hb]using this
  | succ i =>
   have:=fv (ops:=ops) os (k+1) h.2 i o' (by simpa using ho) e he hb
   omega
theorem Prec.lt{ops:Array Oper}(h:gZ ops.toList 0=true){i j:Nat}(hp:Prec ops i j):i<j:=by
 induction hp with
 | edge ho he hb=>have:=fv (ops:=ops) ops.toList 0 h _ _ (by simpa using ho) _ he hb;omega
 | trans _ _ h1 h2=>omega
def lB(a b:List Loc×List Loc):Bool:=a.2.any (fun l=>b.1.contains l||b.2.contains l)||b.2.any (fun l=>a.1.contains l)
def gS(ms:List Nat)(i:Nat)(a:List Loc×List Loc):Nat→List (List Loc×List Loc)→List Nat
 | _,[]=>[]
 | j,b::rest=>match !lB a b||(ms.getD j 0).testBit i with
  | true=>gS ms i a (j+1) rest
  | false=>j::gS ms i a (j+1) rest
def AN(a b:Oper):Bool :=
 match a.guard,b.guard with
 | none,none=>match a.op,b.op with
  | .lookup t (.tmp x) (.tmp ix) false,.mapEntry t' (.tmp x') (.tmp ix')=>Nat.beq t t'&&Nat.beq x x'&&Nat.beq ix ix'
  | _,_=>false
 | _,_=>false
def Gk:Loc→Bool
 | .slot _=>true
 | _=>false
def KV(ops:Array Oper)(all:List (List Loc×List Loc))(i:Nat)(a:List Loc×List Loc):List Nat→Bool
 | []=>true
 | [j]=>match ops[i]?,ops[j]?,all[j]? with
  | some oi,some oj,some b=>AN oi oj&&b.2.all (fun l=> !Gk l|| !a.1.contains l)&&a.2.all (fun l=> !b.1.contains l&& !b.2.contains l)&&((all.take j).drop i).all (fun r=>r.2.all fun l=> !a.1.contains l)
  | _,_,_=>false
 | _=>false
def BI(ops:Array Oper)(all:List (List Loc×List Loc))(ms:List Nat):Nat→List (List Loc×List Loc)→Bool
 | _,[]=>true
 | i,a::rest=>KV ops all i a (gS ms i a (i+1) rest)&&BI ops all ms (i+1) rest
def mI(ops:Array Oper)(infos:List (List Loc×List Loc)):Bool:=gZ ops.toList 0&&BI ops infos (Bw ops.toList []) 0 infos
theorem nD{ms:List Nat}{i:Nat}{a:List Loc×List Loc}:∀(l:List (List Loc×List Loc)) (j k:Nat) (b:List Loc×List Loc),l[k]?=some b→lB a b=true→(ms.getD (j+k) 0).testBit i=false→j+k∈gS ms i a j l
 | [],_,k,b,h,_,_=>by simp at h
 | x::xs,j,k,b,hb,hc,ht=>by
  simp only[gS]
  cases k with
  | zero =>
   simp only[List.getElem?_cons_zero,Option.some.injEq]at hb;subst hb
   rw[Nat.add_zero]at ht ⊢
   simp only[hc,ht,Bool.not_true,Bool.or_false]
   exact List.mem_cons_self ..
  | succ k =>
   have:=nD xs (j+1) k b (by simpa using hb) hc (by rw[Nat.add_assoc,Nat.add_comm 1 k];exact ht)
   rw[Nat.add_assoc,Nat.add_comm 1 k]at this
   split
   ·exact this
   ·exact List.mem_cons_of_mem _ this
theorem tv{ops:Array Oper}{all:List (List Loc×List Loc)}{ms:List Nat}:∀(l:List (List Loc×List Loc)) (i:Nat),BI ops all ms i l=true→∀p a,l[p]?=some a→KV ops all (i+p) a (gS ms (i+p) a (i+p+1) (l.drop (p+1)))=true
 | [],_,_,p,a,h=>by simp at h
 | x::xs,i,h,p,a,ha=>by
  simp only[BI,Bool.and_eq_true]at h
  cases p with
  | zero=>simp only[List.getElem?_cons_zero,Option.some.injEq]at ha;subst ha;simpa using h.1
  | succ p =>
   have:=tv xs (i+1) h.2 p a (by simpa using ha)
   rw[show i+(p+1)=i+1+p by omega]
   simpa using this
structure Ex (ops:Array Oper) (all:List (List Loc×List Loc)) (ms:List Nat) (i j:Nat) (a b:List Loc×List Loc):Prop where
 lt:i<j
 pair:∃oi oj,ops[i]?=some oi∧ops[j]?=some oj∧AN oi oj=true
 slots:∀n,Loc.slot n∈b.2→Loc.slot n∉a.1
 wr:∀l∈a.2,l∉b.1∧l∉b.2
 between:∀r c,i≤r→r<j→all[r]?=some c→∀l∈c.2,l∉a.1
 only:∀j' c,i<j'→j'≠j→all[j']?=some c→lB a c=true→(ms.getD j' 0).testBit i=true
theorem yT{ops:Array Oper}{ms:List Nat}{all:List (List Loc×List Loc)}(h:BI ops all ms 0 all=true){p q:Nat}{a b:List Loc×List Loc}(hpq:p<q)(ha:all[p]?=some a)(hb:all[q]?=some b)(hc:lB a b=true) :
  (ms.getD q 0).testBit p=true∨Ex ops all ms p q a b:=by
 cases ht:(ms.getD q 0).testBit p with
 | true=>exact .inl rfl
 | false =>
  refine .inr ?_
  have hx:=tv all 0 h p a ha
  rw[Nat.zero_add]at hx
  have hbad:∀q' c,p<q'→all[q']?=some c→lB a c=true→(ms.getD q' 0).testBit p=false→q'∈gS ms p a (p+1) (all.drop (p+1)):=fun q' c hq' hc' hcl ht'=>by
   have:=nD (ms:=ms) (i:=p) (a:=a) (all.drop (p+1)) (p+1) (q'-(p+1)) c (by rw[List.getElem?_drop,show p+1+(q'-(p+1))=q' by omega];exact hc') hcl (by rw[show p+1+(q'-(p+1))=q' by omega];exact ht')
   rw[show p+1+(q'-(p+1))=q' by omega]at this
   exact this
  have hq:=hbad q b hpq hb hc ht
  generalize gS ms p a (p+1) (all.drop (p+1))=bad at *
  match bad,hx,hq with
  | [j],hx,hq =>
   simp only[List.mem_singleton]at hq
   subst hq
   simp only[KV]at hx
   split at hx
   ·rename_i oi oj b' e1 e2 e3
    rw[hb]at e3;cases e3
    simp only[Bool.and_eq_true]at hx
    obtain⟨⟨⟨x1,x2⟩,x3⟩,x4⟩:=hx
    refine⟨hpq,⟨oi,oj,e1,e2,x1⟩,fun n hn hn'=>?_,fun l hl=>?_,fun r c hr hr' hrc l hl hl'=>?_,fun j' c hj hne hjc hcl=>?_⟩
    ·have:=List.all_eq_true.1 x2 _ hn
     simp[Gk]at this
     exact this hn'
    ·have:=List.all_eq_true.1 x3 l hl
     simpa using this
    ·have hm:c∈(all.take q).drop p:=by
      refine List.mem_of_getElem? (i:=r-p) ?_
      rw[List.getElem?_drop,show p+(r-p)=r by omega,List.getElem?_take,if_pos hr']
      exact hrc
     have:=List.all_eq_true.1 (List.all_eq_true.1 x4 c hm) l hl
     simp at this
     exact this hl'
    ·cases ht':(ms.getD j' 0).testBit p with
     | true=>rfl
     | false =>
      have:=hbad j' c hj hjc hcl ht'
      simp only[List.mem_singleton]at this
      exact absurd this hne
   ·simp at hx
def Jk(P:Program)(cx:Cx)(ops:Array Oper):List Nat→St→List (List Loc×List Loc)→(List (List Loc×List Loc)→St→Prop)→Prop
 | [],S,acc,K=>K acc S
 | i::is,S,acc,K =>
  match ops[i]? with
  | none=>False
  | some o=>dT P cx ops o S fun l ws=>Jk P cx ops is (S.puts ws) (acc++[(l,ws.map Wr.loc)]) K
def Lb(P:Program)(cx:Cx)(ops:Array Oper)(S:St)(K:St→Prop):Prop :=
 Jk P cx ops (List.range ops.size) S [] fun infos S'=>mI ops infos=true∧K S'
section
variable {P:Program} {cx:Cx} {ops:Array Oper}
theorem rU{D:Nat→Bool}:∀(wrs:List (List Wr)) (k:Nat) (ws:List Wr) (S:St),stD D k (wrs++[ws]) S=if D (k+wrs.length)then(stD D k wrs S).puts ws else stD D k wrs S
 | [],k,ws,S=>by simp[stD]
 | w::wrs,k,ws,S=>by
  simp only[List.cons_append,stD,List.length_cons]
  rw[rU wrs (k+1) ws]
  rw[show k+1+wrs.length=k+(wrs.length+1) by omega]
theorem rS{D:Nat→Bool}:∀(wrs:List (List Wr)) (k:Nat) (S:St),(∀i,i<wrs.length→D (k+i)=true)→stD D k wrs S=stD (fun _=>true) k wrs S
 | [],_,_,_=>rfl
 | w::wrs,k,S,h=>by
  simp only[stD]
  have:=h 0 (by simp)
  rw[Nat.add_zero]at this
  rw[this]
  exact rS wrs (k+1) _ fun i hi=>by have:=h (i+1) (by simp;omega);rwa [Nat.add_assoc,Nat.add_comm 1 i]
theorem sq(S0:St):∀(is:List Nat) (k:Nat) (wrs:List (List Wr)) (logs:List (List Loc)) {K:List (List Loc×List Loc)→St→Prop},is=List.range' k (ops.size-k)→wrs.length=k→logs.length=k→k≤ops.size →
  (∀i o,i<k→ops[i]?=some o→∃l ws,logs[i]?=some l∧wrs[i]?=some ws∧dT P cx ops o (stD (fun j=>decide (j<i)) 0 wrs S0) (fun l' ws'=>l'=l∧ws'=ws)) →
  Jk P cx ops is (stD (fun _=>true) 0 wrs S0) (logs.zip (wrs.map fun ws=>ws.map Wr.loc)) K →
  ∃(wrs':List (List Wr)) (logs':List (List Loc)),wrs'.length=ops.size∧logs'.length=ops.size ∧
   (∀i o,ops[i]?=some o→∃l ws,logs'[i]?=some l∧wrs'[i]?=some ws∧dT P cx ops o (stD (fun j=>decide (j<i)) 0 wrs' S0) (fun l' ws'=>l'=l∧ws'=ws)) ∧
   K (logs'.zip (wrs'.map fun ws=>ws.map Wr.loc)) (stD (fun _=>true) 0 wrs' S0)
 | [],k,wrs,logs,K,hr,hw,hl,hk,hrun,h=>by
  have:k=ops.size:=by
   have:=congrArg List.length hr
   simp at this;omega
  subst this
  refine⟨wrs,logs,hw,hl,fun i o ho=>hrun i o (Array.getElem?_eq_some_iff.1 ho).1 ho,h⟩
 | i::is,k,wrs,logs,K,hr,hw,hl,hk,hrun,h=>by
  have hlt:k<ops.size:=by
   have:=congrArg List.length hr
   simp at this;omega
  have hsz:ops.size-k=(ops.size-(k+1))+1:=by omega
  rw[hsz,List.range'_succ]at hr
  simp only[List.cons.injEq]at hr
  obtain⟨rfl,rfl⟩:=hr
  simp only[Jk]at h
  split at h
  ·exact h.elim
  ·rename_i o ho
   obtain⟨l,ws,h1,h2⟩:=qu h
   have hpre:∀j,j≤i→stD (fun p=>decide (p<j)) 0 (wrs++[ws]) S0=stD (fun p=>decide (p<j)) 0 wrs S0:=by
    intro j hj
    rw[rU,Nat.zero_add,hw,if_neg (by simp;omega)]
   refine sq S0 _ (i+1) (wrs++[ws]) (logs++[l]) rfl (by simp[hw]) (by simp[hl]) (by omega) (fun p o' hp ho'=>?_) ?_
   ·by_cases hpi:p=i
    ·subst hpi
     rw[ho]at ho';cases ho'
     refine⟨l,ws,by rw[List.getElem?_append_right (by omega),hl];simp,by rw[List.getElem?_append_right (by omega),hw];simp,?_⟩
     rw[hpre _ (Nat.le_refl _),rS wrs 0 S0 (fun q hq=>by simp;omega)]
     exact h2
    ·obtain⟨l',ws',a1,a2,a3⟩:=hrun p o' (by omega) ho'
     refine⟨l',ws',by rw[List.getElem?_append_left (by omega)];exact a1,by rw[List.getElem?_append_left (by omega)];exact a2,?_⟩
     rw[hpre p (by omega)];exact a3
   ·rw[rU,if_pos rfl,List.map_append,List.zip_append (by simp[hl,hw])]
    exact h1
theorem Kv(l:List Nat)(p q:Nat→Bool)(hpq:∀i,q i=true→p i=true){i:Nat}(hi:i∈l)(h1:p i=true)(h2:q i=false):(l.filter q).length<(l.filter p).length:=by
 induction l with
 | nil=>simp at hi
 | cons x xs ih =>
  have hle:∀l:List Nat,(l.filter q).length≤(l.filter p).length:=by
   intro l
   induction l with
   | nil=>simp
   | cons y ys ih =>
    simp only[List.filter_cons]
    cases hq:q y with
    | true=>rw[if_pos rfl,if_pos (hpq y hq)];simpa using ih
    | false =>
     rw[if_neg Bool.false_ne_true]
     split
     ·simp only[List.length_cons];omega
     ·exact ih
  simp only[List.filter_cons]
  rcases List.mem_cons.1 hi with rfl|hi
  ·rw[if_neg (by simp[h2]),if_pos h1]
   have:=hle xs
   simp;omega
  ·have:=ih hi
   cases hq:q x with
   | true=>rw[if_pos rfl,if_pos (hpq x hq)];simpa using this
   | false =>
    rw[if_neg Bool.false_ne_true]
    split
    ·simp only[List.length_cons];omega
    ·exact this
theorem zA{lo:Option Nat}{N:Nat}{base:Nat→Prop}{w0:World}{S:St}{C:Ctx}{a:Act}{w:World}{Q:Exit→Act→World→Prop}{K:St→Prop}(hin:BS N ops=true)(hR:Rel N base w0 S C a w)
  (hk:∀S' C' a' w',K S'→C.le C'→Rel N base w0 S' C' a' w'→Q .normal a' w') (h:Lb P cx ops S K) :
  wpAnyIn (Fw lo) 0 P .any ops Q ops.size (Array.replicate ops.size false) a w:=by
 obtain⟨wrs,logs,hwl,hll,hrun,hok,hK⟩:=sq (P:=P) (cx:=cx) (ops:=ops) S (List.range ops.size) 0 [] [] (K:=fun infos S'=>mI ops infos=true∧K S')
  (by simp[List.range_eq_range']) rfl rfl (Nat.zero_le _) (by simp) h
 simp only[mI,Bool.and_eq_true]at hok
 obtain⟨hback,hall⟩:=hok
 have hprec:=p6 ops ops.toList [] (fun i o hi=>by simpa using hi) (by simp)
 have hzip:∀(i:Nat) (l:List Loc) (w:List Wr),logs[i]?=some l→wrs[i]?=some w→(logs.zip (wrs.map fun ws=>ws.map Wr.loc))[i]?=some (l,w.map Wr.loc):=fun i l w h1 h2=>by
  rw[List.getElem?_zip_eq_some];simp[h1,h2]
 have comp:∀p q lp wp lq wq,p<q→logs[p]?=some lp→wrs[p]?=some wp→logs[q]?=some lq→wrs[q]?=some wq→lB (lp,wp.map Wr.loc) (lq,wq.map Wr.loc)=true →
   Prec ops p q∨Ex ops (logs.zip (wrs.map fun ws=>ws.map Wr.loc)) (Bw ops.toList []) p q (lp,wp.map Wr.loc) (lq,wq.map Wr.loc):=by
  intro p q lp wp lq wq hpq h1 h2 h3 h4 hc
  rcases yT hall hpq (hzip _ _ _ h1 h2) (hzip _ _ _ h3 h4) hc with h|h
  ·exact .inl (hprec q p h)
  ·exact .inr h
 have hlogs:∀i,i<ops.size→∃l ws,logs[i]?=some l∧wrs[i]?=some ws:=fun i hi=>⟨logs[i],wrs[i],by simp[hll,hi],by simp[hwl,hi]⟩
 have main:∀(fuel:Nat) (listed:Array Bool) (C1:Ctx) (a1:Act) (w1:World),listed.size=ops.size→((List.range ops.size).filter fun i=> !listed.getD i false).length≤fuel →
   (∀i j,Prec ops i j→listed.getD j false=true→listed.getD i false=true)→C.le C1→Rel N base w0 (stD (fun i=>listed.getD i false) 0 wrs S) C1 a1 w1 →
   wpAnyIn (Fw lo) 0 P .any ops Q fuel listed a1 w1:=by
  intro fuel
  induction fuel with
  | zero =>
   intro listed C1 a1 w1 hsz hf hdown hle hR1
   have hallL:∀i,i<ops.size→listed.getD i false=true:=by
    intro i hi
    have hnil:=List.eq_nil_of_length_eq_zero (Nat.le_zero.1 hf)
    rw[List.filter_eq_nil_iff]at hnil
    have:=hnil i (by simpa using hi)
    simpa using this
   refine⟨?_,hk _ C1 _ _ hK hle ?_⟩
   ·unfold Region.ready
    rw[List.filter_eq_nil_iff]
    intro i hi
    have:=hallL i (by simpa using hi)
    have e:listed.getD i true=true:=by
     rw[Array.getD_eq_getD_getElem?]at this ⊢
     have hi':i<listed.size:=by rw[hsz];simpa using hi
     simpa[hi']using this
    simp[e]
   ·rw[←rS wrs 0 S (D:=fun i=>listed.getD i false) (fun i hi=>by rw[Nat.zero_add];exact hallL i (by omega))]
    exact hR1
  | succ fuel ih =>
   intro listed C1 a1 w1 hsz hf hdown hle hR1
   have hgt:∀i,i<ops.size→listed.getD i true=listed.getD i false:=fun i hi=>by
    have hi':i<listed.size:=by omega
    simp[Array.getD,hi']
   have hready:∀i,i∈Region.ready .any ops listed→i<ops.size∧listed.getD i false=false∧∃o,ops[i]?=some o∧∀e∈o.after,Region.binds .any e=true→listed.getD e.on false=true:=by
    intro i hi
    unfold Region.ready at hi
    simp only[List.mem_filter,List.mem_range,Bool.and_eq_true,Bool.not_eq_true']at hi
    obtain⟨hlt,h1,h2⟩:=hi
    refine⟨hlt,by rw[←hgt i hlt];exact h1,ops[i],by simp[hlt],fun e he hb=>?_⟩
    simp only[Array.getElem?_eq_getElem hlt,Option.map_some,Option.getD_some]at h2
    have:=Array.all_eq_true'.1 h2 e he
    simpa[hb]using this
   refine⟨fun hnil=>?_,fun i hi=>?_⟩
   ·
    have hallL:∀i,i<ops.size→listed.getD i false=true:=by
     intro i
     induction i using Nat.strongRecOn with
     | _ i ihi =>
      intro hi
      cases hl:listed.getD i false with
      | true=>rfl
      | false =>
       exfalso
       have:i∈Region.ready .any ops listed:=by
        unfold Region.ready
        simp only[List.mem_filter,List.mem_range,Bool.and_eq_true,Bool.not_eq_true']
        refine⟨hi,by rw[hgt i hi];exact hl,?_⟩
        simp only[Array.getElem?_eq_getElem hi,Option.map_some,Option.getD_some]
        refine Array.all_eq_true'.2 fun e he=>?_
        cases hb:Region.binds .any e with
        | false=>rfl
        | true =>
         have hlt:e.on<i:=by
          have:=fv (ops:=ops) ops.toList 0 hback i ops[i] (by simp[hi]) e he hb
          omega
         have:=ihi e.on hlt (by omega)
         simp[this]
       rw[hnil]at this
       simp at this
    refine hk _ C1 _ _ hK hle ?_
    rw[←rS wrs 0 S (D:=fun i=>listed.getD i false) (fun i hi=>by rw[Nat.zero_add];exact hallL i (by omega))]
    exact hR1
   ·obtain⟨hlt,hni,o,ho,hedges⟩:=hready i hi
    obtain⟨l,ws,hl1,hw1,hst⟩:=hrun i o ho
    have hpre:∀j,Prec ops j i→listed.getD j false=true:=by
     intro j hp
     have:∀{x y:Nat},Prec ops x y→y=i→listed.getD x false=true:=by
      intro x y hp
      induction hp with
      | edge ho' he hb=>intro e;subst e;rw[ho]at ho';cases ho';exact hedges _ he hb
      | trans h1 h2 ih1 ih2=>intro e;subst e;exact hdown _ _ h1 (ih2 rfl)
     exact this hp rfl
    have hpost:∀j,Prec ops i j→listed.getD j false=false:=by
     intro j hp
     cases hj:listed.getD j false with
     | false=>rfl
     | true=>have:=hdown i j hp hj;rw[hni]at this;cases this
    have hst':dT P cx ops o (stD (fun i=>listed.getD i false) 0 wrs S) (fun l' ws'=>l'=l∧ws'=ws):=by
     by_cases hex:∃j lj wj,Ex ops (logs.zip (wrs.map fun ws=>ws.map Wr.loc)) (Bw ops.toList []) i j (l,ws.map Wr.loc) (lj,wj.map Wr.loc)∧logs[j]?=some lj∧wrs[j]?=some wj∧listed.getD j false=true
     ·
      obtain⟨p,lp,wp,hx,hlp,hwp,hDp⟩:=hex
      obtain⟨oi,oj,e1,e2,e3⟩:=hx.pair
      rw[ho]at e1;cases e1
      obtain⟨l2,w2,b1,b2,hstp⟩:=hrun p oj e2
      rw[hlp]at b1;cases b1
      rw[hwp]at b2;cases b2
      have hpl:p<wrs.length:=(List.getElem?_eq_some_iff.1 hwp).1
      have hlw:∀r c,i≤r→r<p→wrs[r]?=some c→∀x∈c.map Wr.loc,x∉l:=fun r c hr hr' hc x hxc=>by
       have hrl:r<ops.size:=by omega
       obtain⟨lr,wr,c1,c2⟩:=hlogs r hrl
       rw[hc]at c2;cases c2
       exact hx.between r _ hr hr' (hzip _ _ _ c1 hc) x hxc
      have hstq:dT P cx ops o (stD (fun j=>decide (j<p)) 0 wrs S) (fun l' ws'=>l'=l∧ws'=ws):=by
       refine jR hst fun l' ws' hk' x hxl=>?_
       obtain⟨rfl,rfl⟩:=hk'
       refine e9 wrs 0 (fun j wj hj hm=>?_) (S.same_refl x)
       rw[Nat.zero_add]
       by_cases h1:j<i
       ·have:=hx.lt;simp[h1];omega
       ·by_cases h2:j<p
        ·exact absurd hxl (hlw j wj (by omega) h2 hj x hm)
        ·simp[h1,h2]
      have hboth:dT P cx ops o ((stD (fun j=>decide (j<p)) 0 wrs S).puts wp) (fun l' ws'=>l'=l∧ws'=ws):=by
       unfold AN at e3
       split at e3
       ·rename_i g1 g2
        split at e3
        ·rename_i t x ix t' x' ix' q1 q2
         simp only[Bool.and_eq_true]at e3
         have t1:=Nat.eq_of_beq_eq_true e3.1.1
         have t2:=Nat.eq_of_beq_eq_true e3.1.2
         have t3:=Nat.eq_of_beq_eq_true e3.2
         subst t1 t2 t3
         exact yP q1 q2 g1 g2 hstq hstp (fun n hn hn'=>hx.slots n hn' hn)
        ·simp at e3
       ·simp at e3
      refine jR hboth fun l' ws' hk' x hxl=>?_
      obtain⟨rfl,rfl⟩:=hk'
      have hsplit:(stD (fun j=>decide (j<p)) 0 wrs S).puts wp=stD (fun j=>decide (j<p+1)) 0 wrs S:=by
       refine St.ext_same fun y=>?_
       by_cases hy:y∈wp.map Wr.loc
       ·refine(rT wrs 0 p wp hwp hy (by simp) fun j wj hij hj hm=>by simp;omega).symm
       ·refine(d5 wp hy).trans (e9 wrs 0 (fun j wj hj hm=>?_) (S.same_refl y))
        rw[Nat.zero_add]
        by_cases e:j=p
        ·subst e;rw[hwp]at hj;cases hj;exact absurd hm hy
        ·by_cases h1:j<p
         ·simp[h1];omega
         ·simp[h1];omega
      rw[hsplit]
      refine e9 wrs 0 (fun j wj hj hm=>?_) (S.same_refl x)
      rw[Nat.zero_add]
      have hjl:j<ops.size:=by rw[←hwl];exact(List.getElem?_eq_some_iff.1 hj).1
      obtain⟨lj,wj',hlj,hwj⟩:=hlogs j hjl
      rw[hj]at hwj;cases hwj
      by_cases h1:j<i
      ·have hcl:lB (lj,wj.map Wr.loc) (l',ws'.map Wr.loc)=true:=by
        simp only[lB,Bool.or_eq_true,List.any_eq_true,List.contains_iff_mem]
        exact .inl ⟨x,hm,.inl hxl⟩
       rcases comp j i lj wj l' ws' h1 hlj hj hl1 hw1 hcl with hp|hp
       ·rw[hpre j hp];have:=hx.lt;simp;omega
       ·exact absurd hxl (hp.wr x hm).1
      ·by_cases h2:j<p
       ·exact absurd hxl (hlw j wj (by omega) h2 hj x hm)
       ·by_cases h3:j=p
        ·subst h3;rw[hDp];simp
        ·have hcl:lB (l',ws'.map Wr.loc) (lj,wj.map Wr.loc)=true:=by
          simp only[lB,Bool.or_eq_true,List.any_eq_true,List.contains_iff_mem]
          exact .inr ⟨x,hm,hxl⟩
         have:=hprec _ _ (hx.only j _ (by have:=hx.lt;omega) h3 (hzip _ _ _ hlj hj) hcl)
         rw[hpost j this];simp;omega
     ·refine jR hst fun l' ws' hk' x hx=>?_
      obtain⟨rfl,rfl⟩:=hk'
      refine e9 wrs 0 (fun j wj hj hm=>?_) (S.same_refl x)
      rw[Nat.zero_add]
      have hjl:j<ops.size:=by rw[←hwl];exact(List.getElem?_eq_some_iff.1 hj).1
      obtain⟨lj,wj',hlj,hwj⟩:=hlogs j hjl
      rw[hj]at hwj;cases hwj
      rcases Nat.lt_trichotomy j i with hji|hji|hji
      ·rcases comp j i lj wj l' ws' hji hlj hj hl1 hw1 (by
        simp only[lB,Bool.or_eq_true,List.any_eq_true,List.contains_iff_mem]
        exact .inl ⟨x,hm,.inl hx⟩)with this|this
       ·rw[hpre j this];simp[hji]
       ·exact absurd hx (this.wr x hm).1
      ·subst hji;rw[hni];simp
      ·rcases comp i j l' ws' lj wj hji hl1 hw1 hlj hj (by
        simp only[lB,Bool.or_eq_true,List.any_eq_true,List.contains_iff_mem]
        exact .inr ⟨x,hm,hx⟩)with this|this
       ·rw[hpost j this];simp;omega
       ·cases hD:listed.getD j false with
        | true=>exact absurd ⟨j,lj,wj,this,hlj,hj,hD⟩ hex
        | false=>simp;omega
    have hnext:(stD (fun i=>listed.getD i false) 0 wrs S).puts ws=stD (fun j=>(listed.setIfInBounds i true).getD j false) 0 wrs S:=by
     have hset:∀j,(listed.setIfInBounds i true).getD j false=if j=i then true else listed.getD j false:=by
      intro j
      rw[Array.getD_eq_getD_getElem?,Array.getElem?_setIfInBounds,Array.getD_eq_getD_getElem?]
      by_cases e:j=i
      ·subst e;simp[hsz,hlt]
      ·simp[e,Ne.symm e]
     refine St.ext_same fun x=>?_
     by_cases hx:x∈ws.map Wr.loc
     ·refine(rT wrs 0 i ws hw1 hx (by rw[Nat.zero_add,hset];simp) fun j wj hij hj hm=>?_).symm
      rw[Nat.zero_add,hset,if_neg (by omega)]
      have hjl:j<ops.size:=by rw[←hwl];exact(List.getElem?_eq_some_iff.1 hj).1
      obtain⟨lj,wj',hlj,hwj⟩:=hlogs j hjl
      rw[hj]at hwj;cases hwj
      rcases comp i j l ws lj wj hij hl1 hw1 hlj hj (by
       simp only[lB,Bool.or_eq_true,List.any_eq_true,List.contains_iff_mem]
       exact .inl ⟨x,hx,.inr hm⟩)with this|this
      ·exact hpost j this
      ·exact absurd hm (this.wr x hx).2
     ·refine(d5 ws hx).trans (e9 wrs 0 (fun j wj hj hm=>?_) (S.same_refl x))
      rw[Nat.zero_add,hset]
      by_cases e:j=i
      ·subst e;rw[hw1]at hj;cases hj;exact absurd hm hx
      ·rw[if_neg e]
    have hio:J7 N ops o=true:=List.all_eq_true.1 hin o (by simpa using Array.mem_of_getElem? ho)
    have hset:∀j,(listed.setIfInBounds i true).getD j false=if j=i then true else listed.getD j false:=by
     intro j
     rw[Array.getD_eq_getD_getElem?,Array.getElem?_setIfInBounds,Array.getD_eq_getD_getElem?]
     by_cases e:j=i
     ·subst e;simp[hsz,hlt]
     ·simp[e,Ne.symm e]
    have:=o7 (lo:=lo) (Q:=Q) (next:=wpAnyIn (Fw lo) 0 P .any ops Q fuel (listed.setIfInBounds i true)) cx hio hR1 (fun l' ws' C' a' w' hk' hle' hR'=>by
     obtain⟨rfl,rfl⟩:=hk'
     refine ih _ C' a' w' (by simpa using hsz) ?_ (fun p q hp hq=>?_) (hle.trans hle') (by rw[←hnext];exact hR')
     ·have:=Kv (List.range ops.size) (fun j=> !listed.getD j false) (fun j=> !(listed.setIfInBounds i true).getD j false) (fun j hj=>by
       rw[hset]at hj;split at hj
       ·simp at hj
       ·exact hj) (i:=i) (by simpa using hlt) (by simp[hni]) (by rw[hset];simp)
      omega
     ·rw[hset]at hq ⊢
      by_cases e:p=i
      ·simp[e]
      ·rw[if_neg e]
       by_cases e2:q=i
       ·subst e2;exact hpre p hp
       ·rw[if_neg e2]at hq;exact hdown p q hp hq) hst'
    unfold wpOpIn
    simp only[ho]
    split
    ·rename_i hw;rw[if_pos hw]at this;exact this
    ·rename_i hw;rw[if_neg hw]at this;exact⟨fun _ _=>trivial,this⟩
 refine main ops.size _ C a w (by simp) (Nat.le_trans (List.length_filter_le _ _) (by simp)) (fun i j _ hj=>?_) (.refl C) ?_
 ·exfalso
  simp[Array.getD]at hj
 ·have none:∀(r:List (List Wr)) (k:Nat) (T:St),stD (fun i=>(Array.replicate ops.size false).getD i false) k r T=T:=by
   intro r
   induction r with
   | nil=>intros;rfl
   | cons x xs ih =>
    intro k T
    simp only[stD]
    rw[if_neg (by simp[Array.getD])]
    exact ih _ _
  rw[none];exact hR
end
end Go.Am
namespace Go.Am
open Go.RowKit
section
variable {P:Program} {N:Nat} {base:Nat→Prop} {w0:World} {S:St} {C:Ctx} {a:Act} {w:World}
theorem Rel.bare(hR:Rel N base w0 S C a w):Rel 0 base w0 S C ⟨#[],[]⟩ w where
 cw:=hR.cw
 glob:=(by first|exact hR.glob|exact hR.globOf (by first|exact hle.le0|exact hle|exact hle0|exact hCle.le0) (by first|rfl|exact h1.cw|(rw[hC'];first|done|exact hR.cw)|exact hR.cw))
 size:=rfl
 defers:=ln.nil _ _
 slot i hi:=absurd hi (by omega)
 gb:=hR.gb
 gt:=hR.gt
 hw:=hR.hw
 box:=hR.box
 ownBox:=hR.ownBox
 immLt:=hR.immLt
 ownLt:=hR.ownLt
 below:=hR.below
 base:=hR.base
theorem Rel.allocFree(hR:Rel N base w0 S C a w)(o:Obj):C.le { C with w:=w.alloc o}∧Rel N base w0 S { C with w:=w.alloc o} a (w.alloc o)∧C.own w.heap.size=none∧∀i,¬C.imm w.heap.size i:=by
 have hbase:=hR.baseLe
 have hw:=hR.cw
 subst hw
 have hold:∀b,b<C.w.heap.size→(C.w.alloc o).heap[b]?=C.w.heap[b]?:=fun b hb=>Below.heap_alloc _ _ _ hb
 have hle:C.le { C with w:=C.w.alloc o}:=by
  refine⟨fun b i h=>⟨h,World.cell?_of_block (hold b (hR.immLt b i h))⟩,fun _=>Nat.le_refl _,fun _ _=>rfl,fun _=>Nat.le_refl _,fun _ _=>Nat.le_refl _,
   fun k b _ _ h=>⟨h,fun _ h=>h,fun arr e h'=>⟨arr,(hold b (hR.ownLt _ _ h).2).trans h',rfl⟩⟩,fun k _ h=>⟨h,fun arr e h'=>⟨arr,e,(hold _ (hR.ownLt _ _ h).2).trans h',Nat.le_refl _⟩⟩,
   by simp,fun _ _ _ h=> .inl h,fun _ _ _ h=>h,fun b hb _=>hold b hb⟩
 refine⟨hle,?_,?_,fun i h=>absurd (hR.immLt _ i h) (Nat.lt_irrefl _)⟩
 ·exact {
   cw:=rfl,glob:=(by first|exact hR.glob|exact hR.globOf (by first|exact hle.le0|exact hle|exact hle0|exact hCle.le0) (by first|rfl|exact h1.cw|(rw[hC'];first|done|exact hR.cw)|exact hR.cw)),size:=hR.size,defers:=hR.defers.le hle,slot:=fun i hi=>(hR.slot i hi).le hle,gb:=hR.gb,gt:=hR.gt,hw:=hR.hw
   box:=fun k sz es h=>(hR.box k sz es h).mono hle rfl (fun _=>rfl) (fun h=>hold _ (hR.ownLt _ _ h).2)
   ownBox:=hR.ownBox
   immLt:=fun b i h=>by have:=hR.immLt b i h;simp;omega
   ownLt:=fun b o h=>by have:=hR.ownLt b o h;exact⟨this.1,by have:=this.2;simp;omega⟩
   below:=hR.below.alloc hbase _,base:=hR.base}
 ·cases h:C.own C.w.heap.size with
  | none=>rfl
  | some o=>exact absurd (hR.ownLt _ _ h).2 (Nat.lt_irrefl _)
def zX(S:St)(N:Nat)(l:List AV):Prop:=l.length=N∧∀(i:Nat) (x:AV),l[i]?=some x→x = .junk∨x=S.slot i
def oI(S:St)(kl:Key)(ps:Array Tmp)(as bo:Code)(l:List AV):St:=S.put (.box kl ((S.box kl).1+1,some (0,[.lp .ready none ps as bo l])))
def iX(kl:Key)(g:Nat)(Q:Exit→St→Prop)(S:St):Prop :=
 match S.box kl with
 | (g',some (0,[.lp st pend _ _ _ _]))=>g'=g∧st≠ .busy∧(match pend with
  | none=>Q .normal (S.put (.box kl (g,none)))
  | some .ret=>Q .ret (S.put (.box kl (g,none)))
  | some (.exit i)=>Q (.exit i) (S.put (.box kl (g,none)))
  | some _=>False)
 | _=>False
def pB(P:Program)(N:Nat)(kl:Key)(g:Operand)(ps:Array Tmp)(as bo:Code)(Q:Exit→St→Prop)(S:St):Prop :=
 ∃l fid fs cs,zX S N l∧S.val g = .func (.func fid) fs cs ∧
  (ij none (.fn fid) (fs++[.yld kl ((S.box kl).1+1)]++cs)).wp0 P (oI S kl ps as bo l) fun ws=>iX kl ((S.box kl).1+1) Q ((oI S kl ps as bo l).puts ws)
theorem tg(hR:Rel N base w0 S C a w){k:Key}{g:Nat}{st:LoopState}{pend:Option Code}{ps:Array Tmp}{as bo:Code}{l:List AV}(hb:S.box k=(g,some (0,[.lp st pend ps as bo l]))) :
  C.own (C.jb k)=some (.box k)∧∃(fn:FuncId) (ts:Array Value) (d:Nat),w.heap[C.jb k]?=some (.loop { state:=st,pending:=pend,fn,tmps:=ts,params:=ps,assign:=as,body:=bo,defers:=d}) ∧
   ts.size=l.length∧∀(i:Nat) (x:AV) (y:Value),l[i]?=some x→ts[i]?=some y→KRel C x y:=by
 obtain⟨ho,o,hh,hobj⟩:=(hR.box k 0 [.lp st pend ps as bo l] (by rw[hb])).map rfl
 rw[hR.cw]at hh
 refine⟨ho,?_⟩
 generalize hl:([.lp st pend ps as bo l]:List AV)=m at hobj
 cases hobj with
 | map=>cases hl
 | iter=>cases hl
 | loop h1 h2=>cases hl;exact⟨_,_,_,hh,h1,h2⟩
theorem Rel.lpWrite(hR:Rel N base w0 S C a w){k:Key}{g:Nat}{st:LoopState}{pend:Option Code}{ps:Array Tmp}{as bo:Code}{l:List AV}(hb:S.box k=(g,some (0,[.lp st pend ps as bo l])))(st':LoopState)(pend':Option Code)
  {fn:FuncId} {ts:Array Value} {d:Nat} (hh:w.heap[C.jb k]?=some (.loop { state:=st,pending:=pend,fn,tmps:=ts,params:=ps,assign:=as,body:=bo,defers:=d}))
  (h1:ts.size=l.length) (h2:∀(i:Nat) (x:AV) (y:Value),l[i]?=some x→ts[i]?=some y→KRel C x y) :
  ∃C',C.le C'∧C'.gb=C.gb∧C'.jb=C.jb∧Rel N base w0 (S.put (.box k (g,some (0,[.lp st' pend' ps as bo l])))) C' a (w.putObj (C.jb k) (.loop { state:=st',pending:=pend',fn,tmps:=ts,params:=ps,assign:=as,body:=bo,defers:=d})):=by
 obtain⟨ho,_⟩:=tg hR hb
 have hlt:C.jb k<w.heap.size:=(Array.getElem?_eq_some_iff.1 hh).1
 have:=hR.objWrite k (some (0,[.lp st' pend' ps as bo l])) ho (w':=w.putObj (C.jb k) (.loop { state:=st',pending:=pend',fn,tmps:=ts,params:=ps,assign:=as,body:=bo,defers:=d})) (fun b hb=>World.putObj_heap_other hb) (by simp) rfl rfl rfl
  (fun arr e h=>by rw[hh]at h;cases h) (fun C' hle hw him hj ho' hg sz es1 h=>by
   cases h
   exact⟨fun h=>absurd rfl h,fun _=>⟨by rw[hj,ho'];exact ho,_,by rw[hw,hj];exact World.putObj_heap_same hlt,.loop h1 fun i x y hx hy=>(h2 i x y hx hy).le hle⟩,fun h=>absurd rfl h,fun _ _ h=>absurd rfl h,fun _ _ h=>absurd rfl h⟩)
 rw[hb]at this
 exact this
theorem Rel.lpForget(hR:Rel N base w0 S C a w){k:Key}{g:Nat}(hb:(S.box k).1=g)(ho:C.own (C.jb k)=some (.box k)){r:Loop}(hh:w.heap[C.jb k]?=some (.loop r))(o:Obj) :
  ∃C',C.le C'∧Rel N base w0 (S.put (.box k (g,none))) C' a (w.putObj (C.jb k) o):=by
 have:=hR.objWrite k none ho (w':=w.putObj (C.jb k) o) (fun b hb=>World.putObj_heap_other hb) (by simp) rfl rfl rfl
  (fun arr e h=>by rw[hh]at h;cases h) (fun C' hle hw him hj ho' hg sz es1 h=>by cases h)
 rw[hb]at this
 obtain⟨C',h1,_,_,h2⟩:=this
 exact⟨C',h1,h2⟩
theorem zX.rel(hR:Rel N base w0 S C a w){l:List AV}(h:zX S N l):a.tmps.size=l.length∧∀(i:Nat) (x:AV) (y:Value),l[i]?=some x→a.tmps[i]?=some y→KRel C x y:=by
 refine⟨by rw[hR.size,h.1],fun i x y hx hy=>?_⟩
 rcases h.2 i x hx with rfl|rfl
 ·exact .pure (.junk y)
 ·have hi:i<N:=by rw[←h.1];exact(List.getElem?_eq_some_iff.1 hx).1
  have:=hR.slot i hi
  rw[Array.getD_eq_getD_getElem?,hy]at this
  exact this
theorem rL{Q:Exit→St→Prop}{kl:Key}{g L:Nat}{w2:World}{C2 C':Ctx}(hle:C2.le C')(hgb:C2.gb kl=g)(hjb:C2.jb kl=L)(hleC:C.le C2)(hR':Rel N base w0 S C' a w2)(hK:iX kl g Q S)(v:Value) :
  rangePost (Fw none) 0 P L (fun e a' w'=>∃S' C',Q e S'∧C.le C'∧Rel N base w0 S' C' a' w') a (.returned v) w2:=by
 unfold iX at hK
 split at hK
 ·rename_i g' st pend ps' as' bo' l' hbx
  obtain⟨rfl,hst,hK⟩:=hK
  obtain⟨hown',fn',ts',d',hh',_,_⟩:=tg hR' hbx
  have hj:C'.jb kl=L:=by
   rw[←hjb]
   refine hle.jb kl ?_
   rw[hgb,hR'.gb,hbx]
  obtain⟨C3,hle3,hR3⟩:=hR'.lpForget (g:=g') (by rw[hbx]) hown' hh' (.loop { state:= .exhausted,pending:=pend,fn:=fn',tmps:=ts',params:=ps',assign:=as',body:=bo',defers:=d'})
  rw[hj]at hh' hR3
  have hend:=run_endLoop (P:=P) hh' hst
  refine⟨pend,_,hend,?_⟩
  have hleAll:=(hleC.trans hle).trans hle3
  cases pend with
  | none=>exact⟨_,C3,hK,hleAll,hR3⟩
  | some c =>
   cases c<;>first|exact hK.elim|skip
   ·exact wpIn_exit ⟨_,C3,hK,hleAll,hR3⟩
   ·exact wpIn_ret ⟨_,C3,hK,hleAll,hR3⟩
 ·exact hK.elim
theorem DK{C:Ctx}{vf vc:Array Value}{fs cs:List AV}{y:Value}{x0:AV}(h1:vf.size=fs.length)(h2:vc.size=cs.length)(h3:∀(i:Nat) (x:AV) (y:Value),fs[i]?=some x→vf[i]?=some y→KRel C x y)
  (h4:∀(i:Nat) (x:AV) (y:Value),cs[i]?=some x→vc[i]?=some y→KRel C x y) (h0:KRel C x0 y) :
  (vf++#[y]++vc).size=(fs++[x0]++cs).length∧∀(i:Nat) (x:AV) (z:Value),(fs++[x0]++cs)[i]?=some x→(vf++#[y]++vc)[i]?=some z→KRel C x z:=by
 refine⟨by simp[h1,h2];omega,fun i x z hx hy=>?_⟩
 have e:(vf++#[y]++vc)[i]?=(vf.toList++[y]++vc.toList)[i]?:=by
  rw[←Array.getElem?_toList];simp
 rw[e]at hy
 by_cases hi:i<fs.length
 ·rw[List.append_assoc,List.getElem?_append_left hi]at hx
  rw[List.append_assoc,List.getElem?_append_left (by simpa[h1]using hi)]at hy
  exact h3 i x z hx (by simpa using hy)
 ·rw[List.append_assoc,List.getElem?_append_right (by omega)]at hx
  rw[List.append_assoc,List.getElem?_append_right (by simp[h1];omega)]at hy
  simp only[Array.length_toList,h1]at hy
  cases hj:i-fs.length with
  | zero=>rw[hj]at hx hy;simp at hx hy;subst hx hy;exact h0
  | succ j=>rw[hj]at hx hy;simp at hx hy;exact h4 j x z hx hy
theorem qE{Q:Exit→St→Prop}{kl:Key}{g:Operand}{ps:Array Tmp}{as bo:Code}(hin:inN N g=true)(h:pB P N kl g ps as bo Q S):WpA false P N (.rangeFunc g ps as bo) Q S:=by
 intro lo hlo base w0 C a w hR
 rw[hlo rfl]
 obtain⟨l,fid,fs,cs,hsn,hg,h⟩:=h
 refine wpIn_rangeFunc fun fn _=>?_
 have hv:=hR.val hin
 rw[hg]at hv
 generalize hyg:a.eval g=yg at hv
 obtain⟨vf,vc,hy,h1,h2,h3,h4⟩:∃vf vc,yg = .func (.func fid) vf vc∧vf.size=fs.length∧vc.size=cs.length∧(∀(i:Nat) (x:AV) (y:Value),fs[i]?=some x→vf[i]?=some y→KRel C x y) ∧
   (∀(i:Nat) (x:AV) (y:Value),cs[i]?=some x→vc[i]?=some y→KRel C x y):=by
  cases hv with
  | pure hp=>cases hp with
   | func a b c d=>exact⟨_,_,rfl,a,b,fun i x y h1 h2=> .pure (c i x y h1 h2),fun i x y h1 h2=> .pure (d i x y h1 h2)⟩
  | func a b c d=>exact⟨_,_,rfl,a,b,c,d⟩
 obtain⟨hle1,hR1,hown1,himm1⟩:=hR.allocFree (.deferred (some []))
 obtain⟨a',ha'⟩:∃a':Act,a'={ a with defers:=[{ target:= .collected w.heap.size,args:=#[]}]++a.defers}:=⟨_,rfl⟩
 have hR1':Rel N base w0 S { C with w:=w.alloc (.deferred (some []))} a' (w.alloc (.deferred (some []))):=by
  rw[ha']
  exact {
    cw:=hR1.cw,glob:=hR1.glob,size:=hR1.size,slot:=hR1.slot,gb:=hR1.gb,gt:=hR1.gt,hw:=hR1.hw,box:=hR1.box,ownBox:=hR1.ownBox,immLt:=hR1.immLt,ownLt:=hR1.ownLt,below:=hR1.below,base:=hR1.base
    defers:=by
     refine⟨List.nodup_cons.2 ⟨fun hm=>?_,hR1.defers.1⟩,fun d hd=>?_⟩
     ·obtain⟨D,e,_,_,_,h5⟩:=hR.defers.2 _ hm
      cases e
      rw[hR.cw]at h5
      exact absurd (Array.getElem?_eq_some_iff.1 h5).1 (Nat.lt_irrefl _)
     ·rcases List.mem_cons.1 hd with rfl|hd
      ·exact⟨w.heap.size,rfl,hown1,hR.below.size,himm1,World.alloc_heap_new _ _⟩
      ·exact hR1.defers.2 d hd}
 obtain⟨hs1,hs2⟩:=hsn.rel hR
 obtain⟨o2,ho2⟩:∃o2:Obj,o2 = .loop { state:= .ready,pending:=none,fn,tmps:=a.tmps,params:=ps,assign:=as,body:=bo,defers:=w.heap.size}:=⟨_,rfl⟩
 obtain⟨C2,hle2,hgb2,hjb2,him2,hown2,hw2,hR2⟩:=hR1'.newObj kl (some (0,[.lp .ready none ps as bo l])) o2 fun C' hle hw him hj ho hg sz es he=>by
  cases he
  refine⟨fun h=>absurd rfl h,fun _=>⟨by rw[hj];exact ho,o2,by rw[hw,hj];exact heap_alloc_new _ _,?_⟩,fun h=>absurd rfl h,fun _ _ h=>absurd rfl h,fun _ _ h=>absurd rfl h⟩
  rw[ho2]
  exact .loop hs1 fun i x y hx hy=>((hs2 i x y hx hy).le hle1).le hle
 have hsz1:(w.alloc (.deferred (some []))).heap.size=w.heap.size+1:=by simp
 obtain⟨L,hL⟩:∃L,L=w.heap.size+1:=⟨_,rfl⟩
 rw[hsz1, ←hL]at hjb2
 have hyv:KRel C2 (.yld kl ((S.box kl).1+1)) (.func (.yield L) #[] #[]):=by rw[←hgb2, ←hjb2];exact .yld
 have hleC:=hle1.trans hle2
 obtain⟨hl1,hl2⟩:=DK h1 h2 (fun i x y hx hy=>(h3 i x y hx hy).le hleC) (fun i x y hx hy=>(h4 i x y hx hy).le hleC) hyv
 obtain⟨R,hRdef⟩:∃R,R=rangePost (Fw none) 0 P L (fun e a' w'=>∃S' C',Q e S'∧C.le C'∧Rel N base w0 S' C' a' w') a':=⟨_,rfl⟩
 have key:ak P fid∧Calls P fid (vf++#[.func (.yield L) #[] #[]]++vc) ((w.alloc (.deferred (some []))).alloc o2) R:=by
  refine nF (o:={ dst:=none,op:= .alloc 0,type:=0,pos := "",after:=#[],guard:=none}) (fid:= .fn fid) (ys:=vf++#[.func (.yield L) #[] #[]]++vc)
   (next:=fun a'' w''=>a''=a'→R (.returned undef) w'') (K:=fun ws=>iX kl ((S.box kl).1+1) Q ((oI S kl ps as bo l).puts ws)) hR2 ?_ ?_ hl1 hl2 h
  ·intro ws C' a'' w' hK hle hR' e
   subst e
   rw[hRdef]
   exact rL hle hgb2 hjb2 hleC hR' hK _
  ·intro hc C1 _ _ hr
   refine⟨hc,Calls.mono hr ?_⟩
   rintro e w' ⟨y,rfl,h⟩
   have:=h rfl
   rw[hRdef]at this ⊢
   exact this
 obtain⟨W2,hW2⟩:∃W2,W2=(w.alloc (.deferred (some []))).alloc o2:=⟨_,rfl⟩
 rw[←hW2]at key
 refine⟨L,[{ target:= .collected w.heap.size,args:=#[]}],W2,{ target:= .fn (.func fid) vc,args:=vf++#[.func (.yield L) #[] #[]]},W2,fid,vf++#[.func (.yield L) #[] #[]]++vc,W2,
  by rw[hL,hW2,ho2];exact run_enterLoop_outer fn a.tmps ps as bo,?_,fun _ _=>trivial,?_,ni,?_⟩
 ·rw[hy]at hyg
  simp only[resolve,hyg,Deferred.ofValue,Sem.run_pure]
  simp[Act.eval]
 ·simp only[invoke]
  exact key.1 _ _
 ·rw[←ha', ←hRdef]
  exact xp key.2
def gD:List AV→List Tmp→List AV→List AV
 | l,p::ps,x::xs=>gD (l.set p x) ps xs
 | l,_,_=>l
def jK(pre:List cn)(l:List AV)(ps:Array Tmp)(args:List AV):St:={ slot:=fun i=>(gD l ps.toList args).getD i (.v undef),box:=cy pre,tk:=fun _=>(0,0)}
def EY(kl:Key)(g:Nat)(ps:Array Tmp)(as bo:Code)(l:List AV)(b:Bool)(post:List cn)(e:Exit)(S:St):Prop :=
 S.box kl=(g,some (0,[.lp .busy none ps as bo l]))∧match e with
  | .normal=>b=true∧∀p∈post,(S.put (.box kl (g,some (0,[.lp .ready none ps as bo l])))).box p.1=(p.2.1,some (p.2.2.1,p.2.2.2))
  | .ret=>b=false∧∀p∈post,(S.put (.box kl (g,some (0,[.lp .done (some .ret) ps as bo l])))).box p.1=(p.2.1,some (p.2.2.1,p.2.2.2))
  | .exit i=>b=false∧∀p∈post,(S.put (.box kl (g,some (0,[.lp .done (some (.exit i)) ps as bo l])))).box p.1=(p.2.1,some (p.2.2.1,p.2.2.2))
  | _=>False
theorem uf{C:Ctx}:∀(ps:List Tmp) (args:List AV) (l:List AV) (ts:Array Value) (ys:List Value),ys.length=args.length→ts.size=l.length →
  (∀(i:Nat) (x:AV) (y:Value),l[i]?=some x→ts[i]?=some y→KRel C x y)→(∀(i:Nat) (x:AV) (y:Value),args[i]?=some x→ys[i]?=some y→KRel C x y) →
  ((
   ps.zip ys).foldl (fun tmps (t,a)=>tmps.setIfInBounds t a) ts).size=(gD l ps args).length ∧
   ∀(i:Nat) (x:AV) (y:Value),(gD l ps args)[i]?=some x→((ps.zip ys).foldl (fun tmps (t,a)=>tmps.setIfInBounds t a) ts)[i]?=some y→KRel C x y
 | [],args,l,ts,ys,hl,hs,h1,h2=>by simpa[gD]using⟨hs,h1⟩
 | p::ps,[],l,ts,ys,hl,hs,h1,h2=>by
  have:ys=[]:=List.length_eq_zero_iff.1 hl
  subst this
  simpa[gD]using⟨hs,h1⟩
 | p::ps,x::xs,l,ts,[],hl,hs,h1,h2=>by simp at hl
 | p::ps,x::xs,l,ts,y::ys,hl,hs,h1,h2=>by
  simp only[List.zip_cons_cons,List.foldl_cons,gD]
  refine uf ps xs (l.set p x) (ts.setIfInBounds p y) ys (by simpa using hl) (by simp[hs]) (fun i u v hu hv=>?_) (fun i u v hu hv=>h2 (i+1) u v (by simpa using hu) (by simpa using hv))
  by_cases hi:p=i
  ·subst hi
   have hlt:p<l.length:=by simpa using(List.getElem?_eq_some_iff.1 hu).1
   rw[List.getElem?_set_self hlt]at hu
   have hlt2:p<ts.size:=by rw[hs];exact hlt
   rw[Array.getElem?_setIfInBounds_self_of_lt hlt2]at hv
   cases hu;cases hv
   exact h2 0 _ _ rfl rfl
  ·rw[List.getElem?_set_ne hi]at hu
   rw[Array.getElem?_setIfInBounds_ne hi]at hv
   exact h1 i u v hu hv
theorem oS:∀(ps:List Tmp) (args:List AV) (l:List AV),(gD l ps args).length=l.length
 | [],_,_=>by simp[gD]
 | _::_,[],_=>by simp[gD]
 | p::ps,x::xs,l=>by rw[gD,oS ps xs];simp
theorem ym{kl:Key}{g:Nat}{pre post:List cn}{args:List AV}{b:Bool}{ps:Array Tmp}{as bo:Code}{l:List AV}(hpre:cy pre kl=(g,some (0,[.lp .ready none ps as bo l])))(hps:args.length=ps.size)
  (h:WpA true P l.length as (zI (fun S1=>S1.box kl=(g,some (0,[.lp .ready none ps as bo l]))∧WpA true P l.length bo (EY kl g ps as bo l b post) (S1.put (.box kl (g,some (0,[.lp .busy none ps as bo l]))))) (fun _ _=>False)) (jK pre l ps args)) :
  BoxA P (.yld kl g) pre args (.v (.bool b)) post:=by
 refine⟨trivial,fun C w cargs hR hown hargs hg=>?_⟩
 obtain⟨ho,fn,ts,d,hh,hts,hrel⟩:=tg (S:=fQ pre) hR (k:=kl) hpre
 refine⟨_,_,_,_,run_yield hh (by rw[hargs.1,hps]),?_⟩
 refine roundIn_of_wpIn (F:=Fence.wide) trivial ?_
 obtain⟨hsz,hsl⟩:=uf (C:=C) ps.toList args l ts cargs.toList (by simpa using hargs.1) hts hrel (fun i x y hx hy=>hargs.2 i x y hx (by simpa using hy))
 have hzip:(ps.zip cargs).foldl (fun tmps (t,a)=>tmps.setIfInBounds t a) ts=(ps.toList.zip cargs.toList).foldl (fun tmps (t,a)=>tmps.setIfInBounds t a) ts:=by
  rw[←Array.foldl_toList,Array.toList_zip]
 have hR0:Rel l.length (fun b=>b<w.heap.size∧C.own b=none) w (jK pre l ps args) C { tmps:=(ps.zip cargs).foldl (fun tmps (t,a)=>tmps.setIfInBounds t a) ts,defers:=[]} w :=
  {
   cw:=hR.cw
   glob:=hR.glob
   size:=by rw[hzip,hsz,oS]
   defers:=ln.nil _ _
   slot:=fun i hi=>by
    have hi':i<(gD l ps.toList args).length:=by rw[oS];exact hi
    simp only[jK]
    rw[hzip,Array.getD_eq_getD_getElem?,List.getD_eq_getElem?_getD]
    have h1:(gD l ps.toList args)[i]?=some (gD l ps.toList args)[i]:=by simp[hi']
    have h2:((ps.toList.zip cargs.toList).foldl (fun tmps (t,a)=>tmps.setIfInBounds t a) ts)[i]?=some ((ps.toList.zip cargs.toList).foldl (fun tmps (t,a)=>tmps.setIfInBounds t a) ts)[i]:=Array.getElem?_eq_getElem (by rw[hsz];exact hi')
    rw[h1,h2]
    exact hsl i _ _ h1 h2
   gb:=hR.gb,gt:=hR.gt,hw:=hR.hw,box:=hR.box,ownBox:=hR.ownBox,immLt:=hR.immLt,ownLt:=hR.ownLt,below:=hR.below,base:=hR.base}
 refine wpIn_mono (h (some (C.jb kl)) (by simp) _ _ C _ _ hR0) ?_
 rintro e a1 w1 ⟨S1,C1,hq,hle1,hR1⟩
 cases e with
 | normal =>
  obtain⟨hb1,hbody⟩:=hq
  obtain⟨ho1,fn1,ts1,d1,hh1,hts1,hrel1⟩:=tg hR1 hb1
  have hj1:C1.jb kl=C.jb kl:=hle1.jb kl (by rw[hg,hR1.gb,hb1])
  obtain⟨C2,hle2,hgb2,hjb2,hR2⟩:=hR1.lpWrite hb1 .busy none hh1 hts1 hrel1
  have hh1':=hh1
  rw[hj1]at hh1' hR2
  refine⟨_,run_beginRound hh1' rfl,wpIn_mono (hbody (some (C.jb kl)) (by simp) _ _ C2 _ _ hR2) ?_⟩
  rintro e a3 w3 ⟨S3,C3,⟨hb3,hq3⟩,hle3,hR3⟩
  obtain⟨ho3,fn3,ts3,d3,hh3,hts3,hrel3⟩:=tg hR3 hb3
  have hj3:C3.jb kl=C.jb kl:=by
   rw[←hj1, ←hjb2]
   exact hle3.jb kl (by rw[hgb2,hR1.gb,hb1,hR3.gb,hb3])
  have hleAll:=(hle1.trans hle2).trans hle3
  have fin:∀st' pend',∃C4,C.le C4∧Rel 0 (fun b=>b<w.heap.size∧C.own b=none) w (S3.put (.box kl (g,some (0,[.lp st' pend' ps as bo l])))) C4 ⟨#[],[]⟩
    (w3.putObj (C.jb kl) (.loop { state:=st',pending:=pend',fn:=fn3,tmps:=ts3,params:=ps,assign:=as,body:=bo,defers:=d3})):=fun st' pend'=>by
   obtain⟨C4,hle4,_,_,hR4⟩:=hR3.lpWrite hb3 st' pend' hh3 hts3 hrel3
   rw[hj3]at hR4
   exact⟨C4,hleAll.trans hle4,hR4.bare⟩
  rw[hj3]at hh3
  cases e with
  | normal =>
   obtain⟨rfl,hpost⟩:=hq3
   obtain⟨C4,hle4,hR4⟩:=fin .ready none
   exact⟨_,_,run_endRound none hh3,_,_,C4,rfl,hle4,hR4,.pure (.v _),hpost⟩
  | ret =>
   obtain⟨rfl,hpost⟩:=hq3
   obtain⟨C4,hle4,hR4⟩:=fin .done (some .ret)
   exact⟨_,_,run_endRound (some .ret) hh3,_,_,C4,rfl,hle4,hR4,.pure (.v _),hpost⟩
  | exit i =>
   obtain⟨rfl,hpost⟩:=hq3
   obtain⟨C4,hle4,hR4⟩:=fin .done (some (.exit i))
   exact⟨_,_,run_endRound (some (.exit i)) hh3,_,_,C4,rfl,hle4,hR4,.pure (.v _),hpost⟩
  | _=>exact hq3.elim
 | _=>exact hq.elim
end
end Go.Am
namespace Go.Am
open Go.RowKit
def uK(S S1:St):Prop:=∀N base w0 C a w,Rel N base w0 S C a w→∃C',C.le C'∧Rel N base w0 S1 C' a w
theorem uK.refl(S:St):uK S S:=fun _ _ _ C _ _ h=>⟨C,.refl C,h⟩
theorem DF{rd:Bool}{P:Program}{N:Nat}{c:Code}{Q:Exit→St→Prop}{S S1:St}(ht:uK S S1)(h:WpA rd P N c Q S1):WpA rd P N c Q S:=by
 intro lo hlo base w0 C a w hR
 obtain⟨C1,hle,hR1⟩:=ht N base w0 C a w hR
 exact wpIn_mono (h lo hlo base w0 C1 a w hR1) fun e a' w' ⟨S',C',h1,h2,h3⟩=>⟨S',C',h1,hle.trans h2,h3⟩
def Ctx.melt(C:Ctx)(ks:List Key):Ctx where
 w:=C.w
 imm b i:=C.imm b i∨∃k,dC k ks=true∧C.own b=some (.box k)
 own b:=match C.own b with
  | some (.box k)=>match dC k ks with
   | true=>none
   | false=>some (.box k)
  | o=>o
 gb k:=match dC k ks with
  | true=>C.gb k+1
  | false=>C.gb k
 jb:=C.jb
 gt:=C.gt
 hw:=C.hw
theorem dY{C:Ctx}{ks:List Key}{b:Nat}(h:∀k,C.own b=some (.box k)→¬dC k ks=true):(C.melt ks).own b=C.own b:=by
 simp only[Ctx.melt]
 split
 ·rename_i k hk
  split
  ·rename_i hm;exact absurd hm (h k hk)
  ·rw[hk]
 ·rfl
theorem dB{C:Ctx}{ks:List Key}{b:Nat}{o:Owner}(h:(C.melt ks).own b=some o):C.own b=some o∧∀k,o = .box k→¬dC k ks=true:=by
 simp only[Ctx.melt]at h
 split at h
 ·rename_i k hk
  split at h
  ·cases h
  ·rename_i hm
   cases h
   exact⟨hk,fun k' e=>by cases e;simp[hm]⟩
 ·rename_i hne
  exact⟨h,fun k e=>by subst e;exact absurd h (hne k)⟩
section
variable {P:Program} {N:Nat} {base:Nat→Prop} {w0:World} {S:St} {C:Ctx} {a:Act} {w:World}
theorem n8(hR:Rel N base w0 S C a w)(ks:List Key):C.le (C.melt ks) where
 imm b i h:=⟨.inl h,rfl⟩
 gb k:=by simp only[Ctx.melt];split<;>omega
 jb _ _:=rfl
 gt _:=Nat.le_refl _
 hw _ _:=Nat.le_refl _
 tl k b _ _ h:=by
  refine⟨by rw[dY (fun k' hk'=>by rw[h]at hk';cases hk')];exact h,fun i hi=>?_,fun arr _ ha=>⟨arr,ha,rfl⟩⟩
  rcases hi with hi|⟨k',_,h2⟩
  ·exact hi
  ·rw[h]at h2;cases h2
 bs k e h:=by
  have hm:¬dC k ks=true:=fun hm=>by simp only[Ctx.melt,hm]at e;omega
  exact⟨by rw[show(C.melt ks).own (C.jb k)=C.own (C.jb k)from dY (fun k' hk'=>by rw[h]at hk';cases hk';exact hm)];exact h,fun arr e' ha=>⟨arr,e',ha,Nat.le_refl _⟩⟩
 size:=Nat.le_refl _
 immOld b i _ h:=by
  rcases h with h|⟨k,hm,h2⟩
  ·exact .inl h
  ·exact .inr (.inr ⟨k,h2,by simp only[Ctx.melt,h2,hm],by simp only[Ctx.melt,hm];omega⟩)
 ownOld b o _ h:=(dB h).1
 free _ _ _:=rfl
theorem p7(hR:Rel N base w0 S C a w){ks:List Key}{key:Key}{g sz n cap:Nat}{es l:List AV}{y:Value}(hm:dC key ks=true)(hs:S.box key=(g,some (sz,es)))(h0:sz≠0)(hn:n≤es.length)
  (hl:dH (es.take n)=some l) (hv:KRel C (.own key g sz n cap) y):PRel C.w (C.melt ks).imm (.slice sz l .no) y:=by
 have hg:(S.box key).1=g:=by rw[hs]
 have hs2:(S.box key).2=some (sz,es):=by rw[hs]
 have hcase:(∃cap,y = .slice (some ⟨C.jb key,0,none⟩) n cap∧n≤cap∧cap≤maxLen)∨(n=0∧∃b,y = .slice b 0 0∧(b=none∨∃x z,b=some ⟨x,z,none⟩)):=by
  cases hv with
  | pure hp=>cases hp
  | ownOld hlt=>rw[hR.gb,hg]at hlt;omega
  | own h hm=>exact .inl ⟨_,rfl,h,hm⟩
  | ownNil hb=>exact .inr ⟨rfl,_,rfl,hb⟩
 rcases hcase with⟨cap,rfl,hcap,hmax⟩|⟨rfl,b,rfl,hb⟩
 rotate_left
 ·have:l=[]:=by simpa[dH]using hl.symm
  subst this
  rcases hb with rfl|⟨x,z,rfl⟩
  ·exact .nil _ _ (.inl rfl)
  ·exact .slice (es:=[]) (fun _ _=>undef) (Nat.le_refl _) (.inl rfl) (by simp) (by simp) (by simp) (by simp)
 obtain⟨hll,hle⟩:=l7 hl
 have hll':l.length=n:=by rw[hll];simp;omega
 have hc:∀(i:Nat) (e:AV) (c:Nat) (x:AV),l[i]?=some e→e.cells[c]?=some x→∃y,C.w.cell? ⟨C.jb key,i * sz+c,none⟩=some y∧(C.melt ks).imm (C.jb key) (i * sz+c)∧y.oneCell'=true∧PRel C.w (C.melt ks).imm x y:=by
  intro i e c x he hx
  obtain⟨u,hu,hp⟩:=hle i e he
  obtain⟨v,hv',hp'⟩:=(gz hp).2 c x hx
  rw[List.getElem?_take]at hu
  split at hu
  ·obtain⟨y,h1,h2,h3⟩:=j6 hR hs2 h0 hu hv'
   obtain⟨ho,_⟩:=(hR.box key sz es hs2).own h0 (by intro h;simp[h]at hu)
   exact⟨y,by rw[hR.cw];exact h1,.inr ⟨key,hm,ho⟩,h3,(h2.pure1 hp').mono fun _ _ h=>⟨.inl h,rfl⟩⟩
  ·simp at hu
 have:=PRel.slice (w:=C.w) (imm:=(C.melt ks).imm) (sz:=sz) (es:=l) (tok:= .no) (b:=C.jb key) (off:=0) (cap:=cap) (fun i c=>(C.w.cell? ⟨C.jb key,i * sz+c,none⟩).getD undef) (by omega) (.inl rfl) hmax (fun i e he=>by
  obtain⟨u,hu,hp⟩:=hle i e he
  rw[(gz hp).1]
  rw[List.getElem?_take]at hu
  split at hu
  ·exact(hR.box key _ es hs2).wid h0 i u hu
  ·simp at hu) (fun i e c x he hx=>by
  obtain⟨y,a1,a2,a3,a4⟩:=hc i e c x he hx
  simp[a1,a2,a3]) (fun i e c x he hx=>by
  obtain⟨y,a1,a2,a3,a4⟩:=hc i e c x he hx
  simp[a1,a4])
 rw[hll']at this
 exact this
theorem EF(hR:Rel N base w0 S C a w)(ks:List Key){kb:Key}{gk sz:Nat}{cells cells':List AV}(hb:S.box kb=(gk,some (sz,[.agg cells])))(h0:sz≠0)(hkb:¬dC kb ks=true)(hl:cells'.length=cells.length)
  (hc:∀(i:Nat) (x x':AV) (y:Value),cells[i]?=some x→cells'[i]?=some x'→KRel C x y→KRel (C.melt ks) x' y) {S1:St} (hslot:S1.slot=S.slot) (htk:S1.tk=S.tk)
  (hkb1:S1.box kb=(gk,some (sz,[.agg cells']))) (hks:∀k,dC k ks=true→S1.box k=((S.box k).1+1,none)) (hother:∀k,¬dC k ks=true→k≠kb→S1.box k=S.box k) :
  Rel N base w0 S1 (C.melt ks) a w:=by
 have hle:=n8 hR ks
 have hkb2:(S.box kb).2=some (sz,[.agg cells]):=by rw[hb]
 exact {
  cw:=hR.cw,glob:=(by first|exact hR.glob|exact hR.globOf (by first|exact hle.le0|exact hle|exact hle0|exact hCle.le0) (by first|rfl|exact h1.cw|(rw[hC'];first|done|exact hR.cw)|exact hR.cw)),size:=hR.size,defers:=hR.defers.le hle
  slot:=fun i hi=>by rw[hslot];exact(hR.slot i hi).le hle
  gb:=fun k=>by
   simp only[Ctx.melt]
   split
   ·rename_i hm;rw[hks k hm,hR.gb]
   ·rename_i hm
    by_cases e:k=kb
    ·subst e;rw[hkb1,hR.gb,hb]
    ·rw[hother k (by simp[hm]) e,hR.gb]
  gt:=fun k=>by rw[htk];exact hR.gt k
  hw:=fun k=>by rw[htk];exact hR.hw k
  box:=fun k sz' es' h=>by
   by_cases hm:dC k ks=true
   ·rw[hks k hm]at h;cases h
   ·by_cases e:k=kb
    ·subst e
     rw[hkb1]at h
     simp only[Option.some.injEq,Prod.mk.injEq]at h
     obtain⟨rfl,rfl⟩:=h
     have hB:=hR.box k sz _ hkb2
     have hwid:cells.length=sz:=hB.wid h0 0 _ rfl
     refine⟨fun _ i e he=>?_,fun h=>absurd h h0,fun _ _=>?_,fun T hT h0 _=>hB.ety T hT h0 (by simp),fun T hT h0 h1=>?_⟩
     rotate_right
     ·obtain⟨ho,arr,ha⟩:=hB.row T hT h0 h1
      exact⟨by rw[show(C.melt ks).jb k=C.jb k from rfl,dY (fun k' hk'=>by rw[ho]at hk';cases hk';exact hm)];exact ho,arr,ha⟩
     ·cases i with
      | zero=>simp at he;subst he;simpa[AV.cells,hl]using hwid
      | succ i=>simp at he
     ·obtain⟨ho,arr,et,ha,hsz,hcell⟩:=hB.own h0 (by simp)
      refine⟨by rw[show(C.melt ks).jb k=C.jb k from rfl,dY (fun k' hk'=>by rw[ho]at hk';cases hk';exact hm)];exact ho,arr,et,ha,by simpa using hsz,fun i e c x' he hx'=>?_⟩
      cases i with
      | succ i=>simp at he
      | zero =>
       simp at he;subst he
       simp only[AV.cells]at hx'
       have hclt:c<cells.length:=by rw[←hl];exact(List.getElem?_eq_some_iff.1 hx').1
       obtain⟨y,h1,h2,h3⟩:=hcell 0 _ c cells[c] rfl (by simp[AV.cells,hclt])
       exact⟨y,h1,hc c _ _ y (by simp[hclt]) hx' h2,h3⟩
    ·rw[hother k hm e]at h
     refine(hR.box k sz' es' h).mono hle rfl (fun ho=>dY (fun k' hk'=>by rw[ho]at hk';cases hk';exact hm)) (fun _=>rfl)
  ownBox:=fun b k h i hi=>by
   obtain⟨h1,h2⟩:=dB h
   rcases hi with hi|⟨k',hm,h3⟩
   ·exact hR.ownBox b k h1 i hi
   ·rw[h1]at h3;cases h3;exact h2 k rfl hm
  immLt:=fun b i h=>by
   rcases h with h|⟨k,_,h2⟩
   ·exact hR.immLt b i h
   ·exact(hR.ownLt b _ h2).2
  ownLt:=fun b o h=>hR.ownLt b o (dB h).1
  below:=hR.below
  base:=hR.base}
end
def mj(used:List Key):List AV→(List AV→List Wr→RB)→RB
 | [],k=>k [] []
 | x::xs,k=>match x with
  | .own key g sz n _=> .box key fun g' sz' es=> .ok (!dC key used) (.ok (Nat.beq g' g) (.ok (Nat.beq sz' sz) (.ok (Nat.ble 1 sz) (cR (n≤es.length) (.optL (dH (es.take n)) fun l=>mj (key::used) xs fun cs ws=>k (.slice sz l .no::cs) (.box key (g'+1,none)::ws))))))
  | x=>mj used xs fun cs ws=>k (x::cs) ws
def Cr(kb:Key):RB :=
 .box kb fun g sz es=> .ok (Nat.ble 1 sz) (match es with
  | [.agg cells]=>mj [kb] cells fun cs ws=> .done (.box kb (g,some (sz,[.agg cs]))::ws)
  | _=> .fail)
def Cs(d:Nat)(key:Key)(g sz n:Nat):RB :=
 .box key fun g' sz' es=> .ok (Nat.beq g' g) (.ok (Nat.beq sz' sz) (.ok (Nat.ble 1 sz) (cR (n≤es.length) (.optL (dH (es.take n)) fun l=> .done [.slot d (.slice sz l .no),.box key (g'+1,none)]))))
def un(d:Nat):RB :=
 .slot d fun x=>match x with
  | .ptr kb _ _ _ _=>Cr kb
  | .own key g sz n _=>Cs d key g sz n
  | _=> .fail
structure Stone (S:St) (cells:List AV) (used ks:List Key) (cs:List AV) (ws:List Wr):Prop where
 len:cs.length=cells.length
 ws:ws=ks.map fun k=> .box k ((S.box k).1+1,none)
 new:∀k∈ks,¬dC k used=true
 fits:∀{N:Nat} {base:Nat→Prop} {w0:World} {C:Ctx} {a:Act} {w:World},Rel N base w0 S C a w→∀kk:List Key,(∀k∈ks,dC k kk=true) →
  ∀(i:Nat) (x x':AV) (y:Value),cells[i]?=some x→cs[i]?=some x'→KRel C x y→KRel (C.melt kk) x' y
theorem iE{P:Program}{S:St}:∀(cells:List AV) (used:List Key) {k:List AV→List Wr→RB} {K:List Wr→Prop},(mj used cells k).rm.wp0 P S K→∃ks cs ws,Stone S cells used ks cs ws∧(k cs ws).rm.wp0 P S K
 | [],used,k,K,h=>⟨[],[],[],⟨rfl,rfl,by simp,fun _ _ _ i x x' y hx=>by simp at hx⟩,h⟩
 | x::xs,used,k,K,h=>by
  have other:(mj used xs fun cs ws=>k (x::cs) ws).rm.wp0 P S K→∃ks cs ws,Stone S (x::xs) used ks cs ws∧(k cs ws).rm.wp0 P S K:=by
   intro h
   obtain⟨ks,cs,ws,hs,h⟩:=iE xs used h
   refine⟨ks,x::cs,ws,⟨by simp[hs.len],hs.ws,hs.new,fun hR kk hk i x1 x1' y hx hx' hv=>?_⟩,h⟩
   cases i with
   | zero=>simp at hx hx';subst hx hx';exact hv.le (n8 hR kk)
   | succ i=>exact hs.fits hR kk hk i x1 x1' y (by simpa using hx) (by simpa using hx') hv
  cases x with
  | own key g0 sz n cap =>
   simp only[mj,RB.rm,RM.wp0,cR]at h
   split at h
   ·rename_i d hbx
    obtain⟨sz',es⟩:=d
    simp only at h
    obtain⟨hu,hg,hz,h0,hn,h⟩:=h
    obtain⟨l,hl,h⟩:=kU h
    have hz:sz'=sz:=Nat.eq_of_beq_eq_true hz
    subst hz
    have hg:(S.box key).1=g0:=Nat.eq_of_beq_eq_true hg
    have h0:sz'≠0:=by have:=Nat.le_of_ble_eq_true h0;omega
    have hu:¬dC key used=true:=by simpa using hu
    obtain⟨ks,cs,ws,hs,h⟩:=iE xs (key::used) h
    have hbox:S.box key=(g0,some (sz',es)):=by rw[←hbx, ←hg]
    refine⟨key::ks,.slice sz' l .no::cs,.box key ((S.box key).1+1,none)::ws,⟨by simp[hs.len],by rw[hs.ws];rfl,fun k hk=>?_,fun hR kk hk i x1 x1' y hx hx' hv=>?_⟩,h⟩
    ·rcases List.mem_cons.1 hk with rfl|hk
     ·exact hu
     ·intro hm
      exact hs.new k hk (b6.2 (List.mem_cons_of_mem _ (b6.1 hm)))
    ·cases i with
     | zero =>
      simp at hx hx';subst hx hx'
      exact .pure (p7 hR (hk key (List.mem_cons_self ..)) hbox h0 hn hl hv)
     | succ i=>exact hs.fits hR kk (fun k hk'=>hk k (List.mem_cons_of_mem _ hk')) i x1 x1' y (by simpa using hx) (by simpa using hx') hv
   ·exact h.elim
  | _=>exact other h
theorem oH(S0:St):∀(ks:List Key) (S:St),(S.puts (ks.map fun k=>Wr.box k ((S0.box k).1+1,none))).slot=S.slot∧(S.puts (ks.map fun k=>Wr.box k ((S0.box k).1+1,none))).tk=S.tk ∧
  (∀k,k∈ks→(S.puts (ks.map fun k=>Wr.box k ((S0.box k).1+1,none))).box k=((S0.box k).1+1,none))∧∀k,¬k∈ks→(S.puts (ks.map fun k=>Wr.box k ((S0.box k).1+1,none))).box k=S.box k
 | [],S=>⟨rfl,rfl,fun k h=>by simp at h,fun _ _=>rfl⟩
 | x::ks,S=>by
  obtain⟨h1,h2,h3,h4⟩:=oH S0 ks (S.put (.box x ((S0.box x).1+1,none)))
  refine⟨h1,h2,fun k hk=>?_,fun k hk=>?_⟩
  ·by_cases hm:k∈ks
   ·exact h3 k hm
   ·have e:k=x:=by
     rcases List.mem_cons.1 hk with e|h
     ·exact e
     ·exact absurd h hm
    subst e
    exact(h4 k hm).trans (by simp[St.put,upd])
  ·have hm:¬k∈ks:=fun h=>hk (List.mem_cons_of_mem _ h)
   have hne:k≠x:=fun e=>hk (by rw[e];exact List.mem_cons_self ..)
   exact(h4 k hm).trans (by simp[St.put,upd,hne])
theorem um{P:Program}{S:St}{kb:Key}{K:List Wr→Prop}(h:(Cr kb).rm.wp0 P S K):∃ws,K ws∧uK S (S.puts ws):=by
 simp only[Cr,RB.rm,RM.wp0]at h
 split at h
 ·rename_i d hbx
  obtain⟨sz,es⟩:=d
  simp only at h
  obtain⟨h0,h⟩:=h
  have h0:sz≠0:=by have:=Nat.le_of_ble_eq_true h0;omega
  split at h
  ·rename_i cells
   obtain⟨ks,cs,ws,hs,h⟩:=iE cells [kb] h
   have hK:K (.box kb ((S.box kb).1,some (sz,[.agg cs]))::ws):=h
   refine⟨_,hK,fun N base w0 C a w hR=>⟨C.melt ks,n8 hR ks,?_⟩⟩
   have hbox:S.box kb=((S.box kb).1,some (sz,[.agg cells])):=by rw[←hbx]
   have hkb:¬kb∈ks:=fun hm=>hs.new kb hm (b6.2 (List.mem_singleton.2 rfl))
   rw[hs.ws]
   obtain⟨p1,p2,p3,p4⟩:=oH S ks (S.put (.box kb ((S.box kb).1,some (sz,[.agg cs]))))
   refine EF hR ks (kb:=kb) (cells':=cs) hbox h0 (fun hm=>hkb (b6.1 hm)) hs.len (fun i x x' y h1 h2 h3=>hs.fits hR ks (fun k hk=>b6.2 hk) i x x' y h1 h2 h3) p1 p2 ?_ (fun k hk=>p3 k (b6.1 hk)) (fun k hk hne=>?_)
   ·exact(p4 kb hkb).trans (by simp[St.put,upd])
   ·exact(p4 k (fun hm=>hk (b6.2 hm))).trans (by simp[St.put,upd,hne])
  ·exact h.elim
 ·exact h.elim
theorem uq{P:Program}{S:St}{d:Nat}{key:Key}{g sz n cap:Nat}{K:List Wr→Prop}(hd:S.slot d = .own key g sz n cap)(h:(Cs d key g sz n).rm.wp0 P S K):∃ws,K ws∧uK S (S.puts ws):=by
 simp only[Cs,RB.rm,RM.wp0,cR]at h
 split at h
 ·rename_i q hbx
  obtain⟨sz',es⟩:=q
  simp only at h
  obtain⟨hg,hz,h0,hn,h⟩:=h
  obtain⟨l,hl,h⟩:=kU h
  have hz:sz'=sz:=Nat.eq_of_beq_eq_true hz
  subst hz
  have hg:(S.box key).1=g:=Nat.eq_of_beq_eq_true hg
  have h0:sz'≠0:=by have:=Nat.le_of_ble_eq_true h0;omega
  have hbox:S.box key=(g,some (sz',es)):=by rw[←hbx, ←hg]
  have hK:K [.slot d (.slice sz' l .no),.box key ((S.box key).1+1,none)]:=h
  refine⟨_,hK,fun N base w0 C a w hR=>⟨C.melt [key],n8 hR [key],?_⟩⟩
  have hle:=n8 hR [key]
  have hm:dC key [key]=true:=b6.2 (List.mem_singleton.2 rfl)
  have hmn:∀k,dC k [key]=true→k=key:=fun k hk=>List.mem_singleton.1 (b6.1 hk)
  exact {
   cw:=hR.cw,glob:=hR.globOf hle.le0 hR.cw,size:=hR.size,defers:=hR.defers.le hle
   slot:=fun i hi=>by
    simp only[St.puts,St.put]
    by_cases e:i=d
    ·subst e
     rw[a6]
     have hv:=hR.slot i hi
     rw[hd]at hv
     exact .pure (p7 hR hm hbox h0 hn hl hv)
    ·rw[fr _ _ e];exact(hR.slot i hi).le hle
   gb:=fun k=>by
    simp only[Ctx.melt,St.puts,St.put]
    split
    ·rename_i hk
     rw[hmn k hk,a6,hR.gb]
    ·rename_i hk
     rw[fr _ _ (fun e=>by rw[e,hm]at hk;cases hk),hR.gb]
   gt:=fun k=>hR.gt k
   hw:=fun k=>hR.hw k
   box:=fun k sz1 es1 h1=>by
    by_cases e:k=key
    ·subst e
     simp only[St.puts,St.put,a6]at h1
     cases h1
    ·simp only[St.puts,St.put,fr _ _ e]at h1
     exact(hR.box k sz1 es1 h1).mono hle rfl (fun ho=>dY (fun k' hk'=>by rw[ho]at hk';cases hk';exact fun hk=>e (hmn k hk))) (fun _=>rfl)
   ownBox:=fun b k h i hi=>by
    obtain⟨h1,h2⟩:=dB h
    rcases hi with hi|⟨k',hk',h3⟩
    ·exact hR.ownBox b k h1 i hi
    ·rw[h1]at h3;cases h3;exact h2 k rfl hk'
   immLt:=fun b i h=>by
    rcases h with h|⟨k,_,h2⟩
    ·exact hR.immLt b i h
    ·exact(hR.ownLt b _ h2).2
   ownLt:=fun b o h=>hR.ownLt b o (dB h).1
   below:=hR.below
   base:=hR.base}
 ·exact h.elim
theorem uo{P:Program}{S:St}{d:Nat}{K:List Wr→Prop}(h:(un d).rm.wp0 P S K):∃ws,K ws∧uK S (S.puts ws):=by
 simp only[un,RB.rm,RM.wp0]at h
 split at h
 ·exact um h
 ·rename_i hd
  exact uq hd h
 ·exact h.elim
end Go.Am
namespace Go.Am
open Go.RowKit
def BE(Q:Exit→St→Prop):Exit→St→Prop
 | .goto _,_=>False
 | e,S=>Q e S
def Cg(P:Program)(cx:Cx)(ops:Array Oper):List Oper→St→(St→Prop)→Prop
 | [],S,K=>K S
 | o::os,S,K=>dT P cx ops o S fun _ ws=>Cg P cx ops os (S.puts ws) K
def xq(P:Program)(cx:Cx)(ops:Array Oper):List Oper→St→List (List Loc×List Loc)→(List (List Loc×List Loc)→St→Prop)→Prop
 | [],S,acc,K=>K acc S
 | o::os,S,acc,K=>dT P cx ops o S fun l ws=>xq P cx ops os (S.puts ws) (acc++[(l,ws.map Wr.loc)]) K
theorem ua{P:Program}{cx:Cx}{ops:Array Oper}{K:St→Prop}:∀(os:List Oper) (k:Nat) {S:St},os=ops.toList.drop k→Cg P cx ops os S K→Iu P cx ops (List.range' k os.length) S K
 | [],k,S,_,h=>h
 | o::os,k,S,he,h=>by
  have ho:ops[k]?=some o:=by
   have:=congrArg (fun l=>l[0]?) he
   simpa[List.getElem?_drop]using this.symm
  simp only[List.length_cons,List.range'_succ,Iu,ho]
  exact d6 (fun l ws h'=>ua os (k+1) (by rw[←List.drop_drop, ←he];simp) h') h
theorem sk{P:Program}{cx:Cx}{ops:Array Oper}{K:List (List Loc×List Loc)→St→Prop}:∀(os:List Oper) (k:Nat) {S:St} {acc:List (List Loc×List Loc)},os=ops.toList.drop k →
  xq P cx ops os S acc K→Jk P cx ops (List.range' k os.length) S acc K
 | [],k,S,_,_,h=>h
 | o::os,k,S,_,he,h=>by
  have ho:ops[k]?=some o:=by
   have:=congrArg (fun l=>l[0]?) he
   simpa[List.getElem?_drop]using this.symm
  simp only[List.length_cons,List.range'_succ,Jk,ho]
  exact d6 (fun l ws h'=>sk os (k+1) (by rw[←List.drop_drop, ←he];simp) h') h
def lC(P:Program)(cx:Cx)(N:Nat):Code→(Exit→St→Prop)→St→Prop
 | .skip,Q,S=>Q .normal S
 | .region _ ops d,Q,S=>∃S1,uK S S1∧(if d then xq P cx ops ops.toList S1 [] fun infos S'=>mI ops infos=true∧Q .normal S' else Cg P cx ops ops.toList S1 (Q .normal))
 | .seq x y,Q,S=>lC P cx N x (zI (lC P cx N y Q) Q) S
 | .cond c x y,Q,S=>∃t,S.val c = .v (.bool t)∧(t=true→lC P cx N x Q S)∧(t=false→lC P cx N y Q S)
 | .block i c,Q,S=>lC P cx N c (pF i Q) S
 | .loop c,Q,S=>WpA cx.rd P N (.loop c) Q S
 | .rangeFunc g ps as bo,Q,S=>cx.rd=false∧pB P N (cx.loopKey ps) g ps as bo Q S
 | .exit i,Q,S=>Q (.exit i) S
 | .scope c,Q,S=>lC P cx N c (BE Q) S
 | .label _,Q,S=>Q .normal S
 | .goto _,_,_=>False
 | .ret,Q,S=>Q .ret S
 | .refuse _,_,_=>False
def eo(N:Nat):Code→Bool
 | .region _ ops _=>BS N ops
 | .seq x y=>eo N x&&eo N y
 | .cond c x y=>inN N c&&eo N x&&eo N y
 | .block _ c | .loop c | .scope c=>eo N c
 | .rangeFunc g _ _ _=>inN N g
 | .goto _ | .refuse _=>false
 | _=>true
theorem bD{P:Program}(cx:Cx){N:Nat}(hm:P.follows .mixedOrders=true):∀(c:Code) {Q:Exit→St→Prop} {S:St},eo N c=true→lC P cx N c Q S→WpA cx.rd P N c Q S
 | .skip,_,_,_,h=>DE h
 | .region _ ops d,Q,S0,hin,h=>by
  have hin:BS N ops=true:=hin
  obtain⟨S,ht,h⟩:=h
  refine DF ht ?_
  cases d with
  | false =>
   refine yc cx hin ?_
   have:=ua ops.toList 0 (by simp) h
   rwa [Array.length_toList, ←List.range_eq_range']at this
  | true =>
   intro lo hlo base w0 C a w hR
   have h:Lb P cx ops S (Q .normal):=by
    have:=sk (P:=P) (cx:=cx) (K:=fun infos S'=>mI ops infos=true∧Q .normal S') (acc:=[]) ops.toList 0 (by simp) h
    rwa [Array.length_toList, ←List.range_eq_range']at this
   obtain⟨hle,hR'⟩:=hR.world (w':={ w with drawn:=w.drawn+1}) rfl rfl rfl rfl
   exact wpIn_region_any hm (zA hin hR' (fun S' C' a' w' h1 h2 h3=>⟨S',C',h1,hle.trans h2,h3⟩) h)
 | .seq x y,Q,S,hin,h=>Gy ((bD cx hm x (by simp only[eo,Bool.and_eq_true]at hin;exact hin.1) h).mono fun e S' h'=>by
   cases e with
   | normal=>exact bD cx hm y (by simp only[eo,Bool.and_eq_true]at hin;exact hin.2) h'
   | _=>exact h')
 | .cond c x y,Q,S,hin,h=>by
  obtain⟨t,ht,h1,h2⟩:=h
  simp only[eo,Bool.and_eq_true]at hin
  refine DB hin.1.1 ht ?_
  cases t with
  | true=>exact bD cx hm x hin.1.2 (h1 rfl)
  | false=>exact bD cx hm y hin.2 (h2 rfl)
 | .block i c,_,_,hin,h=>zZ (bD cx hm c hin h)
 | .loop c,_,_,_,h=>h
 | .rangeFunc g ps as bo,_,_,hin,h=>by
  obtain⟨hrd,h⟩:=h
  rw[hrd]
  exact qE hin h
 | .exit i,_,_,_,h=>DC h
 | .scope c,Q,S,hin,h=>z7 ((bD cx hm c hin h).mono fun e S' h'=>by cases e<;>exact h')
 | .label _,_,_,_,h=>z6 h
 | .goto _,_,_,_,h=>h.elim
 | .ret,_,_,_,h=>Gx h
 | .refuse _,_,_,_,h=>h.elim
theorem zv{P:Program}(cx:Cx)(hm:P.follows .mixedOrders=true){f:FuncId}{fn:Func}{c:Code}{args:List AV}{res:AV}{N:Nat}(hc:ak P f)(hf:P.funcs[f]?=some fn)(hb:fn.body=some c)(hN:fn.ntmps=N)
  (hst:(decide (args.length≤N)&&fn.results.toList.all (pz N))=true) (hin:eo N c=true)
  (h:lC P cx N c (fun e S'=>(e = .normal∨e = .ret)∧Kw P fn S' res) (mi args)) (hrd:cx.rd=false:=by rfl):PureA P f args res:=by
 subst hN
 have:=bD cx hm c hin h
 rw[hrd]at this
 exact ER hc hf hb hst this
theorem Bm{P:Program}(cx:Cx){N:Nat}(hm:P.follows .mixedOrders=true){c:Code}{Q:Exit→St→Prop}{S:St}(I:Nat→St→Prop)(n₀:Nat)(hin:eo N c=true)(h₀:I n₀ S)
  (round:∀n S,I n S→lC P cx N c (zI (fun S'=>∃n',n'<n∧I n' S') Q) S):WpA cx.rd P N (.loop c) Q S :=
 DD I n₀ h₀ fun n S hI=>bD cx hm c hin (round n S hI)
theorem ml(s s':ByteArray):(s.toList==s'.toList)=decide (s=s'):=by
 rw[ByteArray.toList_eq,ByteArray.toList_eq]
 by_cases h:s=s'
 ·simp[h]
 ·have:¬s.data=s'.data:=fun e=>h (by cases s;cases s';simp only at e;rw[e])
  simp[h,this]
section
variable {P:Program} {S:St} {K:List Loc→List Wr→Prop}
theorem dP{s:Sem Value}{r:Value}{k:Value→RM}(h:∀w,s.run P w = .ok r w):(RM.sem s k).wp P S K=(k r).wp P S K:=by
 refine propext ⟨fun⟨r',h',hk⟩=>?_,fun hk=>⟨r,h,hk⟩⟩
 have:=h' default
 rw[h default]at this
 cases this;exact hk
variable {t t':TypeId} {x y:Operand} {k:IntKind} {a b:Int}
@[simp] theorem wp_lss{g:Value→RM}:(RM.sem (dQ .lss t x y (.int k a) (.int k b)) g).wp P S K=(g (.bool (decide (a<b)))).wp P S K :=
 dP fun w=>by simp[dQ,eqGuard,binOp,Op.intCmp]
@[simp] theorem wp_leq{g:Value→RM}:(RM.sem (dQ .leq t x y (.int k a) (.int k b)) g).wp P S K=(g (.bool (decide (a≤b)))).wp P S K :=
 dP fun w=>by simp[dQ,eqGuard,binOp,Op.intCmp]
@[simp] theorem wp_gtr{g:Value→RM}:(RM.sem (dQ .gtr t x y (.int k a) (.int k b)) g).wp P S K=(g (.bool (decide (b<a)))).wp P S K :=
 dP fun w=>by simp[dQ,eqGuard,binOp,Op.intCmp]
@[simp] theorem wp_geq{g:Value→RM}:(RM.sem (dQ .geq t x y (.int k a) (.int k b)) g).wp P S K=(g (.bool (decide (b≤a)))).wp P S K :=
 dP fun w=>by simp[dQ,eqGuard,binOp,Op.intCmp]
@[simp] theorem wp_eql{g:Value→RM}:(RM.sem (dQ .eql t x y (.int k a) (.int k b)) g).wp P S K=(g (.bool (decide (a=b)))).wp P S K :=
 dP fun w=>by simp[dQ,eqGuard,binOp,Op.intCmp];rfl
@[simp] theorem wp_neq{g:Value→RM}:(RM.sem (dQ .neq t x y (.int k a) (.int k b)) g).wp P S K=(g (.bool (!decide (a=b)))).wp P S K :=
 dP fun w=>by simp[dQ,eqGuard,binOp,Op.intCmp];rfl
@[simp] theorem wp_not{g:Value→RM}{p:Bool}:(RM.sem (Op.unary .not (.bool p)) g).wp P S K=(g (.bool (!p))).wp P S K :=
 dP fun w=>by simp[Op.unary]
@[simp] theorem wp_seql{g:Value→RM}{s s':ByteArray}:(RM.sem (dQ .eql t x y (.string s) (.string s')) g).wp P S K=(g (.bool (decide (s=s')))).wp P S K :=
 dP fun w=>by simp[dQ,eqGuard,binOp,Op.stringOp,ml]
@[simp] theorem wp_sneq{g:Value→RM}{s s':ByteArray}:(RM.sem (dQ .neq t x y (.string s) (.string s')) g).wp P S K=(g (.bool (!decide (s=s')))).wp P S K :=
 dP fun w=>by simp[dQ,eqGuard,binOp,Op.stringOp,ml]
end
theorem C8{ι α:Type}[DecidableEq ι](f:ι→α)(i:ι)(x:α)(j:ι):upd f i x j=if j=i then x else f j:=rfl
@[simp] theorem Jn(args:List AV)(i:Nat):(mi args).slot i=args.getD i (.v undef):=rfl
@[simp] theorem Kj(args:List AV)(k:Key):(mi args).box k=(0,none):=rfl
@[simp] theorem KF(args:List AV)(k:Key):(mi args).tk k=(0,0):=rfl
attribute [simp] lC Cg xq dT opA tx lQ BP io lY yY yU Jm qa lU dZ fP lR dm eI yW iU ot d4
 val uD fl putA asV Jr oJ ET RM.wp RM.wp0 St.puts St.put St.val zI pF BE dU pi ep toPure pure1 eD de jv ug AV.cells AV.storable AV.ok1 Cx.key C8
 ub frz oneOf ofValue jm snap zD oW mR tU dH Wr.loc
end Go.Am
namespace Go.Am
open Go.RowKit
inductive BT (α:Type) where
 | lf
 | nd (k:Nat) (v:α) (l r:BT α)
def BT.get{α:Type}:BT α→Nat→Option α
 | .lf,_=>none
 | .nd k v l r,i=>match Nat.beq i k with
  | true=>some v
  | false=>match Nat.ble i k with
   | true=>l.get i
   | false=>r.get i
def BT.All{α:Type}(p:Nat→α→Prop):BT α→Prop
 | .lf=>True
 | .nd k v l r=>p k v∧l.All p∧r.All p
theorem BT.All.get{α:Type}{p:Nat→α→Prop}:∀{t:BT α} {i:Nat} {v:α},t.All p→t.get i=some v→p i v
 | .lf,_,_,_,h=>by simp[BT.get]at h
 | .nd k x l r,i,v,ha,h=>by
  simp only[BT.get]at h
  split at h
  ·rename_i e
   have:=Nat.eq_of_beq_eq_true e
   simp at h;subst h this;exact ha.1
  ·split at h
   ·exact ha.2.1.get h
   ·exact ha.2.2.get h
inductive UK where
 | int (k:IntKind)
 | str
 | map
 | bytes
structure Tab where
 var:BT (Bool×Nat)
 slice:BT (Nat×Nat×Nat)
 array:BT (Nat×Nat)
 zero:BT (Nat×AV)
 field:BT (List (Option Nat))
 places:BT (List (Nat×Nat))
 placesN:BT Nat
 map:BT (KK×AV)
 eq:BT (List CK)
 und:BT UK
 fieldV:BT (List (Option (Bool×Nat×Nat)))
 indexV:BT (Bool×Nat×Nat)
def nth{α:Type}:List α→Nat→Option α
 | [],_=>none
 | x::_,0=>some x
 | _::l,n+1=>nth l n
theorem dl{α:Type}:∀(l:List α) (i:Nat),nth l i=l[i]?
 | [],_=>by simp[nth]
 | x::_,0=>by simp[nth]
 | _::l,n+1=>by simp[nth,dl l n]
structure Tab.Ok (T:Tab) (P:Program):Prop where
 var:T.var.All fun t x=>bA P t=some x
 slice:T.slice.All fun t x=>aU P t=some x
 array:T.array.All fun t x=>en P t=some x
 zero:T.zero.All fun t x=>bj P t=some x
 field:T.field.All fun t l=>∀f o,nth l f=some (some o)→bW P t f=some o
 places:T.places.All fun t l=>bS P t=some fun i=>l[i]?
 placesN:T.placesN.All fun t n=>bS P t=some fun i=>some (i * n,n)
 map:T.map.All fun t p=>MapTy P t p
 eq:T.eq.All fun t cs=>(∃n,n≤10000∧mB P n t=some cs)∧bv P t=true∧P.eqGuardType P.depth t=false
 und:T.und.All fun t u=>match u with
  | .int k=>P.underlying t=some (.int k)
  | .str=>P.underlying t=some .string
  | .map=>∃a b,P.underlying t=some (.map a b)
  | .bytes=>∃e,P.underlying t=some (.slice e)∧P.underlying e=some (.int .u8)
 fieldV:T.fieldV.All fun t l=>∀f q,nth l f=some (some q)→dG P t f=some q
 indexV:T.indexV.All fun t q=>tM P t=some q∧∃len e,P.underlying t=some (.array len e)
structure SS where
 slots:List (Nat×AV):=[]
 boxes:List (Key×Option jr):=[]
 toks:List (Key×Option (Nat×Nat)):=[]
def cL:List (Nat×AV)→Nat→Option AV
 | [],_=>none
 | (j,v)::l,i=>match Nat.beq i j with
  | true=>some v
  | false=>cL l i
def bf{α:Type}:List (Key×Option α)→Key→Option (Option α)
 | [],_=>none
 | (j,v)::l,i=>match Key.beq i j with
  | true=>some v
  | false=>bf l i
structure Knows (ss:SS) (S:St):Prop where
 slot:∀i v,cL ss.slots i=some v→S.slot i=v
 box:∀k,match bf ss.boxes k with
  | some (some c)=>S.box k=c
  | some none=>True
  | none=>S.box k=(0,none)
 tk:∀k,match bf ss.toks k with
  | some (some c)=>S.tk k=c
  | some none=>True
  | none=>S.tk k=(0,0)
def SS.put(ss:SS):Wr→SS
 | .slot i v=>{ ss with slots:=(i,v)::ss.slots}
 | .box k c=>{ ss with boxes:=(k,some c)::ss.boxes}
 | .tk k c=>{ ss with toks:=(k,some c)::ss.toks}
def SS.puts(ss:SS):List Wr→SS
 | []=>ss
 | x::xs=>(ss.put x).puts xs
theorem Knows.put{ss:SS}{S:St}(h:Knows ss S)(x:Wr):Knows (ss.put x) (S.put x):=by
 cases x with
 | slot i v =>
  refine⟨fun j u hu=>?_,h.box,h.tk⟩
  simp only[SS.put,cL]at hu
  simp only[St.put,upd]
  split at hu
  ·rename_i e
   rw[if_pos (Nat.eq_of_beq_eq_true e)];simpa using hu
  ·rename_i e
   rw[if_neg (fun e'=>by rw[e',Nat.beq_refl]at e;simp at e)];exact h.slot j u hu
 | box k c =>
  refine⟨h.slot,fun j=>?_,h.tk⟩
  simp only[SS.put,bf,St.put,upd]
  by_cases e:j=k
  ·rw[Key.beq_eq.2 e,if_pos e]
  ·have:j.beq k=false:=by
    cases hb:j.beq k with
    | true=>exact absurd (Key.beq_eq.1 hb) e
    | false=>rfl
   rw[this,if_neg e];exact h.box j
 | tk k c =>
  refine⟨h.slot,h.box,fun j=>?_⟩
  simp only[SS.put,bf,St.put,upd]
  by_cases e:j=k
  ·rw[Key.beq_eq.2 e,if_pos e]
  ·have:j.beq k=false:=by
    cases hb:j.beq k with
    | true=>exact absurd (Key.beq_eq.1 hb) e
    | false=>rfl
   rw[this,if_neg e];exact h.tk j
theorem Knows.puts:∀(ws:List Wr) {ss:SS} {S:St},Knows ss S→Knows (ss.puts ws) (S.puts ws)
 | [],_,_,h=>h
 | x::xs,_,_,h=>Knows.puts xs (h.put x)
def okP(b:Bool)(K:Prop):Prop:=match b with
 | true=>K
 | false=>False
theorem kF{b:Bool}{K:Prop}(h:b=true)(k:K):okP b K:=by subst h;exact k
theorem dE{b:Bool}{K:Prop}(h:okP b K):b=true∧K:=by
 cases b with
 | true=>exact⟨rfl,h⟩
 | false=>exact h.elim
def brP(b:Bool)(A B:Prop):Prop:=match b with
 | true=>A
 | false=>B
theorem Ai{b:Bool}{A B:Prop}(h:b=true→A)(k:b=false→B):brP b A B:=by cases b<;>simp_all [brP]
theorem bK{p:Prop}[Decidable p]{A B:Prop}(h:p→A)(k:¬p→B):brP (decide p) A B:=by
 by_cases hp:p
 ·simp[brP,hp,h hp]
 ·simp[brP,hp,k hp]
theorem GF{b:Bool}{A B:Prop}(h:brP b B A):brP (!b) A B:=by cases b<;>exact h
theorem DQ{p:Prop}[Decidable p]{A B:Prop}(h:p→B)(k:¬p→A):brP (!decide p) A B:=GF (bK h k)
theorem cg{b:Bool}{A B:Prop}(hb:b=true)(h:A):brP b A B:=by subst hb;exact h
theorem co{b:Bool}{A B:Prop}(hb:b=false)(h:B):brP b A B:=by subst hb;exact h
def jZ{α:Type}(o:Option α)(K:α→Prop):Prop:=match o with
 | some x=>K x
 | none=>False
theorem af{α:Type}{o:Option α}{x:α}{K:α→Prop}(h:o=some x)(k:K x):jZ o K:=by subst h;exact k
theorem bz{α:Type}{o:Option α}{K:α→Prop}(h:jZ o K):∃x,o=some x∧K x:=by
 cases o with
 | some x=>exact⟨x,rfl,h⟩
 | none=>exact h.elim
def Ky(o:Option (Option jr))(K:Nat→Prop):Prop:=match o with
 | some (some c)=>K c.1
 | some none=>∀g,K g
 | none=>K 0
def Kz(o:Option (Option (Nat×Nat)))(K:Nat→Nat→Prop):Prop:=match o with
 | some (some c)=>K c.1 c.2
 | some none=>∀g h,K g h
 | none=>K 0 0
def s5:List AV→(List AV→Prop)→Prop
 | [],K=>K []
 | x::xs,K=>s5 xs fun ys=>K (x::ys)
theorem kj:∀(l:List AV) (K:List AV→Prop),s5 l K=K l
 | [],_=>rfl
 | x::xs,K=>kj xs _
def GG(P:Program)(f:FuncId)(args:List AV)(snap:Bool)(K:AV→Prop):Prop:=∃r,(if snap then PureF P f args r else PureA P f args r)∧K r
def KP(K:List Key→Prop):Prop:=∃ks,K ks
def JA(P:Program)(f:Tgt)(args:List AV)(pre:List cn)(K:AV→List cn→Prop):Prop:=∃r post,BoxA P f pre args r post∧K r post
def yS(o:Option (Option jr))(K:Prop):Prop:=match o with
 | none=>K
 | some (some (0,none))=>K
 | _=>False
def JR(o:Option (Option (Nat×AV)))(A:Nat→AV→Prop)(B:Prop):Prop:=match o with
 | some (some p)=>A p.1 p.2
 | some none=>B
 | none=>False
def RB.ev(P:Program)(ss:SS):RB→(List Loc→List Wr→Prop)→Prop
 | .find o k k',K=>JR o (fun i v=>(k i v).ev P ss K) (k'.ev P ss K)
 | .keys k,K=>KP fun ks=>(k ks).ev P ss K
 | .callx f args pre k,K=>JA P f args pre fun r post=>(k r post).ev P ss K
 | .absent key k,K=>yS (bf ss.boxes key) (k.ev P ss fun l ws=>K (.box key::l) ws)
 | .optL o k,K=>jZ o fun l=>(k l).ev P ss K
 | .done ws,K=>K [] ws
 | .slot i k,K=>jZ (cL ss.slots i) fun v=>(k v).ev P ss fun l ws=>K (.slot i::l) ws
 | .box key k,K=>jZ (bf ss.boxes key) fun c=>jZ c fun c=>jZ c.2 fun d=>(k c.1 d.1 d.2).ev P ss fun l ws=>K (.box key::l) ws
 | .gen key k,K=>Ky (bf ss.boxes key) fun g=>(k g).ev P ss fun l ws=>K (.box key::l) ws
 | .tk key k,K=>Kz (bf ss.toks key) fun g h=>(k g h).ev P ss fun l ws=>K (.tk key::l) ws
 | .sem s k,K=>∃r,(∀w,s.run P w = .ok r w)∧(k r).ev P ss K
 | .call f args snap k,K=>GG P f args snap fun r=>(k r).ev P ss K
 | .need p _ k,K=>p∧k.ev P ss K
 | .ok b k,K=>okP b (k.ev P ss K)
 | .opt o k,K=>jZ o fun e=>(k e).ev P ss K
 | .lst l k,K=>s5 l fun l'=>(k l').ev P ss K
 | .br b x y,K=>brP b (x.ev P ss K) (y.ev P ss K)
 | .fail,_=>False
theorem RB.ev_rm{P:Program}{ss:SS}{S:St}(hs:Knows ss S)(r:RB):∀{K:List Loc→List Wr→Prop},r.ev P ss K→r.rm.wp P S K:=by
 induction r with
 | find o k k' ih ih' =>
  intro K h
  simp only[RB.ev]at h
  unfold JR at h
  cases o with
  | none=>exact h.elim
  | some o =>
   cases o with
   | none=>exact ih' h
   | some p=>exact ih _ _ h
 | keys k ih=>exact fun⟨ks,h⟩=>⟨ks,ih ks h⟩
 | callx f args pre k ih=>exact fun⟨r,post,hr,h⟩=>⟨r,post,hr,ih r post h⟩
 | absent key k ih =>
  intro K h
  have:=hs.box key
  simp only[RB.ev]at h
  unfold yS at h
  split at h
  ·rename_i hc
   rw[hc]at this
   exact⟨this,ih h⟩
  ·rename_i hc
   rw[hc]at this
   exact⟨this,ih h⟩
  ·exact h.elim
 | optL o k ih =>
  intro K h
  obtain⟨e,rfl,h⟩:=bz h
  exact ih e h
 | done ws=>exact fun h=>h
 | slot i k ih =>
  intro K h
  obtain⟨v,hv,h⟩:=bz h
  simp only[RB.rm,RM.wp,hs.slot i v hv]
  exact ih v h
 | box key k ih =>
  intro K h
  simp only[RB.ev]at h
  obtain⟨c,hc,h1⟩:=bz h
  obtain⟨d,hd,h2⟩:=bz h1
  obtain⟨e,he,h3⟩:=bz h2
  obtain⟨g,o⟩:=d
  simp only at he
  subst hd he
  have:=hs.box key
  rw[hc]at this
  simp only at this
  simp only[RB.rm,RM.wp,this]
  exact ih _ _ _ h3
 | gen key k ih =>
  intro K h
  have:=hs.box key
  simp only[RB.ev]at h
  unfold Ky at h
  simp only[RB.rm,RM.wp]
  split at h
  ·rename_i c hc;rw[hc]at this;simp only at this;rw[this];exact ih _ h
  ·exact ih _ (h _)
  ·rename_i hc;rw[hc]at this;simp only at this;rw[this];exact ih _ h
 | tk key k ih =>
  intro K h
  have:=hs.tk key
  simp only[RB.ev]at h
  unfold Kz at h
  simp only[RB.rm,RM.wp]
  split at h
  ·rename_i c hc;rw[hc]at this;simp only at this;rw[this];exact ih _ _ h
  ·exact ih _ _ (h _ _)
  ·rename_i hc;rw[hc]at this;simp only at this;rw[this];exact ih _ _ h
 | sem s k ih=>exact fun⟨r,hr,h⟩=>⟨r,hr,ih r h⟩
 | call f args snap k ih=>exact fun⟨r,hr,h⟩=>⟨r,hr,ih r h⟩
 | need p d k ih=>exact fun⟨hp,h⟩=>⟨hp,ih h⟩
 | ok b k ih=>exact fun h=>⟨(dE h).1,ih (dE h).2⟩
 | opt o k ih =>
  intro K h
  obtain⟨e,rfl,h⟩:=bz h
  exact ih e h
 | lst l k ih =>
  intro K h
  simp only[RB.ev,kj]at h
  exact ih l h
 | br b x y ih1 ih2 =>
  intro K h
  cases b with
  | true=>exact ih1 h
  | false=>exact ih2 h
 | fail=>exact fun h=>h.elim
end Go.Am
namespace Go.Am
open Go.RowKit
def RM.leq(P:Program)(a b:RM):Prop:=∀S K,a.wp P S K→b.wp P S K
section
variable {P:Program} {T:Tab}
theorem au(a:RM):a.leq P a:=fun _ _ h=>h
theorem ao(a:RM):RM.fail.leq P a:=fun _ _ h=>h.elim
theorem rh{i:Nat}{k k':AV→RM}(h:∀v,(k v).leq P (k' v)):(RM.slot i k).leq P (.slot i k'):=fun S _ hk=>h (S.slot i) _ _ hk
theorem Bd{i:Key}{k k':Nat×Option (Nat×List AV)→RM}(h:∀v,(k v).leq P (k' v)):(RM.box i k).leq P (.box i k'):=fun S _ hk=>h (S.box i) _ _ hk
theorem Gm{i:Key}{k k':Nat×Nat→RM}(h:∀v,(k v).leq P (k' v)):(RM.tk i k).leq P (.tk i k'):=fun S _ hk=>h (S.tk i) _ _ hk
theorem ax{p:Prop}{a b:RM}(h:p→a.leq P b):(RM.need p a).leq P b:=fun S K hk=>h hk.1 S K hk.2
theorem aC{p:Prop}{a b:RM}(hp:p)(h:a.leq P b):a.leq P (.need p b):=fun S K hk=>⟨hp,h S K hk⟩
theorem bp{s:Sem Value}{r:Value}{a:RM}{k:Value→RM}(hs:∀w,s.run P w = .ok r w)(h:a.leq P (k r)):a.leq P (.sem s k):=fun S K hk=>⟨r,hs,h S K hk⟩
theorem kx{s:Sem Value}{k k':Value→RM}(h:∀r,(k r).leq P (k' r)):(RM.sem s k).leq P (.sem s k'):=fun S K ⟨r,hs,hk⟩=>⟨r,hs,h r S K hk⟩
theorem xC{f:FuncId}{args:List AV}{snap:Bool}{k k':AV→RM}(h:∀r,(k r).leq P (k' r)):(RM.call f args snap k).leq P (.call f args snap k'):=fun S K ⟨r,hs,hk⟩=>⟨r,hs,h r S K hk⟩
theorem iP{key:Key}{k:Nat→Nat→List AV→RB}{k':Nat×Option (Nat×List AV)→RM}(h:∀g sz es,(k g sz es).rm.leq P (k' (g,some (sz,es)))) :
  (RB.box key k).rm.leq P (.box key k'):=by
 intro S K hk
 simp only[RB.rm,RM.wp]at hk ⊢
 cases hb:S.box key with
 | mk g o =>
  rw[hb]at hk
  cases o with
  | none=>exact hk.elim
  | some d=>exact h g d.1 d.2 S _ hk
theorem lK{l:List AV}{i:Nat}{k:AV→RB}{b:RM}(h:∀x,l[i]?=some x→(k x).rm.leq P b):(RB.opt (nth l i) k).rm.leq P b:=by
 rw[dl]
 cases hx:l[i]? with
 | none=>exact fun S K hk=>hk.elim
 | some x=>exact h x hx
theorem eJ{n:Nat}(h:Nat.ble 1 n=true):n≠0:=by have:=Nat.le_of_ble_eq_true h;omega
theorem d9{key:Key}{k:Nat→RB}{k':Nat×Option (Nat×List AV)→RM}(h:∀c,(k c.1).rm.leq P (k' c)) :
 (RB.gen key k).rm.leq P (.box key k'):=Bd h
theorem aE{x:Operand}{k:AV→RB}{k':AV→RM}(h:∀v,(k v).rm.leq P (k' v)):(bc x k).rm.leq P (val x k'):=by
 cases x with
 | tmp t=>exact rh h
 | _=>exact h _
theorem cK:∀{xs:List Operand} {k:List AV→RB} {k':List AV→RM},(∀v,(k v).rm.leq P (k' v))→(fm xs k).rm.leq P (uD xs k')
 | [],_,_,h=>h []
 | _::_,_,_,h=>aE fun a=>cK fun l=>h (a::l)
theorem qG{x:AV}{k:Value→RB}{k':Value→RM}(h:∀v,(k v).rm.leq P (k' v)):(zU x k).rm.leq P (asV x k'):=by
 unfold zU asV
 split
 ·exact h _
 ·simp only[dU]
  split
  ·rename_i l hl;rw[hl];exact h _
  ·exact ao _
 ·exact ao _
def qh(agg:Bool)(cs:List AV)(off n:Nat)(k:AV→RB):RB :=
 match agg with
 | true=> .ok (Nat.ble (off+n) cs.length) (.lst ((cs.drop off).take n) fun l=>k (.agg l))
 | false=> .opt (nth cs off) k
theorem iY{agg:Bool}{cs:List AV}{off n:Nat}{k:AV→RB}{k':AV→RM}(h:∀v,(k v).rm.leq P (k' v)):(qh agg cs off n k).rm.leq P (oJ agg cs off n k'):=by
 unfold qh oJ
 cases agg with
 | true =>
  rw[if_pos rfl]
  exact ax fun hb=>aC (Nat.le_of_ble_eq_true hb) (h _)
 | false =>
  rw[if_neg (by simp)]
  simp only[RB.rm,dl]
  cases cs[off]? with
  | none=>exact ao _
  | some x=>exact h x
def kQ(T:Tab)(t:TypeId)(x:Operand)(k:AV→RB):RB :=
 match T.var.get t with
 | some (agg,n)=>bc x fun x=>match x with
  | .ptr key g sz i off=> .box key fun g' sz' es=> .ok (Nat.beq g' g) (.ok (Nat.beq sz' sz) (.ok (Nat.ble 1 sz) (.opt (nth es i) fun e=>qh agg e.cells off n k)))
  | .cptr cs=>qh agg cs 0 n k
  | _=> .fail
 | none=> .fail
theorem ip(hT:T.Ok P){t:TypeId}{x:Operand}{k:AV→RB}{k':AV→RM}(h:∀v,(k v).rm.leq P (k' v)):(kQ T t x k).rm.leq P (io P t x k'):=by
 unfold kQ io
 split
 ·rename_i agg n ht
  rw[hT.var.get ht]
  refine aE fun v=>?_
  split
  ·refine iP fun g' sz' es=>ax fun h1=>ax fun h2=>ax fun h3=>?_
   refine aC ⟨Nat.eq_of_beq_eq_true h1,Nat.eq_of_beq_eq_true h2,eJ h3⟩ ?_
   exact lK fun e he=>by rw[he];exact iY h
  ·exact iY h
  ·exact ao _
 ·exact ao _
def qv(v:AV)(k:RB):RB :=
 match v with
 | .agg _=>k
 | v=> .ok v.ok1 k
theorem i6{v:AV}{k:RB}{b:RM}(h:(v.storable=true∧(v.ok1=true∨∃cs,v = .agg cs))→k.rm.leq P b):(qv v k).rm.leq P b:=by
 unfold qv
 split
 ·exact h ⟨rfl,.inr ⟨_,rfl⟩⟩
 ·rename_i hn
  refine ax fun h1=>h ⟨?_,.inl h1⟩
  cases v<;>first|exact h1|rfl
def Io(e:AV)(off:Nat)(v:AV)(k:AV→RB):RB :=
 match(match Nat.beq off 0 with|true=>Nat.beq v.cells.length e.cells.length|false=>false)with
 | true=>k v
 | false=> .lst (e.cells.take off++v.cells++e.cells.drop (off+v.cells.length)) fun l=>k (.agg l)
theorem B5{e v:AV}{off:Nat}{k:AV→RB}{b:RM}(h:(k (ET e off v)).rm.leq P b):(Io e off v k).rm.leq P b:=by
 unfold Io
 unfold ET at h
 split
 ·rename_i hb
  split at hb
  ·rename_i h0
   rw[if_pos ⟨Nat.eq_of_beq_eq_true h0,Nat.eq_of_beq_eq_true hb⟩]at h;exact h
  ·simp at hb
 ·rename_i hb
  rw[if_neg (fun⟨h0,h1⟩=>by
   subst h0
   simp only[Nat.beq_refl]at hb
   rw[h1,Nat.beq_refl]at hb;simp at hb)]at h
  exact h
def rE(T:Tab)(t:TypeId)(x y:Operand):RB :=
 match T.var.get t with
 | some (_,n)=>bc x fun x=>match x with
  | .ptr key g sz i off=>bc y fun v=> .box key fun g' sz' es =>
   .ok (Nat.beq g' g) (.ok (Nat.beq sz' sz) (.ok (Nat.ble 1 sz) (.ok (Nat.beq v.cells.length n) (.ok (Nat.ble (off+n) sz) (qv v (.opt (nth es i) fun e=>Io e off v fun e'=> .lst (es.set i e') fun es'=> .done [.box key (g',some (sz',es'))]))))))
  | _=> .fail
 | none=> .fail
theorem tI(hT:T.Ok P){t:TypeId}{x y:Operand}:(rE T t x y).rm.leq P (lY P t x y):=by
 unfold rE lY
 split
 ·rename_i agg n ht
  rw[hT.var.get ht]
  refine aE fun v=>?_
  split
  ·refine aE fun v=>iP fun g' sz' es=>ax fun h1=>ax fun h2=>ax fun h0=>ax fun h3=>ax fun h4=>i6 fun h5=>?_
   refine aC ⟨Nat.eq_of_beq_eq_true h1,Nat.eq_of_beq_eq_true h2,eJ h0,h5.1,Nat.eq_of_beq_eq_true h3,Nat.le_of_ble_eq_true h4,h5.2⟩ ?_
   exact lK fun e he=>by rw[he];exact B5 (au _)
  ·exact ao _
 ·exact ao _
def vQ(key:Key)(d:Tmp)(v:AV):RB :=
 qv v (.ok (Nat.ble 1 v.cells.length) (.gen key fun g=> .done [.box key (g+1,some (v.cells.length,[v])),.slot d (.ptr key (g+1) v.cells.length 0 0)]))
theorem oo{key:Key}{d:Tmp}{v:AV}:(vQ key d v).rm.leq P (tz key d v) :=
 i6 fun h=>ax fun h0=>aC ⟨h.1,eJ h0⟩ (d9 fun c=>au _)
def xL(cx:Cx)(dst:Option Tmp)(v:AV):RB :=
 match dst with
 | some d=> .ok (Nat.ble cx.l 999) (vQ (cx.key d) d v)
 | none=> .fail
theorem p9{cx:Cx}{dst:Option Tmp}{v:AV}:(xL cx dst v).rm.leq P (tx cx dst v):=by
 unfold xL tx
 split
 ·exact ax fun h=>aC (Nat.le_of_ble_eq_true h) oo
 ·exact ao _
def rp(T:Tab)(cx:Cx)(dst:Option Tmp)(t:TypeId):RB :=
 match T.zero.get t with
 | some (_,z)=>match dst with
  | some d=>match yQ d cx.ty with
   | true=>vQ (cx.keyT d t) d (xx z)
   | false=>xL cx (some d) z
  | none=> .fail
 | none=> .fail
theorem tw(hT:T.Ok P){cx:Cx}{dst:Option Tmp}{t:TypeId}:(rp T cx dst t).rm.leq P (lQ P cx dst t):=by
 unfold rp lQ
 split
 ·rename_i ht
  rw[hT.zero.get ht]
  cases dst with
  | none=>exact ao _
  | some d =>
   simp only
   cases hm:yQ d cx.ty with
   | true =>
    rw[fy]at hm
    rw[if_pos hm]
    exact oo
   | false =>
    rw[fy]at hm
    rw[if_neg (by rw[hm];simp)]
    exact p9
 ·exact ao _
def BQ(dst:Option Tmp)(x:Operand):RB :=
 bc x fun x=>match x with
  | .ptr k g sz i off=> .gen k fun g'=> .ok (Nat.beq g' g) (dJ dst (.ptr k g sz i off))
  | .cptr cs=>dJ dst (.cptr cs)
  | .func (.func f) fs cs=>dJ dst (.func (.func f) fs cs)
  | _=> .fail
theorem yZ{dst:Option Tmp}{x:Operand}:(BQ dst x).rm.leq P (yY dst x):=by
 unfold BQ yY
 refine aE fun v=>?_
 split
 ·exact d9 fun c=>ax fun h=>aC (Nat.eq_of_beq_eq_true h) (au _)
 ·exact au _
 ·exact au _
 ·exact ao _
theorem bg{p:Prop}[Decidable p]{k:RB}{b:RM}(h:p→k.rm.leq P b):(cR p k).rm.leq P b:=ax h
def Ia(k:IntKind)(n:Int)(r:Value→RB):RB :=
 match k with
 | .i64=>cR (inI n) (r (.int .i64 n))
 | k=>r (.int k (k.wrap n))
def KI(op:BinOp)(k k':IntKind)(a b:Int)(r:Value→RB):RB :=
 match op with
 | .shl=>cR (0≤b) (r (.int k (k.wrap (a * 2^min b.toNat k.bits))))
 | .shr=>cR (0≤b) (r (.int k (a.fdiv (2^min b.toNat k.bits))))
 | op=> .ok (decide (k=k')) (match op with
  | .add=>Ia k (a+b) r
  | .sub=>Ia k (a-b) r
  | .mul=>Ia k (a * b) r
  | .quo=>cR (b≠0) (Ia k (a.tdiv b) r)
  | .rem=>cR (b≠0) (r (.int k (a.tmod b)))
  | .and=>r (.int k (k.wrap ((BitVec.ofInt k.bits a&&&BitVec.ofInt k.bits b).toNat:Nat)))
  | .or=>r (.int k (k.wrap ((BitVec.ofInt k.bits a|||BitVec.ofInt k.bits b).toNat:Nat)))
  | .xor=>r (.int k (k.wrap ((BitVec.ofInt k.bits a^^^BitVec.ofInt k.bits b).toNat:Nat)))
  | .andNot=>r (.int k (k.wrap ((BitVec.ofInt k.bits a&&& ~~~BitVec.ofInt k.bits b).toNat:Nat)))
  | .lss=>r (.bool (decide (a<b)))
  | .leq=>r (.bool (decide (a≤b)))
  | .gtr=>r (.bool (decide (b<a)))
  | .geq=>r (.bool (decide (b≤a)))
  | .eql=>r (.bool (decide (a=b)))
  | .neq=>r (.bool (!decide (a=b)))
  | _=> .fail)
theorem kE{k:IntKind}{n:Int}{r:Value→RB}{s:Sem Value}{r':Value→RM}(h:∀v,(r v).rm.leq P (r' v))(hs:∀w,s.run P w = .ok (.int k (k.wrap n)) w):(Ia k n r).rm.leq P (.sem s r'):=by
 unfold Ia
 split
 ·refine bg fun hi=>bp (r:= .int .i64 n) (fun w=>?_) (h _)
  rw[hs w,IntWalk.i64_in _ hi]
 ·exact bp hs (h _)
theorem DL{op:BinOp}{k k':IntKind}{a b:Int}{t:TypeId}{x y:Operand}{r:Value→RB}{r':Value→RM}(h:∀v,(r v).rm.leq P (r' v)) :
  (KI op k k' a b r).rm.leq P (.sem (dQ op t x y (.int k a) (.int k' b)) r'):=by
 unfold KI
 split
 ·refine bg fun hb=>bp (fun w=>?_) (h _)
  simp[dQ,eqGuard,binOp,Op.shift,Int.not_lt.2 hb]
 ·refine bg fun hb=>bp (fun w=>?_) (h _)
  simp[dQ,eqGuard,binOp,Op.shift,Int.not_lt.2 hb]
 ·rename_i hn1 hn2
  refine ax fun hk=>?_
  have hk:k=k':=of_decide_eq_true hk
  subst hk
  cases op<;>simp only
  case add=>exact kE h fun w=>by simp[dQ,eqGuard,binOp,Op.intArith]
  case sub=>exact kE h fun w=>by simp[dQ,eqGuard,binOp,Op.intArith]
  case mul=>exact kE h fun w=>by simp[dQ,eqGuard,binOp,Op.intArith]
  case quo=>exact bg fun hb=>kE h fun w=>by simp[dQ,eqGuard,binOp,Op.intDiv,hb]
  case rem=>exact bg fun hb=>bp (fun w=>by simp[dQ,eqGuard,binOp,Op.intDiv,hb]) (h _)
  case and=>exact bp (fun w=>by simp[dQ,eqGuard,binOp,Op.intBits]) (h _)
  case or=>exact bp (fun w=>by simp[dQ,eqGuard,binOp,Op.intBits]) (h _)
  case xor=>exact bp (fun w=>by simp[dQ,eqGuard,binOp,Op.intBits]) (h _)
  case andNot=>exact bp (fun w=>by simp[dQ,eqGuard,binOp,Op.intBits]) (h _)
  case lss=>exact bp (fun w=>by simp[dQ,eqGuard,binOp,Op.intCmp]) (h _)
  case leq=>exact bp (fun w=>by simp[dQ,eqGuard,binOp,Op.intCmp]) (h _)
  case gtr=>exact bp (fun w=>by simp[dQ,eqGuard,binOp,Op.intCmp]) (h _)
  case geq=>exact bp (fun w=>by simp[dQ,eqGuard,binOp,Op.intCmp]) (h _)
  case eql=>exact bp (fun w=>by simp[dQ,eqGuard,binOp,Op.intCmp];rfl) (h _)
  case neq=>exact bp (fun w=>by simp[dQ,eqGuard,binOp,Op.intCmp];rfl) (h _)
  all_goals exact ao _
def K1(op:BinOp)(s s':ByteArray)(r:Value→RB):RB :=
 match op with
 | .eql=>r (.bool (decide (s=s')))
 | .neq=>r (.bool (!decide (s=s')))
 | .lss=>r (.bool (Op.bytesLess s.toList s'.toList))
 | .geq=>r (.bool (!Op.bytesLess s.toList s'.toList))
 | .leq=>r (.bool (Op.bytesLess s.toList s'.toList||decide (s=s')))
 | .gtr=>r (.bool !(Op.bytesLess s.toList s'.toList||decide (s=s')))
 | .add=>cR (((s.size+s'.size:Nat):Int)≤IntKind.i64.max) (r (.string (s++s')))
 | _=> .fail
theorem E8{op:BinOp}{s s':ByteArray}{t:TypeId}{x y:Operand}{r:Value→RB}{r':Value→RM}(h:∀v,(r v).rm.leq P (r' v)) :
  (K1 op s s' r).rm.leq P (.sem (dQ op t x y (.string s) (.string s')) r'):=by
 unfold K1
 split
 ·exact bp (fun w=>by simp[dQ,eqGuard,binOp,Op.stringOp,ml]) (h _)
 ·exact bp (fun w=>by simp[dQ,eqGuard,binOp,Op.stringOp,ml]) (h _)
 ·exact bp (fun w=>by simp[dQ,eqGuard,binOp,Op.stringOp]) (h _)
 ·exact bp (fun w=>by simp[dQ,eqGuard,binOp,Op.stringOp]) (h _)
 ·exact bp (fun w=>by simp[dQ,eqGuard,binOp,Op.stringOp,ml]) (h _)
 ·exact bp (fun w=>by simp[dQ,eqGuard,binOp,Op.stringOp,ml]) (h _)
 ·refine bg fun hb=>bp (fun w=>?_) (h _)
  simp only[dQ,eqGuard,binOp,Op.stringOp]
  have:((s.size+s'.size:Nat):Int)≤9223372036854775807:=hb
  simp[Int.not_lt.2 hb]
  omega
 ·exact ao _
def KH(op:BinOp)(cs:List CK)(us vs:List Value)(r:Value→RB):RB :=
 .ok (aV cs us) (.ok (aV cs vs) (match op with
  | .eql=>r (.bool (eqL us vs))
  | .neq=>r (.bool (!eqL us vs))
  | _=> .fail))
def J3(op:BinOp)(r:Bool)(k:Bool→RB):RB :=
 match op with
 | .eql=>k r
 | .neq=>k (!r)
 | _=> .fail
def BN(T:Tab)(dst:Option Tmp)(op:BinOp)(t:TypeId)(x y:Operand):RB :=
 bc x fun a=>bc y fun b=>match H8 y with
 | true=>match nilA a with
  | some r=>match T.slice.get t with
   | some _=>J3 op r fun r=>dJ dst (.v (.bool r))
   | none=> .fail
  | none=> .fail
 | false=>match a,b with
  | .v (.int k a),.v (.int k' b)=>KI op k k' a b fun r=>dJ dst (ofValue r)
  | .v (.string s),.v (.string s')=>K1 op s s' fun r=>dJ dst (ofValue r)
  | .agg as,.agg bs=>match T.eq.get t with
   | some cs=>match ep as with
    | some us=>match ep bs with
     | some vs=>KH op cs us vs fun r=>dJ dst (ofValue r)
     | none=> .fail
    | none=> .fail
   | none=> .fail
  | a,b=>zU a fun u=>zU b fun v=> .sem (dQ op t x y u v) fun r=>dJ dst (ofValue r)
theorem DG(hT:T.Ok P){op:BinOp}{t:TypeId}{cs:List CK}(ht:T.eq.get t=some cs){us vs:List Value}{x y:Operand}{r:Value→RB}{r':Value→RM}(h:∀v,(r v).rm.leq P (r' v)) :
  (KH op cs us vs r).rm.leq P (.sem (dQ op t x y (.agg us.toArray) (.agg vs.toArray)) r'):=by
 obtain⟨⟨n,hn,he⟩,ha,hg⟩:=hT.eq.get ht
 unfold KH
 refine ax fun h1=>ax fun h2=>?_
 split
 ·exact bp (fun w=>(mN he hn ha hg (by simpa using h1) (by simpa using h2) x y w).1) (h _)
 ·exact bp (fun w=>(mN he hn ha hg (by simpa using h1) (by simpa using h2) x y w).2) (h _)
 ·exact ao _
theorem yV(hT:T.Ok P){dst:Option Tmp}{op:BinOp}{t:TypeId}{x y:Operand}:(BN T dst op t x y).rm.leq P (yU P dst op t x y):=by
 unfold BN yU
 refine aE fun a=>aE fun b=>?_
 cases hnc:H8 y with
 | true =>
  simp only
  cases hn:nilA a with
  | none=>exact ao _
  | some r =>
   simp only
   cases hs:T.slice.get t with
   | none=>exact ao _
   | some q =>
    rw[hT.slice.get hs]
    simp only
    unfold J3 tr
    split<;>first|exact au _|exact ao _
 | false =>
 simp only
 split
 ·exact DL fun v=>au _
 ·exact E8 fun v=>au _
 ·split
  ·rename_i cs ht
   split
   ·rename_i us hu
    split
    ·rename_i vs hv
     simp only[asV,dU,hu,hv,Option.map_some]
     exact DG hT ht fun v=>au _
    ·exact ao _
   ·exact ao _
  ·exact ao _
 ·exact qG fun u=>qG fun v=>kx fun r=>au _
def Ie(dst:Option Tmp)(op:UnOp)(x:Operand):RB :=
 bc x fun a=>match op,a with
  | .not,.v (.bool b)=>dJ dst (.v (.bool (!b)))
  | .neg,.v (.int k n)=>Ia k (0-n) fun r=>dJ dst (ofValue r)
  | op,a=>zU a fun u=> .sem (Op.unary op u) fun r=>dJ dst (ofValue r)
theorem BR{dst:Option Tmp}{op:UnOp}{x:Operand}:(Ie dst op x).rm.leq P (Jm dst op x):=by
 unfold Ie Jm
 refine aE fun a=>?_
 split
 ·exact bp (r:= .bool _) (fun w=>by simp[Op.unary]) (au _)
 ·exact kE (fun v=>au _) fun w=>by simp[Op.unary,Op.intArith]
 ·exact qG fun v=>kx fun r=>au _
def JK(k':IntKind)(n:Int)(r:Value→RB):RB :=
 match k' with
 | .i64=>cR (inI n) (r (.int .i64 n))
 | k=>r (.int k (k.wrap n))
def vU(T:Tab)(dst:Option Tmp)(s t:TypeId)(x:Operand):RB :=
 bc x fun a=>match a with
  | .v (.int k n)=>match T.und.get s with
   | some (.int _)=>match T.und.get t with
    | some (.int k')=>JK k' n fun r=>dJ dst (ofValue r)
    | some .str=>dJ dst (.v (.string (Utf8.encode n)))
    | _=> .fail
   | _=> .fail
  | .v (.string z)=>match T.und.get s with
   | some .str=>match T.und.get t with
    | some .str=>dJ dst (.v (.string z))
    | _=> .fail
   | _=> .fail
  | .slice _ es _=>match T.und.get s with
   | some .bytes=>match T.und.get t with
    | some .str=>match lx es with
     | some l=>dJ dst (.v (.string ⟨l.toArray⟩))
     | none=> .fail
    | _=> .fail
   | _=> .fail
  | _=> .fail
theorem vV(hT:T.Ok P){dst:Option Tmp}{s t:TypeId}{x:Operand}:(vU T dst s t x).rm.leq P (qa P dst s t x):=by
 unfold vU qa
 refine aE fun a=>?_
 split
 ·rename_i k n
  simp only[nC]
  split
  ·rename_i k1 hs
   split
   ·rename_i k' ht
    have h1:P.underlying s=some (.int k1):=hT.und.get hs
    have h2:P.underlying t=some (.int k'):=hT.und.get ht
    have hrun:∀w,(convert s t (.int k n)).run P w = .ok (.int k' (k'.wrap n)) w:=fun w=>by
     simp[convert,run_underlying h1,run_underlying h2,Conv.intToInt]
    unfold JK
    split
    ·refine bg fun hi=>bp (r:= .int .i64 n) (fun w=>?_) (au _)
     rw[hrun w,IntWalk.i64_in _ hi]
    ·exact bp hrun (au _)
   ·rename_i ht
    have h1:P.underlying s=some (.int k1):=hT.und.get hs
    have h2:P.underlying t=some .string:=hT.und.get ht
    exact bp (r:= .string (Utf8.encode n)) (fun w=>by simp[convert,run_underlying h1,run_underlying h2,Conv.intToString]) (au _)
   ·exact ao _
  ·exact ao _
 ·rename_i z
  simp only[nC]
  split
  ·rename_i hs
   split
   ·rename_i ht
    have h1:P.underlying s=some .string:=hT.und.get hs
    have h2:P.underlying t=some .string:=hT.und.get ht
    exact bp (r:= .string z) (fun w=>by simp[convert,run_underlying h1,run_underlying h2]) (au _)
   ·exact ao _
  ·exact ao _
 ·rename_i es _
  split
  ·rename_i hs
   split
   ·rename_i ht
    split
    ·rename_i l hl
     obtain⟨e,h1,h3⟩:∃e,P.underlying s=some (.slice e)∧P.underlying e=some (.int .u8):=hT.und.get hs
     have h2:P.underlying t=some .string:=hT.und.get ht
     simp only[nC,h1,h2,h3,hl]
     exact au _
    ·exact ao _
   ·exact ao _
  ·exact ao _
 ·exact ao _
def ry(T:Tab)(dst:Option Tmp)(t:TypeId)(x:Operand)(f:Nat):RB :=
 match T.field.get t with
 | some l=>match nth l f with
  | some (some o)=>bc x fun x=>match x with
   | .ptr k g sz i off=> .gen k fun g'=> .ok (Nat.beq g' g) (dJ dst (.ptr k g sz i (off+o)))
   | .cptr cs=> .lst (cs.drop o) fun cs=>dJ dst (.cptr cs)
   | _=> .fail
  | _=> .fail
 | none=> .fail
theorem tE(hT:T.Ok P){dst:Option Tmp}{t:TypeId}{x:Operand}{f:Nat}:(ry T dst t x f).rm.leq P (lU P dst t x f):=by
 unfold ry lU
 split
 ·rename_i l hl
  split
  ·rename_i o ho
   rw[hT.field.get hl f o ho]
   refine aE fun v=>?_
   split
   ·exact d9 fun c=>ax fun h=>aC (Nat.eq_of_beq_eq_true h) (au _)
   ·exact au _
   ·exact ao _
  ·exact ao _
 ·exact ao _
def im(T:Tab)(dst:Option Tmp)(t:TypeId)(x ix:Operand):RB :=
 bc x fun a=>bc ix fun j=>match j with
  | .v (.int _ n)=>match a with
   | .slice sz es _=>match T.slice.get t with
    | some (_,n',_)=> .ok (Nat.beq n' sz) (cR (0≤n) (.opt (nth es n.toNat) fun e=>dJ dst (.cptr e.cells)))
    | none=> .fail
   | .own k g sz m cap=>match T.slice.get t with
    | some (_,n',_)=> .ok (Nat.beq n' sz) (cR (0≤n∧n<m) (.gen k fun g'=> .ok (Nat.beq g' g) (dJ dst (.ptr k g sz n.toNat 0))))
    | none=> .fail
   | .ptr k g sz i off=>match T.array.get t with
    | some (len,n')=>cR (0≤n∧n<len) (.gen k fun g'=> .ok (Nat.beq g' g) (dJ dst (.ptr k g sz i (off+n.toNat * n'))))
    | none=> .fail
   | .cptr cs=>match T.array.get t with
    | some (len,n')=>cR (0≤n∧n<len) (dJ dst (.cptr (cs.drop (n.toNat * n'))))
    | none=> .fail
   | _=> .fail
  | _=> .fail
theorem mY(hT:T.Ok P){dst:Option Tmp}{t:TypeId}{x ix:Operand}:(im T dst t x ix).rm.leq P (dZ P dst t x ix):=by
 unfold im dZ
 refine aE fun a=>aE fun j=>?_
 split
 ·rename_i kk n
  simp only[asV,dU]
  split
  ·split
   ·rename_i ht
    rw[hT.slice.get ht]
    refine ax fun h1=>bg fun h2=>aC h2 (aC (Nat.eq_of_beq_eq_true h1) ?_)
    exact lK fun e he=>by rw[he];exact au _
   ·exact ao _
  ·split
   ·rename_i ht
    rw[hT.slice.get ht]
    refine ax fun h1=>bg fun h2=>aC h2.1 (aC ⟨Nat.eq_of_beq_eq_true h1,h2.2⟩ (d9 fun c=>ax fun h3=>aC (Nat.eq_of_beq_eq_true h3) (au _)))
   ·exact ao _
  ·split
   ·rename_i ht
    rw[hT.array.get ht]
    exact bg fun h2=>aC h2.1 (aC h2.2 (d9 fun c=>ax fun h3=>aC (Nat.eq_of_beq_eq_true h3) (au _)))
   ·exact ao _
  ·split
   ·rename_i ht
    rw[hT.array.get ht]
    exact bg fun h2=>aC h2.1 (aC h2.2 (au _))
   ·exact ao _
  ·exact ao _
 ·exact ao _
def ov(T:Tab)(dst:Option Tmp)(t:TypeId)(x:Operand)(f:Nat):RB :=
 bc x fun x=>match x with
  | .agg cs=>match T.fieldV.get t with
   | some l=>match nth l f with
    | some (some q)=>qh q.1 cs q.2.1 q.2.2 (dJ dst)
    | _=> .fail
   | none=> .fail
  | _=> .fail
theorem rz(hT:T.Ok P){dst:Option Tmp}{t:TypeId}{x:Operand}{f:Nat}:(ov T dst t x f).rm.leq P (kO P dst t x f):=by
 unfold ov kO
 refine aE fun v=>?_
 split
 ·split
  ·rename_i l hl
   split
   ·rename_i q hq
    simp only[hT.fieldV.get hl f q hq]
    exact iY fun v=>au _
   ·exact ao _
  ·exact ao _
 ·exact ao _
def oz(T:Tab)(dst:Option Tmp)(t:TypeId)(x ix:Operand):RB :=
 bc x fun a=>bc ix fun j=>match a,j with
  | .agg cs,.v (.int _ n)=>match T.indexV.get t with
   | some q=>cR (0≤n∧n<q.2.1) (qh q.1 cs (n.toNat * q.2.2) q.2.2 (dJ dst))
   | none=> .fail
  | _,_=> .fail
theorem rB(hT:T.Ok P){dst:Option Tmp}{t:TypeId}{x ix:Operand}:(oz T dst t x ix).rm.leq P (kP P dst t x ix):=by
 unfold oz kP
 refine aE fun a=>aE fun j=>?_
 split
 ·split
  ·rename_i q hq
   simp only[(hT.indexV.get hq).1]
   exact bg fun h=>aC h (iY fun v=>au _)
  ·exact ao _
 ·exact ao _
def lT(dst:Option Tmp)(x:Operand)(i:Nat):RB :=
 bc x fun x=>match x with
  | .tuple vs=> .opt (nth vs i) fun v=>dJ dst v
  | _=> .fail
theorem pu{dst:Option Tmp}{x:Operand}{i:Nat}:(lT dst x i).rm.leq P (fP dst x i):=by
 unfold lT fP
 refine aE fun a=>?_
 split
 ·refine lK fun e he=>?_
  simp only[he]
  exact au _
 ·exact ao _
def El(place:List (Nat×Nat)):List AV→List (Nat×AV)→(List AV→RB)→RB
 | cs,[],k=>k cs
 | cs,(i,v)::rest,k=>match nth place i with
  | some (off,n)=> .ok (Nat.beq v.cells.length n) (.ok (Nat.ble (off+n) cs.length) (qv v (.lst (cs.take off++v.cells++cs.drop (off+n)) fun cs'=>El place cs' rest k)))
  | none=> .fail
theorem sV{place:List (Nat×Nat)}{k:List AV→RB}{k':List AV→RM}(h:∀l,(k l).rm.leq P (k' l)):∀(parts:List (Nat×AV)) (cs:List AV),
  (El place cs parts k).rm.leq P (match jv (fun i=>place[i]?) cs parts with
   | some cs=>k' cs
   | none=> .fail)
 | [],cs=>h cs
 | (i,v)::rest,cs=>by
  simp only[El]
  split
  ·rename_i off n hp
   rw[dl]at hp
   refine ax fun h1=>ax fun h2=>i6 fun h3=>?_
   simp only[jv,hp]
   rw[if_pos ⟨Nat.eq_of_beq_eq_true h1,Nat.le_of_ble_eq_true h2,h3.1⟩]
   exact sV h rest _
  ·exact ao _
def Em(sz:Nat):List AV→List (Nat×AV)→(List AV→RB)→RB
 | cs,[],k=>k cs
 | cs,(i,v)::rest,k=> .ok (Nat.beq v.cells.length sz) (.ok (Nat.ble (i * sz+sz) cs.length) (qv v (.lst (cs.take (i * sz)++v.cells++cs.drop (i * sz+sz)) fun cs'=>Em sz cs' rest k)))
theorem sW{sz:Nat}{k:List AV→RB}{k':List AV→RM}(h:∀l,(k l).rm.leq P (k' l)):∀(parts:List (Nat×AV)) (cs:List AV),
  (Em sz cs parts k).rm.leq P (match jv (fun i=>some (i * sz,sz)) cs parts with
   | some cs=>k' cs
   | none=> .fail)
 | [],cs=>h cs
 | (i,v)::rest,cs=>by
  simp only[Em]
  refine ax fun h1=>ax fun h2=>i6 fun h3=>?_
  simp only[jv]
  rw[if_pos ⟨Nat.eq_of_beq_eq_true h1,Nat.le_of_ble_eq_true h2,h3.1⟩]
  exact sW h rest _
def rt(T:Tab)(dst:Option Tmp)(t:TypeId)(parts:List (Nat×Operand)):RB :=
 match T.zero.get t with
 | some (_,z)=>match T.places.get t with
  | some place=>fm (parts.map (·.2)) fun l=>El place z.cells ((parts.map (·.1)).zip l) fun cs=>dJ dst (.agg cs)
  | none=>match T.placesN.get t with
   | some n=>fm (parts.map (·.2)) fun l=>Em n z.cells ((parts.map (·.1)).zip l) fun cs=>dJ dst (.agg cs)
   | none=> .fail
 | none=> .fail
theorem tA(hT:T.Ok P){dst:Option Tmp}{t:TypeId}{parts:List (Nat×Operand)}:(rt T dst t parts).rm.leq P (lR P dst t parts):=by
 unfold rt lR
 split
 ·rename_i hz
  rw[hT.zero.get hz]
  split
  ·rename_i hp
   rw[hT.places.get hp]
   exact cK fun l=>sV (fun l=>au _) _ _
  ·split
   ·rename_i hp
    rw[hT.placesN.get hp]
    exact cK fun l=>sW (fun l=>au _) _ _
   ·exact ao _
 ·exact ao _
def uh(n:Nat):List AV→Bool
 | []=>true
 | x::xs=>match Nat.beq x.cells.length n with
  | true=>match x.storable with
   | true=>uh n xs
   | false=>false
  | false=>false
theorem oU{n:Nat}:∀{l:List AV},uh n l=true→ug n l=true
 | [],_=>rfl
 | x::xs,h=>by
  simp only[uh]at h
  split at h
  ·rename_i h1
   split at h
   ·rename_i h2
    rw[ug,Nat.eq_of_beq_eq_true h1,h2,oU h];simp
   ·simp at h
  ·simp at h
def BH:Nat→List (Nat×Operand)→Nat→Bool
 | i,[],n=>Nat.beq i n
 | i,(j,_)::l,n=>match Nat.beq i j with
  | true=>BH (i+1) l n
  | false=>false
theorem rn:∀{l:List (Nat×Operand)} {i n:Nat},BH i l n=true→i≤n∧l.map (·.1)=List.range' i (n-i)
 | [],i,n,h=>by have:=Nat.eq_of_beq_eq_true h;subst this;simp
 | (j,_)::l,i,n,h=>by
  simp only[BH]at h
  split at h
  ·rename_i hj
   have:=Nat.eq_of_beq_eq_true hj
   subst this
   obtain⟨h1,h2⟩:=rn h
   refine⟨by omega,?_⟩
   rw[List.map_cons,h2,show n-i=(n-(i+1))+1 by omega,List.range'_succ]
  ·simp at h
def gx(T:Tab)(dst:Option Tmp)(t:TypeId)(len:Nat)(parts:List (Nat×Operand)):RB :=
 match T.slice.get t with
 | some (e,n,_)=>match T.zero.get e with
  | some (n',_)=> .ok (BH 0 parts len) (.ok (Nat.ble (len * n) 16777216) (.ok (Nat.ble 1 n) (.ok (Nat.beq n' n) (fm (parts.map (·.2)) fun l =>
   match de l with
   | some es=> .ok (uh n es) (.lst es fun es=>dJ dst (.slice n es .tight))
   | none=> .fail))))
  | none=> .fail
 | none=> .fail
theorem lS(hT:T.Ok P){dst:Option Tmp}{t:TypeId}{len:Nat}{parts:List (Nat×Operand)}:(gx T dst t len parts).rm.leq P (dm P dst t len parts):=by
 unfold gx dm
 split
 ·rename_i e n b ht
  rw[hT.slice.get ht]
  split
  ·rename_i n' z hz
   refine ax fun h1=>ax fun h2=>ax fun h3=>ax fun h4=>aC ⟨?_,?_,Nat.le_of_ble_eq_true h3,?_⟩ (cK fun l=>?_)
   ·rw[(rn h1).2,List.range_eq_range'];rfl
   ·exact Nat.le_of_ble_eq_true h2
   ·rw[hT.zero.get hz, ←Nat.eq_of_beq_eq_true h4];rfl
   ·cases de l with
    | none=>exact ao _
    | some es=>exact ax fun h5=>aC (oU h5) (au _)
  ·exact ao _
 ·exact ao _
def fA(T:Tab)(cx:Cx)(d:Tmp)(t:TypeId)(len:Nat)(parts:List (Nat×Operand)):RB :=
 match T.slice.get t with
 | some (e,n,_)=>match T.zero.get e with
  | some (n',_)=> .ok (BH 0 parts len) (.ok (Nat.ble (len * n) 16777216) (.ok (Nat.ble 1 n) (.ok (Nat.beq n' n) (fm (parts.map (·.2)) fun l =>
   match de l with
   | some es=> .ok (uh n es) (.ok (Nat.ble cx.l 999) <| .lst es fun es=> .gen (cx.key d) fun g=> .done [.box (cx.key d) (g+1,some (n,es)),.slot d (.own (cx.key d) (g+1) n es.length 0)])
   | none=> .fail))))
  | none=> .fail
 | none=> .fail
theorem kK(hT:T.Ok P){cx:Cx}{d:Tmp}{t:TypeId}{len:Nat}{parts:List (Nat×Operand)}:(fA T cx d t len parts).rm.leq P (dF P cx d t len parts):=by
 unfold fA dF
 split
 ·rename_i e n b ht
  rw[hT.slice.get ht]
  split
  ·rename_i n' z hz
   refine ax fun h1=>ax fun h2=>ax fun h3=>ax fun h4=>aC ⟨?_,?_,Nat.le_of_ble_eq_true h3,?_⟩ (cK fun l=>?_)
   ·rw[(rn h1).2,List.range_eq_range'];rfl
   ·exact Nat.le_of_ble_eq_true h2
   ·rw[hT.zero.get hz, ←Nat.eq_of_beq_eq_true h4];rfl
   ·cases de l with
    | none=>exact ao _
    | some es =>
     refine ax fun h5=>ax fun h6=>aC ⟨oU h5,Nat.le_of_ble_eq_true h6⟩ ?_
     show(RB.rm (RB.gen (cx.key d) fun g=>RB.done [Wr.box (cx.key d) (g+1,some (n,es)),Wr.slot d (AV.own (cx.key d) (g+1) n es.length 0)])).leq P _
     exact d9 fun c=>au _
  ·exact ao _
 ·exact ao _
def jE(dst:Option Tmp)(fn:Fn)(first captured:List Operand):RB :=
 fm first fun a=>fm captured fun b=>dJ dst (.func fn a b)
theorem oB{dst:Option Tmp}{fn:Fn}{first captured:List Operand}:(jE dst fn first captured).rm.leq P (eI dst fn first captured):=by
 unfold jE eI
 exact cK fun a=>cK fun b=>au _
def BO(T:Tab)(dst:Option Tmp)(t:TypeId)(x:Operand):RB :=
 bc x fun x=>match x with
  | .slice _ es _=>match T.slice.get t with
   | some _=>dJ dst (.v (.int .i64 es.length))
   | none=> .fail
  | .own k g _ n _=>match T.slice.get t with
   | some _=> .gen k fun g'=> .ok (Nat.beq g' g) (dJ dst (.v (.int .i64 n)))
   | none=> .fail
  | .v (.string s)=>match T.und.get t with
   | some .str=>dJ dst (.v (.int .i64 s.size))
   | _=> .fail
  | .mp k g=>match T.und.get t with
   | some .map=>tF dst (.mp k g)
   | _=> .fail
  | _=> .fail
theorem yX(hT:T.Ok P){dst:Option Tmp}{t:TypeId}{x:Operand}:(BO T dst t x).rm.leq P (yW P dst t x):=by
 unfold BO yW
 refine aE fun v=>?_
 split
 ·split
  ·rename_i ht;rw[hT.slice.get ht];exact au _
  ·exact ao _
 ·split
  ·rename_i ht;rw[hT.slice.get ht];exact d9 fun c=>ax fun h=>aC (Nat.eq_of_beq_eq_true h) (au _)
  ·exact ao _
 ·split
  ·rename_i s _ ht
   have h1:P.underlying t=some .string:=hT.und.get ht
   exact bp (r:= .int .i64 s.size) (fun w=>by simp[Builtin.len_,run_underlying h1,goInt]) (au _)
  ·exact ao _
 ·split
  ·rename_i ht
   obtain⟨a,b,h1⟩:=hT.und.get ht
   rw[h1];exact au _
  ·exact ao _
 ·exact ao _
theorem ll{es:List AV}{sz n:Nat}(h:jq es sz n=true):es≠[]→sz=n:=by
 intro he
 unfold jq at h
 split at h
 ·rename_i h1;exact Nat.eq_of_beq_eq_true h1
 ·split at h
  ·exact absurd rfl he
  ·simp at h
theorem vi{b:AV}{k:AV→RB}{k':AV→RM}(h:∀v,(k v).rm.leq P (k' v)):(vh b k).rm.leq P (sB b k'):=by
 unfold vh sB
 split
 ·exact bg fun hc=>aC hc (h _)
 ·rename_i hne
  first
   | (
    split
    ·exact absurd rfl (hne _ _ _)
    ·exact h _)
   | exact h _
def og(T:Tab)(cx:Cx)(dst:Option Tmp)(t:TypeId)(x y:Operand):RB :=
 match T.slice.get t,dst with
 | some (e,n,by_),some d=>match T.zero.get e with
  | some (n',_)=> .ok (Nat.beq n' n) (.ok (Nat.ble 1 n) (bc x fun a=>bc y fun b=>vh b fun b=>match a,b with
   | .slice sz es tok,.slice sz' es' _ =>
    .ok (jq es sz n) (.ok (jq es' sz' n) (cR ((es.length+es'.length) * by_≤140737488355328∧es.length+es'.length≤maxLen)
     (match tok with
     | .tight=> .tk (cx.key d) fun c _=> .done [.tk (cx.key d) (c+1,es.length+es'.length),.slot d (.slice n (es++es') (.own (cx.key d) (c+1)))]
     | .own k g=> .tk k fun c h=> .ok (Nat.beq c g) (.ok (decide (h=es.length)) (.ok (Nat.beq sz n) (.done [.tk k (c,es.length+es'.length),.slot d (.slice n (es++es') (.own k g))])))
     | .no=> .fail)))
   | _,_=> .fail))
  | none=> .fail
 | _,_=> .fail
theorem rr(hT:T.Ok P){cx:Cx}{dst:Option Tmp}{t:TypeId}{x y:Operand}:(og T cx dst t x y).rm.leq P (iU P cx dst t x y):=by
 unfold og iU
 split
 ·rename_i e n by_ d ht
  rw[hT.slice.get ht]
  split
  ·rename_i n' z hz
   refine ax fun h1=>ax fun h2=>aE fun a=>aE fun b=>vi fun b=>?_
   split
   ·rename_i sz es tok sz' es' tok'
    refine ax fun h3=>ax fun h4=>bg fun h5=>aC ⟨h5.1,h5.2,Nat.le_of_ble_eq_true h2,ll h3,ll h4,by rw[hT.zero.get hz, ←Nat.eq_of_beq_eq_true h1];rfl⟩ ?_
    split
    ·exact Gm fun c=>au _
    ·exact Gm fun c=>ax fun h6=>ax fun h7=>ax fun h8=>aC ⟨Nat.eq_of_beq_eq_true h6,of_decide_eq_true h7,Nat.eq_of_beq_eq_true h8⟩ (au _)
    ·exact ao _
   ·exact ao _
  ·exact ao _
 ·exact ao _
theorem kw{o:Option (List AV)}{k:List AV→RB}{b:RM}(h:∀x,o=some x→(k x).rm.leq P b):(RB.optL o k).rm.leq P b:=by
 cases ho:o with
 | none=>exact fun S K hk=>hk.elim
 | some x=>exact h x ho
def qo(x:AV)(k:AV→RB):RB :=
 match x with
 | .ptr key g sz i off=> .box key fun g' sz' es=> .ok (Nat.beq g' g) (.ok (Nat.beq sz' sz) (.ok (Nat.ble 1 sz) (.opt (nth es i) fun e=> .optL (zw e.cells) fun cs=> .lst (cs.drop off) fun cs=>k (.cptr cs))))
 | .own key g sz n _=> .box key fun g' sz' es=> .ok (Nat.beq g' g) (.ok (Nat.beq sz' sz) (.ok (Nat.ble 1 sz) (cR (n≤es.length) (.optL (dH (es.take n)) fun l=>k (.slice sz l .no)))))
 | .sl key g sz i off n=> .box key fun g' sz' es=> .ok (Nat.beq g' g) (.ok (Nat.beq sz' sz) (.ok (Nat.ble 1 sz) (.ok (Nat.ble (off+n) sz) (.opt (nth es i) fun e=> .optL (eD e.cells) fun cs=> .lst ((cs.drop off).take n) fun cs=>k (.slice 1 cs .no)))))
 | x=>match toPure x with
  | some y=>k y
  | none=> .fail
theorem qp{x:AV}{k:AV→RB}{k':AV→RM}(h:∀v,(k v).rm.leq P (k' v)):(qo x k).rm.leq P (oW x k'):=by
 cases x with
 | ptr key g sz i off =>
  refine iP fun g' sz' es=>ax fun h1=>ax fun h2=>ax fun h0=>aC ⟨Nat.eq_of_beq_eq_true h1,Nat.eq_of_beq_eq_true h2,eJ h0⟩ ?_
  refine lK fun e he=>?_
  rw[he]
  simp only
  refine kw fun l hl=>?_
  rw[hl]
  exact h _
 | own key g sz n cap =>
  refine iP fun g' sz' es=>ax fun h1=>ax fun h2=>ax fun h0=>bg fun h3=>aC ⟨Nat.eq_of_beq_eq_true h1,Nat.eq_of_beq_eq_true h2,eJ h0,h3⟩ ?_
  refine kw fun l hl=>?_
  rw[hl]
  exact h _
 | sl key g sz i off n =>
  refine iP fun g' sz' es=>ax fun h1=>ax fun h2=>ax fun h0=>ax fun h3=>aC ⟨Nat.eq_of_beq_eq_true h1,Nat.eq_of_beq_eq_true h2,eJ h0,Nat.le_of_ble_eq_true h3⟩ ?_
  refine lK fun e he=>?_
  rw[he]
  simp only
  refine kw fun l hl=>?_
  rw[hl]
  exact h _
 | v y=>exact h _
 | slice sz es tok=>exact h _
 | cptr cs=>exact h _
 | junk=>exact ao _
 | mp k g=>exact ao _
 | yld k g=>exact ao _
 | lp=>exact ao _
 | agg cs =>
  simp only[qo,oW,toPure]
  cases eD cs with
  | none=>exact ao _
  | some cs=>exact h _
 | tuple cs =>
  simp only[qo,oW,toPure]
  cases eD cs with
  | none=>exact ao _
  | some cs=>exact h _
 | func fn fs cs =>
  simp only[qo,oW,toPure]
  cases eD fs with
  | none=>exact ao _
  | some cs' =>
   cases eD cs with
   | none=>exact ao _
   | some cs=>exact h _
def oY:List AV→(List AV→RB)→RB
 | [],k=>k []
 | x::xs,k=>qo x fun y=>oY xs fun l=>k (y::l)
theorem gE:∀{xs:List AV} {k:List AV→RB} {k':List AV→RM},(∀v,(k v).rm.leq P (k' v))→(oY xs k).rm.leq P (mR xs k')
 | [],_,_,h=>h []
 | _::_,_,_,h=>qp fun a=>gE fun l=>h (a::l)
def E5(x:AV)(k:AV→RB):RB :=
 match x with
 | .func fn fs cs=>oY fs fun a=>oY cs fun b=>k (.func fn a b)
 | x=>qo x k
theorem uj{x:AV}{k:AV→RB}{k':AV→RM}(h:∀v,(k v).rm.leq P (k' v)):(E5 x k).rm.leq P (snap x k'):=by
 cases x with
 | func fn fs cs=>exact gE fun a=>gE fun b=>h _
 | _=>simp only[E5,snap];exact qp h
def Cn:List AV→(List AV→RB)→RB
 | [],k=>k []
 | x::xs,k=>E5 x fun y=>Cn xs fun l=>k (y::l)
theorem qt:∀{xs:List AV} {k:List AV→RB} {k':List AV→RM},(∀v,(k v).rm.leq P (k' v))→(Cn xs k).rm.leq P (zD xs k')
 | [],_,_,h=>h []
 | _::_,_,_,h=>uj fun a=>qt fun l=>h (a::l)
theorem EA{k k':List Key→RM}(h:∀v,(k v).leq P (k' v)):(RM.keys k).leq P (.keys k'):=fun S _ ⟨ks,hk⟩=>⟨ks,h ks _ _ hk⟩
theorem Be{f:Tgt}{args:List AV}{pre:List cn}{k k':AV→List cn→RM}(h:∀r post,(k r post).leq P (k' r post)):(RM.callx f args pre k).leq P (.callx f args pre k') :=
 fun S _ ⟨r,post,hr,hk⟩=>⟨r,post,hr,h r post _ _ hk⟩
def B9:List Key→(List cn→RB)→RB
 | [],k=>k []
 | key::rest,k=> .box key fun g sz es=>B9 rest fun l=>k ((key,g,sz,es)::l)
theorem qi:∀{ks:List Key} {k:List cn→RB} {k':List cn→RM},(∀v,(k v).rm.leq P (k' v))→(B9 ks k).rm.leq P (B8 ks k')
 | [],_,_,h=>h []
 | _::_,_,_,h=>iP fun g sz es=>qi fun l=>h _
def xZ(ks:List Key):List cn→(List cn→RB)→RB
 | [],k=>k []
 | (key,g,sz,es)::l,k=> .optL (uv ks sz es) fun es'=>xZ ks l fun l'=>k ((key,g,sz,es')::l')
theorem mn{ks:List Key}:∀{l:List cn} {k:List cn→RB} {b:RM},(∀v,pg ks l=some v→(k v).rm.leq P b)→(xZ ks l k).rm.leq P b
 | [],_,_,h=>h [] rfl
 | (key,g,sz,es)::l,k,b,h=>kw fun es' he=>mn fun l' hl=>h _ (by simp only[pg,he,hl])
def H4:List cn→RB→RB
 | [],k=>k
 | (key,_)::rest,k=> .absent key (H4 rest k)
theorem tq:∀{l:List cn} {k:RB} {k':RM},k.rm.leq P k'→(H4 l k).rm.leq P (J1 l k')
 | [],_,_,h=>h
 | (key,_)::rest,_,_,h=>Bd fun c=>ax fun hc=>aC hc (tq h)
def iV(dst:Option Tmp)(fid:Tgt)(l:List AV):RB :=
 .keys fun ks=> .ok (gM ks) (.ok (fid.inK ks) (B9 ks fun pre=>xZ ks pre fun pre'=> .optL (tkL (tk2 ks) l) fun l'=> .lst l' fun l'=> .callx fid l' pre' fun r post =>
  match dL pre' post with
  | some new=>H4 new (.ok (gM (aI post)) (.opt (tk3 (aI post) r) fun r'=>xZ (aI post) post fun post'=> .done (wrE post'++putA dst r')))
  | none=> .fail))
theorem EB{o:Option AV}{k:AV→RB}{b:RM}(h:∀x,o=some x→(k x).rm.leq P b):(RB.opt o k).rm.leq P b:=by
 cases ho:o with
 | none=>exact fun S K hk=>hk.elim
 | some x=>exact h x ho
theorem il{dst:Option Tmp}{fid:Tgt}{l:List AV}:(iV dst fid l).rm.leq P (ij dst fid l):=by
 unfold iV ij
 refine EA fun ks=>ax fun hn=>ax fun hn2=>aC ⟨hn,hn2⟩ (qi fun pre=>mn fun pre' hp=>kw fun l' hl=>?_)
 rw[hp,hl]
 refine Be fun r post=>?_
 simp only[]
 cases hs:dL pre' post with
 | none=>exact ao _
 | some new =>
  refine tq (k:= .ok _ _) (ax fun hd=>aC hd (EB fun r' hr=>mn fun post' hp'=>?_))
  rw[hr,hp']
  exact au _
def vS(cx:Cx)(dst:Option Tmp)(f:Operand)(args:List Operand):RB :=
 bc f fun f=>match f with
  | .func (.func fid) fs cs=>fm args fun l=>match yQ fid cx.mat with
   | true=>iV dst (.fn fid) (fs++l++cs)
   | false=>match de (fs++l++cs)with
    | some l'=> .lst l' fun l'=> .call fid l' false fun r=>dJ dst r
    | none=>Cn (fs++l++cs) fun l'=> .call fid l' true fun r=>dJ dst r
  | .yld k g=>fm args fun l=> .gen k fun g'=> .ok (Nat.beq g' g) (iV dst (.yld k g) l)
  | _=> .fail
theorem vT{cx:Cx}{dst:Option Tmp}{f:Operand}{args:List Operand}:(vS cx dst f args).rm.leq P (ot cx dst f args):=by
 unfold vS ot
 refine aE fun f=>?_
 split
 ·refine cK fun l=>?_
  split
  ·rename_i hm
   rw[fy]at hm
   simp only[hm,if_true]
   exact il
  ·rename_i hm
   rw[fy]at hm
   simp only[hm,Bool.false_eq_true,if_false]
   split
   ·rename_i hl;rw[hl];exact xC fun r=>au _
   ·rename_i hl;rw[hl];exact qt fun l=>xC fun r=>au _
 ·exact cK fun l=>d9 fun c=>ax fun h=>aC (Nat.eq_of_beq_eq_true h) il
 ·exact ao _
def ir(T:Tab)(dst:Option Tmp)(t:TypeId)(x:Operand)(lo hi mx:Option Operand):RB :=
 bc x fun a=>match a with
  | .slice sz es tok=>match T.slice.get t with
   | some (_,n,_)=> .ok (jq es sz n) (match lo,hi,mx with
    | none,some h,none=>bc h fun h=>match h with
     | .v (.int _ h)=>cR (0≤h∧h≤es.length) (dJ dst (.slice sz (es.take h.toNat) (IZ tok es)))
     | _=> .fail
    | some l,none,none=>bc l fun l=>match l with
     | .v (.int _ l)=>cR (0≤l∧l≤es.length) (dJ dst (.slice sz (es.drop l.toNat) .no))
     | _=> .fail
    | some l,some h,none=>bc l fun l=>bc h fun h=>match l,h with
     | .v (.int _ l),.v (.int _ h)=>cR (0≤l∧l≤h∧h≤es.length) (dJ dst (.slice sz ((es.take h.toNat).drop l.toNat) .no))
     | _,_=> .fail
    | none,none,none=>dJ dst (.slice sz es .no)
    | some l,some h,some m=>bc l fun l=>bc h fun h=>bc m fun m=>match l,h,m with
     | .v (.int _ l),.v (.int _ h),.v (.int _ m)=>cR (0≤l∧l≤h∧h=m∧h≤es.length) (dJ dst (.slice sz ((es.take h.toNat).drop l.toNat) .tight))
     | _,_,_=> .fail
    | none,some h,some m=>bc h fun h=>bc m fun m=>match h,m with
     | .v (.int _ h),.v (.int _ m)=>cR (0≤h∧h=m∧h≤es.length) (dJ dst (.slice sz (es.take h.toNat) .tight))
     | _,_=> .fail
    | _,_,_=> .fail)
   | none=> .fail
  | .own k g sz m cap=>match T.slice.get t with
   | some (_,n,_)=> .ok (Nat.beq n sz) (match lo,hi,mx with
    | none,some h,none=>bc h fun h=>match h with
     | .v (.int _ h)=>cR (0≤h∧h≤m) (.gen k fun g'=> .ok (Nat.beq g' g) (dJ dst (.own k g sz h.toNat cap)))
     | _=> .fail
    | _,_,_=> .fail)
   | none=> .fail
  | .ptr k g sz i off=>match T.array.get t with
   | some (n,1)=>match lo,hi,mx with
    | none,none,none=> .ok (Nat.ble n 16777216) (.gen k fun g'=> .ok (Nat.beq g' g) (dJ dst (.sl k g sz i off n)))
    | _,_,_=> .fail
   | _=> .fail
  | .cptr cs=>match T.array.get t with
   | some (n,1)=>match lo,hi,mx with
    | none,none,none=> .ok (Nat.ble n 16777216) (.ok (Nat.ble n cs.length) (.lst (cs.take n) fun l=> .ok (J6 l) (dJ dst (.slice 1 l .no))))
    | _,_,_=> .fail
   | _=> .fail
  | .v (.string s)=>fm (lo.toList++hi.toList++mx.toList) fun l =>
    match lo,hi,mx,l with
    | none,some _,none,[.v u]=> .sem (Instr.sliceAt t (.string s) none (some u) none) fun r=>dJ dst (ofValue r)
    | some _,none,none,[.v u]=> .sem (Instr.sliceAt t (.string s) (some u) none none) fun r=>dJ dst (ofValue r)
    | some _,some _,none,[.v u,.v u']=> .sem (Instr.sliceAt t (.string s) (some u) (some u') none) fun r=>dJ dst (ofValue r)
    | _,_,_,_=> .fail
  | _=> .fail
theorem s9{n:Nat}(h:Nat.ble n 16777216=true):n≤maxLen:=Nat.le_trans (Nat.le_of_ble_eq_true h) (by unfold maxLen;decide)
theorem m5(hT:T.Ok P){dst:Option Tmp}{t:TypeId}{x:Operand}{lo hi mx:Option Operand}:(ir T dst t x lo hi mx).rm.leq P (d4 P dst t x lo hi mx):=by
 unfold ir d4
 refine aE fun a=>?_
 split
 ·split
  ·rename_i ht
   rw[hT.slice.get ht]
   refine ax fun h1=>aC (ll h1) ?_
   split
   ·refine aE fun h=>?_
    split
    ·exact bg fun h=>aC h (au _)
    ·exact ao _
   ·refine aE fun h=>?_
    split
    ·exact bg fun h=>aC h (au _)
    ·exact ao _
   ·refine aE fun l=>aE fun h=>?_
    split
    ·exact bg fun h=>aC h (au _)
    ·exact ao _
   ·exact au _
   ·refine aE fun l=>aE fun h=>aE fun m=>?_
    split
    ·exact bg fun h=>aC h (au _)
    ·exact ao _
   ·refine aE fun h=>aE fun m=>?_
    split
    ·exact bg fun h=>aC h (au _)
    ·exact ao _
   ·exact ao _
  ·exact ao _
 ·split
  ·rename_i n ht
   rw[hT.slice.get ht]
   refine ax fun h1=>?_
   split
   ·refine aE fun h=>?_
    split
    ·exact bg fun h=>aC ⟨Nat.eq_of_beq_eq_true h1,h.1,h.2⟩ (d9 fun g'=>ax fun h1=>aC (Nat.eq_of_beq_eq_true h1) (au _))
    ·exact ao _
   ·exact ao _
  ·exact ao _
 ·split
  ·rename_i n ht
   rw[hT.array.get ht]
   split
   ·exact ax fun h0=>aC (s9 h0) (d9 fun g'=>ax fun h1=>aC (Nat.eq_of_beq_eq_true h1) (au _))
   ·exact ao _
  ·exact ao _
 ·split
  ·rename_i n ht
   rw[hT.array.get ht]
   split
   ·exact ax fun h0=>ax fun h1=>ax fun h2=>aC ⟨s9 h0,Nat.le_of_ble_eq_true h1,h2⟩ (au _)
   ·exact ao _
  ·exact ao _
 ·refine cK fun l=>?_
  split
  ·exact kx fun r=>au _
  ·exact kx fun r=>au _
  ·exact kx fun r=>au _
  ·exact ao _
 ·exact ao _
def opB(T:Tab)(cx:Cx)(o:Oper):RB :=
 match o.op with
 | .move x | .assign x=>bc x (dJ o.dst)
 | .pick c a b=>bc c fun c=>bc a fun a=>bc b fun b=>match c with
  | .v (.bool t)=> .br t (dJ o.dst a) (dJ o.dst b)
  | _=> .fail
 | .alloc e=>rp T cx o.dst e
 | .box _ x=>bc x (xL cx o.dst)
 | .build t parts=>rt T o.dst t parts.toList
 | .buildSlice t len parts=>match o.dst with
  | some d=>match yQ d cx.ow with
   | true=>fA T cx d t len parts.toList
   | false=>gx T o.dst t len parts.toList
  | none=> .fail
 | .load t x=>kQ T t x (dJ o.dst)
 | .store t x y=>match o.dst with
  | none=>rE T t x y
  | some _=> .fail
 | .makeSlice t x y=>match o.dst with
  | some d=>match T.slice.get t with
   | some (e,n,by_)=>match T.zero.get e with
    | some (n',z)=>fk cx d n by_ n' z x y
    | none=> .fail
   | none=> .fail
  | none=> .fail
 | .nilCheck x=>BQ o.dst x
 | .binOp op t x y _=>BN T o.dst op t x y
 | .unOp op _ x=>Ie o.dst op x
 | .convert s t x=>vU T o.dst s t x
 | .makeFunc fn first captured=>jE o.dst fn first.toList captured.toList
 | .slice t x lo hi mx=>ir T o.dst t x lo hi mx
 | .fieldAddr t x f=>ry T o.dst t x f
 | .indexAddr t x ix=>im T o.dst t x ix
 | .extract x i=>lT o.dst x i
 | .makeMap _ none=>match o.dst with
  | some d=>lW cx d
  | none=> .fail
 | .lookup t x ix ok=>match T.map.get t with
  | some p=>iq p o.dst ok x ix
  | none=> .fail
 | .mapUpdate t m k v | .insert t m k v=>match o.dst with
  | none=>match T.map.get t with
   | some p=>kS p m k v
   | none=> .fail
  | some _=> .fail
 | .mapEntry t m k=>match T.map.get t with
  | some p=>kM p o.dst m k
  | none=> .fail
 | .entryStore _ m s v=>match o.dst with
  | none=>ez m s v
  | some _=> .fail
 | .index t x ix=>match T.und.get t with
  | some .str=>nn o.dst x ix
  | some _=> .fail
  | none=>match T.indexV.get t with
   | some _=>oz T o.dst t x ix
   | none=> .fail
 | .field t x f=>ov T o.dst t x f
 | .range t x=>match o.dst with
  | some d=>match T.und.get t with
   | some .str=>np cx d x
   | _=> .fail
  | none=> .fail
 | .next x true=>rC o.dst x
 | .call c=>match c.callee with
  | .builtin .len=>match c.args.toList,c.argTypes.toList with
   | [x],[t]=>BO T o.dst t x
   | _,_=> .fail
  | .builtin .cap=>match c.args.toList,c.argTypes.toList with
   | [x],[t]=>match T.slice.get t with
    | some _=>xM o.dst x
    | none=> .fail
   | _,_=> .fail
  | .builtin .append=>match c.args.toList,c.argTypes.toList with
   | [x,y],[t,t']=>match Nat.beq t t' with
    | true=>(match o.dst with
     | some d=>match yQ d cx.ow with
      | true=>(match T.slice.get t with
       | some (e,n,by_)=>match T.zero.get e with
        | some (n',_)=>kJ cx d n by_ n' x y
        | none=> .fail
       | none=> .fail)
      | false=>og T cx o.dst t x y
     | none=> .fail)
    | false=>(match o.dst with
     | some d=>match yQ d cx.ow with
      | true=>(match T.und.get t' with
       | some .str=>(match T.slice.get t with
        | some (e,n,by_)=>match T.zero.get e with
         | some (n',_)=>kI cx d e n by_ n' x y
         | none=> .fail
        | none=> .fail)
       | some (.int _)=>(match T.slice.get t with
        | some (e,n,by_)=>match T.zero.get e with
         | some (n',z)=>kH cx d n by_ n' z x y
         | none=> .fail
        | none=> .fail)
       | _=> .fail)
      | false=> .fail
     | none=> .fail)
   | _,_=> .fail
  | .builtin .copy=>match c.args.toList,c.argTypes.toList with
   | [x,y],[t,t']=> .ok (Nat.beq t t') (match T.slice.get t with
    | some (_,n,_)=>rv o.dst n x y
    | none=> .fail)
   | _,_=> .fail
  | .builtin .min=>qc false o.dst c.args.toList
  | .builtin .max=>qc true o.dst c.args.toList
  | .builtin .clear=>match c.args.toList,c.argTypes.toList with
   | [x],[t]=>match T.und.get t with
    | some .map=>nl o.dst x
    | _=> .fail
   | _,_=> .fail
  | .value f=>vS cx o.dst f c.args.toList
  | _=> .fail
 | _=> .fail
theorem Id(hT:T.Ok P){cx:Cx}{o:Oper}:(opB T cx o).rm.leq P (opA P cx o):=by
 unfold opB opA
 cases o.op with
 | move x=>exact aE fun v=>au _
 | assign x=>exact aE fun v=>au _
 | pick c a b =>
  refine aE fun c=>aE fun a=>aE fun b=>?_
  split
  ·rename_i t
   cases t<;>exact au _
  ·exact ao _
 | alloc e=>exact tw hT
 | box t x=>exact aE fun v=>p9
 | build t parts=>exact tA hT
 | buildSlice t len parts =>
  simp only
  cases hd:o.dst with
  | none=>exact ao _
  | some d =>
   simp only
   cases hm:yQ d cx.ow with
   | true =>
    rw[fy]at hm
    rw[if_pos hm]
    exact kK hT
   | false =>
    rw[fy]at hm
    rw[if_neg (by rw[hm];simp)]
    exact lS hT
 | load t x=>exact ip hT fun v=>au _
 | store t x y =>
  simp only
  split
  ·rename_i hd;rw[if_pos hd];exact tI hT
  ·exact ao _
 | makeSlice t x y =>
  cases hd:o.dst with
  | none=>exact ao _
  | some d =>
   simp only
   split
   ·rename_i ht
    rw[hT.slice.get ht]
    simp only
    split
    ·rename_i hz;rw[hT.zero.get hz];exact au _
    ·exact ao _
   ·exact ao _
 | nilCheck x=>exact yZ
 | binOp op t x y z=>exact yV hT
 | unOp op t x=>exact BR
 | convert s t x=>exact vV hT
 | makeFunc fn first captured=>exact oB
 | slice t x lo hi mx=>exact m5 hT
 | fieldAddr t x f=>exact tE hT
 | indexAddr t x ix=>exact mY hT
 | extract x i=>exact pu
 | makeMap t r =>
  cases r with
  | none =>
   simp only
   cases o.dst<;>exact au _
  | some=>exact ao _
 | lookup t x ix ok =>
  simp only
  split
  ·rename_i p hp;exact fun S K h=>⟨p,hT.map.get hp,h⟩
  ·exact ao _
 | mapUpdate t x ix y =>
  simp only
  split
  ·rename_i hd
   rw[if_pos hd]
   split
   ·rename_i p hp;exact fun S K h=>⟨p,hT.map.get hp,h⟩
   ·exact ao _
  ·exact ao _
 | insert t x ix y =>
  simp only
  split
  ·rename_i hd
   rw[if_pos hd]
   split
   ·rename_i p hp;exact fun S K h=>⟨p,hT.map.get hp,h⟩
   ·exact ao _
  ·exact ao _
 | mapEntry t x ix =>
  simp only
  split
  ·rename_i p hp;exact fun S K h=>⟨p,hT.map.get hp,h⟩
  ·exact ao _
 | entryStore t x ix y =>
  simp only
  split
  ·rename_i hd;rw[if_pos hd];exact au _
  ·exact ao _
 | index t x ix =>
  simp only
  split
  ·rename_i ht
   have h1:P.underlying t=some .string:=hT.und.get ht
   rw[h1];exact au _
  ·exact ao _
  ·split
   ·rename_i q hq
    obtain⟨len,e,hu⟩:=(hT.indexV.get hq).2
    rw[hu];exact rB hT
   ·exact ao _
 | field t x f=>exact rz hT
 | range t x =>
  simp only
  split
  ·rename_i d hd
   split
   ·rename_i ht
    have h1:P.underlying t=some .string:=hT.und.get ht
    rw[h1,hd];exact au _
   ·exact ao _
  ·exact ao _
 | next x b =>
  cases b with
  | true=>exact au _
  | false=>exact ao _
 | call c =>
  simp only
  cases c.callee with
  | builtin b =>
   cases b with
   | len =>
    simp only
    split
    ·rename_i h1 h2;rw[h1,h2];exact yX hT
    ·exact ao _
   | cap =>
    simp only
    split
    ·rename_i h1 h2;rw[h1,h2]
     simp only
     split
     ·rename_i ht
      rw[hT.slice.get ht]
      exact au _
     ·exact ao _
    ·exact ao _
   | append =>
    simp only
    split
    ·rename_i t t' h1 h2;rw[h1,h2]
     simp only
     cases h:Nat.beq t t' with
     | true =>
      simp only
      rw[if_pos (Nat.eq_of_beq_eq_true h)]
      cases hd:o.dst with
      | none=>exact ao _
      | some d =>
       simp only
       cases hm:yQ d cx.ow with
       | true =>
        rw[fy]at hm
        rw[if_pos hm]
        simp only
        split
        ·rename_i e n by_ ht
         rw[hT.slice.get ht]
         simp only
         split
         ·rename_i hz
          rw[hT.zero.get hz]
          exact au _
         ·exact ao _
        ·exact ao _
       | false =>
        rw[fy]at hm
        rw[if_neg (by rw[hm];simp)]
        exact rr hT
     | false =>
      simp only
      rw[if_neg (fun e=>by rw[e,Nat.beq_refl]at h;simp at h)]
      cases hd:o.dst with
      | none=>exact ao _
      | some d =>
       simp only
       cases hm:yQ d cx.ow with
       | true =>
        rw[fy]at hm
        rw[if_pos hm]
        simp only
        split
        ·rename_i hus
         have h1:P.underlying t'=some .string:=hT.und.get hus
         rw[h1]
         simp only
         split
         ·rename_i e n by_ ht
          rw[hT.slice.get ht]
          simp only
          split
          ·rename_i hz
           rw[hT.zero.get hz]
           exact au _
          ·exact ao _
         ·exact ao _
        ·rename_i k1 hus
         have h1:=hT.und.get hus
         simp only at h1
         rw[h1]
         simp only
         split
         ·rename_i e n by_ ht
          rw[hT.slice.get ht]
          simp only
          split
          ·rename_i hz
           rw[hT.zero.get hz]
           exact au _
          ·exact ao _
         ·exact ao _
        ·exact ao _
       | false=>exact ao _
    ·exact ao _
   | copy =>
    simp only
    split
    ·rename_i h1 h2;rw[h1,h2]
     refine ax fun h=>?_
     simp only
     rw[if_pos (Nat.eq_of_beq_eq_true h)]
     split
     ·rename_i ht;rw[hT.slice.get ht];exact au _
     ·exact ao _
    ·exact ao _
   | min=>exact au _
   | max=>exact au _
   | clear =>
    simp only
    split
    ·rename_i h1 h2;rw[h1,h2]
     split
     ·rename_i ht
      obtain⟨a,b,h1⟩:=hT.und.get ht
      simp only[h1];exact au _
     ·exact ao _
    ·exact ao _
   | _=>exact ao _
  | value f=>exact vT
  | _=>exact ao _
 | _=>exact ao _
end
end Go.Am
namespace Go.Am
open Go.RowKit
def rK:List Wr→List (Nat×AV)→List (Key×Option jr)→List (Key×Option (Nat×Nat))→(SS→Prop)→Prop
 | [],s,b,t,K=>K ⟨s,b,t⟩
 | .slot i v::ws,s,b,t,K=>rK ws ((i,v)::s) b t K
 | .box k c::ws,s,b,t,K=>rK ws s ((k,some c)::b) t K
 | .tk k c::ws,s,b,t,K=>rK ws s b ((k,some c)::t) K
theorem iW:∀(ws:List Wr) (ss:SS) (K:SS→Prop),rK ws ss.slots ss.boxes ss.toks K=K (ss.puts ws)
 | [],_,_=>rfl
 | .slot i v::ws,ss,K=>iW ws (ss.put (.slot i v)) K
 | .box k c::ws,ss,K=>iW ws (ss.put (.box k c)) K
 | .tk k c::ws,ss,K=>iW ws (ss.put (.tk k c)) K
def SS.know(ss:SS)(x:Operand)(b:Bool):SS :=
 match x,ss with
 | .tmp t,⟨s,bs,ts⟩=>⟨(t,.v (.bool b))::s,bs,ts⟩
 | _,ss=>ss
theorem Knows.know{ss:SS}{S:St}(hs:Knows ss S){x:Operand}{b:Bool}(h:S.val x = .v (.bool b)):Knows (ss.know x b) S:=by
 cases x with
 | tmp t =>
  refine⟨fun i v hv=>?_,hs.box,hs.tk⟩
  simp only[SS.know,cL]at hv
  split at hv
  ·rename_i hb
   rw[Nat.eq_of_beq_eq_true hb, ←Option.some.inj hv];exact h
  ·exact hs.slot i v hv
 | _=>exact hs
def jP(P:Program)(T:Tab)(cx:Cx)(ops:List Oper)(o:Oper)(ss:SS)(K:SS→List Loc→List Wr→Prop):Prop :=
 match o.guard with
 | none=>(opB T cx o).ev P ss (K ss)
 | some (j,want)=>match nth ops j with
  | some oj=>match oj.dst with
   | some t=>jZ (cL ss.slots t) fun v=>match v with
    | .v (.bool b)=>match want with
     | true=>brP b ((opB T cx o).ev P ss fun l ws=>K (ss.know (.tmp t) true) (.slot t::l) ws) (K (ss.know (.tmp t) false) [.slot t] (putA o.dst (.v undef)))
     | false=>brP b (K (ss.know (.tmp t) true) [.slot t] (putA o.dst (.v undef))) ((opB T cx o).ev P ss fun l ws=>K (ss.know (.tmp t) false) (.slot t::l) ws)
    | .v (.tuple _)=>K ss [.slot t] (putA o.dst (.v undef))
    | _=>False
   | none=>False
  | none=>False
def Ip(ws:List Wr)(ss:SS)(K:SS→Prop):Prop :=
 match ss with
 | ⟨s,b,t⟩=>rK ws s b t K
def KD(P:Program)(T:Tab)(cx:Cx)(ops:List Oper):List Oper→SS→(SS→Prop)→Prop
 | [],ss,K=>K ss
 | o::os,ss,K=>jP P T cx ops o ss fun ss _ ws=>Ip ws ss fun ss'=>KD P T cx ops os ss' K
def JB(P:Program)(T:Tab)(cx:Cx)(ops:List Oper):List Oper→SS→List (List Loc×List Loc)→(List (List Loc×List Loc)→SS→Prop)→Prop
 | [],ss,acc,K=>K acc ss
 | o::os,ss,acc,K=>jP P T cx ops o ss fun ss l ws=>Ip ws ss fun ss'=>JB P T cx ops os ss' (acc++[(l,ws.map Wr.loc)]) K
theorem xQ(ws:List Wr)(ss:SS)(K:SS→Prop):Ip ws ss K=K (ss.puts ws):=iW ws ss K
theorem AL{P:Program}{T:Tab}(hT:T.Ok P){cx:Cx}{o:Oper}{ss:SS}{S:St}(hs:Knows ss S){K:List Loc→List Wr→Prop}(h:(opB T cx o).ev P ss K):(opA P cx o).wp P S K :=
 Id hT _ _ (RB.ev_rm hs _ h)
theorem o6{P:Program}{T:Tab}(hT:T.Ok P){cx:Cx}{ops:Array Oper}{o:Oper}{ss:SS}{S:St}(hs:Knows ss S){K:SS→List Loc→List Wr→Prop}
  (h:jP P T cx ops.toList o ss K):dT P cx ops o S fun l ws=>∃ss',Knows ss' S∧K ss' l ws:=by
 unfold jP at h
 unfold dT
 split
 ·rename_i hg;rw[hg]at h;exact RM.wp_mono _ (fun l ws hk=>⟨ss,hs,hk⟩) (AL hT hs h)
 ·rename_i j want hg
  rw[hg]at h
  simp only[dl,Array.getElem?_toList]at h
  split at h
  ·rename_i oj hj
   rw[hj]
   simp only[Option.bind_some]
   split at h
   ·rename_i t ht
    rw[ht]
    simp only
    obtain⟨v,hl,h⟩:=bz h
    have hv:=hs.slot _ _ hl
    clear hl
    rw[hv]
    split at h
    ·rename_i b
     simp only
     cases want<;>cases b<;>simp only[brP]at h
     ·rw[if_pos rfl];exact RM.wp_mono _ (fun l ws hk=>⟨_,hs.know (x:= .tmp t) hv,hk⟩) (AL hT hs h)
     ·rw[if_neg (by simp)];exact⟨_,hs.know (x:= .tmp t) hv,h⟩
     ·rw[if_neg (by simp)];exact⟨_,hs.know (x:= .tmp t) hv,h⟩
     ·rw[if_pos rfl];exact RM.wp_mono _ (fun l ws hk=>⟨_,hs.know (x:= .tmp t) hv,hk⟩) (AL hT hs h)
    ·exact⟨_,hs,h⟩
    ·exact h.elim
   ·exact h.elim
  ·exact h.elim
def K9(Q:SS→Prop)(S:St):Prop:=∃ss,Knows ss S∧Q ss
def Bh(Q:Exit→SS→Prop)(e:Exit)(S:St):Prop:=∃ss,Knows ss S∧Q e ss
theorem qk{P:Program}{T:Tab}(hT:T.Ok P){cx:Cx}{ops:Array Oper}{K:SS→Prop}:∀(os:List Oper) {ss:SS} {S:St},Knows ss S→KD P T cx ops.toList os ss K→Cg P cx ops os S (K9 K)
 | [],ss,S,hs,h=>⟨ss,hs,h⟩
 | o::os,ss,S,hs,h=>by
  simp only[KD]at h
  simp only[Cg]
  exact d6 (fun l ws ⟨ss',hs',h'⟩=>qk hT os (hs'.puts ws) (by rwa [xQ]at h')) (o6 hT hs h)
theorem pG{P:Program}{T:Tab}(hT:T.Ok P){cx:Cx}{ops:Array Oper}{K:List (List Loc×List Loc)→SS→Prop}:∀(os:List Oper) {ss:SS} {S:St} {acc:List (List Loc×List Loc)},Knows ss S →
  JB P T cx ops.toList os ss acc K→xq P cx ops os S acc fun infos=>K9 (K infos)
 | [],ss,S,_,hs,h=>⟨ss,hs,h⟩
 | o::os,ss,S,_,hs,h=>by
  simp only[JB]at h
  simp only[xq]
  exact d6 (fun l ws ⟨ss',hs',h'⟩=>pG hT os (hs'.puts ws) (by rwa [xQ]at h')) (o6 hT hs h)
def ut(next:SS→Prop)(Q:Exit→SS→Prop):Exit→SS→Prop
 | .normal,S=>next S
 | .exit i,S=>Q (.exit i) S
 | .ret,S=>Q .ret S
 | e,S=>Q e S
def F8(id:Nat)(Q:Exit→SS→Prop):Exit→SS→Prop
 | .exit id',S=>match Nat.beq id' id with
  | true=>Q .normal S
  | false=>Q (.exit id') S
 | .normal,S=>Q .normal S
 | .ret,S=>Q .ret S
 | e,S=>Q e S
def H9(Q:Exit→SS→Prop):Exit→SS→Prop
 | .goto _,_=>False
 | .normal,S=>Q .normal S
 | .exit i,S=>Q (.exit i) S
 | .ret,S=>Q .ret S
 | e,S=>Q e S
structure LoopW (rd:Bool) (P:Program) (N:Nat) (c:Code) (Q:Exit→SS→Prop) (ss:SS):Prop where
 go:∀S,Knows ss S→WpA rd P N (.loop c) (Bh Q) S
def Lk(x:Operand)(ss:SS)(K:AV→Prop):Prop :=
 match x with
 | .tmp t=>jZ (cL ss.slots t) K
 | .const v=>K (ofValue v)
 | _=>False
def Ea(v:AV)(A B:Prop):Prop :=
 match v with
 | .v (.bool t)=>brP t A B
 | _=>False
structure DrawOk (ops:Array Oper) (infos:List (List Loc×List Loc)):Prop where
 ok:mI ops infos=true
def wR:Nat→List (Nat×AV)→List AV→(List AV→Prop)→Prop
 | 0,_,acc,K=>K acc
 | n+1,sl,acc,K=>match cL sl n with
  | some v=>wR n sl (v::acc) K
  | none=>wR n sl (.junk::acc) K
def AG(pend:Option Code)(Q:Exit→SS→Prop)(ss:SS):Prop :=
 match pend with
 | none=>Q .normal ss
 | some .ret=>Q .ret ss
 | some (.exit i)=>Q (.exit i) ss
 | some _=>False
def BG:LoopState→Bool
 | .busy=>false
 | _=>true
def iy(kl:Key)(g:Nat)(Q:Exit→SS→Prop)(ss:SS):Prop :=
 match ss with
 | ⟨s,b,t⟩=>jZ (bf b kl) fun c=>jZ c fun c=>jZ c.2 fun d=>okP (Nat.beq c.1 g) (okP (Nat.beq d.1 0) (match d.2 with
  | [.lp st pend _ _ _ _]=>okP (BG st) (AG pend Q ⟨s,(kl,some (g,none))::b,t⟩)
  | _=>False))
def B7(P:Program)(T:Tab)(N:Nat)(kl:Key)(g:Operand)(ps:Array Tmp)(as bo:Code)(Q:Exit→SS→Prop)(ss:SS):Prop :=
 match ss with
 | ⟨s,b,t⟩=>jZ (match g with | .tmp i=>cL s i|_=>none) fun v=>match v with
  | .func (.func fid) fs cs=>Ky (bf b kl) fun g0=>wR N s [] fun l =>
   (iV none (.fn fid) (fs++[.yld kl (g0+1)]++cs)).ev P ⟨s,(kl,some (g0+1,some (0,[.lp .ready none ps as bo l])))::b,t⟩ fun _ ws =>
    rK ws s ((kl,some (g0+1,some (0,[.lp .ready none ps as bo l])))::b) t fun ss2=>iy kl (g0+1) Q ss2
  | _=>False
def oN(P:Program)(T:Tab)(cx:Cx)(ops:Array Oper)(d:Bool)(Q:SS→Prop)(ss:SS):Prop :=
 match d with
 | true=>JB P T cx ops.toList ops.toList ss [] fun infos ss'=>DrawOk ops infos∧Q ss'
 | false=>KD P T cx ops.toList ops.toList ss Q
def eT(P:Program)(T:Tab)(cx:Cx)(N:Nat):Code→(Exit→SS→Prop)→SS→Prop
 | .skip,Q,ss=>Q .normal ss
 | .region id ops d,Q,ss=>match KO id cx.fz with
  | none=>oN P T cx ops d (Q .normal) ss
  | some kb=>match ss with
   | ⟨s,b,t⟩=>(un kb).ev P ⟨s,b,t⟩ fun _ ws=>rK ws s b t (oN P T cx ops d (Q .normal))
 | .seq x y,Q,ss=>eT P T cx N x (ut (eT P T cx N y Q) Q) ss
 | .cond c x y,Q,ss=>Lk c ss fun v=>Ea v (eT P T cx N x Q (ss.know c true)) (eT P T cx N y Q (ss.know c false))
 | .block i c,Q,ss=>eT P T cx N c (F8 i Q) ss
 | .loop c,Q,ss=>LoopW cx.rd P N c Q ss
 | .rangeFunc g ps as bo,Q,ss=>okP (!cx.rd) (B7 P T N (cx.loopKey ps) g ps as bo Q ss)
 | .exit i,Q,ss=>Q (.exit i) ss
 | .scope c,Q,ss=>eT P T cx N c (H9 Q) ss
 | .label _,Q,ss=>Q .normal ss
 | .goto _,_,_=>False
 | .ret,Q,ss=>Q .ret ss
 | .refuse _,_,_=>False
theorem RM.wp0_mono{P:Program}{S:St}(m:RM):∀{K K':List Wr→Prop},m.wp0 P S K→(∀ws,K ws→K' ws)→m.wp0 P S K':=by
 induction m with
 | mty k ih=>exact fun⟨ks,h⟩ hk=>⟨ks,ih _ h hk⟩
 | keys k ih=>exact fun⟨ks,h⟩ hk=>⟨ks,ih _ h hk⟩
 | callx f args pre k ih=>exact fun⟨r,post,hr,h⟩ hk=>⟨r,post,hr,ih _ _ h hk⟩
 | done ws=>exact fun h hk=>hk _ h
 | slot i k ih=>exact fun h hk=>ih _ h hk
 | box key k ih=>exact fun h hk=>ih _ h hk
 | tk key k ih=>exact fun h hk=>ih _ h hk
 | sem s k ih=>exact fun⟨r,hr,h⟩ hk=>⟨r,hr,ih _ h hk⟩
 | call f args snap k ih=>exact fun⟨r,hr,h⟩ hk=>⟨r,hr,ih _ h hk⟩
 | need p k ih=>exact fun⟨hp,h⟩ hk=>⟨hp,ih h hk⟩
 | fail=>exact fun h _=>h
theorem pB.mono{P:Program}{N:Nat}{kl:Key}{g:Operand}{ps:Array Tmp}{as bo:Code}{Q Q':Exit→St→Prop}{S:St}(h:pB P N kl g ps as bo Q S)(hq:∀e S,Q e S→Q' e S):pB P N kl g ps as bo Q' S:=by
 obtain⟨l,fid,fs,cs,h1,h2,h3⟩:=h
 refine⟨l,fid,fs,cs,h1,h2,RM.wp0_mono _ h3 fun ws h=>?_⟩
 unfold iX at h ⊢
 split at h
 ·refine⟨h.1,h.2.1,?_⟩
  have:=h.2.2
  split at this<;>first|exact hq _ _ this|exact this
 ·exact h
theorem qq:∀(n:Nat) {sl:List (Nat×AV)} {acc:List AV} {K:List AV→Prop},wR n sl acc K→∃l,K (l++acc)∧l.length=n∧∀(i:Nat) (x:AV),l[i]?=some x→x = .junk∨cL sl i=some x
 | 0,_,acc,K,h=>⟨[],h,rfl,by simp⟩
 | n+1,sl,acc,K,h=>by
  simp only[wR]at h
  have key:∀v,(v = .junk∨cL sl n=some v)→wR n sl (v::acc) K→∃l,K (l++acc)∧l.length=n+1∧∀(i:Nat) (x:AV),l[i]?=some x→x = .junk∨cL sl i=some x:=by
   intro v hv h
   obtain⟨l,h1,h2,h3⟩:=qq n h
   refine⟨l++[v],by simpa using h1,by simp[h2],fun i x hx=>?_⟩
   by_cases hi:i<l.length
   ·rw[List.getElem?_append_left hi]at hx;exact h3 i x hx
   ·rw[List.getElem?_append_right (by omega)]at hx
    by_cases hz:i-l.length=0
    ·rw[hz]at hx;simp at hx;subst hx
     rw[show i=n by omega];exact hv
    ·rw[List.getElem?_eq_none (by simp;omega)]at hx;simp at hx
  split at h
  ·rename_i v hv;exact key v (.inr hv) h
  ·exact key _ (.inl rfl) h
theorem tX{P:Program}{T:Tab}(_hT:T.Ok P){N:Nat}{kl:Key}{g:Operand}{ps:Array Tmp}{as bo:Code}{Q:Exit→SS→Prop}{ss:SS}{S:St}(hs:Knows ss S)(h:B7 P T N kl g ps as bo Q ss) :
  pB P N kl g ps as bo (Bh Q) S:=by
 obtain⟨s,b,t⟩:=ss
 unfold B7 at h
 simp only at h
 obtain⟨v,hv,h⟩:=bz h
 have hg:S.val g=v:=by
  cases g with
  | tmp i=>exact hs.slot i v hv
  | _=>simp at hv
 split at h
 ·rename_i fid fs cs
  have h:wR N s [] fun l=>(iV none (.fn fid) (fs++[.yld kl ((S.box kl).1+1)]++cs)).ev P ⟨s,(kl,some ((S.box kl).1+1,some (0,[.lp .ready none ps as bo l])))::b,t⟩ fun _ ws =>
    rK ws s ((kl,some ((S.box kl).1+1,some (0,[.lp .ready none ps as bo l])))::b) t fun ss2=>iy kl ((S.box kl).1+1) Q ss2:=by
   have hb:=hs.box kl
   unfold Ky at h
   split at h
   ·rename_i c hc;rw[hc]at hb;rw[show S.box kl=c from hb];exact h
   ·exact h _
   ·rename_i hc;rw[hc]at hb;rw[show S.box kl=(0,none)from hb];exact h
  obtain⟨l,h,hl,hlk⟩:=qq N h
  rw[List.append_nil]at h
  refine⟨l,fid,fs,cs,⟨hl,fun i x hx=>(hlk i x hx).imp id fun h=>(hs.slot i x h).symm⟩,hg,?_⟩
  have hs1:Knows ⟨s,(kl,some ((S.box kl).1+1,some (0,[.lp .ready none ps as bo l])))::b,t⟩ (oI S kl ps as bo l):=hs.put (.box kl ((S.box kl).1+1,some (0,[.lp .ready none ps as bo l])))
  have h:=RM.wp_wp0 _ (il (P:=P) _ _ (RB.ev_rm hs1 _ h))
  refine RM.wp0_mono _ h ?_
  rintro ws ⟨_,h⟩
  have h:iy kl ((S.box kl).1+1) Q (SS.puts ⟨s,(kl,some ((S.box kl).1+1,some (0,[.lp .ready none ps as bo l])))::b,t⟩ ws):=by
   have:=iW ws ⟨s,(kl,some ((S.box kl).1+1,some (0,[.lp .ready none ps as bo l])))::b,t⟩ (fun ss2=>iy kl ((S.box kl).1+1) Q ss2)
   exact this▸h
  have hs2:=hs1.puts ws
  revert h hs2
  generalize SS.puts ⟨s,(kl,some ((S.box kl).1+1,some (0,[.lp .ready none ps as bo l])))::b,t⟩ ws=ss2
  generalize (oI S kl ps as bo l).puts ws=S2
  intro h hs2
  obtain⟨s2,b2,t2⟩:=ss2
  unfold iy at h
  simp only at h
  obtain⟨c,hc,k1⟩:=bz h
  clear h
  obtain⟨c1,hc1,k2⟩:=bz k1
  clear k1
  rw[hc1]at hc
  clear hc1
  obtain⟨d,hd,k3⟩:=bz k2
  clear k2
  obtain⟨e1,k4⟩:=dE k3
  clear k3
  obtain⟨e2,k5⟩:=dE k4
  clear k4
  have hb2:S2.box kl=c1:=by have:=hs2.box kl;rw[hc]at this;exact this
  obtain⟨g1,o1⟩:=c1
  obtain⟨sz,es⟩:=d
  simp only at hd e1 e2 k5
  have e1:=Nat.eq_of_beq_eq_true e1
  have e2:=Nat.eq_of_beq_eq_true e2
  subst hd e1 e2
  split at k5
  ·rename_i st pend _ _ _ _
   obtain⟨hst,k6⟩:=dE k5
   unfold iX
   rw[hb2]
   refine⟨rfl,fun e=>by rw[e]at hst;simp[BG]at hst,?_⟩
   have hs3:=hs2.put (.box kl ((S.box kl).1+1,none))
   unfold AG at k6
   split at k6
   ·exact⟨_,hs3,k6⟩
   ·exact⟨_,hs3,k6⟩
   ·exact⟨_,hs3,k6⟩
   ·exact k6.elim
  ·exact k5.elim
 ·exact h.elim
theorem bO{P:Program}(cx:Cx){N:Nat}:∀(c:Code) {Q Q':Exit→St→Prop} {S:St},(∀e S,Q e S→Q' e S)→lC P cx N c Q S→lC P cx N c Q' S
 | .skip,_,_,_,hq,h=>hq _ _ h
 | .region _ ops d,Q,Q',S0,hq,h=>by
  obtain⟨S,ht,h⟩:=h
  refine⟨S,ht,?_⟩
  cases d with
  | true =>
   refine(?_:xq P cx ops ops.toList S [] _)
   have h:xq P cx ops ops.toList S [] _:=h
   have:∀(os:List Oper) (S:St) (acc:List (List Loc×List Loc)) {K K':List (List Loc×List Loc)→St→Prop},(∀i S,K i S→K' i S)→xq P cx ops os S acc K→xq P cx ops os S acc K':=by
    intro os
    induction os with
    | nil=>exact fun S acc K K' hk h=>hk _ _ h
    | cons o os ih=>exact fun S acc K K' hk h=>d6 (fun l ws h'=>ih _ _ hk h') h
   exact this _ _ _ (fun i S ⟨a,b⟩=>⟨a,hq _ _ b⟩) h
  | false =>
   refine(?_:Cg P cx ops ops.toList S _)
   have h:Cg P cx ops ops.toList S _:=h
   have:∀(os:List Oper) (S:St) {K K':St→Prop},(∀S,K S→K' S)→Cg P cx ops os S K→Cg P cx ops os S K':=by
    intro os
    induction os with
    | nil=>exact fun S K K' hk h=>hk _ h
    | cons o os ih=>exact fun S K K' hk h=>d6 (fun l ws h'=>ih _ hk h') h
   exact this _ _ (fun S b=>hq _ _ b) h
 | .seq x y,_,_,_,hq,h=>bO cx x (fun e S h'=>by
   cases e with
   | normal=>exact bO cx y hq h'
   | _=>exact hq _ _ h') h
 | .cond c x y,_,_,_,hq,⟨t,ht,h1,h2⟩=>⟨t,ht,fun e=>bO cx x hq (h1 e),fun e=>bO cx y hq (h2 e)⟩
 | .block i c,_,_,_,hq,h=>bO cx c (fun e S h'=>by
   cases e with
   | exit j =>
    simp only[pF]at h' ⊢
    split
    ·rename_i e;rw[if_pos e]at h';exact hq _ _ h'
    ·rename_i e;rw[if_neg e]at h';exact hq _ _ h'
   | _=>exact hq _ _ h') h
 | .loop c,_,_,_,hq,h=>WpA.mono h hq
 | .rangeFunc ..,_,_,_,hq,h=>⟨h.1,h.2.mono hq⟩
 | .exit i,_,_,_,hq,h=>hq _ _ h
 | .scope c,_,_,_,hq,h=>bO cx c (fun e S h'=>by cases e<;>first|exact hq _ _ h'|exact h') h
 | .label _,_,_,_,hq,h=>hq _ _ h
 | .goto _,_,_,_,_,h=>h
 | .ret,_,_,_,hq,h=>hq _ _ h
 | .refuse _,_,_,_,_,h=>h
theorem lb{P:Program}{T:Tab}(hT:T.Ok P){cx:Cx}{ops:Array Oper}{d:Bool}{Q:Exit→SS→Prop}{ss:SS}{S:St}(hs:Knows ss S)(h:oN P T cx ops d (Q .normal) ss) :
  if d then xq P cx ops ops.toList S [] fun infos S'=>mI ops infos=true∧Bh Q .normal S' else Cg P cx ops ops.toList S (Bh Q .normal):=by
 cases d with
 | true =>
  have h:JB P T cx ops.toList ops.toList ss [] _:=h
  refine(?_:xq P cx ops ops.toList S [] _)
  have:=pG (ops:=ops) hT ops.toList hs h
  have mono:∀(os:List Oper) (S:St) (acc:List (List Loc×List Loc)) {K K':List (List Loc×List Loc)→St→Prop},(∀i S,K i S→K' i S)→xq P cx ops os S acc K→xq P cx ops os S acc K':=by
   intro os
   induction os with
   | nil=>exact fun S acc K K' hk h=>hk _ _ h
   | cons o os ih=>exact fun S acc K K' hk h=>d6 (fun l ws h'=>ih _ _ hk h') h
  exact mono _ _ _ (fun i S' ⟨ss',h1,h2,h3⟩=>⟨h2.ok,ss',h1,h3⟩) this
 | false=>exact qk (ops:=ops) hT ops.toList hs h
theorem bC{P:Program}{T:Tab}(hT:T.Ok P)(cx:Cx){N:Nat}:∀(c:Code) {Q:Exit→SS→Prop} {ss:SS} {S:St},Knows ss S→eT P T cx N c Q ss→lC P cx N c (Bh Q) S
 | .skip,_,ss,_,hs,h=>⟨ss,hs,h⟩
 | .region id ops d,Q,ss,S,hs,h=>by
  have h:(match KO id cx.fz with
   | none=>oN P T cx ops d (Q .normal) ss
   | some kb=>match ss with
    | ⟨s,b,t⟩=>(un kb).ev P ⟨s,b,t⟩ fun _ ws=>rK ws s b t (oN P T cx ops d (Q .normal))):=h
  split at h
  ·exact⟨S,.refl S,lb hT hs h⟩
  ·obtain⟨s,b,t⟩:=ss
   obtain⟨ws,⟨_,hK⟩,ht⟩:=uo (RM.wp_wp0 _ ((un _).ev_rm hs h))
   rw[iW ws ⟨s,b,t⟩]at hK
   exact⟨_,ht,lb hT (hs.puts ws) hK⟩
 | .seq x y,Q,ss,S,hs,h=>by
  have h:eT P T cx N x (ut (eT P T cx N y Q) Q) ss:=h
  refine bO cx x (fun e S'=>?_) (bC hT cx x hs h)
  rintro⟨ss',h1,h2⟩
  cases e with
  | normal=>exact bC hT cx y h1 h2
  | _=>exact⟨ss',h1,h2⟩
 | .cond c x y,Q,ss,S,hs,h=>by
  have h:Lk c ss fun v=>Ea v (eT P T cx N x Q (ss.know c true)) (eT P T cx N y Q (ss.know c false)):=h
  have:∃v,S.val c=v∧Ea v (eT P T cx N x Q (ss.know c true)) (eT P T cx N y Q (ss.know c false)):=by
   cases c with
   | tmp t=>obtain⟨v,hv,h⟩:=bz h;exact⟨v,hs.slot _ _ hv,h⟩
   | const v=>exact⟨_,rfl,h⟩
   | _=>exact h.elim
  obtain⟨v,hv,h⟩:=this
  unfold Ea at h
  split at h
  ·rename_i t
   refine⟨t,hv,?_,?_⟩
   ·rintro rfl;exact bC hT cx x (hs.know hv) h
   ·rintro rfl;exact bC hT cx y (hs.know hv) h
  ·exact h.elim
 | .block i c,Q,ss,S,hs,h=>by
  refine bO cx c (fun e S'=>?_) (bC hT cx c hs h)
  rintro⟨ss',h1,h2⟩
  cases e with
  | exit j =>
   simp only[pF]
   simp only[F8]at h2
   split at h2
   ·rename_i e;rw[if_pos (Nat.eq_of_beq_eq_true e)];exact⟨ss',h1,h2⟩
   ·rename_i e;rw[if_neg (fun e'=>by rw[e',Nat.beq_refl]at e;simp at e)];exact⟨ss',h1,h2⟩
  | _=>exact⟨ss',h1,h2⟩
 | .loop c,Q,ss,S,hs,h=>h.go S hs
 | .rangeFunc g ps as bo,_,_,_,hs,h=>by
  obtain⟨h1,h⟩:=dE h
  exact⟨by simpa using h1,tX hT hs h⟩
 | .exit i,_,ss,_,hs,h=>⟨ss,hs,h⟩
 | .scope c,Q,ss,S,hs,h=>by
  refine bO cx c (fun e S'=>?_) (bC hT cx c hs h)
  rintro⟨ss',h1,h2⟩
  cases e with
  | goto=>exact h2.elim
  | _=>exact⟨ss',h1,h2⟩
 | .label _,_,ss,_,hs,h=>⟨ss,hs,h⟩
 | .goto _,_,_,_,_,h=>h.elim
 | .ret,_,ss,_,hs,h=>⟨ss,hs,h⟩
 | .refuse _,_,_,_,_,h=>h.elim
def iC(l:List (Nat×AV)):List (Nat×AV)→Prop
 | []=>True
 | (i,v)::l'=>jZ (cL l i) (fun u=>u=v)∧iC l l'
theorem iD{l:List (Nat×AV)}:∀{l':List (Nat×AV)},iC l l'→∀i v,cL l' i=some v→cL l i=some v
 | [],_,i,v,h=>by simp[cL]at h
 | (j,u)::l',⟨h1,h2⟩,i,v,h=>by
  obtain⟨u',e,rfl⟩:=bz h1
  simp only[cL]at h
  split at h
  ·rename_i hb
   have:=Nat.eq_of_beq_eq_true hb
   subst this
   rw[e, ←h]
  ·exact iD h2 i v h
def eY{α:Type}(k:Key):List (Key×α)→Bool
 | []=>false
 | (j,_)::l=>match Key.beq k j with
  | true=>true
  | false=>eY k l
def db{α:Type}(z:α)(l:List (Key×Option α)):List (Key×Option α)→Prop
 | []=>True
 | (k,o)::l'=>(match o with
  | none=>True
  | some c=>match bf l k with
   | some o'=>o'=some c
   | none=>c=z)∧db z l l'
def nV{α:Type}(l':List (Key×Option α)):List (Key×Option α)→Bool
 | []=>true
 | (k,_)::l=>match eY k l' with
  | true=>nV l' l
  | false=>false
structure Weaker (ss ss':SS):Prop where
 go:∀S,Knows ss S→Knows ss' S
theorem fL{α:Type}:∀{l:List (Key×Option α)} {k:Key},bf l k=none↔eY k l=false
 | [],k=>by simp[bf,eY]
 | (j,v)::l,k=>by
  simp only[bf,eY]
  cases hb:k.beq j with
  | true=>simp
  | false=>simp only[];exact fL
theorem hG{α:Type}{l':List (Key×Option α)}:∀{l:List (Key×Option α)},nV l' l=true→∀k,eY k l=true→eY k l'=true
 | [],_,k,h=>by simp[eY]at h
 | (j,v)::l,h,k,hk=>by
  simp only[nV]at h
  split at h
  ·rename_i hj
   simp only[eY]at hk
   split at hk
   ·rename_i hb;rw[Key.beq_eq.1 hb];exact hj
   ·exact hG h k hk
  ·simp at h
theorem e6{α:Type}{z:α}{l:List (Key×Option α)}:∀{l':List (Key×Option α)},db z l l'→∀k c,bf l' k=some (some c)→bf l k=some (some c)∨(bf l k=none∧c=z)
 | [],_,k,c,h=>by simp[bf]at h
 | (j,o)::l',⟨h1,h2⟩,k,c,h=>by
  simp only[bf]at h
  split at h
  ·rename_i hb
   have:=Key.beq_eq.1 hb
   subst this
   simp only[Option.some.injEq]at h
   subst h
   simp only at h1
   split at h1
   ·rename_i o' ho;left;rw[ho,h1]
   ·rename_i ho;exact .inr ⟨ho,h1⟩
  ·exact e6 h2 k c h
def uA(ss ss':SS):Prop :=
 okP (nV ss'.boxes ss.boxes) (okP (nV ss'.toks ss.toks) (iC ss.slots ss'.slots∧db (0,none) ss.boxes ss'.boxes∧db (0,0) ss.toks ss'.toks))
theorem uB{ss ss':SS}(h:uA ss ss'):Weaker ss ss':=by
 obtain⟨c1,h⟩:=dE h
 obtain⟨c2,h1,h2,h3⟩:=dE h
 refine⟨fun S hs=>⟨fun i v hv=>hs.slot i v (iD h1 i v hv),fun k=>?_,fun k=>?_⟩⟩
 ·split
  ·rename_i c hc
   have:=hs.box k
   rcases e6 h2 k c hc with h|⟨h,rfl⟩
   ·rw[h]at this;exact this
   ·rw[h]at this;exact this
  ·trivial
  ·rename_i hn
   have:=hs.box k
   have hl:bf ss.boxes k=none:=by
    rw[fL]at hn ⊢
    cases hk:eY k ss.boxes with
    | false=>rfl
    | true=>rw[hG c1 k hk]at hn;simp at hn
   rw[hl]at this;exact this
 ·split
  ·rename_i c hc
   have:=hs.tk k
   rcases e6 h3 k c hc with h|⟨h,rfl⟩
   ·rw[h]at this;exact this
   ·rw[h]at this;exact this
  ·trivial
  ·rename_i hn
   have:=hs.tk k
   have hl:bf ss.toks k=none:=by
    rw[fL]at hn ⊢
    cases hk:eY k ss.toks with
    | false=>rfl
    | true=>rw[hG c2 k hk]at hn;simp at hn
   rw[hl]at this;exact this
theorem KQ{P:Program}{T:Tab}(hT:T.Ok P)(cx:Cx){N:Nat}(hm:P.follows .mixedOrders=true){c:Code}{Q:Exit→SS→Prop}{ss:SS}{α:Type}(I:α→SS)(inv:α→Prop)(m:α→Nat)(a₀:α)(hin:eo N c=true)
  (hi₀:inv a₀) (h₀:Weaker ss (I a₀)) (round:∀a,inv a→eT P T cx N c (ut (fun ss'=>∃a',inv a'∧m a'<m a∧uA ss' (I a')) Q) (I a)):LoopW cx.rd P N c Q ss:=by
 refine⟨fun S hs=>Bm cx hm (fun n S=>∃a,m a=n∧inv a∧Knows (I a) S) (m a₀) hin ⟨a₀,rfl,hi₀,h₀.go S hs⟩ ?_⟩
 rintro n S ⟨a,rfl,hi,hk⟩
 refine bO cx c (fun e S'=>?_) (bC hT cx c hk (round a hi))
 rintro⟨ss',h1,h2⟩
 cases e with
 | normal =>
  obtain⟨a',hi',hm',hw⟩:=h2
  exact⟨m a',hm',a',rfl,hi',(uB hw).go _ h1⟩
 | _=>exact⟨ss',h1,h2⟩
def Kx(x:AV)(k:AV→RB):RB :=
 match x with
 | .agg cs=>oY cs fun l=>k (.agg l)
 | x=>E5 x k
theorem xA{P:Program}{x:AV}{k:AV→RB}{k':AV→RM}(h:∀v,(k v).rm.leq P (k' v)):(Kx x k).rm.leq P (frz x k'):=by
 cases x with
 | agg cs=>exact gE fun l=>h _
 | _=>simp only[Kx,frz];exact uj h
def Kb(T:Tab):List ResultVar→(List AV→RB)→RB
 | [],k=>k []
 | .tmp t::rs,k=> .slot t fun v=>Kx v fun v=>Kb T rs fun l=>k (v::l)
 | .cell a t::rs,k=>kQ T t (.tmp a) fun v=>Kx v fun v=>Kb T rs fun l=>k (v::l)
theorem rM{P:Program}{T:Tab}(hT:T.Ok P):∀{rs:List ResultVar} {k:List AV→RB} {k':List AV→RM},(∀v,(k v).rm.leq P (k' v))→(Kb T rs k).rm.leq P (ub P rs k')
 | [],_,_,h=>h []
 | .tmp t::rs,_,_,h=>rh fun v=>xA fun v=>rM hT fun l=>h _
 | .cell a t::rs,_,_,h=>ip (x:= .tmp a) hT fun v=>xA fun v=>rM hT fun l=>h _
structure Res (res l:AV):Prop where
 eq:res=l
noncomputable def endB(P:Program)(T:Tab)(rs:List ResultVar)(res:AV)(e:Exit)(ss:SS):Prop :=
 match e with
 | .normal | .ret=>(Kb T rs fun l=> .lst l fun l=> .need (Res res (oneOf l)) (Classical.propDecidable _) (.done [])).ev P ss fun _ _=>True
 | _=>False
def cI:Nat→List AV→List (Nat×AV)
 | _,[]=>[]
 | i,x::xs=>(i,x)::cI (i+1) xs
theorem dh:∀(xs:List AV) (k i:Nat) (v:AV),cL (cI k xs) i=some v→k≤i∧xs[i-k]?=some v
 | [],k,i,v,h=>by simp[cI,cL]at h
 | x::xs,k,i,v,h=>by
  simp only[cI,cL]at h
  split at h
  ·rename_i hb
   have:=Nat.eq_of_beq_eq_true hb
   subst this
   simpa using h
  ·rename_i hb
   have hne:i≠k:=fun e=>by rw[e,Nat.beq_refl]at hb;simp at hb
   obtain⟨h1,h2⟩:=dh xs (k+1) i v h
   refine⟨by omega,?_⟩
   rw[show i-k=(i-(k+1))+1 by omega]
   simpa using h2
theorem vJ(args:List AV):Knows ⟨cI 0 args,[],[]⟩ (mi args) where
 slot i v h:=by
  have:=(dh args 0 i v h).2
  simp only[Nat.sub_zero]at this
  simp[mi,List.getD,this]
 box k:=rfl
 tk k:=rfl
noncomputable def Jw(P:Program)(T:Tab)(cx:Cx)(fn:Func)(res:AV)(ss:SS):Prop :=
 match fn.body with
 | some c=>eT P T cx fn.ntmps c (endB P T fn.results.toList res) ss
 | none=>False
def Gg(fn:Func)(n:Nat):Bool :=
 match fn.body with
 | some c=>decide (n≤fn.ntmps)&&fn.results.toList.all (pz fn.ntmps)&&eo fn.ntmps c
 | none=>false
theorem ae{P:Program}{T:Tab}(hT:T.Ok P)(cx:Cx)(hm:P.follows .mixedOrders=true){f:FuncId}{fn:Func}{args:List AV}{res:AV}
  (hc:ak P f) (hf:P.funcs[f]?=some fn) (hok:Gg fn args.length=true)
  (h:Jw P T cx fn res ⟨cI 0 args,[],[]⟩) (hrd:cx.rd=false:=by rfl):PureA P f args res:=by
 unfold Jw at h
 unfold Gg at hok
 split at h
 ·rename_i c hb
  rw[hb]at hok
  simp only[Bool.and_eq_true,decide_eq_true_eq]at hok
  refine zv cx hm hc hf hb rfl (by rw[hok.1.2,decide_eq_true hok.1.1];rfl) hok.2 (bO cx c (fun e S'=>?_) (bC hT cx c (vJ args) h)) hrd
  rintro⟨ss',h1,h2⟩
  have key:(Kb T fn.results.toList fun l=> .lst l fun l=> .need (Res res (oneOf l)) (Classical.propDecidable _) (.done [])).ev P ss' (fun _ _=>True)→Kw P fn S' res:=by
   intro h
   have h:=RB.ev_rm h1 _ h
   have h:=rM (rs:=fn.results.toList) (k':=fun l=> .need (res=oneOf l) (.done [])) hT (fun l=>ax fun hr=>aC hr.eq (au _)) _ _ h
   have h:=RM.wp_wp0 _ h
   exact RM.wp0_mono _ h fun _ _=>trivial
  cases e with
  | normal=>exact⟨.inl rfl,key h2⟩
  | ret=>exact⟨.inr rfl,key h2⟩
  | _=>exact h2.elim
 ·exact h.elim
def Gr:AV→Bool
 | .v _=>true
 | _=>false
def plainL:List AV→Bool
 | []=>true
 | x::xs=>match Gr x with
  | true=>plainL xs
  | false=>false
theorem plainL_get:∀{l:List AV},plainL l=true→∀(i:Nat) (x:AV),l[i]?=some x→Gr x=true
 | [],_,i,x,h=>by simp at h
 | a::l,hl,i,x,h=>by
  simp only[plainL]at hl
  split at hl
  ·rename_i ha
   cases i with
   | zero=>simp at h;subst h;exact ha
   | succ i=>exact plainL_get hl i x (by simpa using h)
  ·simp at hl
end Go.Am
namespace Go.Am
open Go.RowKit
def J0(i:Nat):List Nat→Bool
 | []=>false
 | j::l=>match Nat.beq i j with
  | true=>true
  | false=>J0 i l
def A5(ws:List Nat):List (Nat×AV)→(List (Nat×AV)→Prop)→Prop
 | [],K=>K []
 | (i,v)::l,K=>match J0 i ws with
  | true=>A5 ws l K
  | false=>A5 (i::ws) l fun l'=>K ((i,v)::l')
def yJ{α:Type}(ws:List Key):List (Key×Option α)→(List (Key×Option α)→Prop)→Prop
 | [],K=>K []
 | (i,v)::l,K=>match dC i ws with
  | true=>yJ ws l K
  | false=>yJ (i::ws) l fun l'=>K ((i,v)::l')
theorem n9{i:Nat}:∀{l:List Nat},J0 i l=true↔i∈l
 | []=>by simp[J0]
 | j::l=>by
  simp only[J0]
  cases hb:Nat.beq i j with
  | true=>simp[Nat.eq_of_beq_eq_true hb]
  | false =>
   have:i≠j:=fun e=>by rw[e,Nat.beq_refl]at hb;simp at hb
   simp[n9,this]
theorem lI:∀(l:List (Nat×AV)) {ws:List Nat} {K:List (Nat×AV)→Prop},A5 ws l K→∃l',K l'∧∀i v,cL l' i=some v→i∉ws∧cL l i=some v
 | [],ws,K,h=>⟨[],h,by simp[cL]⟩
 | (j,u)::l,ws,K,h=>by
  simp only[A5]at h
  split at h
  ·rename_i hm
   obtain⟨l',hk,hl⟩:=lI l h
   refine⟨l',hk,fun i v hi=>?_⟩
   obtain⟨h1,h2⟩:=hl i v hi
   refine⟨h1,?_⟩
   have:Nat.beq i j=false:=by
    cases hb:Nat.beq i j with
    | false=>rfl
    | true=>rw[Nat.eq_of_beq_eq_true hb]at h1;exact absurd (n9.1 hm) h1
   simp[cL,this,h2]
  ·rename_i hm
   obtain⟨l',hk,hl⟩:=lI l h
   refine⟨_,hk,fun i v hi=>?_⟩
   simp only[cL]at hi ⊢
   split at hi
   ·rename_i hb
    have:=Nat.eq_of_beq_eq_true hb
    subst this
    exact⟨fun hi'=>by rw[n9.2 hi']at hm;simp at hm,hi⟩
   ·obtain⟨h1,h2⟩:=hl i v hi
    exact⟨fun hi'=>h1 (List.mem_cons_of_mem _ hi'),h2⟩
theorem iM{α:Type}:∀(l:List (Key×Option α)) {ws:List Key} {K:List (Key×Option α)→Prop},yJ ws l K →
  ∃l',K l'∧(∀i v,bf l' i=some v→i∉ws∧bf l i=some v)∧(∀i v,bf l i=some v→i∉ws→bf l' i=some v)
 | [],ws,K,h=>⟨[],h,by simp[bf],by simp[bf]⟩
 | (j,u)::l,ws,K,h=>by
  simp only[yJ]at h
  split at h
  ·rename_i hm
   obtain⟨l',hk,hl,hr⟩:=iM l h
   refine⟨l',hk,fun i v hi=>?_,fun i v hi hn=>?_⟩
   ·obtain⟨h1,h2⟩:=hl i v hi
    refine⟨h1,?_⟩
    have:i.beq j=false:=by
     cases hb:i.beq j with
     | false=>rfl
     | true=>rw[Key.beq_eq.1 hb]at h1;exact absurd (b6.1 hm) h1
    simp[bf,this,h2]
   ·simp only[bf]at hi
    split at hi
    ·rename_i hb;rw[Key.beq_eq.1 hb]at hn;exact absurd (b6.1 hm) hn
    ·exact hr i v hi hn
  ·rename_i hm
   obtain⟨l',hk,hl,hr⟩:=iM l h
   refine⟨_,hk,fun i v hi=>?_,fun i v hi hn=>?_⟩
   ·simp only[bf]at hi ⊢
    split at hi
    ·rename_i hb
     have:=Key.beq_eq.1 hb
     subst this
     exact⟨fun hi'=>by rw[b6.2 hi']at hm;simp at hm,hi⟩
    ·obtain⟨h1,h2⟩:=hl i v hi
     exact⟨fun hi'=>h1 (List.mem_cons_of_mem _ hi'),h2⟩
   ·simp only[bf]at hi ⊢
    split at hi
    ·exact hi
    ·rename_i hb
     exact hr i v hi (by
      intro hc
      rcases List.mem_cons.1 hc with e|e
      ·rw[Key.beq_eq.2 e]at hb;simp at hb
      ·exact hn e)
def AF:List Oper→List Nat
 | []=>[]
 | o::os=>match o.dst with
  | some d=>d::AF os
  | none=>AF os
def eS:List Oper→List Nat
 | []=>[]
 | o::os=>match o.op,o.dst with
  | .alloc _,some d=>d::eS os
  | .box _ _,some d=>d::eS os
  | .makeMap _ _,some d=>d::eS os
  | .makeSlice _ _ _,some d=>d::eS os
  | .range _ _,some d=>d::eS os
  | .call c,some d=>match c.callee with
   | .builtin .append=>d::eS os
   | _=>eS os
  | _,_=>eS os
def qz:List Oper→List Nat
 | []=>[]
 | o::os=>match o.op,o.dst with
  | .call c,some d=>match c.callee with
   | .builtin .append=>d::qz os
   | _=>qz os
  | _,_=>qz os
def di(f:List Oper→List Nat):Code→List Nat→List Nat
 | .region _ ops _,l=>f ops.toList++l
 | .seq x y,l=>di f x (di f y l)
 | .cond _ x y,l=>di f x (di f y l)
 | .block _ c,l | .loop c,l | .scope c,l=>di f c l
 | _,l=>l
def mM:Code→List Nat→List Nat
 | .rangeFunc _ ps _ _,l=>match ps.toList with
  | []=>9999::l
  | p::_=>(10000+p)::l
 | .seq x y,l=>mM x (mM y l)
 | .cond _ x y,l=>mM x (mM y l)
 | .block _ c,l | .loop c,l | .scope c,l=>mM c l
 | _,l=>l
def pX(cx:Cx):List Nat→List Key
 | []=>[]
 | d::ds=>cx.key d::pX cx ds
def Ez(cx:Cx):List Nat→(List Key→Prop)→Prop
 | [],K=>K []
 | d::ds,K=>Ez cx ds fun l=>K (cx.key d::l)
theorem q9(cx:Cx):∀(l:List Nat) (K:List Key→Prop),Ez cx l K=K (pX cx l)
 | [],_=>rfl
 | _::ds,_=>q9 cx ds _
def jj{α:Type}:List Key→List (Key×Option α)
 | []=>[]
 | k::ks=>(k,none)::jj ks
def Gh{α β:Type}:List (α×β)→List α
 | []=>[]
 | (a,_)::l=>a::Gh l
theorem g9{α:Type}{k:Key}:∀{a b:List (Key×α)},eY k (a++b)=(eY k a||eY k b)
 | [],b=>by simp[eY]
 | (j,v)::a,b=>by
  simp only[List.cons_append,eY]
  split<;>simp[g9]
theorem nU{α:Type}{k:Key}:∀{ks:List Key},eY k (jj (α:=α) ks)=true↔k∈ks
 | []=>by simp[jj,eY]
 | j::ks=>by
  simp only[jj,eY]
  cases hb:k.beq j with
  | true=>simp[Key.beq_eq.1 hb]
  | false =>
   have:k≠j:=fun e=>by rw[Key.beq_eq.2 e]at hb;simp at hb
   simp[nU,this]
theorem lJ{α:Type}{k:Key}:∀{l:List (Key×α)},eY k l=true↔k∈Gh l
 | []=>by simp[eY,Gh]
 | (j,v)::l=>by
  simp only[eY,Gh]
  cases hb:k.beq j with
  | true=>simp[Key.beq_eq.1 hb]
  | false =>
   have:k≠j:=fun e=>by rw[Key.beq_eq.2 e]at hb;simp at hb
   simp[lJ,this]
theorem mF:∀{a b:List (Nat×AV)} {i:Nat} {v:AV},cL (a++b) i=some v→cL a i=some v∨cL b i=some v
 | [],b,i,v,h=> .inr h
 | (j,u)::a,b,i,v,h=>by
  simp only[List.cons_append,cL]at h ⊢
  split at h
  ·exact .inl h
  ·exact mF h
theorem eb{α:Type}:∀{a b:List (Key×Option α)} {i:Key} {v:Option α},bf (a++b) i=some v→bf a i=some v∨(bf a i=none∧bf b i=some v)
 | [],b,i,v,h=> .inr ⟨rfl,h⟩
 | (j,u)::a,b,i,v,h=>by
  simp only[List.cons_append,bf]at h ⊢
  split at h
  ·exact .inl h
  ·exact eb h
theorem jA{α:Type}:∀{ks:List Key} {i:Key} {v:Option α},bf (jj (α:=α) ks) i=some v→v=none
 | [],i,v,h=>by simp[jj,bf]at h
 | k::ks,i,v,h=>by
  simp only[jj,bf]at h
  split at h
  ·exact(Option.some.inj h).symm
  ·exact jA h
def vY(ss:SS)(K:List (Nat×AV)→List (Key×Option jr)→List (Key×Option (Nat×Nat))→Prop):Prop :=
 match ss with
 | ⟨s,b,t⟩=>K s b t
theorem b7(ss:SS)(K:List (Nat×AV)→List (Key×Option jr)→List (Key×Option (Nat×Nat))→Prop):vY ss K=K ss.slots ss.boxes ss.toks:=rfl
theorem ai{l l':List (Nat×AV)}{i:Nat}{v:AV}(h:cL l i=some v)(k:iC l l'):iC l ((i,v)::l'):=⟨af h rfl,k⟩
theorem aH{α:Type}{z:α}{l l':List (Key×Option α)}{k:Key}{c:α}(h:bf l k=some (some c))(t:db z l l'):db z l ((k,some c)::l'):=by
 refine⟨?_,t⟩
 simp only[h]
theorem vH{α:Type}{z:α}{l l':List (Key×Option α)}{k:Key}(t:db z l l'):db z l ((k,none)::l'):=⟨trivial,t⟩
theorem bU{α:Type}{z:α}{l l':List (Key×Option α)}{k:Key}(h:bf l k=none)(t:db z l l'):db z l ((k,some z)::l'):=by
 refine⟨?_,t⟩
 simp only[h]
def HH(over:List (Nat×AV))(bov:List (Key×Option jr))(tov:List (Key×Option (Nat×Nat)))(bk tk:List Key)(ks:List (Nat×AV))(kb:List (Key×Option jr))(kt:List (Key×Option (Nat×Nat))):SS :=
 ⟨over++ks,bov++(jj bk++kb),tov++(jj tk++kt)⟩
theorem xv{α:Type}{bov:List (Key×Option α)}{bk ws:List Key}{l l':List (Key×Option α)}(hws:∀k,k∈ws→k∈bk∨eY k bov=true)
  (hr:∀i v,bf l i=some v→i∉ws→bf l' i=some v) {k:Key} (h:bf (bov++(jj bk++l')) k=none):bf l k=none:=by
 cases hl:bf l k with
 | none=>rfl
 | some v =>
  exfalso
  rw[fL,g9,g9]at h
  simp only[Bool.or_eq_false_iff]at h
  by_cases hw:k∈ws
  ·rcases hws k hw with h1|h1
   ·rw[nU.2 h1]at h;simp at h
   ·rw[h1]at h;simp at h
  ·have:=hr k v hl hw
   rw[fL.2 h.2.2]at this;simp at this
theorem aW{P:Program}{T:Tab}(hT:T.Ok P)(cx:Cx){N:Nat}(hm:P.follows .mixedOrders=true){c:Code}{Q:Exit→SS→Prop}{ss:SS}{α:Type}
  (over:α→List (Nat×AV)) (bov:α→List (Key×Option jr)) (tov:α→List (Key×Option (Nat×Nat))) (inv:α→Prop) (m:α→Nat) (a₀:α) (hin:eo N c=true) (hi₀:inv a₀)
  (h:vY ss fun sl bx tk=>Ez cx (di eS c (mM c [])) fun bk=>Ez cx (di qz c []) fun tkk =>
   A5 (di AF c []) sl fun ks=>yJ (Gh (bov a₀)++bk) bx fun kb=>yJ (Gh (tov a₀)++tkk) tk fun kt =>
   (iC sl (over a₀)∧db (0,none) bx (bov a₀)∧db (0,0) tk (tov a₀)) ∧
   ∀a,inv a→eT P T cx N c (ut (fun ss'=>∃a',inv a'∧m a'<m a∧uA ss' (HH (over a') (bov a') (tov a') bk tkk ks kb kt)) Q)
    (HH (over a) (bov a) (tov a) bk tkk ks kb kt)):LoopW cx.rd P N c Q ss:=by
 rw[b7]at h
 rw[q9,q9]at h
 obtain⟨ks,h,hks⟩:=lI _ h
 obtain⟨kb,h,hkb,hkb'⟩:=iM _ h
 obtain⟨kt,⟨⟨h1,h2,h3⟩,hround⟩,hkt,hkt'⟩:=iM _ h
 refine KQ hT cx hm (fun a=>HH (over a) (bov a) (tov a) (pX cx (di eS c (mM c []))) (pX cx (di qz c [])) ks kb kt) inv m a₀ hin hi₀ ⟨fun S hs=>⟨fun i v hv=>?_,fun k=>?_,fun k=>?_⟩⟩ hround
 ·rcases mF hv with h|h
  ·exact hs.slot i v (iD h1 i v h)
  ·exact hs.slot i v (hks i v h).2
 ·have hb:=hs.box k
  split
  ·rename_i c' hc
   rcases eb hc with h|⟨h,h'⟩
   ·rcases e6 h2 k c' h with h|⟨h,h'⟩
    ·rw[h]at hb;exact hb
    ·rw[h]at hb;rw[h'];exact hb
   ·rcases eb h' with h|⟨_,h⟩
    ·have:=jA h;simp at this
    ·rw[(hkb k _ h).2]at hb;exact hb
  ·trivial
  ·rename_i hn
   have:=xv (ws:=Gh (bov a₀)++pX cx (di eS c (mM c []))) (by
    intro k hk
    rcases List.mem_append.1 hk with h|h
    ·exact .inr (lJ.2 h)
    ·exact .inl h) hkb' hn
   rw[this]at hb;exact hb
 ·have hb:=hs.tk k
  split
  ·rename_i c' hc
   rcases eb hc with h|⟨h,h'⟩
   ·rcases e6 h3 k c' h with h|⟨h,h'⟩
    ·rw[h]at hb;exact hb
    ·rw[h]at hb;rw[h'];exact hb
   ·rcases eb h' with h|⟨_,h⟩
    ·have:=jA h;simp at this
    ·rw[(hkt k _ h).2]at hb;exact hb
  ·trivial
  ·rename_i hn
   have:=xv (ws:=Gh (tov a₀)++pX cx (di qz c [])) (by
    intro k hk
    rcases List.mem_append.1 hk with h|h
    ·exact .inr (lJ.2 h)
    ·exact .inl h) hkt' hn
   rw[this]at hb;exact hb
theorem Rel.reslot{N:Nat}{base:Nat→Prop}{w0:World}{S:St}{C:Ctx}{a:Act}{w:World}(hR:Rel N base w0 S C a w){i:Nat}{v:AV}(hv:i<N→KRel C v (a.tmps.getD i undef)) :
  Rel N base w0 (S.put (.slot i v)) C a w where
 cw:=hR.cw
 glob:=(by first|exact hR.glob|exact hR.globOf (by first|exact hle.le0|exact hle|exact hle0|exact hCle.le0) (by first|rfl|exact h1.cw|(rw[hC'];first|done|exact hR.cw)|exact hR.cw))
 size:=hR.size
 defers:=hR.defers
 slot j hj:=by
  simp only[St.put]
  by_cases h:j=i
  ·subst h;rw[a6];exact hv hj
  ·rw[fr _ _ h];exact hR.slot j hj
 gb:=hR.gb
 gt:=hR.gt
 hw:=hR.hw
 box:=hR.box
 ownBox:=hR.ownBox
 immLt:=hR.immLt
 ownLt:=hR.ownLt
 below:=hR.below
 base:=hR.base
theorem KRel.tight{C:Ctx}{sz n:Nat}{es:List AV}{y:Value}(h:KRel C (.slice sz es .tight) y)(hs:es≠[]→sz=n){k:Key}{g:Nat}(hg:C.gt k=g)(hw:C.hw k=es.length) :
  KRel C (.slice n es (.own k g)) y:=by
 cases h with
 | pure hp =>
  have hp:=hp.resz hs
  cases hp with
  | nil=>exact .tokNil _ _ _
  | slice ys hcap ht hm hsz hc hp' =>
   rcases ht with h|h
   ·cases h
   ·exact .tok (.slice ys hcap (.inl rfl) hm hsz hc hp') (by omega) fun _=>⟨by omega,fun _=> .inl h.2⟩
theorem Gz{rd:Bool}{P:Program}{N:Nat}{c:Code}{Q:Exit→St→Prop}{S:St}{i n sz:Nat}{es:List AV}(k:Key)(hi:S.slot i = .slice sz es .tight)(hs:es≠[]→sz=n)
  (h:WpA rd P N c Q ((S.put (.tk k ((S.tk k).1+1,es.length))).put (.slot i (.slice n es (.own k ((S.tk k).1+1)))))):WpA rd P N c Q S:=by
 intro lo hlo base w0 C a w hR
 obtain⟨C',hle,h1,h2,h3,h4,hR'⟩:=hR.newTok k es.length
 refine wpIn_mono (h lo hlo base w0 C' a w (hR'.reslot fun hN=>?_)) fun e a' w' ⟨S',C'',k1,k2,k3⟩=>⟨S',C'',k1,hle.trans k2,k3⟩
 have hv:=(hR.slot i hN).le hle
 rw[hi]at hv
 exact hv.tight hs (by rw[h1,hR.gt]) h2
theorem dX{rd:Bool}{P:Program}{N:Nat}{c:Code}{Q:Exit→SS→Prop}{ss:SS}(i n:Nat)(k:Key)
  (h:vY ss fun sl bx tk=>jZ (cL sl i) fun v=>match v with
   | .slice sz es tok=>match tok with
    | .tight=>okP (jq es sz n) (Kz (bf tk k) fun g _=>LoopW rd P N c Q ⟨(i,.slice n es (.own k (g+1)))::sl,bx,(k,some (g+1,es.length))::tk⟩)
    | _=>False
   | _=>False):LoopW rd P N c Q ss:=by
 rw[b7]at h
 obtain⟨v,hv,h⟩:=bz h
 split at h
 ·rename_i sz es tok
  split at h
  ·obtain⟨hw,h⟩:=dE h
   refine⟨fun S hs=>?_⟩
   have hg:LoopW rd P N c Q ⟨(i,.slice n es (.own k ((S.tk k).1+1)))::ss.slots,ss.boxes,(k,some ((S.tk k).1+1,es.length))::ss.toks⟩:=by
    have ht:=hs.tk k
    unfold Kz at h
    split at h
    ·rename_i c' hc;rw[hc]at ht;rw[show S.tk k=c' from ht];exact h
    ·exact h _ (S.tk k).2
    ·rename_i hc;rw[hc]at ht;rw[show S.tk k=(0,0)from ht];exact h
   exact Gz k (hs.slot i _ hv) (ll hw) (hg.go _ ((hs.put (.tk k ((S.tk k).1+1,es.length))).put (.slot i (.slice n es (.own k ((S.tk k).1+1))))))
  ·exact h.elim
 ·exact h.elim
end Go.Am
