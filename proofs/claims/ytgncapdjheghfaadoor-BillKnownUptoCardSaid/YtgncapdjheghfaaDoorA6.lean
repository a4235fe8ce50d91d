/- Part 6 of the texts that the last one stands on. -/
import Derived.Test.YtgncapdjheghfaaDoorA5
set_option linter.unusedVariables false
set_option linter.unusedSimpArgs false
namespace Go.Proofs.YtgncapdjheghfaaDoor
open Go.Am Go.Proofs Go
def zM(x:Int):Option Int→Bool
 | none=>false
 | some y=>decide (x≤y)
def po(n:Nat):Option Int→List Int→Bool
 | _,[]=>false
 | p,x::l=>(zM x p||decide ((n:Int)≤x))||po n (some x) l
def fS(p:List Int):Bool:=match p with
 | []=>false
 | x::_=>decide (x≠0)
def o6(n:Nat)(p:List Int):Bool:=(decide (n=0) != decide (p.length=0))||(fS p||po n none p)
def gi(acc:Int):Option Int→Int×Int
 | none=>(0,7)
 | some w=>(acc+w,0)
def Bill.fitsR(s:Bill)(c:List Ent)(p:List Int):Int×Int :=
 if cj s c≠0 then(0,cj s c)else if o6 c.length p=true then(0,2)else gi 0 (s.whiteI c p)
def Bill.fewR(s:Bill)(c:List Ent):Int×Int:=if cj s c≠0 then(0,cj s c)else((s.few c:Int),0)
def qr(l:List Int):Nat→Option Int
 | 0=>none
 | i+1=>l[i]?
theorem vN{n:Nat}:∀{p:List Int} {q:Option Int},po n q p=false→∀(i:Nat) x,p[i]?=some x→x<n
 | [],_,_,i,x,h=>by simp at h
 | y::l,q,hb,i,x,h=>by
  simp only[po,Bool.or_eq_false_iff,decide_eq_false_iff_not]at hb
  cases i with
  | zero=>simp at h;subst h;omega
  | succ i=>exact vN hb.2 i x (by simpa using h)
theorem q0{n:Nat}:∀{p:List Int} {q:Option Int},po n q p=false→∀(i:Nat) x y,p[i]?=some x→p[i+1]?=some y→x<y
 | [],_,_,i,x,y,h,_=>by simp at h
 | z::l,q,hb,i,x,y,h,h2=>by
  simp only[po,Bool.or_eq_false_iff]at hb
  cases i with
  | zero =>
   simp at h;subst h
   cases l with
   | nil=>simp at h2
   | cons w l =>
    simp at h2;subst h2
    have:=hb.2
    simp only[po,Bool.or_eq_false_iff,zM,decide_eq_false_iff_not]at this
    omega
  | succ i=>exact q0 hb.2 i x y (by simpa using h) (by simpa using h2)
theorem s6{n:Nat}{p:List Int}(hb:po n none p=false)(h0:fS p=false):∀(i:Nat) x,p[i]?=some x→0≤x
 | 0,x,h=>by
  cases p with
  | nil=>simp at h
  | cons y l=>simp at h;subst h;simp[fS]at h0;omega
 | i+1,x,h=>by
  have hi:i<p.length:=by have:=(List.getElem?_eq_some_iff.1 h).1;omega
  have:=s6 hb h0 i p[i] (List.getElem?_eq_getElem hi)
  have:=q0 hb i p[i] x (List.getElem?_eq_getElem hi) h
  omega
theorem rZ{s:Bill}{c:List Ent}(h:cj s c=0):s.check.2.2=0∧s.holds c=true:=by
 unfold cj at h
 by_cases hc:s.check.2.2=0
 ·rw[hc,if_neg (by simp)]at h
  by_cases hh:s.holds c=true
  ·exact⟨hc,hh⟩
  ·rw[if_neg hh]at h;omega
 ·rw[if_pos hc]at h;omega
theorem eF{s:Bill}{c:List Ent}(h:cj s c=0):s.Good∧(∀x∈c,s.OkE x)∧c.length≤6:=by
 obtain⟨h1,h2⟩:=rZ h
 have hg:=Bill.good h1
 have:=lJ hg h2
 have:=hg.len
 exact⟨hg,oB h2,by omega⟩
theorem xi(i j:Nat){a b r:Bool}(h:(a != b)=r):∀w:World,Sem.run Tryd.prog (dc BinOp.neq 4 (Operand.tmp i) (Operand.tmp j) (.bool a) (.bool b)) w = .ok (.bool r) w:=by
 intro w
 subst h
 cases a<;>cases b<;>kernel_rfl
theorem CI(s:Bill)(hr:s.small)(c:List Ent)(hl:c.length≤1048576)(p:List Int)(e:Int)(hk:cj s c=e)(h0:e≠0) :
  PureA Tryd.prog 7 [ci s,bg c,bU p] (.tuple [ak 0,ak e]):=by
 have he:=iG s hr c hl e hk h0
 refine ag ax { l:=0,f:=7,mat:=[17]} mixed m6 Tryd.func7 (by kernel_rfl) ?_
 conv=>whnf
 refine⟨[],?_⟩
 conv=>whnf
 refine⟨_,_,he,?_⟩
 conv=>whnf
 repeat(any_goals(first|exact ac|(refine ao ?_ ?_<;>intro _<;>first|exact ap|conv=>whnf)|((first|refine ae ?_|refine bi ?_ ?_|intro _)<;>conv=>whnf)))
 (refine⟨⟨?_⟩,trivial⟩;rfl)
theorem wH(s:Bill)(hr:s.small)(c:List Ent)(hl:c.length≤1048576)(p:List Int)(hp:p.length≤1048576)(hk:cj s c=0)(y:Int)(hy:y≠0)(hy0:p[0]?=some y)(hc0:0<c.length) :
  PureA Tryd.prog 7 [ci s,bg c,bU p] (.tuple [ak 0,ak 2]):=by
 have he:=dp s hr c hl hk
 unfold co at he
 have hcl:(c.map bK).length=c.length:=List.length_map ..
 have hpl:(p.map ak).length=p.length:=List.length_map ..
 have hp0:0<p.length:=(List.getElem?_eq_some_iff.1 hy0).1
 have hz':(decide (((c.map bK).length:Int)=0) != decide (((p.map ak).length:Int)=0))=false:=by
  rw[decide_eq_false (by rw[hcl];omega),decide_eq_false (by rw[hpl];omega)];rfl
 refine ag ax { l:=0,f:=7,mat:=[17]} mixed m6 Tryd.func7 (by kernel_rfl) ?_
 conv=>whnf
 refine⟨[],?_⟩
 conv=>whnf
 refine⟨_,_,he,?_⟩
 conv=>whnf
 repeat(any_goals(first|exact ac|(refine ao ?_ ?_<;>intro _<;>first|exact ap|conv=>whnf)|((first|refine⟨.bool false,xi _ _ hz',?_⟩|refine af hy0 rfl ?_|refine ae ?_|refine bi ?_ ?_|intro _)<;>conv=>whnf)))
 (refine⟨⟨?_⟩,trivial⟩;rfl)
theorem wI(s:Bill)(hr:s.small)(c:List Ent)(hl:c.length≤1048576)(p:List Int)(hp:p.length≤1048576)(hk:cj s c=0)(hz:(decide (c.length=0) != decide (p.length=0))=true) :
  PureA Tryd.prog 7 [ci s,bg c,bU p] (.tuple [ak 0,ak 2]):=by
 have he:=dp s hr c hl hk
 unfold co at he
 have hcl:(c.map bK).length=c.length:=List.length_map ..
 have hpl:(p.map ak).length=p.length:=List.length_map ..
 have hz':(decide (((c.map bK).length:Int)=0) != decide (((p.map ak).length:Int)=0))=true:=by
  rw[hcl,hpl, ←hz];congr 1<;>rw[decide_eq_decide]<;>omega
 refine ag ax { l:=0,f:=7,mat:=[17]} mixed m6 Tryd.func7 (by kernel_rfl) ?_
 conv=>whnf
 refine⟨[],?_⟩
 conv=>whnf
 refine⟨_,_,he,?_⟩
 conv=>whnf
 repeat(any_goals(first|exact ac|(refine ao ?_ ?_<;>intro _<;>first|exact ap|conv=>whnf)|((first|refine⟨.bool true,xi _ _ hz',?_⟩|refine ae ?_|refine bi ?_ ?_|intro _)<;>conv=>whnf)))
 (refine⟨⟨?_⟩,trivial⟩;rfl)
theorem zx(s:Bill)(hr:s.small)(c:List Ent)(hl:c.length≤1048576)(p:List Int)(hp:p.length≤1048576)(hk:cj s c=0)(hb:((decide (c.length=0) != decide (p.length=0))||fS p)=true) :
  PureA Tryd.prog 7 [ci s,bg c,bU p] (.tuple [ak 0,ak 2]):=by
 cases hz:(decide (c.length=0) != decide (p.length=0))with
 | true=>exact wI s hr c hl p hp hk hz
 | false =>
  rw[hz,Bool.false_or]at hb
  cases p with
  | nil=>simp[fS]at hb
  | cons y p =>
   have hy:y≠0:=by simpa[fS]using hb
   have hc0:0<c.length:=by
    rcases Nat.eq_zero_or_pos c.length with h|h
    ·rw[h]at hz;simp at hz
    ·exact h
   exact wH s hr c hl (y::p) hp hk y hy rfl hc0
set_option maxHeartbeats 2000000 in
theorem zy(s:Bill)(hr:s.small)(c:List Ent)(hl:c.length≤1048576)(p:List Int)(hp:p.length≤1048576)(hk:cj s c=0)
  (hz:(decide (c.length=0) != decide (p.length=0))=false) (hn:fS p=false) (hb:po c.length none p=true) :
  PureA Tryd.prog 7 [ci s,bg c,bU p] (.tuple [ak 0,ak 2]):=by
 have he:=dp s hr c hl hk
 unfold co at he
 have hcl:(c.map bK).length=c.length:=List.length_map ..
 have hpl:(p.map ak).length=p.length:=List.length_map ..
 have hz':(decide (((c.map bK).length:Int)=0) != decide (((p.map ak).length:Int)=0))=false:=by
  rw[hcl,hpl, ←hz];congr 1<;>rw[decide_eq_decide]<;>omega
 obtain⟨y,hy0,hyz⟩:∃y,p[0]?=some y∧y=0:=by
  cases p with
  | nil=>simp[po]at hb
  | cons y p=>exact⟨y,rfl,by simpa[fS]using hn⟩
 have hp0:0<p.length:=(List.getElem?_eq_some_iff.1 hy0).1
 refine ag ax { l:=0,f:=7,mat:=[17]} mixed m6 Tryd.func7 (by kernel_rfl) ?_
 conv=>whnf
 refine⟨[],?_⟩
 conv=>whnf
 refine⟨_,_,he,?_⟩
 conv=>whnf
 repeat(any_goals(first|exact ac|(refine ao ?_ ?_<;>intro _<;>first|exact ap|conv=>whnf)|((first|refine⟨.bool false,xi _ _ hz',?_⟩|refine af hy0 rfl ?_|refine ae ?_|refine bi ?_ ?_|intro _)<;>conv=>whnf)))
 refine bS ax { l:=0,f:=7} mixed (fun i:Nat=>[(44,ak i)]) (fun _=>[]) (fun _=>[]) (fun i=>i≤p.length∧po c.length (qr p i) (p.drop i)=true) (fun i=>p.length-i) 0 (by kernel_rfl)
  ⟨Nat.zero_le _,hb⟩ ?_
 conv=>whnf
 refine⟨⟨aj rfl trivial,trivial,trivial⟩,?_⟩
 intro i ⟨hi,H⟩
 conv=>whnf
 refine bQ (fun h1=>?_) (fun h1=>?_)
 ·simp only[List.length_map]at h1
  obtain⟨x,hx,hd⟩:=aF (l:=p) (i:=i) (by omega)
  rw[hd]at H
  simp only[po,Bool.or_eq_true]at H
  cases i with
  | zero =>
   by_cases q:(c.length:Int)≤x
   ·conv=>whnf
    repeat(any_goals(first|exact ac|(refine ao ?_ ?_<;>intro _<;>first|exact ap|conv=>whnf)|((first|refine af hx rfl ?_|refine ae ?_|refine bi ?_ ?_|intro _)<;>conv=>whnf)))
    (refine⟨⟨?_⟩,trivial⟩;rfl)
   ·have H':po c.length (qr p 1) (p.drop 1)=true:=by
     simpa[zM,qr,q,hx]using H
    conv=>whnf
    repeat(any_goals(first|exact ac|(refine ao ?_ ?_<;>intro _<;>first|exact ap|conv=>whnf)|((first|refine af hx rfl ?_|refine ae ?_|refine bi ?_ ?_|intro _)<;>conv=>whnf)))
    (refine⟨1,⟨by omega,H'⟩,by omega,?_⟩;(conv=>whnf);refine⟨?_,?_,?_⟩<;>repeat(first|exact trivial|refine sc rfl ?_|refine kn ?_|refine kc rfl ?_))
  | succ j =>
   obtain⟨z,hzz⟩:∃z,p[j]?=some z:=⟨_,List.getElem?_eq_getElem (by omega)⟩
   by_cases q1:x≤z
   ·conv=>whnf
    repeat(any_goals(first|exact ac|(refine ao ?_ ?_<;>intro _<;>first|exact ap|conv=>whnf)|((first|refine af hx rfl ?_|refine af hzz (by omega) ?_|refine ae ?_|refine bi ?_ ?_|intro _)<;>conv=>whnf)))
    (refine⟨⟨?_⟩,trivial⟩;rfl)
   ·by_cases q:(c.length:Int)≤x
    ·conv=>whnf
     repeat(any_goals(first|exact ac|(refine ao ?_ ?_<;>intro _<;>first|exact ap|conv=>whnf)|((first|refine af hx rfl ?_|refine af hzz (by omega) ?_|refine ae ?_|refine bi ?_ ?_|intro _)<;>conv=>whnf)))
     (refine⟨⟨?_⟩,trivial⟩;rfl)
    ·have H':po c.length (qr p (j+1+1)) (p.drop (j+1+1))=true:=by
      simpa[zM,qr,q,q1,hzz,hx]using H
     conv=>whnf
     repeat(any_goals(first|exact ac|(refine ao ?_ ?_<;>intro _<;>first|exact ap|conv=>whnf)|((first|refine af hx rfl ?_|refine af hzz (by omega) ?_|refine ae ?_|refine bi ?_ ?_|intro _)<;>conv=>whnf)))
     (refine⟨j+1+1,⟨by omega,H'⟩,by omega,?_⟩;(conv=>whnf);refine⟨?_,?_,?_⟩<;>repeat(first|exact trivial|refine sc rfl ?_|refine kn ?_|refine kc rfl ?_))
 ·simp only[List.length_map]at h1
  have:i=p.length:=by omega
  subst this
  rw[List.drop_length]at H
  simp[po]at H
theorem sY{s:Bill}{c:List Ent}{x:Int}{l:List Int}{m:Nat}(hm:dC c (l.map Int.toNat)=m):s.whiteI c (x::l)=if s.left c x.toNat m<0 then none else match s.whiteI c l with
  | none=>none
  | some w=>some ((if m<c.length then s.left c x.toNat m * s.left c x.toNat m else 0)+w):=by
 subst hm;rfl
theorem mL{acc a:Int}{o:Option Int}:gi acc (match o with|none=>none|some w=>some (a+w))=gi (acc+a) o:=by
 cases o with
 | none=>rfl
 | some w=>simp only[gi,Int.add_assoc]
structure FState where
 i:Nat
 acc:Int
theorem FC{x:Int}(h0:0≤x)(h:x≤30):0≤x * x∧x * x≤900:=by
 have h1:x * x≤30 * 30:=Int.mul_le_mul h h h0 (by omega)
 exact⟨Int.mul_nonneg h0 h0,h1⟩
set_option maxHeartbeats 4000000 in
theorem CJ(s:Bill)(hr:s.small)(c:List Ent)(hl:c.length≤1048576)(p:List Int)(hp:p.length≤1048576)(hk:cj s c=0)(y:Int)(hy0:p[0]?=some y)(hyz:y=0)
  (hz:(decide (c.length=0) != decide (p.length=0))=false) (hn:fS p=false) (hb:po c.length none p=false) :
  PureA Tryd.prog 7 [ci s,bg c,bU p] (.tuple [ak (gi 0 (s.whiteI c p)).1,ak (gi 0 (s.whiteI c p)).2]):=by
 have he:=dp s hr c hl hk
 obtain⟨hg,hok,h6⟩:=eF hk
 have hlf:=fun i j hij hj=>tm s hg c hok h6 i j hij hj
 have hle:=fun i j (hij:i≤j) (hj:j≤c.length)=>oE hg hok hij hj
 have hlt:=vN hb
 have hup:=q0 hb
 have hps:=s6 hb hn
 unfold co at he
 have hcl:(c.map bK).length=c.length:=List.length_map ..
 have hpl:(p.map ak).length=p.length:=List.length_map ..
 have hz':(decide (((c.map bK).length:Int)=0) != decide (((p.map ak).length:Int)=0))=false:=by
  rw[hcl,hpl, ←hz];congr 1<;>rw[decide_eq_decide]<;>omega
 have hwc:=fun x l m hm=>sY (s:=s) (c:=c) (x:=x) (l:=l) (m:=m) hm
 have hH:gi 0 (s.whiteI c p)=gi 0 (s.whiteI c (p.drop 0)):=rfl
 have hw0:s.whiteI c []=some 0:=rfl
 generalize gi 0 (s.whiteI c p)=R at *
 generalize s.whiteI c=W at *
 generalize s.left c=L at *
 clear hb hn hz hok hg
 have hp0:0<p.length:=(List.getElem?_eq_some_iff.1 hy0).1
 refine ag ax { l:=0,f:=7,mat:=[17]} mixed m6 Tryd.func7 (by kernel_rfl) ?_
 conv=>whnf
 refine⟨[],?_⟩
 conv=>whnf
 refine⟨_,_,he,?_⟩
 conv=>whnf
 repeat(any_goals(first|exact ac|(refine ao ?_ ?_<;>intro _<;>first|exact ap|conv=>whnf)|((first|refine⟨.bool false,xi _ _ hz',?_⟩|refine af hy0 rfl ?_|refine ae ?_|refine bi ?_ ?_|intro _)<;>conv=>whnf)))
 refine bS ax { l:=0,f:=7} mixed (fun i:Nat=>[(44,ak i),(6,ak 0)]) (fun _=>[]) (fun _=>[]) (fun i=>i≤p.length) (fun i=>p.length-i) 0 (by kernel_rfl)
  (Nat.zero_le _) ?_
 conv=>whnf
 refine⟨⟨aj rfl (aj rfl trivial),trivial,trivial⟩,?_⟩
 intro i hi
 conv=>whnf
 refine bQ (fun h1=>?_) (fun h1=>?_)
 ·simp only[List.length_map]at h1
  obtain⟨x,hx,hd⟩:=aF (l:=p) (i:=i) (by omega)
  have hxl:=hlt i x hx
  clear hd hwc hH hlf hle hps
  cases i with
  | zero =>
   conv=>whnf
   repeat(any_goals(first|exact ac|(refine ao ?_ ?_<;>intro _<;>first|exact ap|conv=>whnf)|((first|refine af hx rfl ?_|refine ae ?_|refine bi ?_ ?_|intro _)<;>conv=>whnf)))
   (refine⟨1,(by omega),by omega,?_⟩;(conv=>whnf);refine⟨?_,?_,?_⟩<;>repeat(first|exact trivial|refine sc rfl ?_|refine kn ?_|refine kc rfl ?_))
  | succ j =>
   obtain⟨z,hzz⟩:∃z,p[j]?=some z:=⟨_,List.getElem?_eq_getElem (by omega)⟩
   have hzx:=hup j z x hzz hx
   conv=>whnf
   repeat(any_goals(first|exact ac|(refine ao ?_ ?_<;>intro _<;>first|exact ap|conv=>whnf)|((first|refine af hx rfl ?_|refine af hzz (by omega) ?_|refine ae ?_|refine bi ?_ ?_|intro _)<;>conv=>whnf)))
   (refine⟨j+1+1,(by omega),by omega,?_⟩;(conv=>whnf);refine⟨?_,?_,?_⟩<;>repeat(first|exact trivial|refine sc rfl ?_|refine kn ?_|refine kc rfl ?_))
 ·conv=>whnf
  simp only[List.length_map]at h1
  have:i=p.length:=by omega
  subst this
  repeat(any_goals(first|exact ac|(refine ao ?_ ?_<;>intro _<;>first|exact ap|conv=>whnf)|((first|refine ae ?_|refine bi ?_ ?_|intro _)<;>conv=>whnf)))
  refine bS ax { l:=0,f:=7} mixed (fun u:FState=>[(69,ak u.i),(6,ak u.acc),(8,.ptr b6 1 5 0 0)]) (fun _=>[]) (fun _=>[]) (fun u=>u.i≤p.length∧(0≤u.acc∧u.acc≤900 * (u.i:Int))∧R=gi u.acc (W (p.drop u.i))) (fun u=>p.length-u.i) (⟨0,0⟩:FState) (by kernel_rfl)
   ⟨Nat.zero_le _,⟨by decide,by decide⟩,hH⟩ ?_
  conv=>whnf
  refine⟨⟨aj rfl (aj rfl (aj rfl trivial)),trivial,trivial⟩,?_⟩
  clear hH
  rintro u ⟨hi,⟨ha1,ha2⟩,H⟩
  generalize u.i=i at *
  generalize u.acc=acc at *
  clear u
  conv=>whnf
  refine bQ (fun h1=>?_) (fun h1=>?_)
  ·simp only[List.length_map]at h1
   obtain⟨x,hx,hd⟩:=aF (l:=p) (i:=i) (by omega)
   rw[hd]at H
   have hxl:=hlt i x hx
   have hx0:=hps i x hx
   obtain⟨n,rfl⟩:=Int.eq_ofNat_of_zero_le hx0
   by_cases hlast:i+1<p.length
   ·obtain⟨y2,hy2⟩:∃y,p[i+1]?=some y:=⟨_,List.getElem?_eq_getElem hlast⟩
    have hyl:=hlt (i+1) y2 hy2
    have hyu:=hup i _ y2 hx hy2
    obtain⟨m,rfl⟩:=Int.eq_ofNat_of_zero_le (hps (i+1) y2 hy2)
    have hem:dC c ((p.drop (i+1)).map Int.toNat)=m:=by
     obtain⟨z,hz1,hz2⟩:=aF (l:=p) (i:=i+1) hlast
     rw[hy2]at hz1;cases hz1
     rw[hz2];rfl
    rw[hwc _ _ m hem,Int.toNat_natCast,if_pos (show m<c.length by omega)]at H
    have hlf':=hlf n m (by omega) (by omega)
    have hle':=hle n m (by omega) (by omega)
    generalize L n m=x0 at *
    clear hlf hle hwc hem hd
    by_cases q:x0<0
    ·rw[if_pos q]at H
     conv=>whnf
     repeat(any_goals(first|exact ac|(refine ao ?_ ?_<;>intro _<;>first|exact ap|conv=>whnf)|((first|refine af hx rfl ?_|refine af hy2 (by omega) ?_|refine ah hlf' rfl ?_|refine ae ?_|refine bi ?_ ?_|intro _)<;>conv=>whnf)))
     (refine⟨⟨?_⟩,trivial⟩;rw[H];rfl)
    ·rw[if_neg q,mL]at H
     have hq:=FC (by omega:0≤x0) hle'
     conv=>whnf
     repeat(any_goals(first|exact ac|(refine ao ?_ ?_<;>intro _<;>first|exact ap|conv=>whnf)|((first|refine af hx rfl ?_|refine af hy2 (by omega) ?_|refine ah hlf' rfl ?_|refine ae ?_|refine bi ?_ ?_|intro _)<;>conv=>whnf)))
     all_goals(refine⟨⟨i+1,acc+x0 * x0⟩,⟨by show i+1≤_;omega,⟨by show 0≤acc+x0 * x0;omega,by show acc+x0 * x0≤900 * ((i+1:Nat):Int);omega⟩,H⟩,(by show _-(i+1)<_-i;omega),?_⟩;(conv=>whnf);refine⟨?_,?_,?_⟩<;>repeat(first|exact trivial|refine sc rfl ?_|refine kn ?_|refine kc rfl ?_))
   ·have hil:i+1=p.length:=by omega
    have hem:dC c ((p.drop (i+1)).map Int.toNat)=c.length:=by rw[hil,List.drop_length];rfl
    rw[hwc _ _ c.length hem,Int.toNat_natCast,if_neg (Nat.lt_irrefl c.length)]at H
    have hlf':PureA Tryd.prog 18 [cL s,bg c,ak n,ak ((c.map bK).length:Int)] (ak (L n c.length)):=by rw[hcl];exact hlf n c.length (by omega) (Nat.le_refl _)
    generalize L n c.length=x0 at *
    clear hlf hle hwc hem hd
    by_cases q:x0<0
    ·rw[if_pos q]at H
     conv=>whnf
     repeat(any_goals(first|exact ac|(refine ao ?_ ?_<;>intro _<;>first|exact ap|conv=>whnf)|((first|refine af hx rfl ?_|refine ah hlf' rfl ?_|refine ae ?_|refine bi ?_ ?_|intro _)<;>conv=>whnf)))
     (refine⟨⟨?_⟩,trivial⟩;rw[H];rfl)
    ·rw[if_neg q,mL,Int.add_zero]at H
     conv=>whnf
     repeat(any_goals(first|exact ac|(refine ao ?_ ?_<;>intro _<;>first|exact ap|conv=>whnf)|((first|refine af hx rfl ?_|refine ah hlf' rfl ?_|refine ae ?_|refine bi ?_ ?_|intro _)<;>conv=>whnf)))
     all_goals(refine⟨⟨i+1,acc⟩,⟨by show i+1≤_;omega,⟨ha1,by show acc≤900 * ((i+1:Nat):Int);omega⟩,H⟩,(by show _-(i+1)<_-i;omega),?_⟩;(conv=>whnf);refine⟨?_,?_,?_⟩<;>repeat(first|exact trivial|refine sc rfl ?_|refine kn ?_|refine kc rfl ?_))
  ·conv=>whnf
   simp only[List.length_map]at h1
   have:i=p.length:=by omega
   subst this
   rw[List.drop_length,hw0]at H
   simp only[gi,Int.add_zero]at H
   (refine⟨⟨?_⟩,trivial⟩;rw[H];rfl)
theorem CH(s:Bill)(hr:s.small)(hk:cj s []=0):PureA Tryd.prog 7 [ci s,bg [],bU []] (.tuple [ak 0,ak 0]):=by
 have he:=dp s hr [] (by simp) hk
 unfold co at he
 refine ag ax { l:=0,f:=7,mat:=[17]} mixed m6 Tryd.func7 (by kernel_rfl) ?_
 conv=>whnf
 refine⟨[],?_⟩
 conv=>whnf
 refine⟨_,_,he,?_⟩
 conv=>whnf
 repeat(any_goals(first|exact ac|(refine ao ?_ ?_<;>intro _<;>first|exact ap|conv=>whnf)|((first|refine⟨.bool false,xi _ _ rfl,?_⟩|refine ae ?_|refine bi ?_ ?_|intro _)<;>conv=>whnf)))
 refine bS ax { l:=0,f:=7} mixed (fun i:Nat=>[(44,ak i),(6,ak 0)]) (fun _=>[]) (fun _=>[]) (fun i=>i=0) (fun i=>i) 0 (by kernel_rfl)
  rfl ?_
 conv=>whnf
 refine⟨⟨aj rfl (aj rfl trivial),trivial,trivial⟩,?_⟩
 intro i hi
 subst hi
 conv=>whnf
 repeat(any_goals(first|exact ac|(refine ao ?_ ?_<;>intro _<;>first|exact ap|conv=>whnf)|((first|refine ae ?_|refine bi ?_ ?_|intro _)<;>conv=>whnf)))
 refine bS ax { l:=0,f:=7} mixed (fun i:Nat=>[(69,ak i),(6,ak 0),(8,.ptr b6 1 5 0 0)]) (fun _=>[]) (fun _=>[]) (fun i=>i=0) (fun i=>i) 0 (by kernel_rfl)
  rfl ?_
 conv=>whnf
 refine⟨⟨aj rfl (aj rfl (aj rfl trivial)),trivial,trivial⟩,?_⟩
 intro i hi
 subst hi
 conv=>whnf
 repeat(any_goals(first|exact ac|(refine ao ?_ ?_<;>intro _<;>first|exact ap|conv=>whnf)|((first|refine ae ?_|refine bi ?_ ?_|intro _)<;>conv=>whnf)))
 (refine⟨⟨?_⟩,trivial⟩;rfl)
theorem lE(s:Bill)(hr:s.small)(c:List Ent)(hl:c.length≤1048576)(p:List Int)(hp:p.length≤1048576) :
  PureA Tryd.prog 7 [ci s,bg c,bU p] (.tuple [ak (s.fitsR c p).1,ak (s.fitsR c p).2]):=by
 unfold Bill.fitsR
 by_cases hk:cj s c=0
 ·rw[hk,if_neg (by simp)]
  by_cases hb:((decide (c.length=0) != decide (p.length=0))||fS p)=true
  ·rw[if_pos (by unfold o6;rw[←Bool.or_assoc,hb,Bool.true_or])]
   exact zx s hr c hl p hp hk hb
  ·rw[Bool.not_eq_true,Bool.or_eq_false_iff]at hb
   obtain⟨hz,hn⟩:=hb
   unfold o6
   rw[hz,hn,Bool.false_or,Bool.false_or]
   cases hb:po c.length none p with
   | true=>exact zy s hr c hl p hp hk hz hn hb
   | false =>
    rw[if_neg (by simp)]
    cases p with
    | nil =>
     have:c=[]:=by
      cases c with
      | nil=>rfl
      | cons z c=>simp at hz
     subst this
     exact CH s hr hk
    | cons y p=>exact CJ s hr c hl (y::p) hp hk y rfl (by simpa[fS]using hn) hz hn hb
 ·rw[if_pos hk]
  exact CI s hr c hl p _ rfl hk
end Go.Proofs.YtgncapdjheghfaaDoor
namespace Go.Proofs.YtgncapdjheghfaaDoor
open Go.Am Go.Proofs Go
end Go.Proofs.YtgncapdjheghfaaDoor
namespace Go.Proofs.YtgncapdjheghfaaDoor
open Go.Am Go.Proofs Go
theorem Eu(s:Bill)(hr:s.small)(c:List Ent)(hl:c.length≤1048576)(e:Int)(hk:cj s c=e)(h0:e≠0) :
  PureA Tryd.prog 9 [ci s,bg c] (.tuple [ak 0,ak e]):=by
 have he:=iG s hr c hl e hk h0
 refine ag ax { l:=0,f:=9,mat:=[17]} mixed Bc Tryd.func9 (by kernel_rfl) ?_
 conv=>whnf
 refine⟨[],?_⟩
 conv=>whnf
 refine⟨_,_,he,?_⟩
 conv=>whnf
 repeat(any_goals(first|exact ac|(refine ao ?_ ?_<;>intro _<;>first|exact ap|conv=>whnf)|((first|refine ae ?_|refine bi ?_ ?_|intro _)<;>conv=>whnf)))
 (refine⟨⟨?_⟩,trivial⟩;rfl)
structure WState where
 at':Nat
 many:Nat
theorem rU(s:Bill)(c:List Ent)(i f j:Nat):s.fullTo c i (f+1) j=if j<c.length∧0≤s.left c i (j+1)then s.fullTo c i f (j+1)else j:=rfl
set_option maxHeartbeats 2000000 in
theorem Ev(s:Bill)(hr:s.small)(c:List Ent)(hl:c.length≤1048576)(hk:cj s c=0) :
  PureA Tryd.prog 9 [ci s,bg c] (.tuple [ak (s.few c),ak 0]):=by
 have he:=dp s hr c hl hk
 obtain⟨hg,hok,h6⟩:=eF hk
 have hlf:=fun i j hij hj=>tm s hg c hok h6 i j hij hj
 unfold co at he
 have hcl:(c.map bK).length=c.length:=List.length_map ..
 have hst:∀i,i<c.length→s.fullN c c.length i=s.fullN c c.length (s.full c i)+1:=by
  intro i hi
  have h:=jC s c (c.length-1) i hi
  rw[show c.length-1+1=c.length by omega]at h
  rw[h]
  congr 1
  have:=(lH hg hok hi).1
  exact nf hg hok _ _ _ (by omega) (by omega)
 have hfs:∀i,i<c.length→i<s.full c i∧s.full c i≤c.length:=fun i hi=>by
  have:=lH hg hok hi
  omega
 have hen:=fun i=>fL s c c.length i
 have hft:=rU s c
 have hf0:∀i j,s.fullTo c i 0 j=j:=fun _ _=>rfl
 have hfu:∀i,s.full c i=s.fullTo c i c.length (i+1):=fun _=>rfl
 have hfe:s.few c=0+s.fullN c c.length 0:=(Nat.zero_add _).symm
 generalize s.few c=R at *
 generalize s.fullN c c.length=F at *
 generalize s.fullTo c=G at *
 generalize s.full c=E at *
 generalize s.left c=L at *
 clear hg hok
 refine ag ax { l:=0,f:=9,mat:=[17]} mixed Bc Tryd.func9 (by kernel_rfl) ?_
 conv=>whnf
 refine⟨[],?_⟩
 conv=>whnf
 refine⟨_,_,he,?_⟩
 conv=>whnf
 repeat(any_goals(first|exact ac|(refine ao ?_ ?_<;>intro _<;>first|exact ap|conv=>whnf)|((first|refine ae ?_|refine bi ?_ ?_|intro _)<;>conv=>whnf)))
 refine bS ax { l:=0,f:=9} mixed (fun u:WState=>[(7,ak u.at'),(4,ak u.many),(6,.ptr b6 1 5 0 0)]) (fun _=>[]) (fun _=>[]) (fun u=>(u.at'≤c.length∧u.many≤u.at')∧R=u.many+F u.at') (fun u=>c.length-u.at') (⟨0,0⟩:WState) (by kernel_rfl)
  ⟨⟨Nat.zero_le _,Nat.le_refl _⟩,hfe⟩ ?_
 conv=>whnf
 refine⟨⟨aj rfl (aj rfl (aj rfl trivial)),trivial,trivial⟩,?_⟩
 clear hfe
 rintro u ⟨⟨hi,hm⟩,H⟩
 generalize u.at'=i at *
 generalize u.many=m at *
 clear u
 conv=>whnf
 refine bQ (fun h1=>?_) (fun h1=>?_)
 ·rw[hcl]at h1
  have hil:i<c.length:=by omega
  rw[hst i hil]at H
  obtain⟨f1,f2⟩:=hfs i hil
  conv=>whnf
  repeat(any_goals(first|exact ac|(refine ao ?_ ?_<;>intro _<;>first|exact ap|conv=>whnf)|((first|refine ae ?_|refine bi ?_ ?_|intro _)<;>conv=>whnf)))
  refine bS ax { l:=0,f:=9} mixed (fun j:Nat=>[(8,ak j),(6,.ptr b6 1 5 0 0)]) (fun _=>[]) (fun _=>[]) (fun j=>(i<j∧j≤c.length)∧∃f,c.length≤j+f∧E i=G i f j) (fun j=>c.length-j) (i+1) (by kernel_rfl)
   ⟨⟨by omega,by omega⟩,c.length,by omega,hfu i⟩ ?_
  conv=>whnf
  refine⟨⟨aj rfl (aj rfl trivial),trivial,trivial⟩,?_⟩
  rintro j ⟨⟨hij,hj⟩,f,hf,K⟩
  by_cases hjl:j<c.length
  ·obtain⟨f,rfl⟩:∃g,f=g+1:=⟨f-1,by omega⟩
   rw[hft]at K
   have hlf':PureA Tryd.prog 18 [cL s,bg c,ak i,ak ((j:Int)+1)] (ak (L i (j+1))):=by
    have:=hlf i (j+1) (by omega) (by omega)
    rwa [show(((j+1:Nat)):Int)=(j:Int)+1 by omega]at this
   generalize L i (j+1)=y at *
   clear hlf hft hf0 hfu hen hst hfs
   by_cases q:0≤y
   ·rw[if_pos ⟨hjl,q⟩]at K
    conv=>whnf
    repeat(any_goals(first|exact ac|(refine ao ?_ ?_<;>intro _<;>first|exact ap|conv=>whnf)|((first|refine ah hlf' rfl ?_|refine ae ?_|refine bi ?_ ?_|intro _)<;>conv=>whnf)))
    (refine⟨j+1,⟨⟨by omega,by omega⟩,f,by omega,K⟩,by omega,?_⟩;(conv=>whnf);refine⟨?_,?_,?_⟩<;>repeat(first|exact trivial|refine sc rfl ?_|refine kn ?_|refine kc rfl ?_))
   ·rw[if_neg (fun h=>q h.2)]at K
    subst K
    conv=>whnf
    repeat(any_goals(first|exact ac|(refine ao ?_ ?_<;>intro _<;>first|exact ap|conv=>whnf)|((first|refine ah hlf' rfl ?_|refine ae ?_|refine bi ?_ ?_|intro _)<;>conv=>whnf)))
    (refine⟨⟨E i,m+1⟩,⟨⟨by show E i≤_;omega,by show m+1≤E i;omega⟩,by rw[H];show m+(F (E i)+1)=m+1+F (E i);omega⟩,(by show _-E i<_;omega),?_⟩;(conv=>whnf);refine⟨?_,?_,?_⟩<;>repeat(first|exact trivial|refine sc rfl ?_|refine kn ?_|refine kc rfl ?_))
  ·have hjc:j=c.length:=by omega
   have K2:E i=j:=by
    cases f with
    | zero=>rw[K,hf0]
    | succ f=>rw[K,hft,if_neg (fun h=>hjl h.1)]
   obtain rfl:j=E i:=K2.symm
   clear hlf hft hf0 hfu hen hst hfs
   conv=>whnf
   repeat(any_goals(first|exact ac|(refine ao ?_ ?_<;>intro _<;>first|exact ap|conv=>whnf)|((first|refine ae ?_|refine bi ?_ ?_|intro _)<;>conv=>whnf)))
   (refine⟨⟨E i,m+1⟩,⟨⟨by show E i≤_;omega,by show m+1≤E i;omega⟩,by rw[H];show m+(F (E i)+1)=m+1+F (E i);omega⟩,(by show _-E i<_;omega),?_⟩;(conv=>whnf);refine⟨?_,?_,?_⟩<;>repeat(first|exact trivial|refine sc rfl ?_|refine kn ?_|refine kc rfl ?_))
 ·rw[hcl]at h1
  rw[hen i (by omega),Nat.add_zero]at H
  subst H
  conv=>whnf
  (refine⟨⟨?_⟩,trivial⟩;rfl)
theorem th(s:Bill)(hr:s.small)(c:List Ent)(hl:c.length≤1048576):PureA Tryd.prog 9 [ci s,bg c] (.tuple [ak (s.fewR c).1,ak (s.fewR c).2]):=by
 unfold Bill.fewR
 by_cases hk:cj s c=0
 ·rw[hk,if_neg (by simp)]
  exact Ev s hr c hl hk
 ·rw[if_pos hk]
  exact Eu s hr c hl _ rfl hk
end Go.Proofs.YtgncapdjheghfaaDoor
namespace Go.Proofs.YtgncapdjheghfaaDoor
open Go.Am Go.Proofs Go
structure Rec where
 g:Nat
 a:Code
 b:Code
 l:List AV
def Rec.box(r:Rec)(kl:Key)(ps:Array Tmp)(done:Bool):bV:=match done with
 | false=>(kl,r.g,0,[.lp .ready none ps r.a r.b r.l])
 | true=>(kl,r.g,0,[.lp .done (some .ret) ps r.a r.b r.l])
def kLb:Key:=({ l:=0,f:=22}:Cx).loopKey #[20]
def kB1:Key:=⟨0,22,1⟩
def kB2:Key:=⟨0,22,2⟩
def kB3:Key:=⟨0,22,3⟩
def kMk:Key:=⟨0,22,42⟩
def kT:Key:=⟨0,34,1⟩
def kY:Key:=⟨0,54,2⟩
def kA:Key:=⟨0,54,3⟩
def kCc:Key:=⟨0,54,4⟩
def kN:Key:=⟨0,54,5⟩
def kC:Key:=⟨0,55,63⟩
inductive CSt where
 | nil
 | own (g:Nat) (ee:List Ent) (n:Nat)
def CSt.av:CSt→AV
 | .nil=> .slice 0 [] .tight
 | .own g _ n=> .own kC g 3 n 0
def CSt.rows:CSt→List bV
 | .nil=>[]
 | .own g ee _=>[(kC,g,3,ee.map bK)]
def CSt.list:CSt→List Ent
 | .nil=>[]
 | .own _ ee n=>ee.take n
def CSt.ok(k:Nat):CSt→Prop
 | .nil=>True
 | .own _ ee n=>n≤ee.length∧n≤k
def CSt.push(x:Ent):CSt→CSt
 | .nil=> .own 1 [x] 1
 | .own g ee n=> .own (g+1) (ee.take n++[x]) (n+1)
def CSt.pop:CSt→CSt
 | .nil=> .nil
 | .own g ee n=> .own g ee (n-1)
structure NSt where
 c:CSt
 G:Nat
 o:Option (List Ent×Int)
def D9(G:Nat):Option (List Ent×Int)→AV
 | none=> .slice 0 [] .tight
 | some (b,_)=> .own kMk G 3 b.length 0
def leastOf:Option (List Ent×Int)→Int
 | none=> -1
 | some (_,n)=>n
def xg(G:Nat):Option (List Ent×Int)→List bV
 | none=>[]
 | some (b,_)=>[(kMk,G,3,b.map bK)]
def CT:AV:= .func (.func 55) [] [.ptr kY 1 1 0 0,.ptr kCc 1 1 0 0,.ptr kN 1 1 0 0,.ptr kA 1 6 0 0,.ptr kT 1 1 0 0]
def um(s:Bill)(r:Rec)(t:NSt):List bV :=
 [r.box kLb #[20] false,(kB1,1,3,[ci s]),(kB2,1,1,[D9 t.G t.o]),(kB3,1,1,[ak (leastOf t.o)]),co s,(kT,1,1,[.ptr b6 1 5 0 0])]
def dA(s:Bill)(r:Rec)(t:NSt):List bV:=um s r t++(t.c.rows++xg t.G t.o)
def aQ(s:Bill)(r:Rec)(t:NSt):List bV :=
 um s r t++((kY,1,1,[.yld kLb r.g])::(kA,1,6,[.agg fb])::(kCc,1,1,[t.c.av])::(kN,1,1,[CT])::(t.c.rows++xg t.G t.o))
def im(o:Option (List Ent×Int))(c:List Ent):Option (List Ent×Int):=match o with
 | none=>some (c,(di c:Int))
 | some (b,n)=>if(di c:Int)<n then some (c,(di c:Int))else some (b,n)
def zL(o:Option (List Ent×Int))(c:List Ent):Bool:=match o with
 | none=>true
 | some (_,n)=>decide ((di c:Int)<n)
def NSt.yieldM(t:NSt):NSt:=⟨t.c,if zL t.o t.c.list=true then t.G+1 else t.G,im t.o t.c.list⟩
def Bill.nextM(s:Bill):Nat→Nat→Nat→NSt→NSt
 | 0,_,_,t=>t.yieldM
 | f+1,a,left,t=>if left=0 then t.yieldM else if left.testBit a=false then s.nextM f (a+1) left t
  else(s.tries a).foldl (fun t x=>if s.fitsIn left x=true then(let u:=s.nextM f (a+1) (aV left x.named) ⟨t.c.push x,t.G,t.o⟩;⟨u.c.pop,u.G,u.o⟩)else t) t
def Bill.takeM(s:Bill)(f a left:Nat)(t:NSt)(x:Ent):NSt :=
 if s.fitsIn left x=true then(let u:=s.nextM f (a+1) (aV left x.named) ⟨t.c.push x,t.G,t.o⟩;⟨u.c.pop,u.G,u.o⟩)else t
theorem eJ(s:Bill)(f a left:Nat)(t:NSt):s.nextM (f+1) a left t=if left=0 then t.yieldM else if left.testBit a=false then s.nextM f (a+1) left t else(s.tries a).foldl (s.takeM f a left) t:=rfl
theorem Dc{c:CSt}{k:Nat}(x:Ent)(h:c.ok k):∃g ee n,c.push x = .own g ee (n+1)∧n+1≤ee.length∧n≤k∧ee.take (n+1)=c.list++[x]:=by
 cases c with
 | nil=>exact⟨1,[x],0,rfl,by simp,Nat.zero_le _,rfl⟩
 | own g ee n =>
  obtain⟨h1,h2⟩:=h
  have hl:(ee.take n).length=n:=by rw[List.length_take];omega
  exact⟨g+1,ee.take n++[x],n,rfl,by simp;omega,h2,by rw[List.take_of_length_le (by simp;omega)];rfl⟩
theorem tH{n:Nat}{F:NSt→Ent→NSt}(h:∀t x,(∃g ee,t.c = .own g ee n∧n≤ee.length)→∃g ee,(F t x).c = .own g ee n∧n≤ee.length∧(F t x).c.list=t.c.list) :
  ∀(l:List Ent) (t:NSt),(∃g ee,t.c = .own g ee n∧n≤ee.length)→∃g ee,(l.foldl F t).c = .own g ee n∧n≤ee.length∧(l.foldl F t).c.list=t.c.list
 | [],t,⟨g,ee,e,hn⟩=>⟨g,ee,e,hn,rfl⟩
 | x::l,t,ht=>by
  obtain⟨g,ee,e,hn,he⟩:=h t x ht
  obtain⟨g2,ee2,e2,hn2,he2⟩:=tH h l (F t x) ⟨g,ee,e,hn⟩
  exact⟨g2,ee2,e2,hn2,he2.trans he⟩
theorem cZ(s:Bill):∀(f a left n:Nat) (t:NSt),(∃g ee,t.c = .own g ee n∧n≤ee.length)→∃g ee,(s.nextM f a left t).c = .own g ee n∧n≤ee.length∧(s.nextM f a left t).c.list=t.c.list
 | 0,_,_,n,t,⟨g,ee,e,hn⟩=>⟨g,ee,e,hn,rfl⟩
 | f+1,a,left,n,t,ht=>by
  obtain⟨g,ee,e,hn⟩:=id ht
  rw[eJ]
  split
  ·exact⟨g,ee,e,hn,rfl⟩
  ·split
   ·exact cZ s f _ _ n t ht
   ·refine tH ?_ _ t ht
    rintro t x ⟨g,ee,e,hn⟩
    unfold Bill.takeM
    split
    ·have hl:(ee.take n).length=n:=by rw[List.length_take];omega
     obtain⟨g2,ee2,e2,hn2,he2⟩:=cZ s f (a+1) (aV left x.named) (n+1) ⟨t.c.push x,t.G,t.o⟩ ⟨g+1,ee.take n++[x],by rw[e];rfl,by simp;omega⟩
     refine⟨g2,ee2,by simp only[e2];rfl,by omega,?_⟩
     rw[e2,e]at he2
     simp only[CSt.list,CSt.push]at he2
     rw[List.take_of_length_le (show(ee.take n++[x]).length≤n+1 by simp;omega)]at he2
     have h3:=congrArg (List.take n) he2
     rw[List.take_take,Nat.min_eq_left (by omega),List.take_append_of_le_length (by omega),List.take_take,Nat.min_self]at h3
     show(s.nextM f (a+1) (aV left x.named) ⟨t.c.push x,t.G,t.o⟩).c.pop.list=t.c.list
     rw[e2,e]
     show ee2.take (n+1-1)=ee.take n
     rw[Nat.add_sub_cancel]
     exact h3
    ·exact⟨g,ee,e,hn,rfl⟩
theorem dB:∀(l m:List (List Ent)) (o:Option (List Ent×Int)),cC o (l++m)=cC (cC o l) m
 | [],m,o=>by cases o<;>rfl
 | c::l,m,none=>dB l m _
 | c::l,m,some (b,n)=>by
  show(if _ then _ else _)=cC (if _ then _ else _) m
  split
  ·exact dB l m _
  ·exact dB l m _
theorem m4(o:Option (List Ent×Int))(c:List Ent):cC o [c]=im o c:=by
 cases o with
 | none=>rfl
 | some q=>obtain⟨b,n⟩:=q;show(if _ then _ else _)=if _ then _ else _;split<;>rfl
theorem tU(o:Option (List Ent×Int)):cC o []=o:=by cases o<;>rfl
theorem jJ(s:Bill):∀(f a left k:Nat) (t:NSt),t.c.ok k→(f=0→left=0)→(∀f',f'<f→True)→(6≤a+f∧tO a left∧left<64) →
  (s.nextM f a left t).o=cC t.o ((s.catsN f a left).map (t.c.list++ ·))∧(s.nextM f a left t).c.list=t.c.list
 | 0,a,left,k,t,_,h0,_,_=>by
  have:s.catsN 0 a left=[[]]:=by show(if left=0 then _ else _)=_;rw[if_pos (h0 rfl)]
  rw[this]
  refine⟨?_,rfl⟩
  show im t.o t.c.list=cC t.o [t.c.list++[]]
  rw[List.append_nil,m4]
 | f+1,a,left,k,t,hk,_,_,⟨h6,hF,hlt⟩=>by
  rw[eJ]
  show _=cC t.o ((if left=0 then [[]]else if left.testBit a=false then s.catsN f (a+1) left
   else((s.tries a).filter (s.fitsIn left)).flatMap fun x=>(s.catsN f (a+1) (aV left x.named)).map (x:: ·)).map (t.c.list++ ·))∧_
  split
  ·refine⟨?_,rfl⟩
   show im t.o t.c.list=cC t.o [t.c.list++[]]
   rw[List.append_nil,m4]
  ·split
   ·rename_i hne hb
    have hF':=hF.next hb
    refine jJ s f (a+1) left k t hk (fun hf=>?_) (fun _ _=>trivial) ⟨by omega,hF',hlt⟩
    exact hF'.zero hlt (by omega)
   ·rename_i hne hb
    have key:∀(l:List Ent) (t:NSt),t.c.ok k→(∀x∈l,x.a=a∧0≤x.b) →
      (l.foldl (s.takeM f a left) t).o=cC t.o (((l.filter (s.fitsIn left)).flatMap fun x=>(s.catsN f (a+1) (aV left x.named)).map (x:: ·)).map (t.c.list++ ·))∧(l.foldl (s.takeM f a left) t).c.list=t.c.list:=by
     intro l
     induction l with
     | nil=>intro t _ _;exact⟨(tU _).symm,rfl⟩
     | cons x l ih =>
      intro t ht hx
      rw[List.foldl_cons]
      by_cases hf:s.fitsIn left x=true
      ·obtain⟨g,ee,n,hp,hn,hnk,he⟩:=Dc x ht
       have hFm:tO (a+1) (aV left x.named):=fun i hi=>by
        rw[cF _ _ _ hlt,Bool.and_eq_true]at hi
        have h1:=hF i hi.1
        rcases Nat.lt_or_ge a i with h|h
        ·exact h
        ·have:i=a:=by omega
         subst this
         have h2:x.named.testBit i=true:=by
          rw[b9,decide_eq_true_eq]
          have:=(hx x (List.mem_cons_self ..)).1
          omega
         rw[h2]at hi;simp at hi
       have hlm:aV left x.named<64:=iT hlt
       obtain⟨s1,s2⟩:=jJ s f (a+1) (aV left x.named) (k+1) ⟨t.c.push x,t.G,t.o⟩ (by rw[hp];exact⟨hn,by omega⟩) (fun hf=>hFm.zero hlm (by omega)) (fun _ _=>trivial) ⟨by omega,hFm,hlm⟩
       obtain⟨g2,ee2,e2,hn2,he2⟩:=cZ s f (a+1) (aV left x.named) (n+1) ⟨t.c.push x,t.G,t.o⟩ ⟨g,ee,hp,hn⟩
       have hu:s.takeM f a left t x=⟨(s.nextM f (a+1) (aV left x.named) ⟨t.c.push x,t.G,t.o⟩).c.pop,(s.nextM f (a+1) (aV left x.named) ⟨t.c.push x,t.G,t.o⟩).G,(s.nextM f (a+1) (aV left x.named) ⟨t.c.push x,t.G,t.o⟩).o⟩:=by
        unfold Bill.takeM;rw[if_pos hf]
       have hlist:(s.takeM f a left t x).c.list=t.c.list:=by
        rw[hu]
        simp only
        have h3:ee2.take (n+1)=t.c.list++[x]:=by
         have:=he2
         rw[e2]at this
         simp only at this
         rw[hp]at this
         exact this.trans he
        rw[e2]
        show ee2.take (n+1-1)=_
        have h5:t.c.list.length=n:=by
         have:=congrArg List.length h3
         simp at this;omega
        have h4:ee2.take n=t.c.list:=by
         have:=congrArg (List.take n) h3
         rw[List.take_take,show min n (n+1)=n by omega]at this
         rw[this,List.take_append_of_le_length (by omega)]
         exact List.take_of_length_le (by omega)
        rw[Nat.add_sub_cancel]
        exact h4
       have hok':(s.takeM f a left t x).c.ok k:=by
        rw[hu]
        simp only
        rw[e2]
        exact⟨by omega,by omega⟩
       obtain⟨i1,i2⟩:=ih (s.takeM f a left t x) hok' (fun y hy=>hx y (List.mem_cons_of_mem _ hy))
       refine⟨?_,i2.trans hlist⟩
       rw[i1,hlist,List.filter_cons_of_pos hf,List.flatMap_cons,List.map_append,dB]
       congr 1
       rw[hu]
       simp only
       rw[s1]
       have hpl:(t.c.push x).list=t.c.list++[x]:=by rw[hp];exact he
       simp only[hpl,List.map_map]
       congr 1
       apply List.map_congr_left
       intro d _
       simp
      ·have hu:s.takeM f a left t x=t:=by unfold Bill.takeM;rw[if_neg hf]
       rw[hu,List.filter_cons_of_neg hf]
       exact ih t ht (fun y hy=>hx y (List.mem_cons_of_mem _ hy))
    exact key (s.tries a) t hk fun x hx=>by
     obtain⟨_,h2,h3,_⟩:=d9.1 hx
     exact⟨h2,h3⟩
end Go.Proofs.YtgncapdjheghfaaDoor
namespace Go.Proofs.YtgncapdjheghfaaDoor
open Go.Am Go.Proofs Go
theorem ye{α:Type}{f:α→AV}{g:AV→Option AV}(h:∀a,g (f a)=some (f a)):∀l:List α,tkL g (l.map f)=some (l.map f)
 | []=>rfl
 | x::xs=>by simp only[List.map_cons,tkL,h,ye h xs]
theorem ay(ks:List Key)(l:List Ent):tkL (tk2 ks) (l.map bK)=some (l.map bK):=ye (f:=bK) (g:=tk2 ks) (fun _=>rfl) l
theorem yf(ks:List Key)(ee:List Ent)(n:Nat)(x:Ent):tkL (tk2 ks) ((ee.map bK).take n++[bK x])=some ((ee.take n++[x]).map bK):=by
 have:=ay ks (ee.take n++[x])
 rw[List.map_append,List.map_take]at this
 rw[List.map_append,List.map_take]
 exact this
theorem ir(t:NSt):∃q,t.yieldM.o=some q:=by
 show∃q,im t.o t.c.list=some q
 unfold im
 split
 ·exact⟨_,rfl⟩
 ·split<;>exact⟨_,rfl⟩
set_option maxHeartbeats 4000000 in
theorem xj(s:Bill)(r:Rec)(a:Nat)(st:NSt)(hl:∀t,eP (aB (dA s r t)) r.l=r.l)
  (hy:BoxA Tryd.prog (.yld kLb r.g) (dA s r st) [st.c.av] (aH true) (dA s r st.yieldM)) :
  BoxA Tryd.prog (.fn 55) (aQ s r st) [ak a,ak 0,.ptr kY 1 1 0 0,.ptr kCc 1 1 0 0,.ptr kN 1 1 0 0,.ptr kA 1 6 0 0,.ptr kT 1 1 0 0] (aH true) (aQ s r st.yieldM):=by
 have hl2:=hl st.yieldM
 have hl:=hl st
 obtain⟨rg,ra,rb,rl⟩:=r
 have hyy:BoxA Tryd.prog (.yld kLb rg) (dA s ⟨rg,ra,rb,eP (aB (dA s ⟨rg,ra,rb,rl⟩ st)) rl⟩ st) [st.c.av] (aH true) (dA s ⟨rg,ra,rb,rl⟩ st.yieldM):=by
  rw[hl];exact hy
 have hc:st.yieldM.c=st.c:=rfl
 obtain⟨q,hq⟩:=ir st
 generalize st.yieldM=st2 at *
 obtain⟨c,G,o⟩:=st
 obtain⟨c2,G2,o2⟩:=st2
 simp only at hc hq
 subst hc hq
 clear hy
 cases c2 with
 | nil =>
  cases o with
  | none =>
   refine aD ax { l:=0,f:=55} mixed fD Tryd.func55 (by kernel_rfl) ?_
   conv=>whnf
   repeat(any_goals(first|exact ac|(refine ao ?_ ?_<;>intro _<;>first|exact ap|conv=>whnf)|((first|refine ae ?_|refine bi ?_ ?_|intro _)<;>conv=>whnf)))
   refine⟨aB (dA s ⟨rg,ra,rb,rl⟩ ⟨.nil,G,none⟩),?_⟩
   conv=>whnf
   refine⟨_,_,hyy,?_⟩
   conv=>whnf
   refine ab (ay _ q.1) ?_
   conv=>whnf
   repeat(any_goals(first|exact ac|(refine ao ?_ ?_<;>intro _<;>first|exact ap|conv=>whnf)|((first|refine ae ?_|refine bi ?_ ?_|intro _)<;>conv=>whnf)))
   refine And.intro ?_ ?_
   ·conv=>whnf
    exact⟨⟨rfl⟩,trivial⟩
   ·rw[bH]
    refine kc ?_ ?_
    ·exact(congrArg (fun z=>some (some (rg,some (0,[AV.lp .ready none #[20] ra rb z])))) hl2)
    ·repeat(first|exact trivial|refine kc rfl ?_)
  | some w =>
   refine aD ax { l:=0,f:=55} mixed fD Tryd.func55 (by kernel_rfl) ?_
   conv=>whnf
   repeat(any_goals(first|exact ac|(refine ao ?_ ?_<;>intro _<;>first|exact ap|conv=>whnf)|((first|refine ae ?_|refine bi ?_ ?_|intro _)<;>conv=>whnf)))
   refine⟨aB (dA s ⟨rg,ra,rb,rl⟩ ⟨.nil,G,some w⟩),?_⟩
   conv=>whnf
   refine ab (ay _ w.1) ?_
   conv=>whnf
   refine⟨_,_,hyy,?_⟩
   conv=>whnf
   refine ab (ay _ q.1) ?_
   conv=>whnf
   repeat(any_goals(first|exact ac|(refine ao ?_ ?_<;>intro _<;>first|exact ap|conv=>whnf)|((first|refine ae ?_|refine bi ?_ ?_|intro _)<;>conv=>whnf)))
   refine And.intro ?_ ?_
   ·conv=>whnf
    exact⟨⟨rfl⟩,trivial⟩
   ·rw[bH]
    refine kc ?_ ?_
    ·exact(congrArg (fun z=>some (some (rg,some (0,[AV.lp .ready none #[20] ra rb z])))) hl2)
    ·repeat(first|exact trivial|refine kc rfl ?_)
 | own g ee n =>
  cases o with
  | none =>
   refine aD ax { l:=0,f:=55} mixed fD Tryd.func55 (by kernel_rfl) ?_
   conv=>whnf
   repeat(any_goals(first|exact ac|(refine ao ?_ ?_<;>intro _<;>first|exact ap|conv=>whnf)|((first|refine ae ?_|refine bi ?_ ?_|intro _)<;>conv=>whnf)))
   refine⟨aB (dA s ⟨rg,ra,rb,rl⟩ ⟨.own g ee n,G,none⟩),?_⟩
   conv=>whnf
   refine ab (ay _ ee) ?_
   conv=>whnf
   refine⟨_,_,hyy,?_⟩
   conv=>whnf
   refine ab (ay _ ee) ?_
   conv=>whnf
   refine ab (ay _ q.1) ?_
   conv=>whnf
   repeat(any_goals(first|exact ac|(refine ao ?_ ?_<;>intro _<;>first|exact ap|conv=>whnf)|((first|refine ae ?_|refine bi ?_ ?_|intro _)<;>conv=>whnf)))
   refine And.intro ?_ ?_
   ·conv=>whnf
    exact⟨⟨rfl⟩,trivial⟩
   ·rw[bH]
    refine kc ?_ ?_
    ·exact(congrArg (fun z=>some (some (rg,some (0,[AV.lp .ready none #[20] ra rb z])))) hl2)
    ·repeat(first|exact trivial|refine kc rfl ?_)
  | some w =>
   refine aD ax { l:=0,f:=55} mixed fD Tryd.func55 (by kernel_rfl) ?_
   conv=>whnf
   repeat(any_goals(first|exact ac|(refine ao ?_ ?_<;>intro _<;>first|exact ap|conv=>whnf)|((first|refine ae ?_|refine bi ?_ ?_|intro _)<;>conv=>whnf)))
   refine⟨aB (dA s ⟨rg,ra,rb,rl⟩ ⟨.own g ee n,G,some w⟩),?_⟩
   conv=>whnf
   refine ab (ay _ ee) ?_
   conv=>whnf
   refine ab (ay _ w.1) ?_
   conv=>whnf
   refine⟨_,_,hyy,?_⟩
   conv=>whnf
   refine ab (ay _ ee) ?_
   conv=>whnf
   refine ab (ay _ q.1) ?_
   conv=>whnf
   repeat(any_goals(first|exact ac|(refine ao ?_ ?_<;>intro _<;>first|exact ap|conv=>whnf)|((first|refine ae ?_|refine bi ?_ ?_|intro _)<;>conv=>whnf)))
   refine And.intro ?_ ?_
   ·conv=>whnf
    exact⟨⟨rfl⟩,trivial⟩
   ·rw[bH]
    refine kc ?_ ?_
    ·exact(congrArg (fun z=>some (some (rg,some (0,[AV.lp .ready none #[20] ra rb z])))) hl2)
    ·repeat(first|exact trivial|refine kc rfl ?_)
end Go.Proofs.YtgncapdjheghfaaDoor
namespace Go.Proofs.YtgncapdjheghfaaDoor
open Go.Am Go.Proofs Go
theorem gU:∀a b:Nat,a<64→b<64→decide (bq a b=0)=decide (a&&&b=a):=by
 intro a b ha hb
 rw[dR a b ha hb]
 have h:∀a,a<64→∀b,b<64→decide ((a&&&(63^^^b):Nat)=0)=decide (a&&&b=a):=by decide +kernel
 rw[←h a ha b hb,decide_eq_decide];omega
def Bill.rowE(s:Bill)(a k:Nat):List Ent:=(List.range s.figs.length).map fun(b:Nat)=>⟨(k:Int),(a:Int),(b:Int)⟩
def Bill.rowsE(s:Bill)(a i:Nat):List Ent:=(List.range' i (3-i)).flatMap (s.rowE a)
theorem vv(s:Bill)(a:Nat):s.tries a=s.rowsE a 0:=by
 unfold Bill.tries Bill.rowsE Bill.rowE
 rw[show List.range 3=List.range' 0 (3-0)from rfl]
theorem jY(s:Bill)(a i:Nat)(h:i<3):s.rowsE a i=s.rowE a i++s.rowsE a (i+1):=by
 unfold Bill.rowsE
 rw[show 3-i=(3-(i+1))+1 by omega,List.range'_succ,List.flatMap_cons]
theorem mo(s:Bill)(a k b:Nat)(h:b<s.figs.length):(s.rowE a k).drop b=⟨(k:Int),(a:Int),(b:Int)⟩::(s.rowE a k).drop (b+1):=by
 have hl:b<(s.rowE a k).length:=by unfold Bill.rowE;simpa using h
 rw[List.drop_eq_getElem_cons hl]
 congr 1
 simp[Bill.rowE]
theorem pb(s:Bill)(a k:Nat):(s.rowE a k).length=s.figs.length:=by unfold Bill.rowE;simp
def tP(t u:NSt):Prop:=(∀g ee n,t.c = .own g ee n→∃g' ee' n',u.c = .own g' ee' n')∧(∀q,t.o=some q→∃q',u.o=some q')
theorem tP.refl(t:NSt):tP t t:=⟨fun g ee n h=>⟨g,ee,n,h⟩,fun q h=>⟨q,h⟩⟩
theorem tP.trans{t u v:NSt}(h:tP t u)(k:tP u v):tP t v :=
 ⟨fun g ee n e=>by obtain⟨a,b,c,e2⟩:=h.1 g ee n e;exact k.1 _ _ _ e2,fun q e=>by obtain⟨a,e2⟩:=h.2 q e;exact k.2 _ e2⟩
theorem ng{F:NSt→Ent→NSt}(h:∀t x,tP t (F t x)):∀(l:List Ent) (t:NSt),tP t (l.foldl F t)
 | [],t=>tP.refl t
 | x::l,t=>(h t x).trans (ng h l _)
theorem nh(t:NSt):tP t t.yieldM:=⟨fun g ee n e=>⟨g,ee,n,e⟩,fun q _=>ir t⟩
theorem cV(s:Bill):∀(f a left:Nat) (t:NSt),tP t (s.nextM f a left t)
 | 0,_,_,t=>nh t
 | f+1,a,left,t=>by
  rw[eJ]
  split
  ·exact nh t
  ·split
   ·exact cV s f _ _ t
   ·refine ng (fun t x=>?_) _ _
    unfold Bill.takeM
    split
    ·have:=cV s f (a+1) (aV left x.named) ⟨t.c.push x,t.G,t.o⟩
     refine⟨fun g ee n e=>?_,fun q e=>this.2 q e⟩
     obtain⟨g',ee',n',e'⟩:=this.1 (g+1) (ee.take n++[x]) (n+1) (by simp only[e];rfl)
     exact⟨g',ee',n'-1,by simp only[e'];rfl⟩
    ·exact tP.refl t
set_option maxHeartbeats 4000000 in
theorem CU(s:Bill)(r:Rec)(a left:Nat)(t u:NSt)(ha:a<6)(h0:left≠0)(h64:left<64)(hb:left.testBit a=false)(hu:tP t u)(hno:t.c = .nil→t.o=none)(hl:∀t,eP (aB (aQ s r t)) r.l=r.l)
  (ih:BoxA Tryd.prog (.fn 55) (aQ s r t) [ak ((a+1:Nat):Int),ak left,.ptr kY 1 1 0 0,.ptr kCc 1 1 0 0,.ptr kN 1 1 0 0,.ptr kA 1 6 0 0,.ptr kT 1 1 0 0] (aH true) (aQ s r u)) :
  BoxA Tryd.prog (.fn 55) (aQ s r t) [ak a,ak left,.ptr kY 1 1 0 0,.ptr kCc 1 1 0 0,.ptr kN 1 1 0 0,.ptr kA 1 6 0 0,.ptr kT 1 1 0 0] (aH true) (aQ s r u):=by
 have hl2:=hl u
 have hl:=hl t
 obtain⟨rg,ra,rb,rl⟩:=r
 have ih:BoxA Tryd.prog (.fn 55) (aQ s ⟨rg,ra,rb,eP (aB (aQ s ⟨rg,ra,rb,rl⟩ t)) rl⟩ t) [ak ((a:Int)+1),ak left,.ptr kY 1 1 0 0,.ptr kCc 1 1 0 0,.ptr kN 1 1 0 0,.ptr kA 1 6 0 0,.ptr kT 1 1 0 0] (aH true) (aQ s ⟨rg,ra,rb,rl⟩ u):=by
  rw[hl];exact ih
 have hbit:=BH left a (d5 h64) (by omega)
 rw[hb,decide_eq_false_iff_not]at hbit
 have h2:eb (js left a) 1=0:=by
  rw[jn _ _ (by omega),show(1:Int)=((1:Nat):Int) by rfl,eS _ 1 (by have:left/2^a≤left:=Nat.div_le_self ..;omega) (by omega),n6]at hbit ⊢
  omega
 unfold eb js at h2
 obtain⟨g1,g2⟩:=hu
 obtain⟨c,G,o⟩:=t
 obtain⟨c2,G2,o2⟩:=u
 simp only at g1 g2
 cases c with
 | nil =>
  cases o with
  | none =>
   cases c2<;>cases o2
   all_goals
    refine aD ax { l:=0,f:=55,mat:=[55]} mixed fD Tryd.func55 (by kernel_rfl) ?_
    conv=>whnf
   all_goals repeat(any_goals(first|exact ac|(refine ao ?_ ?_<;>intro _<;>first|exact ap|conv=>whnf)|((first|refine ae ?_|refine bi ?_ ?_|intro _)<;>conv=>whnf)))
   all_goals
    refine⟨aB (aQ s ⟨rg,ra,rb,rl⟩ ⟨.nil,G,none⟩),?_⟩
    conv=>whnf
   all_goals
    refine⟨_,_,ih,?_⟩
    conv=>whnf
   all_goals repeat(refine ab (ay _ _) ?_<;>(conv=>whnf))
   all_goals repeat(any_goals(first|exact ac|(refine ao ?_ ?_<;>intro _<;>first|exact ap|conv=>whnf)|((first|refine ae ?_|refine bi ?_ ?_|intro _)<;>conv=>whnf)))
   all_goals
    refine And.intro ?_ ?_
    ·conv=>whnf
     exact⟨⟨rfl⟩,trivial⟩
    ·rw[bH]
     refine kc ?_ ?_
     ·exact(congrArg (fun z=>some (some (rg,some (0,[AV.lp .ready none #[20] ra rb z])))) hl2)
     ·repeat(first|exact trivial|refine kc rfl ?_)
  | some w=>cases hno rfl
 | own g ee n =>
  obtain⟨g',ee',n',rfl⟩:=g1 g ee n rfl
  cases o with
  | none =>
   cases o2
   all_goals
    refine aD ax { l:=0,f:=55,mat:=[55]} mixed fD Tryd.func55 (by kernel_rfl) ?_
    conv=>whnf
   all_goals repeat(any_goals(first|exact ac|(refine ao ?_ ?_<;>intro _<;>first|exact ap|conv=>whnf)|((first|refine ae ?_|refine bi ?_ ?_|intro _)<;>conv=>whnf)))
   all_goals
    refine⟨aB (aQ s ⟨rg,ra,rb,rl⟩ ⟨.own g ee n,G,none⟩),?_⟩
    conv=>whnf
   all_goals repeat(refine ab (ay _ _) ?_<;>(conv=>whnf))
   all_goals
    refine⟨_,_,ih,?_⟩
    conv=>whnf
   all_goals repeat(refine ab (ay _ _) ?_<;>(conv=>whnf))
   all_goals repeat(any_goals(first|exact ac|(refine ao ?_ ?_<;>intro _<;>first|exact ap|conv=>whnf)|((first|refine ae ?_|refine bi ?_ ?_|intro _)<;>conv=>whnf)))
   all_goals
    refine And.intro ?_ ?_
    ·conv=>whnf
     exact⟨⟨rfl⟩,trivial⟩
    ·rw[bH]
     refine kc ?_ ?_
     ·exact(congrArg (fun z=>some (some (rg,some (0,[AV.lp .ready none #[20] ra rb z])))) hl2)
     ·repeat(first|exact trivial|refine kc rfl ?_)
  | some w =>
   obtain⟨q,rfl⟩:=g2 w rfl
   all_goals
    refine aD ax { l:=0,f:=55,mat:=[55]} mixed fD Tryd.func55 (by kernel_rfl) ?_
    conv=>whnf
   all_goals repeat(any_goals(first|exact ac|(refine ao ?_ ?_<;>intro _<;>first|exact ap|conv=>whnf)|((first|refine ae ?_|refine bi ?_ ?_|intro _)<;>conv=>whnf)))
   all_goals
    refine⟨aB (aQ s ⟨rg,ra,rb,rl⟩ ⟨.own g ee n,G,some w⟩),?_⟩
    conv=>whnf
   all_goals repeat(refine ab (ay _ _) ?_<;>(conv=>whnf))
   all_goals
    refine⟨_,_,ih,?_⟩
    conv=>whnf
   all_goals repeat(refine ab (ay _ _) ?_<;>(conv=>whnf))
   all_goals repeat(any_goals(first|exact ac|(refine ao ?_ ?_<;>intro _<;>first|exact ap|conv=>whnf)|((first|refine ae ?_|refine bi ?_ ?_|intro _)<;>conv=>whnf)))
   all_goals
    refine And.intro ?_ ?_
    ·conv=>whnf
     exact⟨⟨rfl⟩,trivial⟩
    ·rw[bH]
     refine kc ?_ ?_
     ·exact(congrArg (fun z=>some (some (rg,some (0,[AV.lp .ready none #[20] ra rb z])))) hl2)
     ·repeat(first|exact trivial|refine kc rfl ?_)
end Go.Proofs.YtgncapdjheghfaaDoor
namespace Go.Proofs.YtgncapdjheghfaaDoor
open Go.Am Go.Proofs Go
structure LSt where
 i:Nat
 t:NSt
def Qs(G:Nat)(o:Option (List Ent×Int)):Prop:=(o=none→G=0)∧∀b m,o=some (b,m)→0≤m
def NSt.good(t:NSt)(a:Nat):Prop:=t.c.ok a∧(t.c = .nil→t.o=none)∧Qs t.G t.o
theorem nX(t:NSt)(h:Qs t.G t.o):Qs t.yieldM.G t.yieldM.o:=by
 refine⟨fun e=>?_,fun b m e=>?_⟩
 ·obtain⟨q,hq⟩:=ir t
  rw[hq]at e;cases e
 ·have e:im t.o t.c.list=some (b,m):=e
  unfold im at e
  split at e
  ·cases e;omega
  ·rename_i b' n' ho
   split at e
   ·cases e;omega
   ·cases e;exact h.2 _ _ ho
theorem np{F:NSt→Ent→NSt}(h:∀t x,Qs t.G t.o→Qs (F t x).G (F t x).o):∀(l:List Ent) (t:NSt),Qs t.G t.o→Qs (l.foldl F t).G (l.foldl F t).o
 | [],t,q=>q
 | x::l,t,q=>np h l _ (h t x q)
theorem dt(s:Bill):∀(f a left:Nat) (t:NSt),Qs t.G t.o→Qs (s.nextM f a left t).G (s.nextM f a left t).o
 | 0,_,_,t,h=>nX t h
 | f+1,a,left,t,h=>by
  rw[eJ]
  split
  ·exact nX t h
  ·split
   ·exact dt s f _ _ t h
   ·refine np (fun t x h=>?_) _ _ h
    unfold Bill.takeM
    split
    ·exact dt s f (a+1) (aV left x.named) ⟨t.c.push x,t.G,t.o⟩ h
    ·exact h
theorem gF{s:Bill}{f a left:Nat}{t:NSt}{x:Ent}(h:s.fitsIn left x=false):s.takeM f a left t x=t:=by
 unfold Bill.takeM;rw[if_neg (by rw[h];simp)]
theorem mH{s:Bill}{f a left:Nat}{t:NSt}{x:Ent}(h:s.fitsIn left x=true):s.takeM f a left t x=⟨(s.nextM f (a+1) (aV left x.named) ⟨t.c.push x,t.G,t.o⟩).c.pop,(s.nextM f (a+1) (aV left x.named) ⟨t.c.push x,t.G,t.o⟩).G,(s.nextM f (a+1) (aV left x.named) ⟨t.c.push x,t.G,t.o⟩).o⟩:=by
 unfold Bill.takeM;rw[if_pos h]
def cS:CSt→gT
 | .nil=>(0,none)
 | .own g ee _=>(g,some (3,ee.map bK))
def mS(G:Nat):Option (List Ent×Int)→gT
 | none=>(0,none)
 | some (b,_)=>(G,some (3,b.map bK))
def Bb(s:Bill)(r:Rec)(t:NSt):List (Key×Option gT) :=
 o7 (um s r t++[(kY,1,1,[.yld kLb r.g]),(kA,1,6,[.agg fb]),(kCc,1,1,[t.c.av]),(kN,1,1,[CT])])++[(kC,some (cS t.c)),(kMk,some (mS t.G t.o))]
theorem eH(k0 k:Key):∀A:List (Key×Option gT),(match aU (A++[(k0,some ((0,none):gT))]) k with
  | some (some c)=>c
  | _=>(0,none))=match aU A k with
  | some (some c)=>c
  | _=>(0,none)
 | []=>by
  show(match(match k.beq k0 with|true=>some (some ((0,none):gT))|false=>none)with
   | some (some c)=>c
   | _=>(0,none))=_
  cases k.beq k0<;>rfl
 | (j,c)::A=>by
  simp only[List.cons_append,aU]
  cases k.beq j with
  | true=>rfl
  | false=>exact eH k0 k A
theorem tp(k0 k:Key)(B:List (Key×Option gT)):∀A:List (Key×Option gT),aU B k0=none→(match aU (A++(k0,some ((0,none):gT))::B) k with
  | some (some c)=>c
  | _=>(0,none))=match aU (A++B) k with
  | some (some c)=>c
  | _=>(0,none)
 | [],hB=>by
  simp only[List.nil_append,aU]
  cases hk:k.beq k0 with
  | true =>
   have:=Key.beq_eq.1 hk
   subst this
   rw[hB]
  | false=>rfl
 | (j,c)::A,hB=>by
  simp only[List.cons_append,aU]
  cases k.beq j with
  | true=>rfl
  | false=>exact tp k0 k B A hB
theorem zb(s:Bill)(r:Rec)(t:NSt)(k:Key):b8 (aQ s r t) k=match aU (Bb s r t) k with
  | some (some c)=>c
  | _=>(0,none):=by
 rw[jf]
 obtain⟨c,G,o⟩:=t
 cases c<;>cases o
 ·exact((eH kMk k _).trans (eH kC k (o7 (aQ s r ⟨.nil,G,none⟩)))).symm
 ·rename_i q
  exact(tp kC k [(kMk,some (G,some (3,q.1.map bK)))] (o7 (um s r ⟨.nil,G,some q⟩++[(kY,1,1,[.yld kLb r.g]),(kA,1,6,[.agg fb]),(kCc,1,1,[CSt.nil.av]),(kN,1,1,[CT])])) (by
   rfl)).symm
 ·exact(eH kMk k (o7 (aQ s r ⟨.own _ _ _,G,none⟩))).symm
 ·rfl
theorem wT(s:Bill)(r:Rec)(t:NSt)(args:List AV):Knows ⟨cd 0 args,Bb s r t,[]⟩ (dh (aQ s r t) args) where
 slot i v h:=by
  have:=(cJ args 0 i v h).2
  simp only[Nat.sub_zero]at this
  simp[dh,List.getD,this]
 box k:=by
  have:=zb s r t k
  split
  ·rename_i c hc;simp only[dh,this,hc]
  ·trivial
  ·rename_i hc;simp only[dh,this,hc]
 tk k:=rfl
theorem zd{P:Program}{T:Tab}(hT:T.Ok P)(cx:Cx)(hm:P.follows .mixedOrders=true){f:FuncId}{fn:Func}{s:Bill}{r:Rec}{t:NSt}{post:List bV}{args:List AV}{res:AV}
  (hc:al P f) (hf:P.funcs[f]?=some fn) (hok:Bh fn args.length=true)
  (h:tX P T cx fn res post ⟨cd 0 args,Bb s r t,[]⟩) (hrd:cx.rd=false:=by rfl):BoxA P (.fn f) (aQ s r t) args res post:=by
 unfold tX at h
 unfold Bh at hok
 split at h
 ·rename_i c hb
  rw[hb]at hok
  simp only[Bool.and_eq_true,decide_eq_true_eq]at hok
  refine q6 hc hf hb (by rw[hok.1.2,decide_eq_true hok.1.1];rfl) (hrd▸bb cx hm c hok.2 (bp cx c (fun e S'=>?_) (ba hT cx c (wT s r t args) h)))
  rintro⟨ss',h1,h2⟩
  have key:((sM T fn.results.toList fun l=> .lst l fun l=> .need (Res res (oneOf l)) (Classical.propDecidable _) (.done [])).ev P ss' (fun _ _=>True)∧sm ss' fun _ bx _=>ct (0,none) bx (o7 post)) →
    D6 P fn S' res∧∀p∈post,S'.box p.1=(p.2.1,some (p.2.2.1,p.2.2.2)):=by
   rintro⟨h,hk⟩
   have h:=RB.ev_rm h1 _ h
   have h:=ga (rs:=fn.results.toList) (k':=fun l=> .need (res=oneOf l) (.done [])) hT (fun l=>ar fun hr=>az hr.eq (aq _)) _ _ h
   have h:=RM.wp_wp0 _ h
   exact⟨RM.wp0_mono _ h fun _ _=>trivial,d0 h1.box hk⟩
  cases e with
  | normal=>exact⟨.inl rfl,key h2⟩
  | ret=>exact⟨.inr rfl,key h2⟩
  | _=>exact h2.elim
 ·exact h.elim
noncomputable def pW:Code→Option Code
 | .seq x y=>match pW x with
  | some c=>some c
  | none=>pW y
 | .cond _ x y=>match pW x with
  | some c=>some c
  | none=>pW y
 | .block _ c=>pW c
 | .scope c=>pW c
 | .loop c=>some c
 | _=>none
noncomputable def E1:Code:=((Tryd.f55.body.bind pW)).getD .skip
def cxT:Cx:={ l:=0,f:=55,mat:=[55],ow:=[63]}
def Bu(s:Bill)(r:Rec)(a left:Nat)(u:LSt):SS :=
 CG [(30,ak u.i)] (Bb s r u.t) [] [cxT.key 11,cxT.key 13,cxT.key 63] [cxT.key 63]
  [(29,.agg fb),(23,.v (.bool false)),(22,ofValue (.int .i64 (IntKind.i64.wrap (BitVec.ofInt IntKind.i64.bits ((left:Int).fdiv (2^min (a:Int).toNat IntKind.i64.bits))&&&BitVec.ofInt IntKind.i64.bits 1).toNat))),
   (21,ofValue (.int .i64 ((left:Int).fdiv (2^min (a:Int).toNat IntKind.i64.bits)))),(20,ak a),(19,ak left),(15,.v (.bool false)),(14,ak left),(0,ak a),
   (1,ak left),(2,.ptr kY 1 1 0 0),(3,.ptr kCc 1 1 0 0),(4,.ptr kN 1 1 0 0),(5,.ptr kA 1 6 0 0),(6,.ptr kT 1 1 0 0)] [] []
def vI(s:Bill)(r:Rec)(f a left k:Nat)(Z t:NSt):Prop :=
 ∀Q:Exit→SS→Prop,dU Tryd.prog tab cxT Tryd.f55.ntmps E1
  (qL (fun ss'=>∃a':LSt,(a'.i≤3∧a'.t.good a∧Z=(s.rowsE a a'.i).foldl (s.takeM f a left) a'.t)∧3-a'.i<3-k∧qS ss' (Bu s r a left a')) Q) (Bu s r a left ⟨k,t⟩)
end Go.Proofs.YtgncapdjheghfaaDoor
namespace Go.Proofs.YtgncapdjheghfaaDoor
open Go.Am Go.Proofs Go
set_option maxHeartbeats 8000000 in
theorem Ai(s:Bill)(hg:s.Good)(r:Rec)(f a left:Nat)(Z t:NSt)(ha:a<6)(h64:left<64)(hal:a<s.figs.length)(hgd:t.good a)(hl:∀t,eP (aB (aQ s r t)) r.l=r.l)
  (ih:∀x,s.fitsIn left x=true→x.a=a→0≤x.b→∀u:NSt,u.good (a+1)→BoxA Tryd.prog (.fn 55) (aQ s r u) [ak ((a+1:Nat):Int),ak (aV left x.named:Nat),.ptr kY 1 1 0 0,.ptr kCc 1 1 0 0,.ptr kN 1 1 0 0,.ptr kA 1 6 0 0,.ptr kT 1 1 0 0] (aH true) (aQ s r (s.nextM f (a+1) (aV left x.named) u)))
  (hZ:Z=(s.rowsE a 0).foldl (s.takeM f a left) t):vI s r f a left 0 Z t:=by
 rw[jY s a 0 (by omega),List.foldl_append]at hZ
 have hfl:(s.figs.map eR).length=s.figs.length:=List.length_map ..
 have h6:=hg.len
 have hS0:∀b:Nat,b<s.figs.length→PureA Tryd.prog 68 [cL s,bK ⟨(0:Nat),a,b⟩] (aH (s.so ⟨(0:Nat),a,b⟩)):=fun b hb=>Bm s ⟨(0:Nat),a,b⟩ (by simp only;omega)
 obtain⟨rg,ra,rb,rl⟩:=r
 intro Q
 conv=>whnf
 repeat(any_goals(first|exact ac|(refine ao ?_ ?_<;>intro _<;>first|exact ap|conv=>whnf)|((first|refine ae ?_|refine bi ?_ ?_|intro _)<;>conv=>whnf)))
 refine bS ax { l:=0,f:=55,mat:=[55],ow:=[63]} mixed (fun u:LSt=>[(40,ak u.i)]) (fun u=>Bb s ⟨rg,ra,rb,rl⟩ u.t) (fun _=>[]) (fun u=>u.i≤s.figs.length∧u.t.good a∧Z=(s.rowsE a (0+1)).foldl (s.takeM f a left) (((s.rowE a 0).drop u.i).foldl (s.takeM f a left) u.t)) (fun u=>s.figs.length-u.i) (⟨0,t⟩:LSt) (by kernel_rfl)
  ⟨Nat.zero_le _,hgd,hZ⟩ ?_
 conv=>whnf
 refine⟨⟨aj rfl trivial,?_,trivial⟩,?_⟩
 ·repeat(first|exact trivial|refine kc rfl ?_|refine bC rfl ?_)
 clear hZ hgd
 rintro u ⟨hbi,hgd,hZ⟩
 generalize u.i=b at *
 generalize u.t=t at *
 clear u
 by_cases hbl:b<s.figs.length
 ·rw[mo s a 0 b hbl,List.foldl_cons]at hZ
  have hso:=hS0 b hbl
  have hn:=lW ⟨(0:Nat),a,b⟩ (by simp only;omega) (by simp only;omega)
  have hn64:=iU ⟨(0:Nat),a,b⟩ (by simp only;omega) (by simp only;omega)
  have hz:=gU (Ent.named ⟨(0:Nat),a,b⟩) left hn64 h64
  have hm:bq left (Ent.named ⟨(0:Nat),a,b⟩)=(aV left (Ent.named ⟨(0:Nat),a,b⟩):Nat):=dR _ _ h64 hn64
  have hih:=ih ⟨(0:Nat),a,b⟩
  rw[←hm]at hih
  have hfit:s.fitsIn left ⟨(0:Nat),a,b⟩=(s.so ⟨(0:Nat),a,b⟩&&decide (bq (Ent.named ⟨(0:Nat),a,b⟩) left=0)):=by rw[hz];rfl
  obtain⟨nm,hnm⟩:∃nm,Ent.named ⟨(0:Nat),a,b⟩=nm:=⟨_,rfl⟩
  rw[hnm]at hn hn64 hz hm hih hfit
  cases hS:s.so ⟨(0:Nat),a,b⟩with
  | false =>
   rw[hS,Bool.false_and]at hfit
   rw[gF hfit]at hZ
   rw[hS]at hso
   clear hih ih
   conv=>whnf
   repeat(any_goals(first|exact ac|(refine ao ?_ ?_<;>intro _<;>first|exact ap|conv=>whnf)|((first|refine ah hso rfl ?_|refine aa hn ?_|refine ah hn rfl ?_|refine ae ?_|refine bi ?_ ?_|intro _)<;>conv=>whnf)))
   all_goals(refine⟨⟨b+1,t⟩,⟨by show b+1≤_;omega,hgd,hZ⟩,(by show _-(b+1)<_-b;omega),?_⟩;(conv=>whnf);refine⟨?_,?_,?_⟩<;>repeat(first|exact trivial|refine sc rfl ?_|refine kn ?_|refine kc rfl ?_|refine sc (by exact(congrArg (fun z=>some (some (rg,some (0,[AV.lp .ready none #[20] ra rb z])))) (hl _))) ?_|refine kc (by exact(congrArg (fun z=>some (some (rg,some (0,[AV.lp .ready none #[20] ra rb z])))) (hl _))) ?_))
  | true =>
   rw[hS,Bool.true_and]at hfit
   rw[hS]at hso
   by_cases hq:bq nm left=0
   ·have hq0:=hq
    rw[decide_eq_true hq]at hfit
    rw[mH hfit,hnm]at hZ
    unfold bq at hq
    have hih:=hih hfit rfl (by simp only;omega)
    obtain⟨c,G,o⟩:=t
    obtain⟨hck,hno,hQs⟩:=hgd
    simp only at hck hno hQs
    cases c with
    | nil =>
     cases hno rfl
     obtain⟨g2,ee2,e2,hn2,_⟩:=cZ s f (a+1) (aV left nm) 1 ⟨CSt.nil.push ⟨(0:Nat),a,b⟩,G,none⟩ ⟨1,[⟨(0:Nat),a,b⟩],rfl,by simp⟩
     have hih:=hih ⟨CSt.nil.push ⟨(0:Nat),a,b⟩,G,none⟩ ⟨⟨by simp,by omega⟩,(fun h=>by cases h),hQs⟩
     have hkp:=dt s f (a+1) (aV left nm) ⟨CSt.nil.push ⟨(0:Nat),a,b⟩,G,none⟩ hQs
     have hgr:=(cV s f (a+1) (aV left nm) ⟨CSt.nil.push ⟨(0:Nat),a,b⟩,G,none⟩).2
     generalize s.nextM f (a+1) (aV left nm) ⟨CSt.nil.push ⟨(0:Nat),a,b⟩,G,none⟩=u at *
     have hih:BoxA Tryd.prog (.fn 55) (aQ s ⟨rg,ra,rb,eP (aB (aQ s ⟨rg,ra,rb,rl⟩ ⟨CSt.nil.push ⟨(0:Nat),a,b⟩,G,none⟩)) rl⟩ ⟨CSt.nil.push ⟨(0:Nat),a,b⟩,G,none⟩) [ak ((a:Int)+1),ak (bq left nm),.ptr kY 1 1 0 0,.ptr kCc 1 1 0 0,.ptr kN 1 1 0 0,.ptr kA 1 6 0 0,.ptr kT 1 1 0 0] (aH true) (aQ s ⟨rg,ra,rb,rl⟩ u):=by
      rw[hl];exact hih
     have hl2:=hl u
     obtain⟨cu,G2,o2⟩:=u
     simp only at e2 hgr hkp
     subst e2
     have hto:(((0+1:Nat):Int)-1).toNat=0:=by omega
     clear ih
     cases o2
     all_goals
       conv=>whnf
       repeat(any_goals(first|exact ac|(refine ao ?_ ?_<;>intro _<;>first|exact ap|conv=>whnf)|((first|refine ah hso rfl ?_|refine aa hn ?_|refine ah hn rfl ?_|refine ae ?_|refine bi ?_ ?_|intro _)<;>conv=>whnf)))
       try(refine And.intro ⟨by rw[List.length_map];omega,by simp only[List.length_cons,List.length_nil];omega,by simp only[List.length_cons,List.length_nil,maxLen];omega⟩ ?_;(conv=>whnf))
       repeat(any_goals(first|exact ac|(refine ao ?_ ?_<;>intro _<;>first|exact ap|conv=>whnf)|((first|refine aa hn ?_|refine ah hn rfl ?_|refine ae ?_|refine bi ?_ ?_|intro _)<;>conv=>whnf)))
       refine⟨aB (aQ s ⟨rg,ra,rb,rl⟩ ⟨CSt.nil.push ⟨(0:Nat),a,b⟩,G,none⟩),?_⟩
       conv=>whnf
       repeat((first|refine ab (htk _) ?_|refine ab (ay _ [_]) ?_|refine ab (ay _ _) ?_)<;>(conv=>whnf))
       refine⟨_,_,hih,?_⟩
       conv=>whnf
       repeat(refine ab (ay _ _) ?_<;>(conv=>whnf))
       repeat(any_goals(first|exact ac|(refine ao ?_ ?_<;>intro _<;>first|exact ap|conv=>whnf)|((first|refine ae ?_|refine bi ?_ ?_|intro _)<;>conv=>whnf)))
       (refine⟨⟨b+1,⟨.own g2 ee2 0,G2,_⟩⟩,⟨by show b+1≤_;omega,⟨⟨by omega,by omega⟩,(fun h=>by cases h),hkp⟩,hZ⟩,(by show _-(b+1)<_-b;omega),?_⟩;(conv=>whnf);refine⟨?_,?_,?_⟩<;>repeat(first|exact trivial|refine sc rfl ?_|refine kn ?_|refine kc rfl ?_|refine sc (by first|exact(congrArg (fun z=>some (some (rg,some (0,[AV.lp .ready none #[20] ra rb z])))) hl2)|(show some (some (1,some (1,[AV.own kC g2 3 (((0+1:Nat):Int)-1).toNat 0])))=_;rw[hto];rfl)) ?_|refine kc (by first|exact(congrArg (fun z=>some (some (rg,some (0,[AV.lp .ready none #[20] ra rb z])))) hl2)|(show some (some (1,some (1,[AV.own kC g2 3 (((0+1:Nat):Int)-1).toNat 0])))=_;rw[hto];rfl)) ?_))
    | own g ee n =>
     obtain⟨hn1,hna⟩:=hck
     have hel:(ee.map bK).length=ee.length:=List.length_map ..
     have htk:=fun ks=>yf ks ee n ⟨(0:Nat),a,b⟩
     obtain⟨g2,ee2,e2,hn2,_⟩:=cZ s f (a+1) (aV left nm) (n+1) ⟨(CSt.own g ee n).push ⟨(0:Nat),a,b⟩,G,o⟩ ⟨g+1,ee.take n++[⟨(0:Nat),a,b⟩],rfl,by simp;omega⟩
     have hih:=hih ⟨(CSt.own g ee n).push ⟨(0:Nat),a,b⟩,G,o⟩ ⟨⟨by simp;omega,by omega⟩,(fun h=>by cases h),hQs⟩
     have hkp:=dt s f (a+1) (aV left nm) ⟨(CSt.own g ee n).push ⟨(0:Nat),a,b⟩,G,o⟩ hQs
     have hgr:=(cV s f (a+1) (aV left nm) ⟨(CSt.own g ee n).push ⟨(0:Nat),a,b⟩,G,o⟩).2
     generalize s.nextM f (a+1) (aV left nm) ⟨(CSt.own g ee n).push ⟨(0:Nat),a,b⟩,G,o⟩=u at *
     have hih:BoxA Tryd.prog (.fn 55) (aQ s ⟨rg,ra,rb,eP (aB (aQ s ⟨rg,ra,rb,rl⟩ ⟨(CSt.own g ee n).push ⟨(0:Nat),a,b⟩,G,o⟩)) rl⟩ ⟨(CSt.own g ee n).push ⟨(0:Nat),a,b⟩,G,o⟩) [ak ((a:Int)+1),ak (bq left nm),.ptr kY 1 1 0 0,.ptr kCc 1 1 0 0,.ptr kN 1 1 0 0,.ptr kA 1 6 0 0,.ptr kT 1 1 0 0] (aH true) (aQ s ⟨rg,ra,rb,rl⟩ u):=by
      rw[hl];exact hih
     have hl2:=hl u
     obtain⟨cu,G2,o2⟩:=u
     simp only at e2 hgr hkp
     subst e2
     have hto:(((n+1:Nat):Int)-1).toNat=n:=by omega
     clear ih
     cases o with
     | none =>
      cases o2
      all_goals
        conv=>whnf
        repeat(any_goals(first|exact ac|(refine ao ?_ ?_<;>intro _<;>first|exact ap|conv=>whnf)|((first|refine ah hso rfl ?_|refine aa hn ?_|refine ah hn rfl ?_|refine ae ?_|refine bi ?_ ?_|intro _)<;>conv=>whnf)))
        try(refine And.intro ⟨by rw[List.length_map];omega,by simp only[List.length_cons,List.length_nil];omega,by simp only[List.length_cons,List.length_nil,maxLen];omega⟩ ?_;(conv=>whnf))
        repeat(any_goals(first|exact ac|(refine ao ?_ ?_<;>intro _<;>first|exact ap|conv=>whnf)|((first|refine aa hn ?_|refine ah hn rfl ?_|refine ae ?_|refine bi ?_ ?_|intro _)<;>conv=>whnf)))
        refine⟨aB (aQ s ⟨rg,ra,rb,rl⟩ ⟨(CSt.own g ee n).push ⟨(0:Nat),a,b⟩,G,none⟩),?_⟩
        conv=>whnf
        repeat((first|refine ab (htk _) ?_|refine ab (ay _ [_]) ?_|refine ab (ay _ _) ?_)<;>(conv=>whnf))
        refine⟨_,_,hih,?_⟩
        conv=>whnf
        repeat(refine ab (ay _ _) ?_<;>(conv=>whnf))
        repeat(any_goals(first|exact ac|(refine ao ?_ ?_<;>intro _<;>first|exact ap|conv=>whnf)|((first|refine ae ?_|refine bi ?_ ?_|intro _)<;>conv=>whnf)))
        (refine⟨⟨b+1,⟨.own g2 ee2 n,G2,_⟩⟩,⟨by show b+1≤_;omega,⟨⟨by omega,by omega⟩,(fun h=>by cases h),hkp⟩,hZ⟩,(by show _-(b+1)<_-b;omega),?_⟩;(conv=>whnf);refine⟨?_,?_,?_⟩<;>repeat(first|exact trivial|refine sc rfl ?_|refine kn ?_|refine kc rfl ?_|refine sc (by first|exact(congrArg (fun z=>some (some (rg,some (0,[AV.lp .ready none #[20] ra rb z])))) hl2)|(show some (some (1,some (1,[AV.own kC g2 3 (((n+1:Nat):Int)-1).toNat 0])))=_;rw[hto];rfl)) ?_|refine kc (by first|exact(congrArg (fun z=>some (some (rg,some (0,[AV.lp .ready none #[20] ra rb z])))) hl2)|(show some (some (1,some (1,[AV.own kC g2 3 (((n+1:Nat):Int)-1).toNat 0])))=_;rw[hto];rfl)) ?_))
     | some w =>
      obtain⟨w2,rfl⟩:=hgr w rfl
      conv=>whnf
      repeat(any_goals(first|exact ac|(refine ao ?_ ?_<;>intro _<;>first|exact ap|conv=>whnf)|((first|refine ah hso rfl ?_|refine aa hn ?_|refine ah hn rfl ?_|refine ae ?_|refine bi ?_ ?_|intro _)<;>conv=>whnf)))
      try(refine And.intro ⟨by rw[List.length_map];omega,by simp only[List.length_cons,List.length_nil];omega,by simp only[List.length_cons,List.length_nil,maxLen];omega⟩ ?_;(conv=>whnf))
      repeat(any_goals(first|exact ac|(refine ao ?_ ?_<;>intro _<;>first|exact ap|conv=>whnf)|((first|refine aa hn ?_|refine ah hn rfl ?_|refine ae ?_|refine bi ?_ ?_|intro _)<;>conv=>whnf)))
      refine⟨aB (aQ s ⟨rg,ra,rb,rl⟩ ⟨(CSt.own g ee n).push ⟨(0:Nat),a,b⟩,G,some w⟩),?_⟩
      conv=>whnf
      repeat((first|refine ab (htk _) ?_|refine ab (ay _ [_]) ?_|refine ab (ay _ _) ?_)<;>(conv=>whnf))
      refine⟨_,_,hih,?_⟩
      conv=>whnf
      repeat(refine ab (ay _ _) ?_<;>(conv=>whnf))
      repeat(any_goals(first|exact ac|(refine ao ?_ ?_<;>intro _<;>first|exact ap|conv=>whnf)|((first|refine ae ?_|refine bi ?_ ?_|intro _)<;>conv=>whnf)))
      (refine⟨⟨b+1,⟨.own g2 ee2 n,G2,_⟩⟩,⟨by show b+1≤_;omega,⟨⟨by omega,by omega⟩,(fun h=>by cases h),hkp⟩,hZ⟩,(by show _-(b+1)<_-b;omega),?_⟩;(conv=>whnf);refine⟨?_,?_,?_⟩<;>repeat(first|exact trivial|refine sc rfl ?_|refine kn ?_|refine kc rfl ?_|refine sc (by first|exact(congrArg (fun z=>some (some (rg,some (0,[AV.lp .ready none #[20] ra rb z])))) hl2)|(show some (some (1,some (1,[AV.own kC g2 3 (((n+1:Nat):Int)-1).toNat 0])))=_;rw[hto];rfl)) ?_|refine kc (by first|exact(congrArg (fun z=>some (some (rg,some (0,[AV.lp .ready none #[20] ra rb z])))) hl2)|(show some (some (1,some (1,[AV.own kC g2 3 (((n+1:Nat):Int)-1).toNat 0])))=_;rw[hto];rfl)) ?_))
   ·rw[decide_eq_false hq]at hfit
    rw[gF hfit]at hZ
    unfold bq at hq
    clear hih ih
    conv=>whnf
    repeat(any_goals(first|exact ac|(refine ao ?_ ?_<;>intro _<;>first|exact ap|conv=>whnf)|((first|refine ah hso rfl ?_|refine aa hn ?_|refine ah hn rfl ?_|refine ae ?_|refine bi ?_ ?_|intro _)<;>conv=>whnf)))
    all_goals(refine⟨⟨b+1,t⟩,⟨by show b+1≤_;omega,hgd,hZ⟩,(by show _-(b+1)<_-b;omega),?_⟩;(conv=>whnf);refine⟨?_,?_,?_⟩<;>repeat(first|exact trivial|refine sc rfl ?_|refine kn ?_|refine kc rfl ?_|refine sc (by exact(congrArg (fun z=>some (some (rg,some (0,[AV.lp .ready none #[20] ra rb z])))) (hl _))) ?_|refine kc (by exact(congrArg (fun z=>some (some (rg,some (0,[AV.lp .ready none #[20] ra rb z])))) (hl _))) ?_))
 ·have hbn:b=s.figs.length:=by omega
  rw[List.drop_of_length_le (by rw[pb];omega),List.foldl_nil]at hZ
  clear ih hbl
  conv=>whnf
  repeat(any_goals(first|exact ac|(refine ao ?_ ?_<;>intro _<;>first|exact ap|conv=>whnf)|((first|refine ae ?_|refine bi ?_ ?_|intro _)<;>conv=>whnf)))
  all_goals(refine⟨⟨0+1,t⟩,⟨by show 0+1≤3;omega,hgd,hZ⟩,(by show 3-(0+1)<3-0;omega),?_⟩;(conv=>whnf);refine⟨?_,?_,?_⟩<;>repeat(first|exact trivial|refine sc rfl ?_|refine kn ?_|refine kc rfl ?_|refine sc (by exact(congrArg (fun z=>some (some (rg,some (0,[AV.lp .ready none #[20] ra rb z])))) (hl _))) ?_|refine kc (by exact(congrArg (fun z=>some (some (rg,some (0,[AV.lp .ready none #[20] ra rb z])))) (hl _))) ?_))
end Go.Proofs.YtgncapdjheghfaaDoor
namespace Go.Proofs.YtgncapdjheghfaaDoor
open Go.Am Go.Proofs Go
set_option maxHeartbeats 8000000 in
theorem Aj(s:Bill)(hg:s.Good)(r:Rec)(f a left:Nat)(Z t:NSt)(ha:a<6)(h64:left<64)(hal:a<s.figs.length)(hgd:t.good a)(hl:∀t,eP (aB (aQ s r t)) r.l=r.l)
  (ih:∀x,s.fitsIn left x=true→x.a=a→0≤x.b→∀u:NSt,u.good (a+1)→BoxA Tryd.prog (.fn 55) (aQ s r u) [ak ((a+1:Nat):Int),ak (aV left x.named:Nat),.ptr kY 1 1 0 0,.ptr kCc 1 1 0 0,.ptr kN 1 1 0 0,.ptr kA 1 6 0 0,.ptr kT 1 1 0 0] (aH true) (aQ s r (s.nextM f (a+1) (aV left x.named) u)))
  (hZ:Z=(s.rowsE a 1).foldl (s.takeM f a left) t):vI s r f a left 1 Z t:=by
 rw[jY s a 1 (by omega),List.foldl_append]at hZ
 have hfl:(s.figs.map eR).length=s.figs.length:=List.length_map ..
 have h6:=hg.len
 have hS1:∀b:Nat,b<s.figs.length→PureA Tryd.prog 69 [cL s,bK ⟨(1:Nat),a,b⟩] (aH (s.so ⟨(1:Nat),a,b⟩)):=fun b hb=>m9 s hg ⟨(1:Nat),a,b⟩ (by simp only;omega) (by simp only;omega)
 obtain⟨rg,ra,rb,rl⟩:=r
 intro Q
 conv=>whnf
 repeat(any_goals(first|exact ac|(refine ao ?_ ?_<;>intro _<;>first|exact ap|conv=>whnf)|((first|refine ae ?_|refine bi ?_ ?_|intro _)<;>conv=>whnf)))
 refine bS ax { l:=0,f:=55,mat:=[55],ow:=[63]} mixed (fun u:LSt=>[(40,ak u.i)]) (fun u=>Bb s ⟨rg,ra,rb,rl⟩ u.t) (fun _=>[]) (fun u=>u.i≤s.figs.length∧u.t.good a∧Z=(s.rowsE a (1+1)).foldl (s.takeM f a left) (((s.rowE a 1).drop u.i).foldl (s.takeM f a left) u.t)) (fun u=>s.figs.length-u.i) (⟨0,t⟩:LSt) (by kernel_rfl)
  ⟨Nat.zero_le _,hgd,hZ⟩ ?_
 conv=>whnf
 refine⟨⟨aj rfl trivial,?_,trivial⟩,?_⟩
 ·repeat(first|exact trivial|refine kc rfl ?_|refine bC rfl ?_)
 clear hZ hgd
 rintro u ⟨hbi,hgd,hZ⟩
 generalize u.i=b at *
 generalize u.t=t at *
 clear u
 by_cases hbl:b<s.figs.length
 ·rw[mo s a 1 b hbl,List.foldl_cons]at hZ
  have hso:=hS1 b hbl
  have hn:=lW ⟨(1:Nat),a,b⟩ (by simp only;omega) (by simp only;omega)
  have hn64:=iU ⟨(1:Nat),a,b⟩ (by simp only;omega) (by simp only;omega)
  have hz:=gU (Ent.named ⟨(1:Nat),a,b⟩) left hn64 h64
  have hm:bq left (Ent.named ⟨(1:Nat),a,b⟩)=(aV left (Ent.named ⟨(1:Nat),a,b⟩):Nat):=dR _ _ h64 hn64
  have hih:=ih ⟨(1:Nat),a,b⟩
  rw[←hm]at hih
  have hfit:s.fitsIn left ⟨(1:Nat),a,b⟩=(s.so ⟨(1:Nat),a,b⟩&&decide (bq (Ent.named ⟨(1:Nat),a,b⟩) left=0)):=by rw[hz];rfl
  obtain⟨nm,hnm⟩:∃nm,Ent.named ⟨(1:Nat),a,b⟩=nm:=⟨_,rfl⟩
  rw[hnm]at hn hn64 hz hm hih hfit
  cases hS:s.so ⟨(1:Nat),a,b⟩with
  | false =>
   rw[hS,Bool.false_and]at hfit
   rw[gF hfit]at hZ
   rw[hS]at hso
   clear hih ih
   conv=>whnf
   repeat(any_goals(first|exact ac|(refine ao ?_ ?_<;>intro _<;>first|exact ap|conv=>whnf)|((first|refine ah hso rfl ?_|refine aa hn ?_|refine ah hn rfl ?_|refine ae ?_|refine bi ?_ ?_|intro _)<;>conv=>whnf)))
   all_goals(refine⟨⟨b+1,t⟩,⟨by show b+1≤_;omega,hgd,hZ⟩,(by show _-(b+1)<_-b;omega),?_⟩;(conv=>whnf);refine⟨?_,?_,?_⟩<;>repeat(first|exact trivial|refine sc rfl ?_|refine kn ?_|refine kc rfl ?_|refine sc (by exact(congrArg (fun z=>some (some (rg,some (0,[AV.lp .ready none #[20] ra rb z])))) (hl _))) ?_|refine kc (by exact(congrArg (fun z=>some (some (rg,some (0,[AV.lp .ready none #[20] ra rb z])))) (hl _))) ?_))
  | true =>
   rw[hS,Bool.true_and]at hfit
   rw[hS]at hso
   by_cases hq:bq nm left=0
   ·have hq0:=hq
    rw[decide_eq_true hq]at hfit
    rw[mH hfit,hnm]at hZ
    unfold bq at hq
    have hih:=hih hfit rfl (by simp only;omega)
    obtain⟨c,G,o⟩:=t
    obtain⟨hck,hno,hQs⟩:=hgd
    simp only at hck hno hQs
    cases c with
    | nil =>
     cases hno rfl
     obtain⟨g2,ee2,e2,hn2,_⟩:=cZ s f (a+1) (aV left nm) 1 ⟨CSt.nil.push ⟨(1:Nat),a,b⟩,G,none⟩ ⟨1,[⟨(1:Nat),a,b⟩],rfl,by simp⟩
     have hih:=hih ⟨CSt.nil.push ⟨(1:Nat),a,b⟩,G,none⟩ ⟨⟨by simp,by omega⟩,(fun h=>by cases h),hQs⟩
     have hkp:=dt s f (a+1) (aV left nm) ⟨CSt.nil.push ⟨(1:Nat),a,b⟩,G,none⟩ hQs
     have hgr:=(cV s f (a+1) (aV left nm) ⟨CSt.nil.push ⟨(1:Nat),a,b⟩,G,none⟩).2
     generalize s.nextM f (a+1) (aV left nm) ⟨CSt.nil.push ⟨(1:Nat),a,b⟩,G,none⟩=u at *
     have hih:BoxA Tryd.prog (.fn 55) (aQ s ⟨rg,ra,rb,eP (aB (aQ s ⟨rg,ra,rb,rl⟩ ⟨CSt.nil.push ⟨(1:Nat),a,b⟩,G,none⟩)) rl⟩ ⟨CSt.nil.push ⟨(1:Nat),a,b⟩,G,none⟩) [ak ((a:Int)+1),ak (bq left nm),.ptr kY 1 1 0 0,.ptr kCc 1 1 0 0,.ptr kN 1 1 0 0,.ptr kA 1 6 0 0,.ptr kT 1 1 0 0] (aH true) (aQ s ⟨rg,ra,rb,rl⟩ u):=by
      rw[hl];exact hih
     have hl2:=hl u
     obtain⟨cu,G2,o2⟩:=u
     simp only at e2 hgr hkp
     subst e2
     have hto:(((0+1:Nat):Int)-1).toNat=0:=by omega
     clear ih
     cases o2
     all_goals
       conv=>whnf
       repeat(any_goals(first|exact ac|(refine ao ?_ ?_<;>intro _<;>first|exact ap|conv=>whnf)|((first|refine ah hso rfl ?_|refine aa hn ?_|refine ah hn rfl ?_|refine ae ?_|refine bi ?_ ?_|intro _)<;>conv=>whnf)))
       try(refine And.intro ⟨by rw[List.length_map];omega,by simp only[List.length_cons,List.length_nil];omega,by simp only[List.length_cons,List.length_nil,maxLen];omega⟩ ?_;(conv=>whnf))
       repeat(any_goals(first|exact ac|(refine ao ?_ ?_<;>intro _<;>first|exact ap|conv=>whnf)|((first|refine aa hn ?_|refine ah hn rfl ?_|refine ae ?_|refine bi ?_ ?_|intro _)<;>conv=>whnf)))
       refine⟨aB (aQ s ⟨rg,ra,rb,rl⟩ ⟨CSt.nil.push ⟨(1:Nat),a,b⟩,G,none⟩),?_⟩
       conv=>whnf
       repeat((first|refine ab (htk _) ?_|refine ab (ay _ [_]) ?_|refine ab (ay _ _) ?_)<;>(conv=>whnf))
       refine⟨_,_,hih,?_⟩
       conv=>whnf
       repeat(refine ab (ay _ _) ?_<;>(conv=>whnf))
       repeat(any_goals(first|exact ac|(refine ao ?_ ?_<;>intro _<;>first|exact ap|conv=>whnf)|((first|refine ae ?_|refine bi ?_ ?_|intro _)<;>conv=>whnf)))
       (refine⟨⟨b+1,⟨.own g2 ee2 0,G2,_⟩⟩,⟨by show b+1≤_;omega,⟨⟨by omega,by omega⟩,(fun h=>by cases h),hkp⟩,hZ⟩,(by show _-(b+1)<_-b;omega),?_⟩;(conv=>whnf);refine⟨?_,?_,?_⟩<;>repeat(first|exact trivial|refine sc rfl ?_|refine kn ?_|refine kc rfl ?_|refine sc (by first|exact(congrArg (fun z=>some (some (rg,some (0,[AV.lp .ready none #[20] ra rb z])))) hl2)|(show some (some (1,some (1,[AV.own kC g2 3 (((0+1:Nat):Int)-1).toNat 0])))=_;rw[hto];rfl)) ?_|refine kc (by first|exact(congrArg (fun z=>some (some (rg,some (0,[AV.lp .ready none #[20] ra rb z])))) hl2)|(show some (some (1,some (1,[AV.own kC g2 3 (((0+1:Nat):Int)-1).toNat 0])))=_;rw[hto];rfl)) ?_))
    | own g ee n =>
     obtain⟨hn1,hna⟩:=hck
     have hel:(ee.map bK).length=ee.length:=List.length_map ..
     have htk:=fun ks=>yf ks ee n ⟨(1:Nat),a,b⟩
     obtain⟨g2,ee2,e2,hn2,_⟩:=cZ s f (a+1) (aV left nm) (n+1) ⟨(CSt.own g ee n).push ⟨(1:Nat),a,b⟩,G,o⟩ ⟨g+1,ee.take n++[⟨(1:Nat),a,b⟩],rfl,by simp;omega⟩
     have hih:=hih ⟨(CSt.own g ee n).push ⟨(1:Nat),a,b⟩,G,o⟩ ⟨⟨by simp;omega,by omega⟩,(fun h=>by cases h),hQs⟩
     have hkp:=dt s f (a+1) (aV left nm) ⟨(CSt.own g ee n).push ⟨(1:Nat),a,b⟩,G,o⟩ hQs
     have hgr:=(cV s f (a+1) (aV left nm) ⟨(CSt.own g ee n).push ⟨(1:Nat),a,b⟩,G,o⟩).2
     generalize s.nextM f (a+1) (aV left nm) ⟨(CSt.own g ee n).push ⟨(1:Nat),a,b⟩,G,o⟩=u at *
     have hih:BoxA Tryd.prog (.fn 55) (aQ s ⟨rg,ra,rb,eP (aB (aQ s ⟨rg,ra,rb,rl⟩ ⟨(CSt.own g ee n).push ⟨(1:Nat),a,b⟩,G,o⟩)) rl⟩ ⟨(CSt.own g ee n).push ⟨(1:Nat),a,b⟩,G,o⟩) [ak ((a:Int)+1),ak (bq left nm),.ptr kY 1 1 0 0,.ptr kCc 1 1 0 0,.ptr kN 1 1 0 0,.ptr kA 1 6 0 0,.ptr kT 1 1 0 0] (aH true) (aQ s ⟨rg,ra,rb,rl⟩ u):=by
      rw[hl];exact hih
     have hl2:=hl u
     obtain⟨cu,G2,o2⟩:=u
     simp only at e2 hgr hkp
     subst e2
     have hto:(((n+1:Nat):Int)-1).toNat=n:=by omega
     clear ih
     cases o with
     | none =>
      cases o2
      all_goals
        conv=>whnf
        repeat(any_goals(first|exact ac|(refine ao ?_ ?_<;>intro _<;>first|exact ap|conv=>whnf)|((first|refine ah hso rfl ?_|refine aa hn ?_|refine ah hn rfl ?_|refine ae ?_|refine bi ?_ ?_|intro _)<;>conv=>whnf)))
        try(refine And.intro ⟨by rw[List.length_map];omega,by simp only[List.length_cons,List.length_nil];omega,by simp only[List.length_cons,List.length_nil,maxLen];omega⟩ ?_;(conv=>whnf))
        repeat(any_goals(first|exact ac|(refine ao ?_ ?_<;>intro _<;>first|exact ap|conv=>whnf)|((first|refine aa hn ?_|refine ah hn rfl ?_|refine ae ?_|refine bi ?_ ?_|intro _)<;>conv=>whnf)))
        refine⟨aB (aQ s ⟨rg,ra,rb,rl⟩ ⟨(CSt.own g ee n).push ⟨(1:Nat),a,b⟩,G,none⟩),?_⟩
        conv=>whnf
        repeat((first|refine ab (htk _) ?_|refine ab (ay _ [_]) ?_|refine ab (ay _ _) ?_)<;>(conv=>whnf))
        refine⟨_,_,hih,?_⟩
        conv=>whnf
        repeat(refine ab (ay _ _) ?_<;>(conv=>whnf))
        repeat(any_goals(first|exact ac|(refine ao ?_ ?_<;>intro _<;>first|exact ap|conv=>whnf)|((first|refine ae ?_|refine bi ?_ ?_|intro _)<;>conv=>whnf)))
        (refine⟨⟨b+1,⟨.own g2 ee2 n,G2,_⟩⟩,⟨by show b+1≤_;omega,⟨⟨by omega,by omega⟩,(fun h=>by cases h),hkp⟩,hZ⟩,(by show _-(b+1)<_-b;omega),?_⟩;(conv=>whnf);refine⟨?_,?_,?_⟩<;>repeat(first|exact trivial|refine sc rfl ?_|refine kn ?_|refine kc rfl ?_|refine sc (by first|exact(congrArg (fun z=>some (some (rg,some (0,[AV.lp .ready none #[20] ra rb z])))) hl2)|(show some (some (1,some (1,[AV.own kC g2 3 (((n+1:Nat):Int)-1).toNat 0])))=_;rw[hto];rfl)) ?_|refine kc (by first|exact(congrArg (fun z=>some (some (rg,some (0,[AV.lp .ready none #[20] ra rb z])))) hl2)|(show some (some (1,some (1,[AV.own kC g2 3 (((n+1:Nat):Int)-1).toNat 0])))=_;rw[hto];rfl)) ?_))
     | some w =>
      obtain⟨w2,rfl⟩:=hgr w rfl
      conv=>whnf
      repeat(any_goals(first|exact ac|(refine ao ?_ ?_<;>intro _<;>first|exact ap|conv=>whnf)|((first|refine ah hso rfl ?_|refine aa hn ?_|refine ah hn rfl ?_|refine ae ?_|refine bi ?_ ?_|intro _)<;>conv=>whnf)))
      try(refine And.intro ⟨by rw[List.length_map];omega,by simp only[List.length_cons,List.length_nil];omega,by simp only[List.length_cons,List.length_nil,maxLen];omega⟩ ?_;(conv=>whnf))
      repeat(any_goals(first|exact ac|(refine ao ?_ ?_<;>intro _<;>first|exact ap|conv=>whnf)|((first|refine aa hn ?_|refine ah hn rfl ?_|refine ae ?_|refine bi ?_ ?_|intro _)<;>conv=>whnf)))
      refine⟨aB (aQ s ⟨rg,ra,rb,rl⟩ ⟨(CSt.own g ee n).push ⟨(1:Nat),a,b⟩,G,some w⟩),?_⟩
      conv=>whnf
      repeat((first|refine ab (htk _) ?_|refine ab (ay _ [_]) ?_|refine ab (ay _ _) ?_)<;>(conv=>whnf))
      refine⟨_,_,hih,?_⟩
      conv=>whnf
      repeat(refine ab (ay _ _) ?_<;>(conv=>whnf))
      repeat(any_goals(first|exact ac|(refine ao ?_ ?_<;>intro _<;>first|exact ap|conv=>whnf)|((first|refine ae ?_|refine bi ?_ ?_|intro _)<;>conv=>whnf)))
      (refine⟨⟨b+1,⟨.own g2 ee2 n,G2,_⟩⟩,⟨by show b+1≤_;omega,⟨⟨by omega,by omega⟩,(fun h=>by cases h),hkp⟩,hZ⟩,(by show _-(b+1)<_-b;omega),?_⟩;(conv=>whnf);refine⟨?_,?_,?_⟩<;>repeat(first|exact trivial|refine sc rfl ?_|refine kn ?_|refine kc rfl ?_|refine sc (by first|exact(congrArg (fun z=>some (some (rg,some (0,[AV.lp .ready none #[20] ra rb z])))) hl2)|(show some (some (1,some (1,[AV.own kC g2 3 (((n+1:Nat):Int)-1).toNat 0])))=_;rw[hto];rfl)) ?_|refine kc (by first|exact(congrArg (fun z=>some (some (rg,some (0,[AV.lp .ready none #[20] ra rb z])))) hl2)|(show some (some (1,some (1,[AV.own kC g2 3 (((n+1:Nat):Int)-1).toNat 0])))=_;rw[hto];rfl)) ?_))
   ·rw[decide_eq_false hq]at hfit
    rw[gF hfit]at hZ
    unfold bq at hq
    clear hih ih
    conv=>whnf
    repeat(any_goals(first|exact ac|(refine ao ?_ ?_<;>intro _<;>first|exact ap|conv=>whnf)|((first|refine ah hso rfl ?_|refine aa hn ?_|refine ah hn rfl ?_|refine ae ?_|refine bi ?_ ?_|intro _)<;>conv=>whnf)))
    all_goals(refine⟨⟨b+1,t⟩,⟨by show b+1≤_;omega,hgd,hZ⟩,(by show _-(b+1)<_-b;omega),?_⟩;(conv=>whnf);refine⟨?_,?_,?_⟩<;>repeat(first|exact trivial|refine sc rfl ?_|refine kn ?_|refine kc rfl ?_|refine sc (by exact(congrArg (fun z=>some (some (rg,some (0,[AV.lp .ready none #[20] ra rb z])))) (hl _))) ?_|refine kc (by exact(congrArg (fun z=>some (some (rg,some (0,[AV.lp .ready none #[20] ra rb z])))) (hl _))) ?_))
 ·have hbn:b=s.figs.length:=by omega
  rw[List.drop_of_length_le (by rw[pb];omega),List.foldl_nil]at hZ
  clear ih hbl
  conv=>whnf
  repeat(any_goals(first|exact ac|(refine ao ?_ ?_<;>intro _<;>first|exact ap|conv=>whnf)|((first|refine ae ?_|refine bi ?_ ?_|intro _)<;>conv=>whnf)))
  all_goals(refine⟨⟨1+1,t⟩,⟨by show 1+1≤3;omega,hgd,hZ⟩,(by show 3-(1+1)<3-1;omega),?_⟩;(conv=>whnf);refine⟨?_,?_,?_⟩<;>repeat(first|exact trivial|refine sc rfl ?_|refine kn ?_|refine kc rfl ?_|refine sc (by exact(congrArg (fun z=>some (some (rg,some (0,[AV.lp .ready none #[20] ra rb z])))) (hl _))) ?_|refine kc (by exact(congrArg (fun z=>some (some (rg,some (0,[AV.lp .ready none #[20] ra rb z])))) (hl _))) ?_))
end Go.Proofs.YtgncapdjheghfaaDoor
namespace Go.Proofs.YtgncapdjheghfaaDoor
open Go.Am Go.Proofs Go
set_option maxHeartbeats 8000000 in
theorem Ak(s:Bill)(hg:s.Good)(r:Rec)(f a left:Nat)(Z t:NSt)(ha:a<6)(h64:left<64)(hal:a<s.figs.length)(hgd:t.good a)(hl:∀t,eP (aB (aQ s r t)) r.l=r.l)
  (ih:∀x,s.fitsIn left x=true→x.a=a→0≤x.b→∀u:NSt,u.good (a+1)→BoxA Tryd.prog (.fn 55) (aQ s r u) [ak ((a+1:Nat):Int),ak (aV left x.named:Nat),.ptr kY 1 1 0 0,.ptr kCc 1 1 0 0,.ptr kN 1 1 0 0,.ptr kA 1 6 0 0,.ptr kT 1 1 0 0] (aH true) (aQ s r (s.nextM f (a+1) (aV left x.named) u)))
  (hZ:Z=(s.rowsE a 2).foldl (s.takeM f a left) t):vI s r f a left 2 Z t:=by
 rw[jY s a 2 (by omega),List.foldl_append]at hZ
 have hfl:(s.figs.map eR).length=s.figs.length:=List.length_map ..
 have h6:=hg.len
 have hS2:∀b:Nat,b<s.figs.length→PureA Tryd.prog 70 [cL s,bK ⟨(2:Nat),a,b⟩] (aH (s.so ⟨(2:Nat),a,b⟩)):=fun b hb=>xf s hg ⟨(2:Nat),a,b⟩ (by simp only;omega)
 obtain⟨rg,ra,rb,rl⟩:=r
 intro Q
 conv=>whnf
 repeat(any_goals(first|exact ac|(refine ao ?_ ?_<;>intro _<;>first|exact ap|conv=>whnf)|((first|refine ae ?_|refine bi ?_ ?_|intro _)<;>conv=>whnf)))
 refine bS ax { l:=0,f:=55,mat:=[55],ow:=[63]} mixed (fun u:LSt=>[(40,ak u.i)]) (fun u=>Bb s ⟨rg,ra,rb,rl⟩ u.t) (fun _=>[]) (fun u=>u.i≤s.figs.length∧u.t.good a∧Z=(s.rowsE a (2+1)).foldl (s.takeM f a left) (((s.rowE a 2).drop u.i).foldl (s.takeM f a left) u.t)) (fun u=>s.figs.length-u.i) (⟨0,t⟩:LSt) (by kernel_rfl)
  ⟨Nat.zero_le _,hgd,hZ⟩ ?_
 conv=>whnf
 refine⟨⟨aj rfl trivial,?_,trivial⟩,?_⟩
 ·repeat(first|exact trivial|refine kc rfl ?_|refine bC rfl ?_)
 clear hZ hgd
 rintro u ⟨hbi,hgd,hZ⟩
 generalize u.i=b at *
 generalize u.t=t at *
 clear u
 by_cases hbl:b<s.figs.length
 ·rw[mo s a 2 b hbl,List.foldl_cons]at hZ
  have hso:=hS2 b hbl
  have hn:=lW ⟨(2:Nat),a,b⟩ (by simp only;omega) (by simp only;omega)
  have hn64:=iU ⟨(2:Nat),a,b⟩ (by simp only;omega) (by simp only;omega)
  have hz:=gU (Ent.named ⟨(2:Nat),a,b⟩) left hn64 h64
  have hm:bq left (Ent.named ⟨(2:Nat),a,b⟩)=(aV left (Ent.named ⟨(2:Nat),a,b⟩):Nat):=dR _ _ h64 hn64
  have hih:=ih ⟨(2:Nat),a,b⟩
  rw[←hm]at hih
  have hfit:s.fitsIn left ⟨(2:Nat),a,b⟩=(s.so ⟨(2:Nat),a,b⟩&&decide (bq (Ent.named ⟨(2:Nat),a,b⟩) left=0)):=by rw[hz];rfl
  obtain⟨nm,hnm⟩:∃nm,Ent.named ⟨(2:Nat),a,b⟩=nm:=⟨_,rfl⟩
  rw[hnm]at hn hn64 hz hm hih hfit
  cases hS:s.so ⟨(2:Nat),a,b⟩with
  | false =>
   rw[hS,Bool.false_and]at hfit
   rw[gF hfit]at hZ
   rw[hS]at hso
   clear hih ih
   conv=>whnf
   repeat(any_goals(first|exact ac|(refine ao ?_ ?_<;>intro _<;>first|exact ap|conv=>whnf)|((first|refine ah hso rfl ?_|refine aa hn ?_|refine ah hn rfl ?_|refine ae ?_|refine bi ?_ ?_|intro _)<;>conv=>whnf)))
   all_goals(refine⟨⟨b+1,t⟩,⟨by show b+1≤_;omega,hgd,hZ⟩,(by show _-(b+1)<_-b;omega),?_⟩;(conv=>whnf);refine⟨?_,?_,?_⟩<;>repeat(first|exact trivial|refine sc rfl ?_|refine kn ?_|refine kc rfl ?_|refine sc (by exact(congrArg (fun z=>some (some (rg,some (0,[AV.lp .ready none #[20] ra rb z])))) (hl _))) ?_|refine kc (by exact(congrArg (fun z=>some (some (rg,some (0,[AV.lp .ready none #[20] ra rb z])))) (hl _))) ?_))
  | true =>
   rw[hS,Bool.true_and]at hfit
   rw[hS]at hso
   by_cases hq:bq nm left=0
   ·have hq0:=hq
    rw[decide_eq_true hq]at hfit
    rw[mH hfit,hnm]at hZ
    unfold bq at hq
    have hih:=hih hfit rfl (by simp only;omega)
    obtain⟨c,G,o⟩:=t
    obtain⟨hck,hno,hQs⟩:=hgd
    simp only at hck hno hQs
    cases c with
    | nil =>
     cases hno rfl
     obtain⟨g2,ee2,e2,hn2,_⟩:=cZ s f (a+1) (aV left nm) 1 ⟨CSt.nil.push ⟨(2:Nat),a,b⟩,G,none⟩ ⟨1,[⟨(2:Nat),a,b⟩],rfl,by simp⟩
     have hih:=hih ⟨CSt.nil.push ⟨(2:Nat),a,b⟩,G,none⟩ ⟨⟨by simp,by omega⟩,(fun h=>by cases h),hQs⟩
     have hkp:=dt s f (a+1) (aV left nm) ⟨CSt.nil.push ⟨(2:Nat),a,b⟩,G,none⟩ hQs
     have hgr:=(cV s f (a+1) (aV left nm) ⟨CSt.nil.push ⟨(2:Nat),a,b⟩,G,none⟩).2
     generalize s.nextM f (a+1) (aV left nm) ⟨CSt.nil.push ⟨(2:Nat),a,b⟩,G,none⟩=u at *
     have hih:BoxA Tryd.prog (.fn 55) (aQ s ⟨rg,ra,rb,eP (aB (aQ s ⟨rg,ra,rb,rl⟩ ⟨CSt.nil.push ⟨(2:Nat),a,b⟩,G,none⟩)) rl⟩ ⟨CSt.nil.push ⟨(2:Nat),a,b⟩,G,none⟩) [ak ((a:Int)+1),ak (bq left nm),.ptr kY 1 1 0 0,.ptr kCc 1 1 0 0,.ptr kN 1 1 0 0,.ptr kA 1 6 0 0,.ptr kT 1 1 0 0] (aH true) (aQ s ⟨rg,ra,rb,rl⟩ u):=by
      rw[hl];exact hih
     have hl2:=hl u
     obtain⟨cu,G2,o2⟩:=u
     simp only at e2 hgr hkp
     subst e2
     have hto:(((0+1:Nat):Int)-1).toNat=0:=by omega
     clear ih
     cases o2
     all_goals
       conv=>whnf
       repeat(any_goals(first|exact ac|(refine ao ?_ ?_<;>intro _<;>first|exact ap|conv=>whnf)|((first|refine ah hso rfl ?_|refine aa hn ?_|refine ah hn rfl ?_|refine ae ?_|refine bi ?_ ?_|intro _)<;>conv=>whnf)))
       try(refine And.intro ⟨by rw[List.length_map];omega,by simp only[List.length_cons,List.length_nil];omega,by simp only[List.length_cons,List.length_nil,maxLen];omega⟩ ?_;(conv=>whnf))
       repeat(any_goals(first|exact ac|(refine ao ?_ ?_<;>intro _<;>first|exact ap|conv=>whnf)|((first|refine aa hn ?_|refine ah hn rfl ?_|refine ae ?_|refine bi ?_ ?_|intro _)<;>conv=>whnf)))
       refine⟨aB (aQ s ⟨rg,ra,rb,rl⟩ ⟨CSt.nil.push ⟨(2:Nat),a,b⟩,G,none⟩),?_⟩
       conv=>whnf
       repeat((first|refine ab (htk _) ?_|refine ab (ay _ [_]) ?_|refine ab (ay _ _) ?_)<;>(conv=>whnf))
       refine⟨_,_,hih,?_⟩
       conv=>whnf
       repeat(refine ab (ay _ _) ?_<;>(conv=>whnf))
       repeat(any_goals(first|exact ac|(refine ao ?_ ?_<;>intro _<;>first|exact ap|conv=>whnf)|((first|refine ae ?_|refine bi ?_ ?_|intro _)<;>conv=>whnf)))
       (refine⟨⟨b+1,⟨.own g2 ee2 0,G2,_⟩⟩,⟨by show b+1≤_;omega,⟨⟨by omega,by omega⟩,(fun h=>by cases h),hkp⟩,hZ⟩,(by show _-(b+1)<_-b;omega),?_⟩;(conv=>whnf);refine⟨?_,?_,?_⟩<;>repeat(first|exact trivial|refine sc rfl ?_|refine kn ?_|refine kc rfl ?_|refine sc (by first|exact(congrArg (fun z=>some (some (rg,some (0,[AV.lp .ready none #[20] ra rb z])))) hl2)|(show some (some (1,some (1,[AV.own kC g2 3 (((0+1:Nat):Int)-1).toNat 0])))=_;rw[hto];rfl)) ?_|refine kc (by first|exact(congrArg (fun z=>some (some (rg,some (0,[AV.lp .ready none #[20] ra rb z])))) hl2)|(show some (some (1,some (1,[AV.own kC g2 3 (((0+1:Nat):Int)-1).toNat 0])))=_;rw[hto];rfl)) ?_))
    | own g ee n =>
     obtain⟨hn1,hna⟩:=hck
     have hel:(ee.map bK).length=ee.length:=List.length_map ..
     have htk:=fun ks=>yf ks ee n ⟨(2:Nat),a,b⟩
     obtain⟨g2,ee2,e2,hn2,_⟩:=cZ s f (a+1) (aV left nm) (n+1) ⟨(CSt.own g ee n).push ⟨(2:Nat),a,b⟩,G,o⟩ ⟨g+1,ee.take n++[⟨(2:Nat),a,b⟩],rfl,by simp;omega⟩
     have hih:=hih ⟨(CSt.own g ee n).push ⟨(2:Nat),a,b⟩,G,o⟩ ⟨⟨by simp;omega,by omega⟩,(fun h=>by cases h),hQs⟩
     have hkp:=dt s f (a+1) (aV left nm) ⟨(CSt.own g ee n).push ⟨(2:Nat),a,b⟩,G,o⟩ hQs
     have hgr:=(cV s f (a+1) (aV left nm) ⟨(CSt.own g ee n).push ⟨(2:Nat),a,b⟩,G,o⟩).2
     generalize s.nextM f (a+1) (aV left nm) ⟨(CSt.own g ee n).push ⟨(2:Nat),a,b⟩,G,o⟩=u at *
     have hih:BoxA Tryd.prog (.fn 55) (aQ s ⟨rg,ra,rb,eP (aB (aQ s ⟨rg,ra,rb,rl⟩ ⟨(CSt.own g ee n).push ⟨(2:Nat),a,b⟩,G,o⟩)) rl⟩ ⟨(CSt.own g ee n).push ⟨(2:Nat),a,b⟩,G,o⟩) [ak ((a:Int)+1),ak (bq left nm),.ptr kY 1 1 0 0,.ptr kCc 1 1 0 0,.ptr kN 1 1 0 0,.ptr kA 1 6 0 0,.ptr kT 1 1 0 0] (aH true) (aQ s ⟨rg,ra,rb,rl⟩ u):=by
      rw[hl];exact hih
     have hl2:=hl u
     obtain⟨cu,G2,o2⟩:=u
     simp only at e2 hgr hkp
     subst e2
     have hto:(((n+1:Nat):Int)-1).toNat=n:=by omega
     clear ih
     cases o with
     | none =>
      cases o2
      all_goals
        conv=>whnf
        repeat(any_goals(first|exact ac|(refine ao ?_ ?_<;>intro _<;>first|exact ap|conv=>whnf)|((first|refine ah hso rfl ?_|refine aa hn ?_|refine ah hn rfl ?_|refine ae ?_|refine bi ?_ ?_|intro _)<;>conv=>whnf)))
        try(refine And.intro ⟨by rw[List.length_map];omega,by simp only[List.length_cons,List.length_nil];omega,by simp only[List.length_cons,List.length_nil,maxLen];omega⟩ ?_;(conv=>whnf))
        repeat(any_goals(first|exact ac|(refine ao ?_ ?_<;>intro _<;>first|exact ap|conv=>whnf)|((first|refine aa hn ?_|refine ah hn rfl ?_|refine ae ?_|refine bi ?_ ?_|intro _)<;>conv=>whnf)))
        refine⟨aB (aQ s ⟨rg,ra,rb,rl⟩ ⟨(CSt.own g ee n).push ⟨(2:Nat),a,b⟩,G,none⟩),?_⟩
        conv=>whnf
        repeat((first|refine ab (htk _) ?_|refine ab (ay _ [_]) ?_|refine ab (ay _ _) ?_)<;>(conv=>whnf))
        refine⟨_,_,hih,?_⟩
        conv=>whnf
        repeat(refine ab (ay _ _) ?_<;>(conv=>whnf))
        repeat(any_goals(first|exact ac|(refine ao ?_ ?_<;>intro _<;>first|exact ap|conv=>whnf)|((first|refine ae ?_|refine bi ?_ ?_|intro _)<;>conv=>whnf)))
        (refine⟨⟨b+1,⟨.own g2 ee2 n,G2,_⟩⟩,⟨by show b+1≤_;omega,⟨⟨by omega,by omega⟩,(fun h=>by cases h),hkp⟩,hZ⟩,(by show _-(b+1)<_-b;omega),?_⟩;(conv=>whnf);refine⟨?_,?_,?_⟩<;>repeat(first|exact trivial|refine sc rfl ?_|refine kn ?_|refine kc rfl ?_|refine sc (by first|exact(congrArg (fun z=>some (some (rg,some (0,[AV.lp .ready none #[20] ra rb z])))) hl2)|(show some (some (1,some (1,[AV.own kC g2 3 (((n+1:Nat):Int)-1).toNat 0])))=_;rw[hto];rfl)) ?_|refine kc (by first|exact(congrArg (fun z=>some (some (rg,some (0,[AV.lp .ready none #[20] ra rb z])))) hl2)|(show some (some (1,some (1,[AV.own kC g2 3 (((n+1:Nat):Int)-1).toNat 0])))=_;rw[hto];rfl)) ?_))
     | some w =>
      obtain⟨w2,rfl⟩:=hgr w rfl
      conv=>whnf
      repeat(any_goals(first|exact ac|(refine ao ?_ ?_<;>intro _<;>first|exact ap|conv=>whnf)|((first|refine ah hso rfl ?_|refine aa hn ?_|refine ah hn rfl ?_|refine ae ?_|refine bi ?_ ?_|intro _)<;>conv=>whnf)))
      try(refine And.intro ⟨by rw[List.length_map];omega,by simp only[List.length_cons,List.length_nil];omega,by simp only[List.length_cons,List.length_nil,maxLen];omega⟩ ?_;(conv=>whnf))
      repeat(any_goals(first|exact ac|(refine ao ?_ ?_<;>intro _<;>first|exact ap|conv=>whnf)|((first|refine aa hn ?_|refine ah hn rfl ?_|refine ae ?_|refine bi ?_ ?_|intro _)<;>conv=>whnf)))
      refine⟨aB (aQ s ⟨rg,ra,rb,rl⟩ ⟨(CSt.own g ee n).push ⟨(2:Nat),a,b⟩,G,some w⟩),?_⟩
      conv=>whnf
      repeat((first|refine ab (htk _) ?_|refine ab (ay _ [_]) ?_|refine ab (ay _ _) ?_)<;>(conv=>whnf))
      refine⟨_,_,hih,?_⟩
      conv=>whnf
      repeat(refine ab (ay _ _) ?_<;>(conv=>whnf))
      repeat(any_goals(first|exact ac|(refine ao ?_ ?_<;>intro _<;>first|exact ap|conv=>whnf)|((first|refine ae ?_|refine bi ?_ ?_|intro _)<;>conv=>whnf)))
      (refine⟨⟨b+1,⟨.own g2 ee2 n,G2,_⟩⟩,⟨by show b+1≤_;omega,⟨⟨by omega,by omega⟩,(fun h=>by cases h),hkp⟩,hZ⟩,(by show _-(b+1)<_-b;omega),?_⟩;(conv=>whnf);refine⟨?_,?_,?_⟩<;>repeat(first|exact trivial|refine sc rfl ?_|refine kn ?_|refine kc rfl ?_|refine sc (by first|exact(congrArg (fun z=>some (some (rg,some (0,[AV.lp .ready none #[20] ra rb z])))) hl2)|(show some (some (1,some (1,[AV.own kC g2 3 (((n+1:Nat):Int)-1).toNat 0])))=_;rw[hto];rfl)) ?_|refine kc (by first|exact(congrArg (fun z=>some (some (rg,some (0,[AV.lp .ready none #[20] ra rb z])))) hl2)|(show some (some (1,some (1,[AV.own kC g2 3 (((n+1:Nat):Int)-1).toNat 0])))=_;rw[hto];rfl)) ?_))
   ·rw[decide_eq_false hq]at hfit
    rw[gF hfit]at hZ
    unfold bq at hq
    clear hih ih
    conv=>whnf
    repeat(any_goals(first|exact ac|(refine ao ?_ ?_<;>intro _<;>first|exact ap|conv=>whnf)|((first|refine ah hso rfl ?_|refine aa hn ?_|refine ah hn rfl ?_|refine ae ?_|refine bi ?_ ?_|intro _)<;>conv=>whnf)))
    all_goals(refine⟨⟨b+1,t⟩,⟨by show b+1≤_;omega,hgd,hZ⟩,(by show _-(b+1)<_-b;omega),?_⟩;(conv=>whnf);refine⟨?_,?_,?_⟩<;>repeat(first|exact trivial|refine sc rfl ?_|refine kn ?_|refine kc rfl ?_|refine sc (by exact(congrArg (fun z=>some (some (rg,some (0,[AV.lp .ready none #[20] ra rb z])))) (hl _))) ?_|refine kc (by exact(congrArg (fun z=>some (some (rg,some (0,[AV.lp .ready none #[20] ra rb z])))) (hl _))) ?_))
 ·have hbn:b=s.figs.length:=by omega
  rw[List.drop_of_length_le (by rw[pb];omega),List.foldl_nil]at hZ
  clear ih hbl
  conv=>whnf
  repeat(any_goals(first|exact ac|(refine ao ?_ ?_<;>intro _<;>first|exact ap|conv=>whnf)|((first|refine ae ?_|refine bi ?_ ?_|intro _)<;>conv=>whnf)))
  all_goals(refine⟨⟨2+1,t⟩,⟨by show 2+1≤3;omega,hgd,hZ⟩,(by show 3-(2+1)<3-2;omega),?_⟩;(conv=>whnf);refine⟨?_,?_,?_⟩<;>repeat(first|exact trivial|refine sc rfl ?_|refine kn ?_|refine kc rfl ?_|refine sc (by exact(congrArg (fun z=>some (some (rg,some (0,[AV.lp .ready none #[20] ra rb z])))) (hl _))) ?_|refine kc (by exact(congrArg (fun z=>some (some (rg,some (0,[AV.lp .ready none #[20] ra rb z])))) (hl _))) ?_))
end Go.Proofs.YtgncapdjheghfaaDoor
namespace Go.Proofs.YtgncapdjheghfaaDoor
open Go.Am Go.Proofs Go
set_option maxHeartbeats 8000000 in
theorem CV(s:Bill)(hg:s.Good)(r:Rec)(f a left:Nat)(t:NSt)(ha:a<6)(h0:left≠0)(h64:left<64)(hb:left.testBit a=true)(hal:a<s.figs.length)(hgd:t.good a)(hl:∀t,eP (aB (aQ s r t)) r.l=r.l)
  (ih:∀x,s.fitsIn left x=true→x.a=a→0≤x.b→∀u:NSt,u.good (a+1)→BoxA Tryd.prog (.fn 55) (aQ s r u) [ak ((a+1:Nat):Int),ak (aV left x.named:Nat),.ptr kY 1 1 0 0,.ptr kCc 1 1 0 0,.ptr kN 1 1 0 0,.ptr kA 1 6 0 0,.ptr kT 1 1 0 0] (aH true) (aQ s r (s.nextM f (a+1) (aV left x.named) u))) :
  BoxA Tryd.prog (.fn 55) (aQ s r t) [ak a,ak left,.ptr kY 1 1 0 0,.ptr kCc 1 1 0 0,.ptr kN 1 1 0 0,.ptr kA 1 6 0 0,.ptr kT 1 1 0 0] (aH true) (aQ s r ((s.tries a).foldl (s.takeM f a left) t)):=by
 have hZ:(s.tries a).foldl (s.takeM f a left) t=(s.rowsE a 0).foldl (s.takeM f a left) t:=by rw[vv]
 generalize (s.tries a).foldl (s.takeM f a left) t=Z at *
 have hbit:=BH left a (d5 h64) (by omega)
 rw[hb,decide_eq_true_eq]at hbit
 have hfl:(s.figs.map eR).length=s.figs.length:=List.length_map ..
 have h6:=hg.len
 obtain⟨rg,ra,rb,rl⟩:=r
 unfold eb js at hbit
 refine zd ax { l:=0,f:=55,mat:=[55],ow:=[63]} mixed fD Tryd.func55 (by kernel_rfl) ?_
 conv=>whnf
 repeat(any_goals(first|exact ac|(refine ao ?_ ?_<;>intro _<;>first|exact ap|conv=>whnf)|((first|refine ae ?_|refine bi ?_ ?_|intro _)<;>conv=>whnf)))
 refine bS ax { l:=0,f:=55,mat:=[55],ow:=[63]} mixed (fun u:LSt=>[(30,ak u.i)]) (fun u=>Bb s ⟨rg,ra,rb,rl⟩ u.t) (fun _=>[]) (fun u=>u.i≤3∧u.t.good a∧Z=(s.rowsE a u.i).foldl (s.takeM f a left) u.t) (fun u=>3-u.i) (⟨0,t⟩:LSt) (by kernel_rfl)
  ⟨by show 0≤3;omega,hgd,hZ⟩ ?_
 conv=>whnf
 refine⟨⟨aj rfl trivial,?_,trivial⟩,?_⟩
 ·repeat(first|exact trivial|refine kc rfl ?_|refine bC rfl ?_)
 clear hZ hgd
 rintro u ⟨hi,hgd,hZ⟩
 by_cases hi3:u.i<3
 ·obtain⟨i,t⟩:=u
  simp only at hi hgd hZ hi3
  rcases(by omega:i=0∨i=1∨i=2)with rfl|rfl|rfl
  ·exact Ai s hg ⟨rg,ra,rb,rl⟩ f a left Z t ha h64 hal hgd hl ih hZ _
  ·exact Aj s hg ⟨rg,ra,rb,rl⟩ f a left Z t ha h64 hal hgd hl ih hZ _
  ·exact Ak s hg ⟨rg,ra,rb,rl⟩ f a left Z t ha h64 hal hgd hl ih hZ _
 ·generalize u.i=i at *
  generalize u.t=t at *
  clear u
  have hi3':i=3:=by omega
  subst hi3'
  have:s.rowsE a 3=[]:=rfl
  rw[this,List.foldl_nil]at hZ
  subst hZ
  clear ih
  have hl2:=hl Z
  obtain⟨c,G,o⟩:=Z
  obtain⟨hck,hno,_⟩:=hgd
  cases c with
  | nil =>
   cases hno rfl
   conv=>whnf
   repeat(any_goals(first|exact ac|(refine ao ?_ ?_<;>intro _<;>first|exact ap|conv=>whnf)|((first|refine ae ?_|refine bi ?_ ?_|intro _)<;>conv=>whnf)))
   refine And.intro ?_ ?_
   ·conv=>whnf
    refine⟨⟨?_⟩,trivial⟩
    rfl
   ·repeat(first|exact trivial|refine And.intro rfl ?_|refine And.intro (by skip) ?_)
  | own g ee n =>
   cases o
   all_goals conv=>whnf
   all_goals repeat(any_goals(first|exact ac|(refine ao ?_ ?_<;>intro _<;>first|exact ap|conv=>whnf)|((first|refine ae ?_|refine bi ?_ ?_|intro _)<;>conv=>whnf)))
   all_goals
     refine And.intro ?_ ?_
     ·conv=>whnf
      refine⟨⟨?_⟩,trivial⟩
      rfl
     ·repeat(first|exact trivial|refine And.intro rfl ?_|refine And.intro (by skip) ?_)
end Go.Proofs.YtgncapdjheghfaaDoor
namespace Go.Proofs.YtgncapdjheghfaaDoor
open Go.Am Go.Proofs Go
theorem lk{f g:AV→Option AV}(hf:∀{x y:AV},f x=some y→g y=some y):∀{xs l:List AV},tkL f xs=some l→tkL g l=some l
 | [],l,h=>by simp only[tkL,Option.some.injEq]at h;subst h;rfl
 | x::xs,l,h=>by
  simp only[tkL]at h
  split at h
  ·rename_i y ys h1 h2
   simp only[Option.some.injEq]at h;subst h
   simp only[tkL,hf h1,lk hf h2]
  ·simp at h
theorem pl{ks ks':List Key}(hs:∀k,cY k ks=true→cY k ks'=true){x y:AV}(h:tk0 ks x=some y):tk0 ks' y=some y:=by
 have hk:∀{k:Key} {v z:AV},yW ks k v=some z→z=v∧yW ks' k v=some v:=by
  intro k v z h
  obtain⟨h1,h2⟩:=dZ h
  refine⟨h2,?_⟩
  unfold yW
  rw[hs k h1]
 cases x<;>simp only[tk0]at h<;>try(simp at h;done)
 case slice sz es tok =>
  have e:=Option.some.inj h;subst e
  simp only[tk0]
  cases tok<;>cases es<;>rfl
 all_goals first
  | (have e:=Option.some.inj h;subst e;rfl)
  | (obtain⟨e,h'⟩:=hk h;subst e;exact h')
theorem tI{ks ks':List Key}(hs:∀k,cY k ks=true→cY k ks'=true){x y:AV}(h:tk1 ks x=some y):tk1 ks' y=some y:=by
 have one:∀{x y},tk0 ks x=some y→tk1 ks' y=some y:=by
  intro x y h
  have:=pl hs h
  cases y<;>first|exact this|(simp[tk0]at this)
 cases x with
 | func fn fs cs =>
  simp only[tk1]at h
  split at h
  ·rename_i a b h1 h2
   simp only[Option.some.injEq]at h;subst h
   simp only[tk1,lk (pl hs) h1,lk (pl hs) h2]
  ·simp at h
 | _=>exact one (by simpa only[tk1]using h)
theorem Ah{ks ks':List Key}(hs:∀k,cY k ks=true→cY k ks'=true){x y:AV}(h:tk2 ks x=some y):tk2 ks' y=some y:=by
 have one:∀{x y},tk1 ks x=some y→tk2 ks' y=some y:=by
  intro x y h
  have:=tI hs h
  cases y<;>first|exact this|(simp[tk1,tk0]at this)
 cases x with
 | agg cs =>
  simp only[tk2]at h
  split at h
  ·rename_i a h1
   simp only[Option.some.injEq]at h;subst h
   simp only[tk2,lk (tI hs) h1]
  ·simp at h
 | _=>exact one (by simpa only[tk2]using h)
theorem jp{ks ks':List Key}(hs:∀k,cY k ks=true→cY k ks'=true):∀l:List AV,eP ks' (eP ks l)=eP ks l
 | []=>rfl
 | x::l=>by
  simp only[eP,jp hs l]
  congr 1
  cases h:tk2 ks x with
  | none=>rfl
  | some y=>simp only[Ah hs h]
theorem qO(ks:List Key)(l:List AV):eP ks (eP ks l)=eP ks l:=jp (fun _ h=>h) l
def wL:List Key:=[kLb,kB1,kB2,kB3,b6,kT]
theorem fR(ks:List Key):∀(l:List Key) (k:Key),cY k l=true→cY k (l++ks)=true
 | [],k,h=>by cases h
 | x::l,k,h=>by
  simp only[List.cons_append,cY]at h ⊢
  cases hx:k.beq x with
  | true=>rfl
  | false=>rw[hx]at h;exact fR ks l k h
theorem fO:∀(l m:List bV),aB (l++m)=aB l++aB m
 | [],m=>rfl
 | (k,_)::l,m=>by simp only[List.cons_append,aB,fO l m]
theorem li{s:Bill}{r:Rec}(h:eP wL r.l=r.l)(t:NSt):eP (aB (aQ s r t)) r.l=r.l:=by
 rw[←h]
 refine jp (fun k hk=>?_) _
 unfold aQ
 rw[fO]
 exact fR _ _ k hk
theorem qy{s:Bill}{r:Rec}(h:eP wL r.l=r.l)(t:NSt):eP (aB (dA s r t)) r.l=r.l:=by
 rw[←h]
 refine jp (fun k hk=>?_) _
 unfold dA
 rw[fO]
 exact fR _ _ k hk
theorem EH(s:Bill)(hg:s.Good)(r:Rec)(hl:eP wL r.l=r.l)
  (hy:∀t:NSt,t.good 6→BoxA Tryd.prog (.yld kLb r.g) (dA s r t) [t.c.av] (aH true) (dA s r t.yieldM)) :
  ∀(f a left:Nat) (t:NSt),6≤a+f→a≤6→tO a left→left<64→(∀i,left.testBit i=true→i<s.figs.length)→t.good a →
  BoxA Tryd.prog (.fn 55) (aQ s r t) [ak a,ak left,.ptr kY 1 1 0 0,.ptr kCc 1 1 0 0,.ptr kN 1 1 0 0,.ptr kA 1 6 0 0,.ptr kT 1 1 0 0] (aH true) (aQ s r (s.nextM f a left t)):=by
 have up:∀{t:NSt} {a b:Nat},t.good a→a≤b→t.good b:=by
  intro t a b h hab
  refine⟨?_,h.2⟩
  have:=h.1
  revert this
  cases t.c with
  | nil=>exact id
  | own g ee n=>intro⟨h1,h2⟩;exact⟨h1,by omega⟩
 intro f
 induction f with
 | zero =>
  intro a left t h6 ha hF hlt hsub ht
  have:left=0:=hF.zero hlt (by omega)
  subst this
  exact xj s r a t (qy hl) (hy t (up ht ha))
 | succ f ih =>
  intro a left t h6 ha hF hlt hsub ht
  rw[eJ]
  by_cases h0:left=0
  ·subst h0
   rw[if_pos rfl]
   exact xj s r a t (qy hl) (hy t (up ht ha))
  ·rw[if_neg h0]
   have ha6:a<6:=by
    rcases Nat.lt_or_ge a 6 with h|h
    ·exact h
    ·exact absurd (hF.zero hlt h) h0
   by_cases hb:left.testBit a=false
   ·rw[if_pos hb]
    exact CU s r a left t _ ha6 h0 hlt hb (cV ..) ht.2.1 (li hl) (ih (a+1) left t (by omega) (by omega) (hF.next hb) hlt hsub (up ht (Nat.le_succ a)))
   ·rw[if_neg hb]
    rw[Bool.not_eq_false]at hb
    refine CV s hg r f a left t ha6 h0 hlt hb (hsub a hb) ht (li hl) ?_
    intro x hfit hxa hxb u hu
    refine ih (a+1) (aV left x.named) u (by omega) (by omega) ?_ (iT hlt) ?_ hu
    ·intro i hi
     rw[cF _ _ _ hlt,Bool.and_eq_true]at hi
     have h1:=hF i hi.1
     rcases Nat.lt_or_ge a i with h|h
     ·exact h
     ·have:i=a:=by omega
      subst this
      have h2:x.named.testBit i=true:=by
       rw[b9,decide_eq_true_eq]
       omega
      rw[h2]at hi;simp at hi
    ·intro i hi
     rw[cF _ _ _ hlt,Bool.and_eq_true]at hi
     exact hsub i hi.1
def jo:NSt:=⟨.nil,0,none⟩
def Bill.endM(s:Bill):NSt:=s.nextM 6 0 s.someN jo
theorem vq:jo.good 0:=⟨trivial,fun _=>rfl,fun _=>rfl,fun b m h=>by cases h⟩
def Ey(s:Bill)(r:Rec)(t:NSt):List bV:=um s r t++xg t.G t.o
theorem pB(s:Bill)(hg:s.Good):∃c,s.endM.o=some (c,(di c:Int))∧cC none s.cats=some (c,(di c:Int)):=by
 obtain⟨c,h1,_⟩:=pp hg
 refine⟨c,?_,h1⟩
 have h64:=fg hg
 have:=(jJ s 6 0 s.someN 0 jo trivial (fun h=>by omega) (fun _ _=>trivial) ⟨by omega,fun i _=>Nat.zero_le i,h64⟩).1
 have e:s.endM.o=cC none ((s.catsN 6 0 s.someN).map ([]++ ·)):=this
 rw[e]
 have e2:(s.catsN 6 0 s.someN).map ([]++ ·)=s.cats:=by unfold Bill.cats;simp
 rw[e2]
 exact h1
set_option maxHeartbeats 4000000 in
theorem Ct(s:Bill)(hg:s.Good)(r:Rec)(hl:eP wL r.l=r.l)
  (hy:∀t:NSt,t.good 6→BoxA Tryd.prog (.yld kLb r.g) (dA s r t) [t.c.av] (aH true) (dA s r t.yieldM)) :
  BoxA Tryd.prog (.fn 54) (um s r jo) [.yld kLb r.g,.ptr kT 1 1 0 0] (.tuple []) (Ey s r s.endM):=by
 have h64:=fg hg
 have hn:=EH s hg r hl hy 6 0 s.someN jo (by omega) (by omega) (fun i _=>Nat.zero_le i) h64 (fun i hi=>iM hg (by rw[←d7];exact hi)) vq
 obtain⟨w,hw,_⟩:=pB s hg
 have hl0:=li (s:=s) hl jo
 have hl2:=li (s:=s) hl s.endM
 change BoxA _ _ _ _ _ (aQ s r s.endM)at hn
 generalize s.endM=u at *
 obtain⟨rg,ra,rb,rl⟩:=r
 have hn:BoxA Tryd.prog (.fn 55) (aQ s ⟨rg,ra,rb,eP (aB (aQ s ⟨rg,ra,rb,rl⟩ jo)) rl⟩ jo) [ak 0,ak s.someN,.ptr kY 1 1 0 0,.ptr kCc 1 1 0 0,.ptr kN 1 1 0 0,.ptr kA 1 6 0 0,.ptr kT 1 1 0 0] (aH true) (aQ s ⟨rg,ra,rb,rl⟩ u):=by
  rw[hl0];exact hn
 obtain⟨c,G,o⟩:=u
 simp only at hw
 subst hw
 clear hy
 cases c
 all_goals
   refine aD ax { l:=0,f:=54,mat:=[55]} mixed Cg Tryd.func54 (by kernel_rfl) ?_
   conv=>whnf
 all_goals repeat(any_goals(first|exact ac|(refine ao ?_ ?_<;>intro _<;>first|exact ap|conv=>whnf)|((first|refine aa eN ?_|refine ae ?_|refine bi ?_ ?_|intro _)<;>conv=>whnf)))
 all_goals
   refine⟨aB (aQ s ⟨rg,ra,rb,rl⟩ jo),?_⟩
   conv=>whnf
 all_goals
   refine⟨_,_,hn,?_⟩
   conv=>whnf
 all_goals repeat(refine ab (ay _ _) ?_<;>(conv=>whnf))
 all_goals repeat(any_goals(first|exact ac|(refine ao ?_ ?_<;>intro _<;>first|exact ap|conv=>whnf)|((first|refine ae ?_|refine bi ?_ ?_|intro _)<;>conv=>whnf)))
 all_goals
   refine And.intro ?_ ?_
   ·conv=>whnf
    exact⟨⟨rfl⟩,trivial⟩
   ·rw[bH]
    refine kc ?_ ?_
    ·exact(congrArg (fun z=>some (some (rg,some (0,[AV.lp .ready none #[20] ra rb z])))) hl2)
    ·repeat(first|exact trivial|refine kc rfl ?_)
theorem Ej(s:Bill):BoxA Tryd.prog (.fn 34) [co s] [.ptr b6 1 5 0 0] (.func (.func 54) [] [.ptr kT 1 1 0 0]) [co s,(kT,1,1,[.ptr b6 1 5 0 0])]:=by
 unfold co
 refine aD ax { l:=0,f:=34} mixed B0 Tryd.func34 (by kernel_rfl) ?_
 conv=>whnf
 repeat(any_goals(first|exact ac|(refine ao ?_ ?_<;>intro _<;>first|exact ap|conv=>whnf)|((first|refine ae ?_|refine bi ?_ ?_|intro _)<;>conv=>whnf)))
 refine And.intro ?_ ?_
 ·conv=>whnf
  refine⟨⟨?_⟩,trivial⟩
  rfl
 ·repeat(first|exact trivial|refine And.intro rfl ?_|refine And.intro (by skip) ?_)
end Go.Proofs.YtgncapdjheghfaaDoor
namespace Go.Proofs.YtgncapdjheghfaaDoor
open Go.Am Go.Proofs Go
structure MSt where
 i:Nat
 m:Nat
theorem En(ee:List Ent)(n:Nat)(h:n≤ee.length):((ee.map bK).take n).take (min ((ee.map bK).take n).length n)++(List.replicate n (bK ⟨0,0,0⟩)).drop (min ((ee.map bK).take n).length n)=(ee.take n).map bK:=by
 have e:((ee.map bK).take n).length=n:=by rw[List.length_take,List.length_map];omega
 rw[e,Nat.min_self,List.take_of_length_le (by omega),List.drop_of_length_le (by rw[List.length_replicate];omega),List.append_nil,List.map_take]
theorem lT(x:Ent)(l:List Ent):di (x::l)=di l+if x.says=2 then 1 else 0:=by
 unfold di
 rw[List.countP_cons]
 simp only[decide_eq_true_eq]
theorem j9{t:NSt}(h:zL t.o t.c.list=true):t.yieldM=⟨t.c,t.G+1,some (t.c.list,(di t.c.list:Int))⟩:=by
 unfold NSt.yieldM
 rw[if_pos h]
 congr 1
 unfold im
 unfold zL at h
 split at h
 ·rfl
 ·rw[if_pos (of_decide_eq_true h)]
theorem yD{t:NSt}{b:List Ent}{m:Int}(ho:t.o=some (b,m))(h:¬(di t.c.list:Int)<m):t.yieldM=t:=by
 obtain⟨c,G,o⟩:=t
 simp only at ho h
 subst ho
 unfold NSt.yieldM zL im
 simp only[decide_eq_false h,if_neg h,Bool.false_eq_true,if_false]
theorem bf(l:List Ent)(n:Nat)(h:n=l.length):dy ((l.map bK).take n)=some (l.map bK):=by
 rw[List.take_of_length_le (by rw[List.length_map];omega)]
 clear h
 induction l with
 | nil=>rfl
 | cons x l ih=>simp only[List.map_cons,dy,ih,show sK (bK x)=some (bK x)from rfl]
def BD(x:List Ent×Int×Int):AV:= .tuple [bg x.1,ak x.2.1,ak x.2.2]
theorem BE(s:Bill)(hr:s.small)(e:Int)(he:s.check.2.2=e)(h0:e≠0):PureA Tryd.prog 22 [ci s] (.tuple [nw,ak 0,ak e]):=by
 have hlk:=pV s hr e he h0
 refine ag ax { l:=0,f:=22,mat:=[14,34]} mixed vY Tryd.func22 (by kernel_rfl) ?_
 conv=>whnf
 repeat(any_goals(first|exact ac|(refine ao ?_ ?_<;>intro _<;>first|exact ap|conv=>whnf)|((first|refine ae ?_|refine bi ?_ ?_|intro _)<;>conv=>whnf)))
 refine⟨[],?_⟩
 conv=>whnf
 refine⟨_,_,hlk,?_⟩
 conv=>whnf
 repeat(any_goals(first|exact ac|(refine ao ?_ ?_<;>intro _<;>first|exact ap|conv=>whnf)|((first|refine ae ?_|refine bi ?_ ?_|intro _)<;>conv=>whnf)))
 (refine⟨⟨?_⟩,trivial⟩;rfl)
set_option maxHeartbeats 8000000 in
theorem BF(s:Bill)(hr:s.small)(hc:s.check.2.2=0)(b:List Ent)(hb:cC none s.cats=some (b,(di b:Int))):PureA Tryd.prog 22 [ci s] (.tuple [bg b,ak (di b),ak 0]):=by
 have hg:=Bill.good hc
 have hlk:=g6 s hr hc
 have hca:=Ej s
 obtain⟨c,hu,hcb⟩:=pB s hg
 rw[hb]at hcb
 cases hcb
 have hit:=fun r hl hy=>Ct s hg r hl hy
 generalize s.endM=u at *
 obtain⟨cu,G,o⟩:=u
 simp only at hu
 subst hu
 unfold co at hlk hca
 refine ag ax { l:=0,f:=22,mat:=[14,34]} mixed vY Tryd.func22 (by kernel_rfl) ?_
 conv=>whnf
 repeat(any_goals(first|exact ac|(refine ao ?_ ?_<;>intro _<;>first|exact ap|conv=>whnf)|((first|refine ae ?_|refine bi ?_ ?_|intro _)<;>conv=>whnf)))
 refine⟨[],?_⟩
 conv=>whnf
 refine⟨_,_,hlk,?_⟩
 conv=>whnf
 repeat(any_goals(first|exact ac|(refine ao ?_ ?_<;>intro _<;>first|exact ap|conv=>whnf)|((first|refine ae ?_|refine bi ?_ ?_|intro _)<;>conv=>whnf)))
 refine⟨[b6],?_⟩
 conv=>whnf
 refine⟨_,_,hca,?_⟩
 conv=>whnf
 repeat(any_goals(first|exact ac|(refine ao ?_ ?_<;>intro _<;>first|exact ap|conv=>whnf)|((first|refine ae ?_|refine bi ?_ ?_|intro _)<;>conv=>whnf)))
 refine⟨wL,?_⟩
 conv=>whnf
 refine⟨_,_,hit ⟨_,_,_,_⟩ ?_ ?_,?_⟩
 ·first|exact qO _ _|rfl
 ·rintro⟨c,G,o⟩ ⟨hok,hno,hQ1,hQ2⟩
  simp only at hok hno hQ1 hQ2
  cases c with
  | nil =>
   cases hno rfl
   cases hQ1 rfl
   rw[j9 (t:=⟨.nil,0,none⟩) rfl]
   refine aZ ax { l:=0,f:=22,rd:=true} mixed rfl rfl rfl (by kernel_rfl) ?_
   conv=>whnf
   refine And.intro rfl ?_
   conv=>whnf
   repeat(any_goals(first|exact ac|(refine ao ?_ ?_<;>intro _<;>first|exact ap|conv=>whnf)|((first|refine ae ?_|refine bi ?_ ?_|intro _)<;>conv=>whnf)))
   refine bS ax { l:=0,f:=22,rd:=true} mixed (fun i:Nat=>[(23,ak i),(7,ak 0)]) (fun _=>[]) (fun _=>[]) (fun i=>i=0) (fun i=>i) 0 (by kernel_rfl)
    rfl ?_
   conv=>whnf
   refine⟨⟨aj rfl (aj rfl trivial),trivial,trivial⟩,?_⟩
   intro i hi
   subst hi
   conv=>whnf
   repeat(any_goals(first|exact ac|(refine ao ?_ ?_<;>intro _<;>first|exact ap|conv=>whnf)|((first|refine ae ?_|refine bi ?_ ?_|intro _)<;>conv=>whnf)))
   repeat(first|exact trivial|refine And.intro rfl ?_|refine kc rfl ?_|refine kc (by rfl) ?_)
  | own g ee n =>
   obtain⟨hn,hn6⟩:=hok
   have hlen:(ee.take n).length=n:=by rw[List.length_take];omega
   have hel:(ee.map bK).length=ee.length:=List.length_map ..
   cases o with
   | none =>
    cases hQ1 rfl
    rw[j9 (t:=⟨.own g ee n,0,none⟩) rfl]
    refine aZ ax { l:=0,f:=22,rd:=true} mixed rfl rfl rfl (by kernel_rfl) ?_
    conv=>whnf
    refine And.intro rfl ?_
    conv=>whnf
    repeat(any_goals(first|exact ac|(refine ao ?_ ?_<;>intro _<;>first|exact ap|conv=>whnf)|((first|refine ae ?_|refine bi ?_ ?_|intro _)<;>conv=>whnf)))
    refine bS ax { l:=0,f:=22,rd:=true} mixed (fun u:MSt=>[(23,ak u.i),(7,ak u.m)]) (fun _=>[]) (fun _=>[]) (fun u=>u.i≤n∧di (ee.take n)=u.m+di ((ee.take n).drop u.i)∧u.m≤u.i) (fun u=>n-u.i) (⟨0,0⟩:MSt) (by kernel_rfl)
     ⟨Nat.zero_le _,(Nat.zero_add _).symm,Nat.le_refl _⟩ ?_
    conv=>whnf
    refine⟨⟨aj rfl (aj rfl trivial),trivial,trivial⟩,?_⟩
    rintro u ⟨hi,H,hm⟩
    generalize u.i=i at *
    generalize u.m=m at *
    clear u
    by_cases hil:i<n
    ·obtain⟨x,hx,hd⟩:=aF (l:=ee.take n) (i:=i) (by omega)
     have hx':ee[i]?=some x:=by rw[List.getElem?_take,if_pos hil]at hx;exact hx
     rw[hd,lT]at H
     by_cases q:x.says=2
     ·rw[if_pos q]at H
      conv=>whnf
      repeat(any_goals(first|exact ac|(refine ao ?_ ?_<;>intro _<;>first|exact ap|conv=>whnf)|((first|refine af hx' rfl ?_|refine ae ?_|refine bi ?_ ?_|intro _)<;>conv=>whnf)))
      (refine⟨⟨i+1,m+1⟩,⟨by show i+1≤_;omega,by show di _=m+1+di ((ee.take n).drop (i+1));omega,by show m+1≤i+1;omega⟩,(by show _-(i+1)<_-i;omega),?_⟩;(conv=>whnf);refine⟨?_,?_,?_⟩<;>repeat(first|exact trivial|refine sc rfl ?_|refine kn ?_|refine kc rfl ?_|refine sc (by rfl) ?_|refine kc (by rfl) ?_))
     ·rw[if_neg q]at H
      conv=>whnf
      repeat(any_goals(first|exact ac|(refine ao ?_ ?_<;>intro _<;>first|exact ap|conv=>whnf)|((first|refine af hx' rfl ?_|refine ae ?_|refine bi ?_ ?_|intro _)<;>conv=>whnf)))
      (refine⟨⟨i+1,m⟩,⟨by show i+1≤_;omega,by show di _=m+di ((ee.take n).drop (i+1));omega,by show m≤i+1;omega⟩,(by show _-(i+1)<_-i;omega),?_⟩;(conv=>whnf);refine⟨?_,?_,?_⟩<;>repeat(first|exact trivial|refine sc rfl ?_|refine kn ?_|refine kc rfl ?_|refine sc (by rfl) ?_|refine kc (by rfl) ?_))
    ·have hin:i=n:=by omega
     subst hin
     rw[List.drop_of_length_le (by omega),show di []=0 from rfl,Nat.add_zero]at H
     conv=>whnf
     repeat(any_goals(first|exact ac|(refine ao ?_ ?_<;>intro _<;>first|exact ap|conv=>whnf)|((first|refine ae ?_|refine bi ?_ ?_|intro _)<;>conv=>whnf)))
     repeat(first|exact trivial|refine And.intro rfl ?_|refine kc rfl ?_|refine kc (by first|(exact congrArg (fun z=>some (some (0+1,some (3,z)))) (En ee i hn))|(exact congrArg (fun z=>some (some (1,some (1,[AV.own kMk (0+1) 3 z 0])))) hlen.symm)|(show _=some (some (1,some (1,[ak (di (ee.take i):Nat)])));rw[H];rfl)) ?_)
   | some q =>
    obtain⟨b,m0⟩:=q
    have hm0:=hQ2 b m0 rfl
    by_cases hlt:(di (ee.take n):Int)<m0
    ·rw[j9 (t:=⟨.own g ee n,G,some (b,m0)⟩) (decide_eq_true hlt)]
     refine aZ ax { l:=0,f:=22,rd:=true} mixed rfl rfl rfl (by kernel_rfl) ?_
     conv=>whnf
     refine And.intro rfl ?_
     conv=>whnf
     repeat(any_goals(first|exact ac|(refine ao ?_ ?_<;>intro _<;>first|exact ap|conv=>whnf)|((first|refine ae ?_|refine bi ?_ ?_|intro _)<;>conv=>whnf)))
     refine bS ax { l:=0,f:=22,rd:=true} mixed (fun u:MSt=>[(23,ak u.i),(7,ak u.m)]) (fun _=>[]) (fun _=>[]) (fun u=>u.i≤n∧di (ee.take n)=u.m+di ((ee.take n).drop u.i)∧u.m≤u.i) (fun u=>n-u.i) (⟨0,0⟩:MSt) (by kernel_rfl)
      ⟨Nat.zero_le _,(Nat.zero_add _).symm,Nat.le_refl _⟩ ?_
     conv=>whnf
     refine⟨⟨aj rfl (aj rfl trivial),trivial,trivial⟩,?_⟩
     rintro u ⟨hi,H,hm⟩
     generalize u.i=i at *
     generalize u.m=m at *
     clear u
     by_cases hil:i<n
     ·obtain⟨x,hx,hd⟩:=aF (l:=ee.take n) (i:=i) (by omega)
      have hx':ee[i]?=some x:=by rw[List.getElem?_take,if_pos hil]at hx;exact hx
      rw[hd,lT]at H
      by_cases q:x.says=2
      ·rw[if_pos q]at H
       conv=>whnf
       repeat(any_goals(first|exact ac|(refine ao ?_ ?_<;>intro _<;>first|exact ap|conv=>whnf)|((first|refine af hx' rfl ?_|refine ae ?_|refine bi ?_ ?_|intro _)<;>conv=>whnf)))
       (refine⟨⟨i+1,m+1⟩,⟨by show i+1≤_;omega,by show di _=m+1+di ((ee.take n).drop (i+1));omega,by show m+1≤i+1;omega⟩,(by show _-(i+1)<_-i;omega),?_⟩;(conv=>whnf);refine⟨?_,?_,?_⟩<;>repeat(first|exact trivial|refine sc rfl ?_|refine kn ?_|refine kc rfl ?_|refine sc (by rfl) ?_|refine kc (by rfl) ?_))
      ·rw[if_neg q]at H
       conv=>whnf
       repeat(any_goals(first|exact ac|(refine ao ?_ ?_<;>intro _<;>first|exact ap|conv=>whnf)|((first|refine af hx' rfl ?_|refine ae ?_|refine bi ?_ ?_|intro _)<;>conv=>whnf)))
       (refine⟨⟨i+1,m⟩,⟨by show i+1≤_;omega,by show di _=m+di ((ee.take n).drop (i+1));omega,by show m≤i+1;omega⟩,(by show _-(i+1)<_-i;omega),?_⟩;(conv=>whnf);refine⟨?_,?_,?_⟩<;>repeat(first|exact trivial|refine sc rfl ?_|refine kn ?_|refine kc rfl ?_|refine sc (by rfl) ?_|refine kc (by rfl) ?_))
     ·have hin:i=n:=by omega
      subst hin
      rw[List.drop_of_length_le (by omega),show di []=0 from rfl,Nat.add_zero]at H
      rw[H]at hlt
      conv=>whnf
      repeat(any_goals(first|exact ac|(refine ao ?_ ?_<;>intro _<;>first|exact ap|conv=>whnf)|((first|refine ae ?_|refine bi ?_ ?_|intro _)<;>conv=>whnf)))
      all_goals(try(exfalso;rename_i h;first|exact h hlt|exact hlt h|exact absurd (show m0<0 from h) (by omega)))
      all_goals repeat(first|exact trivial|refine And.intro rfl ?_|refine kc rfl ?_|refine kc (by first|(exact congrArg (fun z=>some (some (G+1,some (3,z)))) (En ee i hn))|(exact congrArg (fun z=>some (some (1,some (1,[AV.own kMk (G+1) 3 z 0])))) hlen.symm)|(show _=some (some (1,some (1,[ak (di (ee.take i):Nat)])));rw[H];rfl)) ?_)
    ·rw[yD (t:=⟨.own g ee n,G,some (b,m0)⟩) rfl hlt]
     refine aZ ax { l:=0,f:=22,rd:=true} mixed rfl rfl rfl (by kernel_rfl) ?_
     conv=>whnf
     refine And.intro rfl ?_
     conv=>whnf
     repeat(any_goals(first|exact ac|(refine ao ?_ ?_<;>intro _<;>first|exact ap|conv=>whnf)|((first|refine ae ?_|refine bi ?_ ?_|intro _)<;>conv=>whnf)))
     refine bS ax { l:=0,f:=22,rd:=true} mixed (fun u:MSt=>[(23,ak u.i),(7,ak u.m)]) (fun _=>[]) (fun _=>[]) (fun u=>u.i≤n∧di (ee.take n)=u.m+di ((ee.take n).drop u.i)∧u.m≤u.i) (fun u=>n-u.i) (⟨0,0⟩:MSt) (by kernel_rfl)
      ⟨Nat.zero_le _,(Nat.zero_add _).symm,Nat.le_refl _⟩ ?_
     conv=>whnf
     refine⟨⟨aj rfl (aj rfl trivial),trivial,trivial⟩,?_⟩
     rintro u ⟨hi,H,hm⟩
     generalize u.i=i at *
     generalize u.m=m at *
     clear u
     by_cases hil:i<n
     ·obtain⟨x,hx,hd⟩:=aF (l:=ee.take n) (i:=i) (by omega)
      have hx':ee[i]?=some x:=by rw[List.getElem?_take,if_pos hil]at hx;exact hx
      rw[hd,lT]at H
      by_cases q:x.says=2
      ·rw[if_pos q]at H
       conv=>whnf
       repeat(any_goals(first|exact ac|(refine ao ?_ ?_<;>intro _<;>first|exact ap|conv=>whnf)|((first|refine af hx' rfl ?_|refine ae ?_|refine bi ?_ ?_|intro _)<;>conv=>whnf)))
       (refine⟨⟨i+1,m+1⟩,⟨by show i+1≤_;omega,by show di _=m+1+di ((ee.take n).drop (i+1));omega,by show m+1≤i+1;omega⟩,(by show _-(i+1)<_-i;omega),?_⟩;(conv=>whnf);refine⟨?_,?_,?_⟩<;>repeat(first|exact trivial|refine sc rfl ?_|refine kn ?_|refine kc rfl ?_|refine sc (by rfl) ?_|refine kc (by rfl) ?_))
      ·rw[if_neg q]at H
       conv=>whnf
       repeat(any_goals(first|exact ac|(refine ao ?_ ?_<;>intro _<;>first|exact ap|conv=>whnf)|((first|refine af hx' rfl ?_|refine ae ?_|refine bi ?_ ?_|intro _)<;>conv=>whnf)))
       (refine⟨⟨i+1,m⟩,⟨by show i+1≤_;omega,by show di _=m+di ((ee.take n).drop (i+1));omega,by show m≤i+1;omega⟩,(by show _-(i+1)<_-i;omega),?_⟩;(conv=>whnf);refine⟨?_,?_,?_⟩<;>repeat(first|exact trivial|refine sc rfl ?_|refine kn ?_|refine kc rfl ?_|refine sc (by rfl) ?_|refine kc (by rfl) ?_))
     ·have hin:i=n:=by omega
      subst hin
      rw[List.drop_of_length_le (by omega),show di []=0 from rfl,Nat.add_zero]at H
      rw[H]at hlt
      conv=>whnf
      repeat(any_goals(first|exact ac|(refine ao ?_ ?_<;>intro _<;>first|exact ap|conv=>whnf)|((first|refine ae ?_|refine bi ?_ ?_|intro _)<;>conv=>whnf)))
      all_goals(try(exfalso;rename_i h;first|exact h hlt|exact hlt h|exact absurd (show m0<0 from h) (by omega)))
      all_goals repeat(first|exact trivial|refine And.intro rfl ?_|refine kc rfl ?_|refine kc (by rfl) ?_)
 ·conv=>whnf
  repeat(refine ab (ay _ _) ?_<;>(conv=>whnf))
  repeat(any_goals(first|exact ac|(refine ao ?_ ?_<;>intro _<;>first|exact ap|conv=>whnf)|((first|refine ae ?_|refine bi ?_ ?_|intro _)<;>conv=>whnf)))
  refine ab (bf b b.length rfl) ?_
  conv=>whnf
  (refine⟨⟨?_⟩,trivial⟩;rfl)
theorem vP(s:Bill)(hr:s.small):PureA Tryd.prog 22 [ci s] (BD s.bestR):=by
 unfold Bill.bestR BD
 by_cases hc:s.check.2.2=0
 ·rw[if_neg (fun h=>h hc)]
  obtain⟨b,hb,_⟩:=pp (Bill.good hc)
  rw[hb]
  exact BF s hr hc b hb
 ·rw[if_pos hc]
  exact(BE s hr _ rfl hc).wk (Wk.tuple (.cons (Wk.nil 3) (WkL.refl _)))
end Go.Proofs.YtgncapdjheghfaaDoor
namespace Go.Proofs.YtgncapdjheghfaaDoor
open Go.Am Go.Proofs Go
end Go.Proofs.YtgncapdjheghfaaDoor
namespace Go.Proofs.YtgncapdjheghfaaDoor
open Go.Am Go.Proofs Go
end Go.Proofs.YtgncapdjheghfaaDoor
namespace Go.Proofs.YtgncapdjheghfaaDoor
open Go.Am Go.Proofs Go
end Go.Proofs.YtgncapdjheghfaaDoor
namespace Go.Proofs.YtgncapdjheghfaaDoor
open Go.Am Go.Proofs Go
def eqE(x y:Ent):Bool:=decide (x=y)
theorem Be(x y:Ent):eqL [.int .i64 x.says,.int .i64 x.a,.int .i64 x.b] [.int .i64 y.says,.int .i64 y.a,.int .i64 y.b]=eqE x y:=by
 obtain⟨x1,x2,x3⟩:=x
 obtain⟨y1,y2,y3⟩:=y
 unfold eqE
 simp only[Ent.mk.injEq]
 have e:∀a b:Int,eqC (.int .i64 a) (.int .i64 b)=decide (a=b):=by
  intro a b
  rw[Bool.eq_iff_iff]
  simp[eqC]
 simp only[eqL,e,Bool.and_true]
 rw[Bool.eq_iff_iff]
 simp
theorem Ds(a b:List Ent)(ha:a.length≤1048576)(hb:b.length≤1048576):PureA Tryd.prog 25 [bg a,bg b] (aH (dw eqE a b)):=by
 have hlen:decide ((a.length:Int)=b.length)=true→a.length=b.length:=by simp;omega
 obtain⟨R,hRe⟩:∃R,R=dw eqE a b:=⟨_,rfl⟩
 rw[←hRe]
 have hR:R=(decide ((a.length:Int)=b.length)&&dw eqE a b):=by rw[hRe];exact pC eqE a b
 clear hRe
 refine ag ax { l:=0,f:=25} mixed BU Tryd.func25 (by kernel_rfl) ?_
 conv=>whnf
 refine bS ax { l:=0,f:=25} mixed (fun x:Nat×Bool=>[(6,ak x.1),(5,aH x.2)]) (fun _=>[]) (fun _=>[]) (fun x=>x.1≤a.length∧(x.2=true→a.length=b.length)∧R=(x.2&&dw eqE (a.drop x.1) (b.drop x.1))) (fun x=>a.length-x.1) (0,decide ((a.length:Int)=b.length)) (by kernel_rfl)
  ⟨Nat.zero_le _,hlen,hR⟩ ?_
 conv=>whnf
 refine⟨⟨aj rfl (aj (by
    conv=>lhs;whnf
    simp[aH]) trivial),trivial,trivial⟩,?_⟩
 intro⟨i,same⟩ ⟨hi,hs,H⟩
 simp only at hi hs H
 cases same
 ·conv=>whnf
  repeat(any_goals(first|exact ac|(refine ao ?_ ?_<;>intro _<;>first|exact ap|conv=>whnf)|((first|refine ae ?_|refine bi ?_ ?_|intro _)<;>conv=>whnf)))
  (refine⟨⟨?_⟩,trivial⟩;rw[H];rfl)
 ·have hs:=hs rfl
  rw[Bool.true_and]at H
  conv=>whnf
  refine bQ (fun h1=>?_) (fun h1=>?_)
  ·simp only[List.length_map]at h1
   obtain⟨x,hx,hd⟩:=aF (l:=a) (i:=i) (by omega)
   obtain⟨y,hy,he⟩:=aF (l:=b) (i:=i) (by omega)
   rw[hd,he]at H
   simp only[dw]at H
   skip
   conv=>whnf
   repeat(any_goals(first|exact ac|(refine ao ?_ ?_<;>intro _<;>first|exact ap|conv=>whnf)|((first|refine af hx rfl ?_|refine af hy rfl ?_|refine ae ?_|refine bi ?_ ?_|intro _)<;>conv=>whnf)))
   (refine⟨(i+1,eqE x y),⟨by simp only;omega,fun _=>hs,H⟩,(by simp only;omega),?_⟩;(conv=>whnf);refine⟨?_,?_,?_⟩<;>repeat(first|exact trivial|refine sc rfl ?_|refine kn ?_|refine kc rfl ?_|refine sc (by first|rfl|exact congrArg (fun b=>some (aH b)) (Be x y)) ?_|refine kc (by first|rfl|exact congrArg (fun b=>some (aH b)) (Be x y)) ?_))
  ·conv=>whnf
   simp only[List.length_map]at h1
   have:i=a.length:=by omega
   subst this
   rw[hs,List.drop_length, ←hs,List.drop_length]at H
   (refine⟨⟨?_⟩,trivial⟩;rw[H];rfl)
theorem wB:∀a b:List Ent,dw eqE a b=decide (a=b)
 | [],[]=>by simp[dw]
 | [],y::b=>by simp[dw]
 | x::a,[]=>by simp[dw]
 | x::a,y::b=>by
  simp only[dw,wB a b,eqE]
  rw[Bool.eq_iff_iff]
  simp
theorem xO(a b:List Ent)(ha:a.length≤1048576)(hb:b.length≤1048576):PureA Tryd.prog 25 [bg a,bg b] (aH (decide (a=b))):=by
 have:=Ds a b ha hb
 rwa [wB]at this
theorem wC:∀a b:List Int,dw (fun x y:Int=>decide (x=y)) a b=decide (a=b)
 | [],[]=>by simp[dw]
 | [],y::b=>by simp[dw]
 | x::a,[]=>by simp[dw]
 | x::a,y::b=>by
  simp only[dw,wC a b]
  rw[Bool.eq_iff_iff]
  simp
theorem f9(a b:List Int)(ha:a.length≤1048576)(hb:b.length≤1048576):PureA Tryd.prog 11 [bU a,bU b] (aH (decide (a=b))):=by
 have:=Ez a b ha hb
 rwa [wC]at this
end Go.Proofs.YtgncapdjheghfaaDoor
namespace Go.Proofs.YtgncapdjheghfaaDoor
open Go.Am Go.Proofs Go
end Go.Proofs.YtgncapdjheghfaaDoor
namespace Go.Am
open Go
end Go.Am
namespace Go.Proofs.YtgncapdjheghfaaDoor
open Go.Am Go.Proofs Go
end Go.Proofs.YtgncapdjheghfaaDoor
namespace Go.Proofs.YtgncapdjheghfaaDoor
open Go.Am Go.Proofs Go
end Go.Proofs.YtgncapdjheghfaaDoor
namespace Go.Proofs.YtgncapdjheghfaaDoor
open Go.Am Go.Proofs Go
def vF(x y:Int):Int:=if x<y then -1 else if y<x then 1 else 0
theorem wP(x:Int):PureA Tryd.prog 77 [ak x] (aH false):=by
 refine ag ax { l:=0,f:=77} mixed Cs Tryd.func77 (by kernel_rfl) ?_
 conv=>whnf
 (refine⟨⟨?_⟩,trivial⟩;simp[oneOf,aH])
theorem Ek(x y:Int):PureA Tryd.prog 71 [ak x,ak y] (ak (vF x y)):=by
 have hx:=wP x
 have hy:=wP y
 unfold vF
 refine ag ax { l:=0,f:=71} mixed Cp Tryd.func71 (by kernel_rfl) ?_
 conv=>whnf
 repeat(any_goals(first|exact ac|(refine ao ?_ ?_<;>intro _<;>first|exact ap|conv=>whnf)|((first|refine aa hx ?_|refine aa hy ?_|refine ae ?_|refine bi ?_ ?_|intro _)<;>conv=>whnf)))
 all_goals
  refine⟨⟨?_⟩,trivial⟩
  show ak (if x<y then -1 else if y<x then 1 else 0)=ak _
  congr 1
  split
  ·omega
  ·first|rfl|(split<;>omega)
def rk:List Int→List Int→Int
 | [],[]=>0
 | [],_::_=> -1
 | _::_,[]=>1
 | x::xs,y::ys=>if vF x y=0 then rk xs ys else vF x y
theorem El(a b:List Int)(ha:a.length≤1048576)(hb:b.length≤1048576):PureA Tryd.prog 53 [bU a,bU b] (ak (rk a b)):=by
 have hbl:(b.map ak).length=b.length:=List.length_map ..
 refine ag ax { l:=0,f:=53} mixed Cf Tryd.func53 (by kernel_rfl) ?_
 conv=>whnf
 refine bS ax { l:=0,f:=53} mixed (fun i:Nat=>[(11,ak i)]) (fun _=>[]) (fun _=>[]) (fun i=>i≤a.length∧i≤b.length∧rk a b=rk (a.drop i) (b.drop i)) (fun i=>a.length-i) 0 (by kernel_rfl)
  ⟨Nat.zero_le _,Nat.zero_le _,rfl⟩ ?_
 conv=>whnf
 refine⟨⟨aj rfl trivial,trivial,trivial⟩,?_⟩
 intro i ⟨hi,hj,H⟩
 generalize rk a b=R at *
 conv=>whnf
 refine bQ (fun h1=>?_) (fun h1=>?_)
 ·simp only[List.length_map]at h1
  obtain⟨x,hx,hd⟩:=aF (l:=a) (i:=i) (by omega)
  rw[hd]at H
  by_cases hib:i=b.length
  ·rw[hib,List.drop_length]at H
   simp only[rk]at H
   conv=>whnf
   repeat(any_goals(first|exact ac|(refine ao ?_ ?_<;>intro _<;>first|exact ap|conv=>whnf)|((first|refine af hx rfl ?_|refine ae ?_|refine bi ?_ ?_|intro _)<;>conv=>whnf)))
   (refine⟨⟨?_⟩,trivial⟩;rw[H];rfl)
  ·obtain⟨y,hy,he⟩:=aF (l:=b) (i:=i) (by omega)
   rw[he]at H
   simp only[rk]at H
   have hc:=Ek x y
   generalize vF x y=c at *
   conv=>whnf
   repeat(any_goals(first|exact ac|(refine ao ?_ ?_<;>intro _<;>first|exact ap|conv=>whnf)|((first|refine af hx rfl ?_|refine af hy rfl ?_|refine aa hc ?_|refine ae ?_|refine bi ?_ ?_|intro _)<;>conv=>whnf)))
   ·rename_i h
    rw[if_pos h]at H
    (refine⟨i+1,⟨by omega,by omega,H⟩,by omega,?_⟩;(conv=>whnf);refine⟨?_,?_,?_⟩<;>repeat(first|exact trivial|refine sc rfl ?_|refine kn ?_|refine kc rfl ?_))
   ·rename_i h
    rw[if_neg h]at H
    (refine⟨⟨?_⟩,trivial⟩;rw[H];rfl)
 ·conv=>whnf
  simp only[List.length_map]at h1
  have:i=a.length:=by omega
  subst this
  rw[List.drop_length]at H
  repeat(any_goals(first|exact ac|(refine ao ?_ ?_<;>intro _<;>first|exact ap|conv=>whnf)|((first|refine ae ?_|refine bi ?_ ?_|intro _)<;>conv=>whnf)))
  ·rename_i h
   simp only[List.length_map]at h
   obtain⟨y,hy,he⟩:=aF (l:=b) (i:=a.length) (by omega)
   rw[he]at H
   (refine⟨⟨?_⟩,trivial⟩;rw[H];rfl)
  ·rename_i h
   simp only[List.length_map]at h
   rw[List.drop_of_length_le (by omega)]at H
   (refine⟨⟨?_⟩,trivial⟩;rw[H];rfl)
def orL:List Int→Int
 | []=>0
 | x::l=>if x≠0 then x else orL l
theorem or_c(l:List Int)(hl:l.length≤1048576):PureA Tryd.prog 52 [bU l] (ak (orL l)):=by
 obtain⟨R,hR⟩:∃R,R=orL l:=⟨_,rfl⟩
 rw[←hR]
 refine ag ax { l:=0,f:=52} mixed Ce Tryd.func52 (by kernel_rfl) ?_
 conv=>whnf
 refine bS ax { l:=0,f:=52} mixed (fun i:Nat=>[(8,ak i)]) (fun _=>[]) (fun _=>[]) (fun i=>i≤l.length∧R=orL (l.drop i)) (fun i=>l.length-i) 0 (by kernel_rfl)
  ⟨Nat.zero_le _,hR⟩ ?_
 conv=>whnf
 refine⟨⟨aj rfl trivial,trivial,trivial⟩,?_⟩
 intro i ⟨hi,H⟩
 conv=>whnf
 refine bQ (fun h1=>?_) (fun h1=>?_)
 ·simp only[List.length_map]at h1
  obtain⟨x,hx,hd⟩:=aF (l:=l) (i:=i) (by omega)
  rw[hd]at H
  simp only[orL]at H
  by_cases q:x=0
  ·rw[if_neg (by simpa using q)]at H
   conv=>whnf
   repeat(any_goals(first|exact ac|(refine ao ?_ ?_<;>intro _<;>first|exact ap|conv=>whnf)|((first|refine af hx rfl ?_|refine ae ?_|refine bi ?_ ?_|intro _)<;>conv=>whnf)))
   (refine⟨i+1,⟨by omega,H⟩,(by omega),?_⟩;(conv=>whnf);refine⟨?_,?_,?_⟩<;>repeat(first|exact trivial|refine sc rfl ?_|refine kn ?_|refine kc rfl ?_))
  ·rw[if_pos q]at H
   conv=>whnf
   repeat(any_goals(first|exact ac|(refine ao ?_ ?_<;>intro _<;>first|exact ap|conv=>whnf)|((first|refine af hx rfl ?_|refine ae ?_|refine bi ?_ ?_|intro _)<;>conv=>whnf)))
   (refine⟨⟨?_⟩,trivial⟩;rw[H];rfl)
 ·conv=>whnf
  simp only[List.length_map]at h1
  have:i=l.length:=by omega
  subst this
  simp only[List.drop_length,orL]at H
  (refine⟨⟨?_⟩,trivial⟩;rw[H];rfl)
theorem px:∀a b:List Int,cE a b=decide (rk a b<0)
 | [],[]=>rfl
 | [],_::_=>rfl
 | _::_,[]=>rfl
 | x::a,y::b=>by
  have hc:(x<y→vF x y = -1)∧(y<x→vF x y=1)∧(x=y→vF x y=0):=by
   unfold vF
   refine⟨fun h=>by rw[if_pos h],fun h=>by rw[if_neg (by omega),if_pos h],fun h=>by rw[if_neg (by omega),if_neg (by omega)]⟩
  obtain⟨c1,c2,c3⟩:=hc
  show(if x=y then cE a b else decide (x<y))=decide ((if vF x y=0 then rk a b else vF x y)<0)
  generalize vF x y=c at *
  by_cases h:x=y
  ·rw[if_pos h,if_pos (c3 h)]
   exact px a b
  ·rw[if_neg h]
   rcases(by omega:x<y∨y<x)with q|q
   ·have:=c1 q
    rw[if_neg (by omega),decide_eq_decide];omega
   ·have:=c2 q
    rw[if_neg (by omega),decide_eq_decide];omega
theorem vQ(p q:Press):bu p q=decide (orL [p.white-q.white,(p.pages.length:Int)-q.pages.length,rk p.pages q.pages]<0):=by
 have e:∀a b c:Int,orL [a,b,c]=if a≠0 then a else if b≠0 then b else if c≠0 then c else 0:=fun _ _ _=>rfl
 have l:cE p.pages q.pages=decide (rk p.pages q.pages<0):=px _ _
 unfold bu fH
 rw[e,l]
 generalize rk p.pages q.pages=c
 by_cases h1:p.white=q.white
 ·rw[if_neg (by simpa using h1),if_neg (show¬(p.white-q.white≠0) by omega)]
  by_cases h2:p.pages.length=q.pages.length
  ·rw[if_pos h2,if_neg (show¬((p.pages.length:Int)-q.pages.length≠0) by omega)]
   by_cases h3:c=0
   ·subst h3;rfl
   ·rw[if_pos h3]
  ·rw[if_neg h2,if_pos (show((p.pages.length:Int)-q.pages.length≠0) by omega),decide_eq_decide];omega
 ·rw[if_pos h1,if_pos (show(p.white-q.white≠0) by omega),decide_eq_decide];omega
def qo(p:Press):List AV:=[bU p.pages,ak p.white]
def fu(p:Press):AV:= .agg (qo p)
theorem kW(p q:Press)(hp:p.pages.length≤1048576)(hq:q.pages.length≤1048576)(hw : -1000000≤p.white∧p.white≤1000000)(hv : -1000000≤q.white∧q.white≤1000000) :
  PureA Tryd.prog 33 [fu p,fu q] (aH (bu p q)):=by
 have h1:=El p.pages q.pages hp hq
 have e1:(p.pages.map ak).length=p.pages.length:=List.length_map ..
 have e2:(q.pages.map ak).length=q.pages.length:=List.length_map ..
 have h2:=or_c [p.white-q.white,((p.pages.map ak).length:Int)-((q.pages.map ak).length:Int),rk p.pages q.pages] (by simp)
 rw[vQ, ←e1, ←e2]
 generalize orL [p.white-q.white,((p.pages.map ak).length:Int)-((q.pages.map ak).length:Int),rk p.pages q.pages]=v at *
 generalize rk p.pages q.pages=c at *
 refine ag ax { l:=0,f:=33} mixed BZ Tryd.func33 (by kernel_rfl) ?_
 conv=>whnf
 repeat(any_goals(first|exact ac|(refine ao ?_ ?_<;>intro _<;>first|exact ap|conv=>whnf)|((first|refine aa h1 ?_|refine aa h2 ?_|refine ae ?_|refine bi ?_ ?_|intro _)<;>conv=>whnf)))
 (refine⟨⟨?_⟩,trivial⟩;rfl)
end Go.Proofs.YtgncapdjheghfaaDoor
namespace Go.Proofs.YtgncapdjheghfaaDoor
open Go.Am Go.Proofs Go
theorem jh{s:Bill}{c:List Ent}{p q:Nat→Press}{i:Nat}(h:∀k,i<k→k≤c.length→p k=q k):∀(f j:Nat) (best:Option Press),i<j→j+f=c.length+1→s.pressTo c p i f j best=s.pressTo c q i f j best
 | 0,_,_,_,_=>rfl
 | f+1,j,best,hij,hf=>by
  unfold Bill.pressTo
  split
  ·rfl
  ·rw[h j hij (by omega)]
   exact jh h f (j+1) _ (by omega) (by omega)
theorem qp{s:Bill}(hg:s.Good){c:List Ent}(hc:∀x∈c,s.OkE x){f i:Nat}(hi:i≤c.length)(hf:c.length-i≤f):s.pressN c f i=s.press c i :=
 BestP.unique (eM hg hc f i hi hf) (eM hg hc _ i hi (Nat.le_refl _))
theorem ji(s:Bill)(c:List Ent):s.press c c.length=⟨[],0⟩:=by
 unfold Bill.press;rw[Nat.sub_self];rfl
theorem nD{s:Bill}(hg:s.Good){c:List Ent}(hc:∀x∈c,s.OkE x){i:Nat}(hi:i<c.length):s.pressTo c (s.press c) i (c.length-i) (i+1) none=some (s.press c i):=by
 obtain⟨f,hf⟩:∃f,c.length-i=f+1:=⟨c.length-i-1,by omega⟩
 have h:s.press c i=s.pressN c (f+1) i:=(qp hg hc (by omega) (by omega)).symm
 unfold Bill.pressN at h
 rw[if_neg (by omega)]at h
 have hs:=f6 hg hc (press:=s.pressN c f) (i:=i) (c.length-i) (i+1) none (by omega) (by omega)
 have e:=jh (s:=s) (c:=c) (p:=s.pressN c f) (q:=s.press c) (i:=i) (fun k h1 h2=>qp hg hc h2 (by omega)) (c.length-i) (i+1) none (by omega) (by omega)
 rw[e]at h hs
 have h1:=oF hg hc hi
 cases hr:s.pressTo c (s.press c) i (c.length-i) (i+1) none with
 | none=>rw[hr]at hs;rcases hs.2 with h|h<;>omega
 | some p=>rw[hr]at h;rw[h]
theorem tM{s:Bill}(hg:s.Good){c:List Ent}(hc:∀x∈c,s.OkE x):∀(l:List Nat) (i:Nat) (w:Int),dX c i l→s.whiteL c l=some w→w≤900 * (l.length:Int)
 | [],i,w,_,h=>by cases h;simp
 | j::l,i,w,⟨_,h2,h3⟩,h=>by
  obtain⟨h0,v,hv,rfl⟩:=fl.1 h
  have hle:=oE hg hc (i:=j) (j:=dC c l) (by omega) h3.le
  have:=tM hg hc l _ v h3 hv
  have hsq:s.left c j (dC c l) * s.left c j (dC c l)≤900:=by
   have:=Int.mul_le_mul hle hle h0 (by omega)
   omega
  simp only[List.length_cons]
  push_cast
  split<;>omega
theorem qq{s:Bill}(hg:s.Good){c:List Ent}(hc:∀x∈c,s.OkE x)(h6:c.length≤6){i:Nat}(hi:i≤c.length):(s.press c i).pages.length≤6∧0≤(s.press c i).white∧(s.press c i).white≤5400:=by
 obtain⟨⟨l,w,e,h1,h2⟩,_⟩:=eM hg hc (c.length-i) i hi (Nat.le_refl _)
 have hl:=g4 h1
 have hw:=tM hg hc l i w h1 h2
 have hp:=qU l w h2
 have e:s.press c i=f5 l w:=e
 rw[e]
 unfold f5
 simp only[List.length_map]
 omega
abbrev bN:=List (Int×Press)
def Bill.memoTo(s:Bill)(c:List Ent)(next:Nat→bN→bN)(i:Nat):Nat→Nat→bN→bN
 | 0,_,m=>m
 | f+1,j,m=>if s.left c i j<0 then m else s.memoTo c next i f (j+1) (next j m)
def Bill.memoN(s:Bill)(c:List Ent):Nat→Nat→bN→bN
 | 0,_,m=>m
 | f+1,i,m=>if(m.any fun e=>decide (e.1=(i:Int)))=true then m else if i=c.length then m
  else s.memoTo c (s.memoN c f) i (c.length-i) (i+1) m++[((i:Int),s.press c i)]
theorem gx(s:Bill)(c:List Ent)(f i:Nat)(m:bN):s.memoN c (f+1) i m=if(m.any fun e=>decide (e.1=(i:Int)))=true then m else if i=c.length then m
 else s.memoTo c (s.memoN c f) i (c.length-i) (i+1) m++[((i:Int),s.press c i)]:=rfl
theorem e5(s:Bill)(c:List Ent)(next:Nat→bN→bN)(i f j:Nat)(m:bN):s.memoTo c next i (f+1) j m=if s.left c i j<0 then m else s.memoTo c next i f (j+1) (next j m):=rfl
def cR(s:Bill)(c:List Ent)(m:bN):Prop:=∀e∈m,∃i:Nat,e.1=i∧i<c.length∧e.2=s.press c i
theorem pZ{s:Bill}{c:List Ent}{next:Nat→bN→bN}(h:∀j m,j≤c.length→cR s c m→cR s c (next j m))(i:Nat):∀(f j:Nat) (m:bN),j+f=c.length+1→cR s c m→cR s c (s.memoTo c next i f j m)
 | 0,_,_,_,hm=>hm
 | f+1,j,m,hf,hm=>by
  rw[e5]
  split
  ·exact hm
  ·exact pZ h i f (j+1) _ (by omega) (h j m (by omega) hm)
theorem oH{s:Bill}{c:List Ent}:∀(f i:Nat) (m:bN),i≤c.length→cR s c m→cR s c (s.memoN c f i m)
 | 0,_,_,_,hm=>hm
 | f+1,i,m,hi,hm=>by
  rw[gx]
  split
  ·exact hm
  ·split
   ·exact hm
   ·rename_i hne
    intro e he
    rcases List.mem_append.1 he with he|he
    ·exact pZ (fun j m hj hm=>oH f j m hj hm) i _ _ m (by omega) hm e he
    ·simp only[List.mem_singleton]at he
     subst he
     exact⟨i,rfl,by omega,rfl⟩
theorem jI{s:Bill}{c:List Ent}{next:Nat→bN→bN}(h:∀j m,∀e∈next j m,e∈m∨(j:Int)≤e.1)(i:Nat):∀(f j:Nat) (m:bN),∀e∈s.memoTo c next i f j m,e∈m∨(j:Int)≤e.1
 | 0,_,_,e,he=> .inl he
 | f+1,j,m,e,he=>by
  rw[e5]at he
  split at he
  ·exact .inl he
  ·rcases jI h i f (j+1) _ e he with h1|h1
   ·exact h j m e h1
   ·right;omega
theorem pY{s:Bill}{c:List Ent}:∀(f i:Nat) (m:bN),∀e∈s.memoN c f i m,e∈m∨(i:Int)≤e.1
 | 0,_,_,e,he=> .inl he
 | f+1,i,m,e,he=>by
  rw[gx]at he
  split at he
  ·exact .inl he
  ·split at he
   ·exact .inl he
   ·rcases List.mem_append.1 he with he|he
    ·rcases jI (fun j m=>pY f j m) i _ _ m e he with h1|h1
     ·exact .inl h1
     ·right;omega
    ·simp only[List.mem_singleton]at he
     subst he
     exact .inr (Int.le_refl _)
theorem tr{s:Bill}{c:List Ent}{f i g:Nat}{m:bN}(h:(m.any fun e=>decide (e.1=(i:Int)))=false):((s.memoTo c (s.memoN c f) i g (i+1) m).any fun e=>decide (e.1=(i:Int)))=false:=by
 rw[List.any_eq_false]at h ⊢
 intro e he
 rcases jI (fun j m=>pY f j m) i g (i+1) m e he with h1|h1
 ·exact h e h1
 ·simp only[decide_eq_true_eq];omega
def Er(e:Int×Press):AV:= .tuple [ak e.1,fu e.2]
def jH(m:bN):List AV:= .v (.int .i64 0)::m.map Er
theorem lD:∀(m:bN) (a:Int) (p:Press) (n:Nat),(∀e∈m,e.1=a→e.2=p)→(m.any fun e=>decide (e.1=a))=true→∃i,aR (.one (.int .i64)) (m.map Er) (.int .i64 a) n=some (some (i,fu p))
 | [],a,p,n,_,h=>by simp at h
 | e::m,a,p,n,hm,h=>by
  have ht:df (ak e.1)=some (.int .i64 e.1):=rfl
  have hty:KK.typed (.one (.int .i64)) (.int .i64 e.1)=true:=rfl
  have heq:∀x y:Int,eqV (.int .i64 x) (.int .i64 y)=decide (x=y):=fun x y=>rfl
  simp only[List.map_cons,Er,aR,ht,hty,if_true,heq]
  by_cases q:e.1=a
  ·refine⟨n,?_⟩
   rw[if_pos (by simp[q]),hm e (List.mem_cons_self ..) q]
  ·rw[if_neg (by simp only[decide_eq_true_eq];exact fun h=>q h.symm)]
   exact lD m a p (n+1) (fun f hf=>hm f (List.mem_cons_of_mem _ hf)) (by simpa[q]using h)
theorem dV:∀(m:bN) (a:Int) (n:Nat),(m.any fun e=>decide (e.1=a))=false→aR (.one (.int .i64)) (m.map Er) (.int .i64 a) n=some none
 | [],a,n,h=>rfl
 | e::m,a,n,h=>by
  have ht:df (ak e.1)=some (.int .i64 e.1):=rfl
  have hty:KK.typed (.one (.int .i64)) (.int .i64 e.1)=true:=rfl
  have heq:∀x y:Int,eqV (.int .i64 x) (.int .i64 y)=decide (x=y):=fun x y=>rfl
  simp only[List.map_cons,Er,aR,ht,hty,if_true,heq]
  by_cases q:e.1=a
  ·simp[q]at h
  ·rw[if_neg (by simp only[decide_eq_true_eq];exact fun h=>q h.symm)]
   exact dV m a (n+1) (by simpa[q]using h)
theorem nv{s:Bill}{c:List Ent}{m:bN}(h:cR s c m){i:Nat}:∀e∈m,e.1=(i:Int)→e.2=s.press c i:=by
 intro e he hi
 obtain⟨j,h1,_,h2⟩:=h e he
 have:j=i:=by omega
 rw[h2,this]
end Go.Proofs.YtgncapdjheghfaaDoor
namespace Go.Proofs.YtgncapdjheghfaaDoor
open Go.Am Go.Proofs Go
def kG:Key:=⟨0,51,22⟩
theorem Bk(n:Nat)(h0:0<n)(hn:n≤1000):BoxA Tryd.prog (.fn 51) [] [.slice 0 [] .tight,ak n] (.own kG 1 1 0 0) [(kG,1,1,List.replicate n (ak 0))]:=by
 refine aD ax { l:=0,f:=51,ow:=[22]} mixed Cd Tryd.func51 (by kernel_rfl) ?_
 conv=>whnf
 repeat(any_goals(first|exact ac|(refine ao ?_ ?_<;>intro _<;>first|exact ap|conv=>whnf)|((first|refine ae ?_|refine bi ?_ ?_|intro _)<;>conv=>whnf)))
 refine And.intro ?_ ?_
 ·conv=>whnf
  refine⟨⟨?_⟩,trivial⟩
  rfl
 ·repeat(first|exact trivial|refine And.intro rfl ?_|refine And.intro (by rfl) ?_)
theorem EZ(ks:List Key)(n:Nat)(a:Int):tkL (tk2 ks) (List.replicate n (ak a))=some (List.replicate n (ak a)):=by
 induction n with
 | zero=>rfl
 | succ n ih=>simp only[List.replicate_succ,tkL,ih];rfl
def Ei(l:List Int):Nat→AV
 | 0=> .own kG 1 1 0 0
 | 1=> .own kG 2 1 1 0
 | _=> .own kG 3 1 (1+(l.map ak).length) 0
def Bd(x:Int)(l:List Int):Nat→gT
 | 0=>(1,some (1,List.replicate (l.length+1) (ak 0)))
 | 1=>(2,some (1,[ak x]))
 | _=>(3,some (1,(x::l).map ak))
def gL(l:List Int):Nat→Nat
 | 0=>0
 | 1=>1
 | _=>l.length+1
theorem mg(l:List Int)(n:Nat)(h:n=l.length):dy ((l.map ak).take n)=some (l.map ak):=by
 rw[List.take_of_length_le (by rw[List.length_map];omega)]
 clear h
 induction l with
 | nil=>rfl
 | cons x l ih=>simp only[List.map_cons,dy,ih,show sK (ak x)=some (ak x)from rfl]
theorem td(x:Int)(l:List Int)(hl:l.length≤6):PureA Tryd.prog 32 [.slice 1 [.slice 1 [ak x] .no,bU l] .no] (bU (x::l)):=by
 have hg:=Bk (l.length+1) (by omega) (by omega)
 have hel:(l.map ak).length=l.length:=List.length_map ..
 have c0:gL l 0=0:=rfl
 have c1:gL l 1=1:=rfl
 have c2:gL l 2=l.length+1:=rfl
 have hx:(List.map ak [x]).length=1:=rfl
 refine ag ax { l:=0,f:=32,mat:=[51],ow:=[33]} mixed v7 Tryd.func32 (by kernel_rfl) ?_
 conv=>whnf
 refine bS ax { l:=0,f:=32,mat:=[51],ow:=[33]} mixed (fun i:Nat=>[(11,ak i),(3,ak (gL l i))]) (fun _=>[]) (fun _=>[]) (fun i=>i≤2) (fun i=>2-i) 0 (by kernel_rfl)
  (Nat.zero_le _) ?_
 conv=>whnf
 refine⟨⟨aj rfl (aj rfl trivial),trivial,trivial⟩,?_⟩
 intro i hi
 rcases(by omega:i=0∨i=1∨i=2)with rfl|rfl|rfl
 ·conv=>whnf
  repeat(any_goals(first|exact ac|(refine ao ?_ ?_<;>intro _<;>first|exact ap|conv=>whnf)|((first|refine ae ?_|refine bi ?_ ?_|intro _)<;>conv=>whnf)))
  (refine⟨1,(by omega),(by omega),?_⟩;(conv=>whnf);refine⟨?_,?_,?_⟩<;>repeat(first|exact trivial|refine sc rfl ?_|refine kn ?_|refine kc rfl ?_|refine sc (by rfl) ?_|refine kc (by rfl) ?_))
 ·conv=>whnf
  repeat(any_goals(first|exact ac|(refine ao ?_ ?_<;>intro _<;>first|exact ap|conv=>whnf)|((first|refine ae ?_|refine bi ?_ ?_|intro _)<;>conv=>whnf)))
  (refine⟨2,(by omega),(by omega),?_⟩;(conv=>whnf);refine⟨?_,?_,?_⟩<;>repeat(first|exact trivial|refine sc rfl ?_|refine kn ?_|refine kc rfl ?_|refine sc (by exact congrArg (fun z=>some (ak z)) (show(gL l 1:Int)+((l.map ak).length:Int)=gL l 2 by omega)) ?_|refine kc (by exact congrArg (fun z=>some (ak z)) (show(gL l 1:Int)+((l.map ak).length:Int)=gL l 2 by omega)) ?_))
 ·conv=>whnf
  repeat(any_goals(first|exact ac|(refine ao ?_ ?_<;>intro _<;>first|exact ap|conv=>whnf)|((first|refine ae ?_|refine bi ?_ ?_|intro _)<;>conv=>whnf)))
  refine⟨[],?_⟩
  conv=>whnf
  refine⟨_,_,hg,?_⟩
  conv=>whnf
  refine ab (EZ _ _ _) ?_
  conv=>whnf
  repeat(any_goals(first|exact ac|(refine ao ?_ ?_<;>intro _<;>first|exact ap|conv=>whnf)|((first|refine ae ?_|refine bi ?_ ?_|intro _)<;>conv=>whnf)))
  refine bS ax { l:=0,f:=32,mat:=[51],ow:=[33]} mixed (fun i:Nat=>[(27,ak i),(6,Ei l i)]) (fun i=>[(kG,some (Bd x l i))]) (fun _=>[]) (fun i=>i≤2) (fun i=>2-i) 0 (by kernel_rfl)
   (Nat.zero_le _) ?_
  conv=>whnf
  refine⟨⟨aj rfl (aj rfl trivial),bv rfl trivial,trivial⟩,?_⟩
  intro i hi
  rcases(by omega:i=0∨i=1∨i=2)with rfl|rfl|rfl
  ·conv=>whnf
   repeat(any_goals(first|exact ac|(refine ao ?_ ?_<;>intro _<;>first|exact ap|conv=>whnf)|((first|refine ae ?_|refine bi ?_ ?_|intro _)<;>conv=>whnf)))
   (refine⟨1,(by omega),(by omega),?_⟩;(conv=>whnf);refine⟨?_,?_,?_⟩<;>repeat(first|exact trivial|refine sc rfl ?_|refine kn ?_|refine kc rfl ?_|refine sc (by rfl) ?_|refine kc (by rfl) ?_))
  ·conv=>whnf
   repeat(any_goals(first|exact ac|(refine ao ?_ ?_<;>intro _<;>first|exact ap|conv=>whnf)|((first|refine ae ?_|refine bi ?_ ?_|intro _)<;>conv=>whnf)))
   (refine⟨2,(by omega),(by omega),?_⟩;(conv=>whnf);refine⟨?_,?_,?_⟩<;>repeat(first|exact trivial|refine sc rfl ?_|refine kn ?_|refine kc rfl ?_|refine sc (by rfl) ?_|refine kc (by rfl) ?_))
  ·conv=>whnf
   repeat(any_goals(first|exact ac|(refine ao ?_ ?_<;>intro _<;>first|exact ap|conv=>whnf)|((first|refine ae ?_|refine bi ?_ ?_|intro _)<;>conv=>whnf)))
   refine ab (mg (x::l) _ (by rw[hel];simp only[List.length_cons];omega)) ?_
   conv=>whnf
   (refine⟨⟨?_⟩,trivial⟩;rfl)
theorem py(x:Int):PureA Tryd.prog 32 [.slice 1 [.slice 1 [ak x] .no,nw] .no] (bU [x]):=by
 have hg:=Bk (([]:List Int).length+1) (by decide) (by decide)
 have hel:(([]:List Int).map ak).length=([]:List Int).length:=List.length_map ..
 have c0:gL ([]:List Int) 0=0:=rfl
 have c1:gL ([]:List Int) 1=1:=rfl
 have c2:gL ([]:List Int) 2=([]:List Int).length+1:=rfl
 have hx:(List.map ak [x]).length=1:=rfl
 have hn0:([]:List AV).length=0:=rfl
 unfold nw
 refine ag ax { l:=0,f:=32,mat:=[51],ow:=[33]} mixed v7 Tryd.func32 (by kernel_rfl) ?_
 conv=>whnf
 refine bS ax { l:=0,f:=32,mat:=[51],ow:=[33]} mixed (fun i:Nat=>[(11,ak i),(3,ak (gL ([]:List Int) i))]) (fun _=>[]) (fun _=>[]) (fun i=>i≤2) (fun i=>2-i) 0 (by kernel_rfl)
  (Nat.zero_le _) ?_
 conv=>whnf
 refine⟨⟨aj rfl (aj rfl trivial),trivial,trivial⟩,?_⟩
 intro i hi
 rcases(by omega:i=0∨i=1∨i=2)with rfl|rfl|rfl
 ·conv=>whnf
  repeat(any_goals(first|exact ac|(refine ao ?_ ?_<;>intro _<;>first|exact ap|conv=>whnf)|((first|refine ae ?_|refine bi ?_ ?_|intro _)<;>conv=>whnf)))
  (refine⟨1,(by omega),(by omega),?_⟩;(conv=>whnf);refine⟨?_,?_,?_⟩<;>repeat(first|exact trivial|refine sc rfl ?_|refine kn ?_|refine kc rfl ?_|refine sc (by rfl) ?_|refine kc (by rfl) ?_))
 ·conv=>whnf
  repeat(any_goals(first|exact ac|(refine ao ?_ ?_<;>intro _<;>first|exact ap|conv=>whnf)|((first|refine ae ?_|refine bi ?_ ?_|intro _)<;>conv=>whnf)))
  (refine⟨2,(by omega),(by omega),?_⟩;(conv=>whnf);refine⟨?_,?_,?_⟩<;>repeat(first|exact trivial|refine sc rfl ?_|refine kn ?_|refine kc rfl ?_|refine sc (by exact congrArg (fun z=>some (ak z)) (show(gL ([]:List Int) 1:Int)+(([]:List AV).length:Int)=gL ([]:List Int) 2 by omega)) ?_|refine kc (by exact congrArg (fun z=>some (ak z)) (show(gL ([]:List Int) 1:Int)+(([]:List AV).length:Int)=gL ([]:List Int) 2 by omega)) ?_))
 ·conv=>whnf
  repeat(any_goals(first|exact ac|(refine ao ?_ ?_<;>intro _<;>first|exact ap|conv=>whnf)|((first|refine ae ?_|refine bi ?_ ?_|intro _)<;>conv=>whnf)))
  refine⟨[],?_⟩
  conv=>whnf
  refine⟨_,_,hg,?_⟩
  conv=>whnf
  repeat(any_goals(first|exact ac|(refine ao ?_ ?_<;>intro _<;>first|exact ap|conv=>whnf)|((first|refine ae ?_|refine bi ?_ ?_|intro _)<;>conv=>whnf)))
  refine bS ax { l:=0,f:=32,mat:=[51],ow:=[33]} mixed (fun i:Nat=>[(27,ak i),(6,Ei ([]:List Int) i)]) (fun i=>[(kG,some (Bd x ([]:List Int) i))]) (fun _=>[]) (fun i=>i≤2) (fun i=>2-i) 0 (by kernel_rfl)
   (Nat.zero_le _) ?_
  conv=>whnf
  refine⟨⟨aj rfl (aj rfl trivial),bv rfl trivial,trivial⟩,?_⟩
  intro i hi
  rcases(by omega:i=0∨i=1∨i=2)with rfl|rfl|rfl
  ·conv=>whnf
   repeat(any_goals(first|exact ac|(refine ao ?_ ?_<;>intro _<;>first|exact ap|conv=>whnf)|((first|refine ae ?_|refine bi ?_ ?_|intro _)<;>conv=>whnf)))
   (refine⟨1,(by omega),(by omega),?_⟩;(conv=>whnf);refine⟨?_,?_,?_⟩<;>repeat(first|exact trivial|refine sc rfl ?_|refine kn ?_|refine kc rfl ?_|refine sc (by rfl) ?_|refine kc (by rfl) ?_))
  ·conv=>whnf
   repeat(any_goals(first|exact ac|(refine ao ?_ ?_<;>intro _<;>first|exact ap|conv=>whnf)|((first|refine ae ?_|refine bi ?_ ?_|intro _)<;>conv=>whnf)))
   (refine⟨2,(by omega),(by omega),?_⟩;(conv=>whnf);refine⟨?_,?_,?_⟩<;>repeat(first|exact trivial|refine sc rfl ?_|refine kn ?_|refine kc rfl ?_|refine sc (by rfl) ?_|refine kc (by rfl) ?_))
  ·conv=>whnf
   repeat(any_goals(first|exact ac|(refine ao ?_ ?_<;>intro _<;>first|exact ap|conv=>whnf)|((first|refine ae ?_|refine bi ?_ ?_|intro _)<;>conv=>whnf)))
   (refine⟨⟨?_⟩,trivial⟩;rfl)
end Go.Proofs.YtgncapdjheghfaaDoor
namespace Go.Proofs.YtgncapdjheghfaaDoor
open Go.Am Go.Proofs Go
def du(s:Bill)(c:List Ent)(i:Nat):AV:=if i=c.length then .agg [.slice 0 [] .tight,ak 0]else fu (s.press c i)
theorem dv(s:Bill){c:List Ent}{i:Nat}(h:i<c.length):du s c i=fu (s.press c i):=by unfold du;rw[if_neg (by omega)]
theorem dN(s:Bill)(c:List Ent):du s c c.length = .agg [.slice 0 [] .tight,ak 0]:=by unfold du;rw[if_pos rfl]
def k9:Key:=⟨0,8,20⟩
theorem C8(s:Bill)(c:List Ent)(h6:c.length≤6)(i:Nat)(hi:i≤c.length)(m:bN)(hm:cR s c m)(hmet:(m.any fun e=>decide (e.1=(i:Int)))=true) :
  BoxA Tryd.prog (.fn 19) [co s,(k9,1,0,jH m)] [.ptr b6 1 5 0 0,bg c,ak i,.mp k9 1] (du s c i) [co s,(k9,1,0,jH m)]:=by
 obtain⟨n,hn⟩:=lD m i (s.press c i) 0 (nv hm) hmet
 have hlt:i<c.length:=by
  rw[List.any_eq_true]at hmet
  obtain⟨e,he,h1⟩:=hmet
  obtain⟨j,h2,h3,_⟩:=hm e he
  have h1:=of_decide_eq_true h1
  omega
 rw[dv s hlt]
 generalize s.press c i=R at *
 unfold fu qo
 refine aD ax { l:=0,f:=19} mixed jx Tryd.func19 (by kernel_rfl) ?_
 conv=>whnf
 repeat(any_goals(first|exact ac|(refine ao ?_ ?_<;>intro _<;>first|exact ap|conv=>whnf)|((first|rw[hn]|refine ae ?_|refine bi ?_ ?_|intro _)<;>conv=>whnf)))
 refine And.intro ?_ ?_
 ·conv=>whnf
  refine⟨⟨?_⟩,trivial⟩
  rfl
 ·repeat(first|exact trivial|refine And.intro rfl ?_|refine And.intro (by skip) ?_)
theorem xE(s:Bill)(c:List Ent)(h6:c.length≤6)(m:bN)(hm:cR s c m) :
  BoxA Tryd.prog (.fn 19) [co s,(k9,1,0,jH m)] [.ptr b6 1 5 0 0,bg c,ak c.length,.mp k9 1] (du s c c.length) [co s,(k9,1,0,jH m)]:=by
 have hcl:(c.map bK).length=c.length:=List.length_map ..
 have hn:=dV m c.length 0 (by
  rw[List.any_eq_false]
  intro e he
  obtain⟨j,h2,h3,_⟩:=hm e he
  simp only[decide_eq_true_eq]
  omega)
 rw[dN]
 refine aD ax { l:=0,f:=19} mixed jx Tryd.func19 (by kernel_rfl) ?_
 conv=>whnf
 repeat(any_goals(first|exact ac|(refine ao ?_ ?_<;>intro _<;>first|exact ap|conv=>whnf)|((first|rw[hn]|refine ae ?_|refine bi ?_ ?_|intro _)<;>conv=>whnf)))
 refine And.intro ?_ ?_
 ·conv=>whnf
  refine⟨⟨?_⟩,trivial⟩
  rfl
 ·repeat(first|exact trivial|refine And.intro rfl ?_|refine And.intro (by skip) ?_)
structure PrSt where
 j:Nat
 best:Option Press
 m:bN
def Ea:Option Press→AV
 | none=> .agg [.slice 0 [] .tight,ak 0]
 | some p=>fu p
theorem sqP{x:Int}(h0:0≤x)(h:x≤30):0≤x * x∧x * x≤900:=by
 have h1:=Int.mul_nonneg h0 h0
 have h2:=Int.mul_le_mul h h h0 (by omega)
 omega
def yV(p:Press):Prop:=p.pages.length≤7∧0≤p.white∧p.white≤6300
set_option maxHeartbeats 8000000 in
theorem C9(s:Bill)(hg:s.Good)(c:List Ent)(hc:∀x∈c,s.OkE x)(h6:c.length≤6)(f i:Nat)(hi:i<c.length)(m:bN)(hm:cR s c m)(hmet:(m.any fun e=>decide (e.1=(i:Int)))=false)
  (ih:∀(j:Nat) (m':bN),i<j→j≤c.length→cR s c m'→BoxA Tryd.prog (.fn 19) [co s,(k9,1,0,jH m')] [.ptr b6 1 5 0 0,bg c,ak j,.mp k9 1] (du s c j) [co s,(k9,1,0,jH (s.memoN c f j m'))]) :
  BoxA Tryd.prog (.fn 19) [co s,(k9,1,0,jH m)] [.ptr b6 1 5 0 0,bg c,ak i,.mp k9 1] (du s c i) [co s,(k9,1,0,jH (s.memoTo c (s.memoN c f) i (c.length-i) (i+1) m++[((i:Int),s.press c i)]))]:=by
 rw[dv s hi]
 have hn0:=dV m i 0 hmet
 have hnot:=tr (s:=s) (c:=c) (f:=f) (g:=c.length-i) hmet
 have hR:=nD hg hc hi
 have hlf:=fun j hij hj=>tm s hg c hc h6 i j hij hj
 have hfit:=fun j (hj:j≤c.length)=>qq hg hc h6 hj
 have hle:=fun j (h1:i≤j) (h2:j≤c.length)=>oE hg hc h1 h2
 have hmok:=fun j m' (hj:j≤c.length) hm'=>oH (s:=s) (c:=c) f j m' hj hm'
 have hcl:(c.map bK).length=c.length:=List.length_map ..
 have hpt:∀n j b,s.pressTo c (s.press c) i (n+1) j b=if s.left c i j<0 then b else s.pressTo c (s.press c) i n (j+1) (some (dF b (iC s c (s.press c) i j))):=fun _ _ _=>rfl
 have hpt0:∀j b,s.pressTo c (s.press c) i 0 j b=b:=fun _ _=>rfl
 have hmt:=e5 s c (s.memoN c f) i
 have hmt0:∀j m',s.memoTo c (s.memoN c f) i 0 j m'=m':=fun _ _=>rfl
 obtain⟨M,hM⟩:∃M,s.memoTo c (s.memoN c f) i (c.length-i) (i+1) m=M:=⟨_,rfl⟩
 rw[hM]at hnot ⊢
 have hn1:=dV M i 0 hnot
 generalize s.memoN c f=N at *
 generalize s.memoTo c N i=MT at *
 generalize s.pressTo c (s.press c) i=PT at *
 unfold iC at hpt
 have hend:s.press c c.length=⟨[],0⟩:=ji s c
 generalize hP:s.press c=P at *
 generalize s.left c i=L at *
 clear hg hc
 refine aD ax { l:=0,f:=19,mat:=[19]} mixed jx Tryd.func19 (by kernel_rfl) ?_
 conv=>whnf
 repeat(any_goals(first|exact ac|(refine ao ?_ ?_<;>intro _<;>first|exact ap|conv=>whnf)|((first|rw[hn0]|refine ae ?_|refine bi ?_ ?_|intro _)<;>conv=>whnf)))
 refine bS ax { l:=0,f:=19,mat:=[19]} mixed (fun u:PrSt=>[(11,ak u.j),(10,aH u.best.isSome)]) (fun u=>[(⟨0,19,8⟩,some (1,some (2,[Ea u.best]))),(k9,some (1,some (0,jH u.m)))]) (fun _=>[]) (fun u=>(i<u.j∧u.j≤c.length+1)∧(cR s c u.m∧∀p,u.best=some p→yV p)∧some (P i)=PT (c.length+1-u.j) u.j u.best∧M=MT (c.length+1-u.j) u.j u.m) (fun u=>c.length+1-u.j) (⟨i+1,none,m⟩:PrSt) (by kernel_rfl)
  ⟨⟨Nat.lt_succ_self _,by show i+1≤_;omega⟩,⟨hm,fun p h=>by cases h⟩,by rw[show c.length+1-(i+1)=c.length-i by omega];exact hR.symm,by rw[show c.length+1-(i+1)=c.length-i by omega];exact hM.symm⟩ ?_
 conv=>whnf
 refine⟨⟨aj rfl (aj rfl trivial),bv rfl (bv rfl trivial),trivial⟩,?_⟩
 clear hR hM hm hmet hn0 hnot
 rintro u ⟨⟨hij,hj⟩,⟨hm,hbf⟩,HR,HM⟩
 generalize u.j=j at *
 generalize u.best=best at *
 generalize u.m=m at *
 clear u
 by_cases hjl:j≤c.length
 ·obtain⟨n,hn⟩:∃n,c.length+1-j=n+1:=⟨c.length-j,by omega⟩
  have hn2:c.length+1-(j+1)=n:=by omega
  rw[hn,hpt]at HR
  rw[hn,hmt]at HM
  have hlj:=hlf j (by omega) hjl
  have hL:=hle j (by omega) hjl
  by_cases q:L j<0
  ·rw[if_pos q]at HR HM
   subst HM
   subst HR
   clear hlf hle hpt hmt hpt0 hmt0 ih hmok hfit
   generalize L j=y at *
   conv=>whnf
   repeat(any_goals(first|exact ac|(refine ao ?_ ?_<;>intro _<;>first|exact ap|conv=>whnf)|((first|refine ah hlj rfl ?_|refine aa hlj ?_|rw[hn1]|refine ae ?_|refine bi ?_ ?_|intro _)<;>conv=>whnf)))
   refine And.intro ?_ ?_
   ·conv=>whnf
    refine⟨⟨?_⟩,trivial⟩
    rfl
   ·repeat(first|exact trivial|refine And.intro rfl ?_|refine And.intro (by(simp only[jH,List.map_append];rfl)) ?_)
  ·rw[if_neg q]at HR HM
   have hih:=ih j m hij hjl hm
   have hmk:=hmok j m hjl hm
   have hf:=hfit j hjl
   clear hlf hle hpt hmt hpt0 hmt0 ih hmok hfit hn1 hm
   generalize N j m=m2 at *
   by_cases hjc:j<c.length
   ·rw[dv s hjc,hP]at hih
    rw[if_pos hjc]at HR
    generalize P j=pj at *
    obtain⟨ps,w⟩:=pj
    simp only at hf HR
    have hcat:=td (i:Int) ps (by omega)
    have hsq:0≤L j * L j∧L j * L j≤900:=sqP (by omega) hL
    generalize L j=y at *
    cases best with
    | none =>
     rw[show dF none ⟨(i:Int)::ps,w+y * y⟩=⟨(i:Int)::ps,w+y * y⟩from rfl]at HR
     have hbn:∀p,some (⟨(i:Int)::ps,w+y * y⟩:Press)=some p→yV p:=fun p hp=>by cases hp;exact⟨by simp only[List.length_cons];omega,by simp only;omega⟩
     conv=>whnf
     repeat(any_goals(first|exact ac|(refine ao ?_ ?_<;>intro _<;>first|exact ap|conv=>whnf)|((first|refine ah hlj rfl ?_|refine aa hlj ?_|refine ae ?_|refine bi ?_ ?_|intro _)<;>conv=>whnf)))
     refine⟨[b6,k9],?_⟩
     conv=>whnf
     refine⟨_,_,hih,?_⟩
     conv=>whnf
     repeat(any_goals(first|exact ac|(refine ao ?_ ?_<;>intro _<;>first|exact ap|conv=>whnf)|((first|refine aa hcat ?_|fail|refine ae ?_|refine bi ?_ ?_|intro _)<;>conv=>whnf)))
     (refine⟨⟨j+1,some ⟨(i:Int)::ps,w+y * y⟩,m2⟩,⟨⟨by show i<j+1;omega,by show j+1≤_;omega⟩,⟨hmk,hbn⟩,by show some (P i)=PT (c.length+1-(j+1)) (j+1) _;rw[hn2];exact HR,by show M=MT (c.length+1-(j+1)) (j+1) _;rw[hn2];exact HM⟩,(by show _-(j+1)<_-j;omega),?_⟩;(conv=>whnf);refine⟨?_,?_,?_⟩<;>repeat(first|exact trivial|refine sc rfl ?_|refine kn ?_|refine kc rfl ?_|refine sc (by rfl) ?_|refine kc (by rfl) ?_))
    | some b =>
     have hb:=hbf b rfl
     have hbt:=kW ⟨(i:Int)::ps,w+y * y⟩ b (by simp only[List.length_cons];omega) (by have:=hb.1;omega) (by simp only;omega) (by have:=hb.2;omega)
     by_cases hbb:bu ⟨(i:Int)::ps,w+y * y⟩ b=true
     ·rw[show dF (some b) ⟨(i:Int)::ps,w+y * y⟩=⟨(i:Int)::ps,w+y * y⟩from if_pos hbb]at HR
      rw[hbb]at hbt
      have hbn:∀p,some (⟨(i:Int)::ps,w+y * y⟩:Press)=some p→yV p:=fun p hp=>by cases hp;exact⟨by simp only[List.length_cons];omega,by simp only;omega⟩
      conv=>whnf
      repeat(any_goals(first|exact ac|(refine ao ?_ ?_<;>intro _<;>first|exact ap|conv=>whnf)|((first|refine ah hlj rfl ?_|refine aa hlj ?_|refine ae ?_|refine bi ?_ ?_|intro _)<;>conv=>whnf)))
      refine⟨[b6,k9],?_⟩
      conv=>whnf
      refine⟨_,_,hih,?_⟩
      conv=>whnf
      repeat(any_goals(first|exact ac|(refine ao ?_ ?_<;>intro _<;>first|exact ap|conv=>whnf)|((first|refine aa hcat ?_|refine aa hbt ?_|refine ae ?_|refine bi ?_ ?_|intro _)<;>conv=>whnf)))
      (refine⟨⟨j+1,some ⟨(i:Int)::ps,w+y * y⟩,m2⟩,⟨⟨by show i<j+1;omega,by show j+1≤_;omega⟩,⟨hmk,hbn⟩,by show some (P i)=PT (c.length+1-(j+1)) (j+1) _;rw[hn2];exact HR,by show M=MT (c.length+1-(j+1)) (j+1) _;rw[hn2];exact HM⟩,(by show _-(j+1)<_-j;omega),?_⟩;(conv=>whnf);refine⟨?_,?_,?_⟩<;>repeat(first|exact trivial|refine sc rfl ?_|refine kn ?_|refine kc rfl ?_|refine sc (by rfl) ?_|refine kc (by rfl) ?_))
     ·rw[show dF (some b) ⟨(i:Int)::ps,w+y * y⟩=b from if_neg hbb]at HR
      rw[Bool.eq_false_iff.2 hbb]at hbt
      have hbn:=hbf
      conv=>whnf
      repeat(any_goals(first|exact ac|(refine ao ?_ ?_<;>intro _<;>first|exact ap|conv=>whnf)|((first|refine ah hlj rfl ?_|refine aa hlj ?_|refine ae ?_|refine bi ?_ ?_|intro _)<;>conv=>whnf)))
      refine⟨[b6,k9],?_⟩
      conv=>whnf
      refine⟨_,_,hih,?_⟩
      conv=>whnf
      repeat(any_goals(first|exact ac|(refine ao ?_ ?_<;>intro _<;>first|exact ap|conv=>whnf)|((first|refine aa hcat ?_|refine aa hbt ?_|refine ae ?_|refine bi ?_ ?_|intro _)<;>conv=>whnf)))
      (refine⟨⟨j+1,some b,m2⟩,⟨⟨by show i<j+1;omega,by show j+1≤_;omega⟩,⟨hmk,hbn⟩,by show some (P i)=PT (c.length+1-(j+1)) (j+1) _;rw[hn2];exact HR,by show M=MT (c.length+1-(j+1)) (j+1) _;rw[hn2];exact HM⟩,(by show _-(j+1)<_-j;omega),?_⟩;(conv=>whnf);refine⟨?_,?_,?_⟩<;>repeat(first|exact trivial|refine sc rfl ?_|refine kn ?_|refine kc rfl ?_|refine sc (by rfl) ?_|refine kc (by rfl) ?_))
   ·have hjc:j=c.length:=by omega
    rw[show du s c j = .agg [.slice 0 [] .tight,ak 0] by rw[hjc];exact dN s c]at hih
    rw[if_neg (by omega),show P j=⟨[],0⟩ by rw[hjc];exact hend]at HR
    simp only[Int.add_zero]at HR
    have hcat:=py (i:Int)
    generalize L j=y at *
    cases best with
    | none =>
     rw[show dF none ⟨[(i:Int)],0⟩=⟨[(i:Int)],0⟩from rfl]at HR
     have hbn:∀p,some (⟨[(i:Int)],0⟩:Press)=some p→yV p:=fun p hp=>by cases hp;exact⟨by simp,by simp⟩
     conv=>whnf
     repeat(any_goals(first|exact ac|(refine ao ?_ ?_<;>intro _<;>first|exact ap|conv=>whnf)|((first|refine ah hlj rfl ?_|refine aa hlj ?_|refine ae ?_|refine bi ?_ ?_|intro _)<;>conv=>whnf)))
     refine⟨[b6,k9],?_⟩
     conv=>whnf
     refine⟨_,_,hih,?_⟩
     conv=>whnf
     repeat(any_goals(first|exact ac|(refine ao ?_ ?_<;>intro _<;>first|exact ap|conv=>whnf)|((first|refine aa hcat ?_|fail|refine ae ?_|refine bi ?_ ?_|intro _)<;>conv=>whnf)))
     (refine⟨⟨j+1,some ⟨[(i:Int)],0⟩,m2⟩,⟨⟨by show i<j+1;omega,by show j+1≤_;omega⟩,⟨hmk,hbn⟩,by show some (P i)=PT (c.length+1-(j+1)) (j+1) _;rw[hn2];exact HR,by show M=MT (c.length+1-(j+1)) (j+1) _;rw[hn2];exact HM⟩,(by show _-(j+1)<_-j;omega),?_⟩;(conv=>whnf);refine⟨?_,?_,?_⟩<;>repeat(first|exact trivial|refine sc rfl ?_|refine kn ?_|refine kc rfl ?_|refine sc (by rfl) ?_|refine kc (by rfl) ?_))
    | some b =>
     have hb:=hbf b rfl
     have hbt:=kW ⟨[(i:Int)],0⟩ b (by simp) (by have:=hb.1;omega) (by simp) (by have:=hb.2;omega)
     by_cases hbb:bu ⟨[(i:Int)],0⟩ b=true
     ·rw[show dF (some b) ⟨[(i:Int)],0⟩=⟨[(i:Int)],0⟩from if_pos hbb]at HR
      rw[hbb]at hbt
      have hbn:∀p,some (⟨[(i:Int)],0⟩:Press)=some p→yV p:=fun p hp=>by cases hp;exact⟨by simp,by simp⟩
      conv=>whnf
      repeat(any_goals(first|exact ac|(refine ao ?_ ?_<;>intro _<;>first|exact ap|conv=>whnf)|((first|refine ah hlj rfl ?_|refine aa hlj ?_|refine ae ?_|refine bi ?_ ?_|intro _)<;>conv=>whnf)))
      refine⟨[b6,k9],?_⟩
      conv=>whnf
      refine⟨_,_,hih,?_⟩
      conv=>whnf
      repeat(any_goals(first|exact ac|(refine ao ?_ ?_<;>intro _<;>first|exact ap|conv=>whnf)|((first|refine aa hcat ?_|refine aa hbt ?_|refine ae ?_|refine bi ?_ ?_|intro _)<;>conv=>whnf)))
      (refine⟨⟨j+1,some ⟨[(i:Int)],0⟩,m2⟩,⟨⟨by show i<j+1;omega,by show j+1≤_;omega⟩,⟨hmk,hbn⟩,by show some (P i)=PT (c.length+1-(j+1)) (j+1) _;rw[hn2];exact HR,by show M=MT (c.length+1-(j+1)) (j+1) _;rw[hn2];exact HM⟩,(by show _-(j+1)<_-j;omega),?_⟩;(conv=>whnf);refine⟨?_,?_,?_⟩<;>repeat(first|exact trivial|refine sc rfl ?_|refine kn ?_|refine kc rfl ?_|refine sc (by rfl) ?_|refine kc (by rfl) ?_))
     ·rw[show dF (some b) ⟨[(i:Int)],0⟩=b from if_neg hbb]at HR
      rw[Bool.eq_false_iff.2 hbb]at hbt
      have hbn:=hbf
      conv=>whnf
      repeat(any_goals(first|exact ac|(refine ao ?_ ?_<;>intro _<;>first|exact ap|conv=>whnf)|((first|refine ah hlj rfl ?_|refine aa hlj ?_|refine ae ?_|refine bi ?_ ?_|intro _)<;>conv=>whnf)))
      refine⟨[b6,k9],?_⟩
      conv=>whnf
      refine⟨_,_,hih,?_⟩
      conv=>whnf
      repeat(any_goals(first|exact ac|(refine ao ?_ ?_<;>intro _<;>first|exact ap|conv=>whnf)|((first|refine aa hcat ?_|refine aa hbt ?_|refine ae ?_|refine bi ?_ ?_|intro _)<;>conv=>whnf)))
      (refine⟨⟨j+1,some b,m2⟩,⟨⟨by show i<j+1;omega,by show j+1≤_;omega⟩,⟨hmk,hbn⟩,by show some (P i)=PT (c.length+1-(j+1)) (j+1) _;rw[hn2];exact HR,by show M=MT (c.length+1-(j+1)) (j+1) _;rw[hn2];exact HM⟩,(by show _-(j+1)<_-j;omega),?_⟩;(conv=>whnf);refine⟨?_,?_,?_⟩<;>repeat(first|exact trivial|refine sc rfl ?_|refine kn ?_|refine kc rfl ?_|refine sc (by rfl) ?_|refine kc (by rfl) ?_))
 ·obtain rfl:j=c.length+1:=by omega
  rw[Nat.sub_self,hpt0]at HR
  rw[Nat.sub_self,hmt0]at HM
  subst HM
  subst HR
  clear hlf hle hpt hmt hpt0 hmt0 ih hmok hfit
  conv=>whnf
  repeat(any_goals(first|exact ac|(refine ao ?_ ?_<;>intro _<;>first|exact ap|conv=>whnf)|((first|rw[hn1]|refine ae ?_|refine bi ?_ ?_|intro _)<;>conv=>whnf)))
  refine And.intro ?_ ?_
  ·conv=>whnf
   refine⟨⟨?_⟩,trivial⟩
   rfl
  ·repeat(first|exact trivial|refine And.intro rfl ?_|refine And.intro (by(simp only[jH,List.map_append];rfl)) ?_)
theorem EN(s:Bill)(hg:s.Good)(c:List Ent)(hc:∀x∈c,s.OkE x)(h6:c.length≤6):∀(f i:Nat) (m:bN),i≤c.length→c.length-i≤f→cR s c m →
  BoxA Tryd.prog (.fn 19) [co s,(k9,1,0,jH m)] [.ptr b6 1 5 0 0,bg c,ak i,.mp k9 1] (du s c i) [co s,(k9,1,0,jH (s.memoN c f i m))]:=by
 intro f
 induction f with
 | zero =>
  intro i m hi hf hm
  obtain rfl:i=c.length:=by omega
  rw[show s.memoN c 0 c.length m=m from rfl]
  exact xE s c h6 m hm
 | succ f ih =>
  intro i m hi hf hm
  rw[gx]
  by_cases hmet:(m.any fun e=>decide (e.1=(i:Int)))=true
  ·rw[if_pos hmet]
   exact C8 s c h6 i hi m hm hmet
  ·rw[if_neg hmet]
   by_cases hie:i=c.length
   ·rw[if_pos hie]
    subst hie
    exact xE s c h6 m hm
   ·rw[if_neg hie]
    exact C9 s hg c hc h6 f i (by omega) m hm (Bool.eq_false_iff.2 hmet) fun j m' h1 h2 h3=>ih j m' h2 (by omega) h3
def Bill.setR(s:Bill)(c:List Ent):Press×Int:=if cj s c≠0 then(⟨[],0⟩,cj s c)else(s.press c 0,0)
def EL(x:Press×Int):AV:= .tuple [bU x.1.pages,ak x.1.white,ak x.2]
theorem ES(s:Bill)(hr:s.small)(c:List Ent)(hl:c.length≤1048576)(e:Int)(hk:cj s c=e)(h0:e≠0) :
  PureA Tryd.prog 8 [ci s,bg c] (.tuple [nw,ak 0,ak e]):=by
 have he:=iG s hr c hl e hk h0
 refine ag ax { l:=0,f:=8,mat:=[17,19]} mixed wt Tryd.func8 (by kernel_rfl) ?_
 conv=>whnf
 repeat(any_goals(first|exact ac|(refine ao ?_ ?_<;>intro _<;>first|exact ap|conv=>whnf)|((first|refine ae ?_|refine bi ?_ ?_|intro _)<;>conv=>whnf)))
 refine⟨[],?_⟩
 conv=>whnf
 refine⟨_,_,he,?_⟩
 conv=>whnf
 repeat(any_goals(first|exact ac|(refine ao ?_ ?_<;>intro _<;>first|exact ap|conv=>whnf)|((first|refine ae ?_|refine bi ?_ ?_|intro _)<;>conv=>whnf)))
 (refine⟨⟨?_⟩,trivial⟩;rfl)
theorem ET(s:Bill)(hr:s.small)(c:List Ent)(hl:c.length≤1048576)(hk:cj s c=0) :
  PureA Tryd.prog 8 [ci s,bg c] (.tuple [(if c.length=0 then nw else bU (s.press c 0).pages),ak (s.press c 0).white,ak 0]):=by
 have he:=dp s hr c hl hk
 obtain⟨hg,hok,h6⟩:=eF hk
 have hp:=EN s hg c hok h6 c.length 0 [] (Nat.zero_le _) (by omega) (fun e h=>by cases h)
 unfold co at he hp
 by_cases h0:c.length=0
 ·rw[if_pos h0]
  have e1:=dN s c
  have e2:=ji s c
  rw[h0]at e1 e2
  rw[e1]at hp
  rw[e2]
  generalize s.memoN c c.length 0 []=M at *
  refine ag ax { l:=0,f:=8,mat:=[17,19]} mixed wt Tryd.func8 (by kernel_rfl) ?_
  conv=>whnf
  repeat(any_goals(first|exact ac|(refine ao ?_ ?_<;>intro _<;>first|exact ap|conv=>whnf)|((first|refine ae ?_|refine bi ?_ ?_|intro _)<;>conv=>whnf)))
  refine⟨[],?_⟩
  conv=>whnf
  refine⟨_,_,he,?_⟩
  conv=>whnf
  repeat(any_goals(first|exact ac|(refine ao ?_ ?_<;>intro _<;>first|exact ap|conv=>whnf)|((first|refine ae ?_|refine bi ?_ ?_|intro _)<;>conv=>whnf)))
  refine⟨[b6,k9],?_⟩
  conv=>whnf
  refine⟨_,_,hp,?_⟩
  conv=>whnf
  repeat(any_goals(first|exact ac|(refine ao ?_ ?_<;>intro _<;>first|exact ap|conv=>whnf)|((first|refine ae ?_|refine bi ?_ ?_|intro _)<;>conv=>whnf)))
  (refine⟨⟨?_⟩,trivial⟩;rfl)
 ·rw[if_neg h0]
  rw[dv s (by omega)]at hp
  generalize s.memoN c c.length 0 []=M at *
  generalize s.press c 0=R at *
  unfold fu qo at hp
  refine ag ax { l:=0,f:=8,mat:=[17,19]} mixed wt Tryd.func8 (by kernel_rfl) ?_
  conv=>whnf
  repeat(any_goals(first|exact ac|(refine ao ?_ ?_<;>intro _<;>first|exact ap|conv=>whnf)|((first|refine ae ?_|refine bi ?_ ?_|intro _)<;>conv=>whnf)))
  refine⟨[],?_⟩
  conv=>whnf
  refine⟨_,_,he,?_⟩
  conv=>whnf
  repeat(any_goals(first|exact ac|(refine ao ?_ ?_<;>intro _<;>first|exact ap|conv=>whnf)|((first|refine ae ?_|refine bi ?_ ?_|intro _)<;>conv=>whnf)))
  refine⟨[b6,k9],?_⟩
  conv=>whnf
  refine⟨_,_,hp,?_⟩
  conv=>whnf
  repeat(any_goals(first|exact ac|(refine ao ?_ ?_<;>intro _<;>first|exact ap|conv=>whnf)|((first|refine ae ?_|refine bi ?_ ?_|intro _)<;>conv=>whnf)))
  (refine⟨⟨?_⟩,trivial⟩;rfl)
theorem pd(s:Bill)(hr:s.small)(c:List Ent)(hl:c.length≤1048576):PureA Tryd.prog 8 [ci s,bg c] (EL (s.setR c)):=by
 unfold Bill.setR EL
 by_cases hk:cj s c=0
 ·rw[if_neg (fun h=>h hk)]
  have h:=ET s hr c hl hk
  by_cases h0:c.length=0
  ·rw[if_pos h0]at h
   refine h.wk (Wk.tuple (.cons ?_ (WkL.refl _)))
   show Wk nw (bU (s.press c 0).pages)
   have e2:=ji s c
   rw[h0]at e2
   rw[e2]
   exact Wk.nil 1
  ·rw[if_neg h0]at h
   exact h
 ·rw[if_pos hk]
  exact(ES s hr c hl _ rfl hk).wk (Wk.tuple (.cons (Wk.nil 1) (WkL.refl _)))
end Go.Proofs.YtgncapdjheghfaaDoor
namespace Go.Proofs.YtgncapdjheghfaaDoor
open Go.Am Go.Proofs Go
end Go.Proofs.YtgncapdjheghfaaDoor
namespace Go.Proofs.YtgncapdjheghfaaDoor
open Go.Am Go.Proofs Go
def kTr:Key:=⟨0,10,59⟩
def kSd:Key:=⟨0,10,12⟩
def FT:List Int→AV
 | []=> .slice 0 [] .tight
 | x::l=> .own kTr (l.length+1) 1 (l.length+1) 0
def trS:List Int→gT
 | []=>(0,none)
 | x::l=>(l.length+1,some (1,(x::l).map ak))
structure TrSt where
 i:Nat
 ts:List Int
theorem DH(y:Int)(l:List Int)(x:Int):trS ((y::l)++[x])=(l.length+1+1,some (1,((y::l).map ak).take (l.length+1)++[ak x]))∧FT ((y::l)++[x]) = .own kTr (l.length+1+1) 1 (l.length+1+1) 0:=by
 have h1:(l++[x]).length=l.length+1:=by simp
 have h3:(y::(l++[x])).map ak=((y::l).map ak).take (l.length+1)++[ak x]:=by rw[List.take_of_length_le (by simp)];simp
 refine⟨?_,?_⟩
 ·show((l++[x]).length+1,some (1,(y::(l++[x])).map ak))=_
  rw[h1,h3]
 ·show AV.own kTr ((l++[x]).length+1) 1 ((l++[x]).length+1) 0=_
  rw[h1]
theorem oe(left i:Nat)(t:Int)(l:List Int):bA left i (t::l)=if left.testBit i=true then t::bA left (i+1) l else bA left (i+1) l:=rfl
theorem Fo(left i:Nat)(hl:left<64)(hi:i≤64):decide (eb (js left i) 1=1)=left.testBit i:=BH left i (d5 hl) hi
def c9(s:Bill):Nat→List Ent→List Int
 | _,[]=>[]
 | i,x::l=>if x.says=2∧s.inSome x.a.toNat=false then(i:Int)::c9 s (i+1) l else c9 s (i+1) l
def jm:List Int→List Ent→List Int
 | sd,[]=>sd
 | sd,x::l=>jm (sd.set x.a.toNat (x.says+1)) l
def cz(s:Bill)(D:List Int):Nat→Nat→List Int
 | 0,_=>[]
 | f+1,i=>if s.inAll i=true∧D.getD i 0≠1 then(i:Int)::cz s D f (i+1)else cz s D f (i+1)
def Dw(S:Bill)(c:List Ent)(n:Nat):AV :=
 .tuple [bU (c9 S 0 c),(if jm [0,0,0,0,0,0] c=[0,0,0,0,0,0]then nw else bU (cz S (jm [0,0,0,0,0,0] c) n 0)),ak 0]
def sdC(sd:List Int):List AV:=sd.flatMap fun v=>[ak v,ak 0,ak 0]
theorem gg(s:Bill)(i:Nat)(x:Ent)(l:List Ent):c9 s i (x::l)=if x.says=2∧s.inSome x.a.toNat=false then(i:Int)::c9 s (i+1) l else c9 s (i+1) l:=rfl
theorem jZ(sd:List Int)(x:Ent)(l:List Ent):jm sd (x::l)=jm (sd.set x.a.toNat (x.says+1)) l:=rfl
theorem six{α:Type}:∀l:List α,l.length=6→∃a b c d e f,l=[a,b,c,d,e,f]
 | [a,b,c,d,e,f],_=>⟨_,_,_,_,_,_,rfl⟩
structure SdSt where
 j:Nat
 ks:List Int
 sd:List Int
theorem Dx{s:Bill}(hg:s.Good)(n:Nat)(h:n<6):decide (eb (js s.someN n) 1=0) = !s.inSome n:=by
 have h1:=fg hg
 have e:=BH s.someN n (d5 h1) (by omega)
 have e2:eb (js s.someN n) 1=(((s.someN/2^n)%2:Nat):Int):=by
  rw[jn _ _ (by omega)]
  have:=eS (s.someN/2^n) 1 (Nat.lt_of_le_of_lt (Nat.div_le_self _ _) (d5 h1)) (by omega)
  rw[n6]at this
  exact this
 rw[d7]at e
 rw[←e,e2]
 have:(s.someN/2^n)%2=0∨(s.someN/2^n)%2=1:=by omega
 rcases this with h|h<;>rw[h]<;>rfl
noncomputable def ko:Code→List Code
 | .seq x y=>ko x++ko y
 | .cond _ x y=>ko x++ko y
 | .block _ c=>ko c
 | .scope c=>ko c
 | .loop c=>[c]
 | _=>[]
theorem tq{rd:Bool}{P:Program}{N:Nat}{c:Code}{Q:Exit→SS→Prop}{ss:SS}(ss':SS)(hw:qS ss ss')(h:LoopW rd P N c Q ss'):LoopW rd P N c Q ss:=⟨fun S hs=>h.go S ((qT hw).go S hs)⟩
noncomputable def sdB:Code:=((ko (Tryd.f10.body.getD .skip))[1]?).getD .skip
noncomputable def suB:Code:=((ko (Tryd.f10.body.getD .skip))[2]?).getD .skip
def cxS:Cx:={ l:=0,f:=10,mat:=[17,20],ow:=[59],fz:=[(13,9)]}
def k91:Key:=⟨0,10,91⟩
def k3:Key:=⟨0,10,3⟩
def FO(c:List Ent):List (Nat×AV):=[(68,.v (.int .i64 ((c.map bK).length:Nat))),(67,bg c),(12,.ptr kSd 1 18 0 0),(9,.ptr b6 1 5 0 0),(3,.ptr k3 1 3 0 0),(7,.slice 0 [] .tight),(8,.v (.int .i64 0))]
def FN(s S:Bill)(ts:List Int):List (Key×Option gT):=[(b6,some (1,some (5,[.agg [ak s.lines,iK s.figs,bU ts,ak S.allN,ak S.someN]]))),(kTr,none),(k3,some (1,some (3,[ci s])))]
def FP:List (Key×Option (Nat×Nat)):=[(⟨0,10,59⟩,none)]
def sdS(s S:Bill)(ts:List Int)(c:List Ent)(u:SdSt):SS :=
 CG [(69,ak u.j),(6,.slice 1 (u.ks.map ak) (.own k91 1))] [(kSd,some (1,some (18,[.agg (sdC u.sd)])))] [(k91,some (1,u.ks.length))] [cxS.key 14,cxS.key 91] [cxS.key 91] (FO c) (FN s S ts) FP
def SdI(S:Bill)(c:List Ent)(K D:List Int)(u:SdSt):Prop:=(u.j≤c.length∧u.ks.length≤u.j∧u.sd.length=6)∧K=u.ks++c9 S u.j (c.drop u.j)∧D=jm u.sd (c.drop u.j)
def SdR(s S:Bill)(ts:List Int)(c:List Ent)(K D:List Int)(u:SdSt):Prop :=
 ∀Q:Exit→SS→Prop,dU Tryd.prog tab cxS Tryd.f10.ntmps sdB
  (qL (fun ss'=>∃a':SdSt,SdI S c K D a'∧c.length-a'.j<c.length-u.j∧qS ss' (sdS s S ts c a')) Q) (sdS s S ts c u)
theorem gh(s:Bill)(D:List Int)(f i:Nat):cz s D (f+1) i=if s.inAll i=true∧D.getD i 0≠1 then(i:Int)::cz s D f (i+1)else cz s D f (i+1):=rfl
def AK(v0 v1 v2 v3 v4 v5:Int):List Value:=[.int .i64 v0,.int .i64 0,.int .i64 0,.int .i64 v1,.int .i64 0,.int .i64 0,.int .i64 v2,.int .i64 0,.int .i64 0,.int .i64 v3,.int .i64 0,.int .i64 0,.int .i64 v4,.int .i64 0,.int .i64 0,.int .i64 v5,.int .i64 0,.int .i64 0]
theorem AL(v0 v1 v2 v3 v4 v5:Int):eqL (AK v0 v1 v2 v3 v4 v5) (AK 0 0 0 0 0 0)=decide ([v0,v1,v2,v3,v4,v5]=[0,0,0,0,0,0]):=by
 rw[Bool.eq_iff_iff]
 simp[eqL,eqC,AK]
structure SuSt where
 i:Nat
 us:List Int
def D2:Key:=⟨0,10,128⟩
def FR(s:Bill)(K:List Int):List (Nat×AV):=[(106,.v (.int .i64 ((s.figs.map eR).length:Nat))),(12,.ptr kSd 1 18 0 0),(9,.ptr b6 1 5 0 0),(6,.slice 1 (K.map ak) (.own k91 1)),(8,.v (.int .i64 0))]
def FQ(s S:Bill)(ts:List Int)(D:List Int):List (Key×Option gT):=[(b6,some (1,some (5,[.agg [ak s.lines,iK s.figs,bU ts,ak S.allN,ak S.someN]]))),(kSd,some (1,some (18,[.agg (sdC D)]))),(kTr,none),(k3,none),(cxS.key 14,none),(cxS.key 91,none)]
def FS(K:List Int):List (Key×Option (Nat×Nat)):=[(k91,some (1,K.length)),(⟨0,10,59⟩,none)]
end Go.Proofs.YtgncapdjheghfaaDoor
namespace Go.Proofs.YtgncapdjheghfaaDoor
open Go.Am Go.Proofs Go
set_option maxHeartbeats 8000000 in
theorem Fz(s S:Bill)(hg:s.Good)(hSg:S.Good)(ts:List Int)(c:List Ent)(hok:∀x∈c,s.OkE x)(h6:c.length≤6)(K D:List Int)(j:Nat)(ks:List Int)(v0 v1 v2 v3 v4 v5:Int)
  (hkl:ks.length≤j) (HK:K=ks++c9 S j (c.drop j)) (HD:D=jm [v0,v1,v2,v3,v4,v5] (c.drop j)) (sy xa xb:Int) (hx:c[j]?=some ⟨sy,xa,xb⟩) (q2:sy=2) (qs:S.inSome xa.toNat=false):SdR s S ts c K D ⟨j,ks,[v0,v1,v2,v3,v4,v5]⟩:=by
 have hjl:j<c.length:=(List.getElem?_eq_some_iff.1 hx).1
 have hd:c.drop j=⟨sy,xa,xb⟩::c.drop (j+1):=by rw[List.drop_eq_getElem_cons hjl,(List.getElem?_eq_some_iff.1 hx).2]
 have hsz:=fun n hn=>Dx hSg n hn
 have hcl:(c.map bK).length=c.length:=List.length_map ..
 have hkm:(ks.map ak).length=ks.length:=List.length_map ..
 unfold eb js at hsz
 rw[hd,gg]at HK
 rw[hd,jZ]at HD
 have hxo:=hok _ (List.mem_of_getElem? hx)
 have hxa:=hxo.a
 have hxs:=hxo.says
 have hfl6:=hg.len
 simp only at hxa hxs HK HD
 have hz:=hsz xa.toNat (by omega)
 rw[Int.toNat_of_nonneg hxa.1]at hz
 clear hsz hg hSg hok
 have hjI:(j:Int)<((c.map bK).length:Nat):=by omega
 intro Q
 subst q2
 rw[if_pos ⟨rfl,qs⟩]at HK
 rw[qs,Bool.not_false,decide_eq_true_eq]at hz
 have hH:K=(ks++[(j:Int)])++c9 S (j+1) (c.drop (j+1)):=by rw[HK];simp
 rcases(by omega:xa=0∨xa=1∨xa=2∨xa=3∨xa=4∨xa=5)with rfl|rfl|rfl|rfl|rfl|rfl
 ·conv=>whnf
  repeat(any_goals(first|exact ac|(refine ao ?_ ?_<;>intro _<;>first|exact ap|conv=>whnf)|((first|refine af hx rfl ?_|refine ae ?_|refine bi ?_ ?_|intro _)<;>conv=>whnf)))
  all_goals(try(first|exact absurd hjI (by assumption)|exact absurd hz (by assumption)|exact absurd (by assumption) hz|exact absurd (by assumption) q2))
  all_goals(refine⟨⟨j+1,ks++[(j:Int)],[2+1,v1,v2,v3,v4,v5]⟩,⟨⟨by show j+1≤_;omega,by show(ks++[(j:Int)]).length≤j+1;simp;omega,rfl⟩,hH,HD⟩,(by show _-(j+1)<_-j;omega),?_⟩;(conv=>whnf);refine⟨?_,?_,?_⟩<;>repeat(first|exact trivial|refine sc rfl ?_|refine kn ?_|refine kc rfl ?_|refine sc (by first|(show some (AV.slice 1 (ks.map ak++[ak j]) _)=some (AV.slice 1 ((ks++[(j:Int)]).map ak) _);rw[List.map_append];rfl)|(show some (some (1,(ks.map ak).length+1))=some (some (1,(ks++[(j:Int)]).length));rw[hkm,List.length_append];rfl)) ?_|refine kc (by first|(show some (AV.slice 1 (ks.map ak++[ak j]) _)=some (AV.slice 1 ((ks++[(j:Int)]).map ak) _);rw[List.map_append];rfl)|(show some (some (1,(ks.map ak).length+1))=some (some (1,(ks++[(j:Int)]).length));rw[hkm,List.length_append];rfl)) ?_))
 ·conv=>whnf
  repeat(any_goals(first|exact ac|(refine ao ?_ ?_<;>intro _<;>first|exact ap|conv=>whnf)|((first|refine af hx rfl ?_|refine ae ?_|refine bi ?_ ?_|intro _)<;>conv=>whnf)))
  all_goals(try(first|exact absurd hjI (by assumption)|exact absurd hz (by assumption)|exact absurd (by assumption) hz|exact absurd (by assumption) q2))
  all_goals(refine⟨⟨j+1,ks++[(j:Int)],[v0,2+1,v2,v3,v4,v5]⟩,⟨⟨by show j+1≤_;omega,by show(ks++[(j:Int)]).length≤j+1;simp;omega,rfl⟩,hH,HD⟩,(by show _-(j+1)<_-j;omega),?_⟩;(conv=>whnf);refine⟨?_,?_,?_⟩<;>repeat(first|exact trivial|refine sc rfl ?_|refine kn ?_|refine kc rfl ?_|refine sc (by first|(show some (AV.slice 1 (ks.map ak++[ak j]) _)=some (AV.slice 1 ((ks++[(j:Int)]).map ak) _);rw[List.map_append];rfl)|(show some (some (1,(ks.map ak).length+1))=some (some (1,(ks++[(j:Int)]).length));rw[hkm,List.length_append];rfl)) ?_|refine kc (by first|(show some (AV.slice 1 (ks.map ak++[ak j]) _)=some (AV.slice 1 ((ks++[(j:Int)]).map ak) _);rw[List.map_append];rfl)|(show some (some (1,(ks.map ak).length+1))=some (some (1,(ks++[(j:Int)]).length));rw[hkm,List.length_append];rfl)) ?_))
 ·conv=>whnf
  repeat(any_goals(first|exact ac|(refine ao ?_ ?_<;>intro _<;>first|exact ap|conv=>whnf)|((first|refine af hx rfl ?_|refine ae ?_|refine bi ?_ ?_|intro _)<;>conv=>whnf)))
  all_goals(try(first|exact absurd hjI (by assumption)|exact absurd hz (by assumption)|exact absurd (by assumption) hz|exact absurd (by assumption) q2))
  all_goals(refine⟨⟨j+1,ks++[(j:Int)],[v0,v1,2+1,v3,v4,v5]⟩,⟨⟨by show j+1≤_;omega,by show(ks++[(j:Int)]).length≤j+1;simp;omega,rfl⟩,hH,HD⟩,(by show _-(j+1)<_-j;omega),?_⟩;(conv=>whnf);refine⟨?_,?_,?_⟩<;>repeat(first|exact trivial|refine sc rfl ?_|refine kn ?_|refine kc rfl ?_|refine sc (by first|(show some (AV.slice 1 (ks.map ak++[ak j]) _)=some (AV.slice 1 ((ks++[(j:Int)]).map ak) _);rw[List.map_append];rfl)|(show some (some (1,(ks.map ak).length+1))=some (some (1,(ks++[(j:Int)]).length));rw[hkm,List.length_append];rfl)) ?_|refine kc (by first|(show some (AV.slice 1 (ks.map ak++[ak j]) _)=some (AV.slice 1 ((ks++[(j:Int)]).map ak) _);rw[List.map_append];rfl)|(show some (some (1,(ks.map ak).length+1))=some (some (1,(ks++[(j:Int)]).length));rw[hkm,List.length_append];rfl)) ?_))
 ·conv=>whnf
  repeat(any_goals(first|exact ac|(refine ao ?_ ?_<;>intro _<;>first|exact ap|conv=>whnf)|((first|refine af hx rfl ?_|refine ae ?_|refine bi ?_ ?_|intro _)<;>conv=>whnf)))
  all_goals(try(first|exact absurd hjI (by assumption)|exact absurd hz (by assumption)|exact absurd (by assumption) hz|exact absurd (by assumption) q2))
  all_goals(refine⟨⟨j+1,ks++[(j:Int)],[v0,v1,v2,2+1,v4,v5]⟩,⟨⟨by show j+1≤_;omega,by show(ks++[(j:Int)]).length≤j+1;simp;omega,rfl⟩,hH,HD⟩,(by show _-(j+1)<_-j;omega),?_⟩;(conv=>whnf);refine⟨?_,?_,?_⟩<;>repeat(first|exact trivial|refine sc rfl ?_|refine kn ?_|refine kc rfl ?_|refine sc (by first|(show some (AV.slice 1 (ks.map ak++[ak j]) _)=some (AV.slice 1 ((ks++[(j:Int)]).map ak) _);rw[List.map_append];rfl)|(show some (some (1,(ks.map ak).length+1))=some (some (1,(ks++[(j:Int)]).length));rw[hkm,List.length_append];rfl)) ?_|refine kc (by first|(show some (AV.slice 1 (ks.map ak++[ak j]) _)=some (AV.slice 1 ((ks++[(j:Int)]).map ak) _);rw[List.map_append];rfl)|(show some (some (1,(ks.map ak).length+1))=some (some (1,(ks++[(j:Int)]).length));rw[hkm,List.length_append];rfl)) ?_))
 ·conv=>whnf
  repeat(any_goals(first|exact ac|(refine ao ?_ ?_<;>intro _<;>first|exact ap|conv=>whnf)|((first|refine af hx rfl ?_|refine ae ?_|refine bi ?_ ?_|intro _)<;>conv=>whnf)))
  all_goals(try(first|exact absurd hjI (by assumption)|exact absurd hz (by assumption)|exact absurd (by assumption) hz|exact absurd (by assumption) q2))
  all_goals(refine⟨⟨j+1,ks++[(j:Int)],[v0,v1,v2,v3,2+1,v5]⟩,⟨⟨by show j+1≤_;omega,by show(ks++[(j:Int)]).length≤j+1;simp;omega,rfl⟩,hH,HD⟩,(by show _-(j+1)<_-j;omega),?_⟩;(conv=>whnf);refine⟨?_,?_,?_⟩<;>repeat(first|exact trivial|refine sc rfl ?_|refine kn ?_|refine kc rfl ?_|refine sc (by first|(show some (AV.slice 1 (ks.map ak++[ak j]) _)=some (AV.slice 1 ((ks++[(j:Int)]).map ak) _);rw[List.map_append];rfl)|(show some (some (1,(ks.map ak).length+1))=some (some (1,(ks++[(j:Int)]).length));rw[hkm,List.length_append];rfl)) ?_|refine kc (by first|(show some (AV.slice 1 (ks.map ak++[ak j]) _)=some (AV.slice 1 ((ks++[(j:Int)]).map ak) _);rw[List.map_append];rfl)|(show some (some (1,(ks.map ak).length+1))=some (some (1,(ks++[(j:Int)]).length));rw[hkm,List.length_append];rfl)) ?_))
 ·conv=>whnf
  repeat(any_goals(first|exact ac|(refine ao ?_ ?_<;>intro _<;>first|exact ap|conv=>whnf)|((first|refine af hx rfl ?_|refine ae ?_|refine bi ?_ ?_|intro _)<;>conv=>whnf)))
  all_goals(try(first|exact absurd hjI (by assumption)|exact absurd hz (by assumption)|exact absurd (by assumption) hz|exact absurd (by assumption) q2))
  all_goals(refine⟨⟨j+1,ks++[(j:Int)],[v0,v1,v2,v3,v4,2+1]⟩,⟨⟨by show j+1≤_;omega,by show(ks++[(j:Int)]).length≤j+1;simp;omega,rfl⟩,hH,HD⟩,(by show _-(j+1)<_-j;omega),?_⟩;(conv=>whnf);refine⟨?_,?_,?_⟩<;>repeat(first|exact trivial|refine sc rfl ?_|refine kn ?_|refine kc rfl ?_|refine sc (by first|(show some (AV.slice 1 (ks.map ak++[ak j]) _)=some (AV.slice 1 ((ks++[(j:Int)]).map ak) _);rw[List.map_append];rfl)|(show some (some (1,(ks.map ak).length+1))=some (some (1,(ks++[(j:Int)]).length));rw[hkm,List.length_append];rfl)) ?_|refine kc (by first|(show some (AV.slice 1 (ks.map ak++[ak j]) _)=some (AV.slice 1 ((ks++[(j:Int)]).map ak) _);rw[List.map_append];rfl)|(show some (some (1,(ks.map ak).length+1))=some (some (1,(ks++[(j:Int)]).length));rw[hkm,List.length_append];rfl)) ?_))
end Go.Proofs.YtgncapdjheghfaaDoor
namespace Go.Proofs.YtgncapdjheghfaaDoor
open Go.Am Go.Proofs Go
set_option maxHeartbeats 8000000 in
theorem FA(s S:Bill)(hg:s.Good)(hSg:S.Good)(ts:List Int)(c:List Ent)(hok:∀x∈c,s.OkE x)(h6:c.length≤6)(K D:List Int)(j:Nat)(ks:List Int)(v0 v1 v2 v3 v4 v5:Int)
  (hkl:ks.length≤j) (HK:K=ks++c9 S j (c.drop j)) (HD:D=jm [v0,v1,v2,v3,v4,v5] (c.drop j)) (sy xa xb:Int) (hx:c[j]?=some ⟨sy,xa,xb⟩) (q2:sy=2) (qs:¬S.inSome xa.toNat=false):SdR s S ts c K D ⟨j,ks,[v0,v1,v2,v3,v4,v5]⟩:=by
 have hjl:j<c.length:=(List.getElem?_eq_some_iff.1 hx).1
 have hd:c.drop j=⟨sy,xa,xb⟩::c.drop (j+1):=by rw[List.drop_eq_getElem_cons hjl,(List.getElem?_eq_some_iff.1 hx).2]
 have hsz:=fun n hn=>Dx hSg n hn
 have hcl:(c.map bK).length=c.length:=List.length_map ..
 have hkm:(ks.map ak).length=ks.length:=List.length_map ..
 unfold eb js at hsz
 rw[hd,gg]at HK
 rw[hd,jZ]at HD
 have hxo:=hok _ (List.mem_of_getElem? hx)
 have hxa:=hxo.a
 have hxs:=hxo.says
 have hfl6:=hg.len
 simp only at hxa hxs HK HD
 have hz:=hsz xa.toNat (by omega)
 rw[Int.toNat_of_nonneg hxa.1]at hz
 clear hsz hg hSg hok
 have hjI:(j:Int)<((c.map bK).length:Nat):=by omega
 intro Q
 subst q2
 rw[if_neg (fun h=>qs h.2)]at HK
 rw[Bool.not_eq_false]at qs
 rw[qs,Bool.not_true,decide_eq_false_iff_not]at hz
 rcases(by omega:xa=0∨xa=1∨xa=2∨xa=3∨xa=4∨xa=5)with rfl|rfl|rfl|rfl|rfl|rfl
 ·conv=>whnf
  repeat(any_goals(first|exact ac|(refine ao ?_ ?_<;>intro _<;>first|exact ap|conv=>whnf)|((first|refine af hx rfl ?_|refine ae ?_|refine bi ?_ ?_|intro _)<;>conv=>whnf)))
  all_goals(try(first|exact absurd hjI (by assumption)|exact absurd hz (by assumption)|exact absurd (by assumption) hz|exact absurd (by assumption) q2))
  all_goals(refine⟨⟨j+1,ks,[2+1,v1,v2,v3,v4,v5]⟩,⟨⟨by show j+1≤_;omega,by show ks.length≤j+1;omega,rfl⟩,HK,HD⟩,(by show _-(j+1)<_-j;omega),?_⟩;(conv=>whnf);refine⟨?_,?_,?_⟩<;>repeat(first|exact trivial|refine sc rfl ?_|refine kn ?_|refine kc rfl ?_|refine sc (by rfl) ?_|refine kc (by rfl) ?_))
 ·conv=>whnf
  repeat(any_goals(first|exact ac|(refine ao ?_ ?_<;>intro _<;>first|exact ap|conv=>whnf)|((first|refine af hx rfl ?_|refine ae ?_|refine bi ?_ ?_|intro _)<;>conv=>whnf)))
  all_goals(try(first|exact absurd hjI (by assumption)|exact absurd hz (by assumption)|exact absurd (by assumption) hz|exact absurd (by assumption) q2))
  all_goals(refine⟨⟨j+1,ks,[v0,2+1,v2,v3,v4,v5]⟩,⟨⟨by show j+1≤_;omega,by show ks.length≤j+1;omega,rfl⟩,HK,HD⟩,(by show _-(j+1)<_-j;omega),?_⟩;(conv=>whnf);refine⟨?_,?_,?_⟩<;>repeat(first|exact trivial|refine sc rfl ?_|refine kn ?_|refine kc rfl ?_|refine sc (by rfl) ?_|refine kc (by rfl) ?_))
 ·conv=>whnf
  repeat(any_goals(first|exact ac|(refine ao ?_ ?_<;>intro _<;>first|exact ap|conv=>whnf)|((first|refine af hx rfl ?_|refine ae ?_|refine bi ?_ ?_|intro _)<;>conv=>whnf)))
  all_goals(try(first|exact absurd hjI (by assumption)|exact absurd hz (by assumption)|exact absurd (by assumption) hz|exact absurd (by assumption) q2))
  all_goals(refine⟨⟨j+1,ks,[v0,v1,2+1,v3,v4,v5]⟩,⟨⟨by show j+1≤_;omega,by show ks.length≤j+1;omega,rfl⟩,HK,HD⟩,(by show _-(j+1)<_-j;omega),?_⟩;(conv=>whnf);refine⟨?_,?_,?_⟩<;>repeat(first|exact trivial|refine sc rfl ?_|refine kn ?_|refine kc rfl ?_|refine sc (by rfl) ?_|refine kc (by rfl) ?_))
 ·conv=>whnf
  repeat(any_goals(first|exact ac|(refine ao ?_ ?_<;>intro _<;>first|exact ap|conv=>whnf)|((first|refine af hx rfl ?_|refine ae ?_|refine bi ?_ ?_|intro _)<;>conv=>whnf)))
  all_goals(try(first|exact absurd hjI (by assumption)|exact absurd hz (by assumption)|exact absurd (by assumption) hz|exact absurd (by assumption) q2))
  all_goals(refine⟨⟨j+1,ks,[v0,v1,v2,2+1,v4,v5]⟩,⟨⟨by show j+1≤_;omega,by show ks.length≤j+1;omega,rfl⟩,HK,HD⟩,(by show _-(j+1)<_-j;omega),?_⟩;(conv=>whnf);refine⟨?_,?_,?_⟩<;>repeat(first|exact trivial|refine sc rfl ?_|refine kn ?_|refine kc rfl ?_|refine sc (by rfl) ?_|refine kc (by rfl) ?_))
 ·conv=>whnf
  repeat(any_goals(first|exact ac|(refine ao ?_ ?_<;>intro _<;>first|exact ap|conv=>whnf)|((first|refine af hx rfl ?_|refine ae ?_|refine bi ?_ ?_|intro _)<;>conv=>whnf)))
  all_goals(try(first|exact absurd hjI (by assumption)|exact absurd hz (by assumption)|exact absurd (by assumption) hz|exact absurd (by assumption) q2))
  all_goals(refine⟨⟨j+1,ks,[v0,v1,v2,v3,2+1,v5]⟩,⟨⟨by show j+1≤_;omega,by show ks.length≤j+1;omega,rfl⟩,HK,HD⟩,(by show _-(j+1)<_-j;omega),?_⟩;(conv=>whnf);refine⟨?_,?_,?_⟩<;>repeat(first|exact trivial|refine sc rfl ?_|refine kn ?_|refine kc rfl ?_|refine sc (by rfl) ?_|refine kc (by rfl) ?_))
 ·conv=>whnf
  repeat(any_goals(first|exact ac|(refine ao ?_ ?_<;>intro _<;>first|exact ap|conv=>whnf)|((first|refine af hx rfl ?_|refine ae ?_|refine bi ?_ ?_|intro _)<;>conv=>whnf)))
  all_goals(try(first|exact absurd hjI (by assumption)|exact absurd hz (by assumption)|exact absurd (by assumption) hz|exact absurd (by assumption) q2))
  all_goals(refine⟨⟨j+1,ks,[v0,v1,v2,v3,v4,2+1]⟩,⟨⟨by show j+1≤_;omega,by show ks.length≤j+1;omega,rfl⟩,HK,HD⟩,(by show _-(j+1)<_-j;omega),?_⟩;(conv=>whnf);refine⟨?_,?_,?_⟩<;>repeat(first|exact trivial|refine sc rfl ?_|refine kn ?_|refine kc rfl ?_|refine sc (by rfl) ?_|refine kc (by rfl) ?_))
end Go.Proofs.YtgncapdjheghfaaDoor
namespace Go.Proofs.YtgncapdjheghfaaDoor
open Go.Am Go.Proofs Go
set_option maxHeartbeats 8000000 in
theorem FB(s S:Bill)(hg:s.Good)(hSg:S.Good)(ts:List Int)(c:List Ent)(hok:∀x∈c,s.OkE x)(h6:c.length≤6)(K D:List Int)(j:Nat)(ks:List Int)(v0 v1 v2 v3 v4 v5:Int)
  (hkl:ks.length≤j) (HK:K=ks++c9 S j (c.drop j)) (HD:D=jm [v0,v1,v2,v3,v4,v5] (c.drop j)) (sy xa xb:Int) (hx:c[j]?=some ⟨sy,xa,xb⟩) (q2:¬sy=2):SdR s S ts c K D ⟨j,ks,[v0,v1,v2,v3,v4,v5]⟩:=by
 have hjl:j<c.length:=(List.getElem?_eq_some_iff.1 hx).1
 have hd:c.drop j=⟨sy,xa,xb⟩::c.drop (j+1):=by rw[List.drop_eq_getElem_cons hjl,(List.getElem?_eq_some_iff.1 hx).2]
 have hsz:=fun n hn=>Dx hSg n hn
 have hcl:(c.map bK).length=c.length:=List.length_map ..
 have hkm:(ks.map ak).length=ks.length:=List.length_map ..
 unfold eb js at hsz
 rw[hd,gg]at HK
 rw[hd,jZ]at HD
 have hxo:=hok _ (List.mem_of_getElem? hx)
 have hxa:=hxo.a
 have hxs:=hxo.says
 have hfl6:=hg.len
 simp only at hxa hxs HK HD
 have hz:=hsz xa.toNat (by omega)
 rw[Int.toNat_of_nonneg hxa.1]at hz
 clear hsz hg hSg hok
 have hjI:(j:Int)<((c.map bK).length:Nat):=by omega
 intro Q
 rw[if_neg (fun h=>q2 h.1)]at HK
 clear hz
 rcases(by omega:xa=0∨xa=1∨xa=2∨xa=3∨xa=4∨xa=5)with rfl|rfl|rfl|rfl|rfl|rfl
 ·conv=>whnf
  repeat(any_goals(first|exact ac|(refine ao ?_ ?_<;>intro _<;>first|exact ap|conv=>whnf)|((first|refine af hx rfl ?_|refine ae ?_|refine bi ?_ ?_|intro _)<;>conv=>whnf)))
  all_goals(try(first|exact absurd hjI (by assumption)|exact absurd hz (by assumption)|exact absurd (by assumption) hz|exact absurd (by assumption) q2))
  all_goals(refine⟨⟨j+1,ks,[sy+1,v1,v2,v3,v4,v5]⟩,⟨⟨by show j+1≤_;omega,by show ks.length≤j+1;omega,rfl⟩,HK,HD⟩,(by show _-(j+1)<_-j;omega),?_⟩;(conv=>whnf);refine⟨?_,?_,?_⟩<;>repeat(first|exact trivial|refine sc rfl ?_|refine kn ?_|refine kc rfl ?_|refine sc (by rfl) ?_|refine kc (by rfl) ?_))
 ·conv=>whnf
  repeat(any_goals(first|exact ac|(refine ao ?_ ?_<;>intro _<;>first|exact ap|conv=>whnf)|((first|refine af hx rfl ?_|refine ae ?_|refine bi ?_ ?_|intro _)<;>conv=>whnf)))
  all_goals(try(first|exact absurd hjI (by assumption)|exact absurd hz (by assumption)|exact absurd (by assumption) hz|exact absurd (by assumption) q2))
  all_goals(refine⟨⟨j+1,ks,[v0,sy+1,v2,v3,v4,v5]⟩,⟨⟨by show j+1≤_;omega,by show ks.length≤j+1;omega,rfl⟩,HK,HD⟩,(by show _-(j+1)<_-j;omega),?_⟩;(conv=>whnf);refine⟨?_,?_,?_⟩<;>repeat(first|exact trivial|refine sc rfl ?_|refine kn ?_|refine kc rfl ?_|refine sc (by rfl) ?_|refine kc (by rfl) ?_))
 ·conv=>whnf
  repeat(any_goals(first|exact ac|(refine ao ?_ ?_<;>intro _<;>first|exact ap|conv=>whnf)|((first|refine af hx rfl ?_|refine ae ?_|refine bi ?_ ?_|intro _)<;>conv=>whnf)))
  all_goals(try(first|exact absurd hjI (by assumption)|exact absurd hz (by assumption)|exact absurd (by assumption) hz|exact absurd (by assumption) q2))
  all_goals(refine⟨⟨j+1,ks,[v0,v1,sy+1,v3,v4,v5]⟩,⟨⟨by show j+1≤_;omega,by show ks.length≤j+1;omega,rfl⟩,HK,HD⟩,(by show _-(j+1)<_-j;omega),?_⟩;(conv=>whnf);refine⟨?_,?_,?_⟩<;>repeat(first|exact trivial|refine sc rfl ?_|refine kn ?_|refine kc rfl ?_|refine sc (by rfl) ?_|refine kc (by rfl) ?_))
 ·conv=>whnf
  repeat(any_goals(first|exact ac|(refine ao ?_ ?_<;>intro _<;>first|exact ap|conv=>whnf)|((first|refine af hx rfl ?_|refine ae ?_|refine bi ?_ ?_|intro _)<;>conv=>whnf)))
  all_goals(try(first|exact absurd hjI (by assumption)|exact absurd hz (by assumption)|exact absurd (by assumption) hz|exact absurd (by assumption) q2))
  all_goals(refine⟨⟨j+1,ks,[v0,v1,v2,sy+1,v4,v5]⟩,⟨⟨by show j+1≤_;omega,by show ks.length≤j+1;omega,rfl⟩,HK,HD⟩,(by show _-(j+1)<_-j;omega),?_⟩;(conv=>whnf);refine⟨?_,?_,?_⟩<;>repeat(first|exact trivial|refine sc rfl ?_|refine kn ?_|refine kc rfl ?_|refine sc (by rfl) ?_|refine kc (by rfl) ?_))
 ·conv=>whnf
  repeat(any_goals(first|exact ac|(refine ao ?_ ?_<;>intro _<;>first|exact ap|conv=>whnf)|((first|refine af hx rfl ?_|refine ae ?_|refine bi ?_ ?_|intro _)<;>conv=>whnf)))
  all_goals(try(first|exact absurd hjI (by assumption)|exact absurd hz (by assumption)|exact absurd (by assumption) hz|exact absurd (by assumption) q2))
  all_goals(refine⟨⟨j+1,ks,[v0,v1,v2,v3,sy+1,v5]⟩,⟨⟨by show j+1≤_;omega,by show ks.length≤j+1;omega,rfl⟩,HK,HD⟩,(by show _-(j+1)<_-j;omega),?_⟩;(conv=>whnf);refine⟨?_,?_,?_⟩<;>repeat(first|exact trivial|refine sc rfl ?_|refine kn ?_|refine kc rfl ?_|refine sc (by rfl) ?_|refine kc (by rfl) ?_))
 ·conv=>whnf
  repeat(any_goals(first|exact ac|(refine ao ?_ ?_<;>intro _<;>first|exact ap|conv=>whnf)|((first|refine af hx rfl ?_|refine ae ?_|refine bi ?_ ?_|intro _)<;>conv=>whnf)))
  all_goals(try(first|exact absurd hjI (by assumption)|exact absurd hz (by assumption)|exact absurd (by assumption) hz|exact absurd (by assumption) q2))
  all_goals(refine⟨⟨j+1,ks,[v0,v1,v2,v3,v4,sy+1]⟩,⟨⟨by show j+1≤_;omega,by show ks.length≤j+1;omega,rfl⟩,HK,HD⟩,(by show _-(j+1)<_-j;omega),?_⟩;(conv=>whnf);refine⟨?_,?_,?_⟩<;>repeat(first|exact trivial|refine sc rfl ?_|refine kn ?_|refine kc rfl ?_|refine sc (by rfl) ?_|refine kc (by rfl) ?_))
end Go.Proofs.YtgncapdjheghfaaDoor
namespace Go.Proofs.YtgncapdjheghfaaDoor
open Go.Am Go.Proofs Go
def suS(s S:Bill)(ts:List Int)(K D:List Int)(u:SuSt):SS :=
 CG [(107,ak u.i),(7,.slice 1 (u.us.map ak) (.own D2 1))] [] [(D2,some (1,u.us.length))] [cxS.key 128] [cxS.key 128] (FR s K) (FQ s S ts D) (FS K)
def SuI(s S:Bill)(D U:List Int)(u:SuSt):Prop:=(u.i≤s.figs.length∧u.us.length≤u.i)∧U=u.us++cz S D (s.figs.length-u.i) u.i
def SuR(s S:Bill)(ts:List Int)(K D U:List Int)(u:SuSt):Prop :=
 ∀Q:Exit→SS→Prop,dU Tryd.prog tab cxS Tryd.f10.ntmps suB
  (qL (fun ss'=>∃a':SuSt,SuI s S D U a'∧s.figs.length-a'.i<s.figs.length-u.i∧qS ss' (suS s S ts K D a')) Q) (suS s S ts K D u)
theorem dg(v:Int):eqL [.int .i64 v,.int .i64 0,.int .i64 0] [.int .i64 1,.int .i64 0,.int .i64 0]=decide (v=1):=by
 rw[Bool.eq_iff_iff]
 simp[eqL,eqC]
end Go.Proofs.YtgncapdjheghfaaDoor
