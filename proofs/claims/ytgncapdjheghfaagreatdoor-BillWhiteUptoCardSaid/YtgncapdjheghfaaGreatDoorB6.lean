/- Part 6 of the texts that the last one stands on. -/
import Derived.Test.YtgncapdjheghfaaGreatDoorB5
set_option linter.unusedVariables false
set_option linter.unusedSimpArgs false
namespace Go.Proofs.YtgncapdjheghfaaGreatDoor
open Go.Am Go.Proofs Go
def ew{α:Type}(p:α→α→Bool):List α→List α→Bool
 | [],[]=>true
 | x::xs,y::ys=>p x y&&ew p xs ys
 | _,_=>false
theorem sB{α:Type}(p:α→α→Bool):∀a b:List α,a.length≠b.length→ew p a b=false
 | [],[],h=>absurd rfl h
 | [],y::ys,_=>rfl
 | x::xs,[],_=>rfl
 | x::xs,y::ys,h=>by simp only[ew,sB p xs ys (by simpa using h),Bool.and_false]
theorem sA{α:Type}(p:α→α→Bool)(a b:List α):ew p a b=(decide ((a.length:Int)=b.length)&&ew p a b):=by
 by_cases h:a.length=b.length
 ·simp[h]
 ·rw[sB _ a b h,Bool.and_false]
theorem Ky(a b:List Int)(ha:a.length≤1048576)(hb:b.length≤1048576):PureA Tryz.prog 29 [aD a,aD b] (aB (ew (fun x y:Int=>decide (x=y)) a b)):=by
 have hlen:decide ((a.length:Int)=b.length)=true→a.length=b.length:=by simp;omega
 obtain⟨R,hRe⟩:∃R,R=ew (fun x y:Int=>decide (x=y)) a b:=⟨_,rfl⟩
 rw[←hRe]
 have hR:R=(decide ((a.length:Int)=b.length)&&ew (fun x y:Int=>decide (x=y)) a b):=by rw[hRe];exact sA (fun x y:Int=>decide (x=y)) a b
 clear hRe
 refine ag ao { l:=0,f:=29} mixed Hq Tryz.func29 (by kernel_rfl) ?_
 conv=>whnf
 refine aO ao { l:=0,f:=29} mixed (fun x:Nat×Bool=>[(6,aj x.1),(5,aB x.2)]) (fun _=>[]) (fun _=>[]) (fun x=>x.1≤a.length∧(x.2=true→a.length=b.length)∧R=(x.2&&ew (fun x y:Int=>decide (x=y)) (a.drop x.1) (b.drop x.1))) (fun x=>a.length-x.1) (0,decide ((a.length:Int)=b.length)) (by kernel_rfl)
  ⟨Nat.zero_le _,hlen,hR⟩ ?_
 conv=>whnf
 refine⟨⟨ai rfl (ai (by
    conv=>lhs;whnf
    simp[aB]) trivial),trivial,trivial⟩,?_⟩
 intro⟨i,same⟩ ⟨hi,hs,H⟩
 simp only at hi hs H
 cases same
 ·conv=>whnf
  repeat(any_goals(first|exact ab|(refine ap ?_ ?_<;>intro _<;>first|exact aq|conv=>whnf)|((first|refine ac ?_|refine bi ?_ ?_|intro _)<;>conv=>whnf)))
  (refine⟨⟨?_⟩,trivial⟩;rw[H];rfl)
 ·have hs:=hs rfl
  rw[Bool.true_and]at H
  conv=>whnf
  refine bH (fun h1=>?_) (fun h1=>?_)
  ·simp only[List.length_map]at h1
   obtain⟨x,hx,hd⟩:=ay (l:=a) (i:=i) (by omega)
   obtain⟨y,hy,he⟩:=ay (l:=b) (i:=i) (by omega)
   rw[hd,he]at H
   simp only[ew]at H
   skip
   conv=>whnf
   repeat(any_goals(first|exact ab|(refine ap ?_ ?_<;>intro _<;>first|exact aq|conv=>whnf)|((first|refine ae hx rfl ?_|refine ae hy rfl ?_|refine ac ?_|refine bi ?_ ?_|intro _)<;>conv=>whnf)))
   (refine⟨(i+1,(fun x y:Int=>decide (x=y)) x y),⟨by simp only;omega,fun _=>hs,H⟩,(by simp only;omega),?_⟩;(conv=>whnf);refine⟨?_,?_,?_⟩<;>repeat(first|exact trivial|refine sc rfl ?_|refine kn ?_|refine kc rfl ?_|refine sc (by rfl) ?_|refine kc (by rfl) ?_))
  ·conv=>whnf
   simp only[List.length_map]at h1
   have:i=a.length:=by omega
   subst this
   rw[hs,List.drop_length, ←hs,List.drop_length]at H
   (refine⟨⟨?_⟩,trivial⟩;rw[H];rfl)
def j0(l:List (List Int)):AV:= .slice 1 (l.map aD) .no
theorem BS(a b:List Int)(h:a=[]∨b=[]):cB a b=decide (a.length<b.length):=by
 rcases h with rfl|rfl
 ·cases b<;>simp[cB]
 ·cases a<;>simp[cB]
theorem KB(a b:List Int)(ha:a.length≤1048576)(hb:b.length≤1048576):PureA Tryz.prog 86 [aD a,aD b] (aB (cB a b)):=by
 obtain⟨R,hR⟩:∃R,R=cB a b:=⟨_,rfl⟩
 rw[←hR]
 refine ag ao { l:=0,f:=86} mixed H6 Tryz.func86 (by kernel_rfl) ?_
 conv=>whnf
 repeat(any_goals(first|exact ab|(refine ap ?_ ?_<;>intro _<;>first|exact aq|conv=>whnf)|((first|refine ac ?_|refine bi ?_ ?_|intro _)<;>conv=>whnf)))
 refine aO ao { l:=0,f:=86} mixed (fun i:Nat=>[(6,aj i)]) (fun _=>[]) (fun _=>[]) (fun i=>i≤a.length∧i≤b.length∧R=cB (a.drop i) (b.drop i)) (fun i=>a.length-i) 0 (by kernel_rfl)
  ⟨Nat.zero_le _,Nat.zero_le _,hR⟩ ?_
 conv=>whnf
 refine⟨⟨ai rfl trivial,trivial,trivial⟩,?_⟩
 intro i ⟨hi,hj,H⟩
 conv=>whnf
 refine bH (fun h1=>?_) (fun h1=>?_)
 ·simp only[List.length_map]at h1
  rw[tJ]at h1
  have h2:i<a.length∧i<b.length:=by omega
  obtain⟨x,hx,hd⟩:=ay (l:=a) (i:=i) h2.1
  obtain⟨y,hy,he⟩:=ay (l:=b) (i:=i) h2.2
  rw[hd,he]at H
  simp only[cB]at H
  conv=>whnf
  repeat(any_goals(first|exact ab|(refine ap ?_ ?_<;>intro _<;>first|exact aq|conv=>whnf)|((first|refine ae hx rfl ?_|refine ae hy rfl ?_|refine ac ?_|refine bi ?_ ?_|intro _)<;>conv=>whnf)))
  ·rename_i h
   rw[if_pos h]at H
   (refine⟨i+1,⟨by omega,by omega,H⟩,by omega,?_⟩;(conv=>whnf);refine⟨?_,?_,?_⟩<;>repeat(first|exact trivial|refine sc rfl ?_|refine kn ?_|refine kc rfl ?_))
  ·rename_i h
   rw[if_neg h]at H
   (refine⟨⟨?_⟩,trivial⟩;rw[H];rfl)
 ·conv=>whnf
  simp only[List.length_map]at h1
  rw[tJ]at h1
  rw[BS _ _ (by
   by_cases h:i=a.length
   ·left;rw[h,List.drop_length]
   ·right;rw[List.drop_eq_nil_iff];omega)]at H
  simp only[List.length_drop]at H
  (refine⟨⟨?_⟩,trivial⟩;simp only[oneOf,aB,List.length_map];congr 3;rw[H,decide_eq_decide];omega)
theorem Bp(a b:List Int):ex a b=if(a.length:Int)=b.length then cB a b else decide ((a.length:Int)<b.length):=by
 unfold ex
 by_cases h:a.length=b.length
 ·rw[if_pos h,if_pos (by omega)]
 ·rw[if_neg h,if_neg (by omega)]
  rw[Bool.eq_iff_iff];simp
theorem Bo(a b:List Int)(ha:a.length≤1048576)(hb:b.length≤1048576):PureA Tryz.prog 46 [aD a,aD b] (aB (ex a b)):=by
 have h:=KB a b ha hb
 rw[Bp]
 generalize cB a b=R at *
 rw[show(a.length:Int)=((a.map aj).length:Int) by simp,show(b.length:Int)=((b.map aj).length:Int) by simp]
 refine ag ao { l:=0,f:=46} mixed Hx Tryz.func46 (by kernel_rfl) ?_
 conv=>whnf
 repeat(any_goals(first|exact ab|(refine ap ?_ ?_<;>intro _<;>first|exact aq|conv=>whnf)|((first|refine aa h ?_|refine ac ?_|refine bi ?_ ?_|intro _)<;>conv=>whnf)))
 ·rename_i q
  rw[if_pos q]
  (refine⟨⟨?_⟩,trivial⟩;rfl)
 ·rename_i q
  rw[if_neg q]
  (refine⟨⟨?_⟩,trivial⟩;rfl)
theorem xL(l:List Int)(n:Int)(hl:l.length≤1048576):PureA Tryz.prog 41 [aD l,aj n] (aB (l.any (fun x=>decide (x=n)))):=by
 refine ag ao { l:=0,f:=41} mixed Hu Tryz.func41 (by kernel_rfl) ?_
 conv=>whnf
 refine aO ao { l:=0,f:=41} mixed (fun i:Nat=>[(5,aj i)]) (fun _=>[]) (fun _=>[]) (fun i=>i≤l.length∧l.any (fun x=>decide (x=n))=(l.drop i).any (fun x=>decide (x=n))) (fun i=>l.length-i) 0 (by kernel_rfl)
  ⟨Nat.zero_le _,rfl⟩ ?_
 conv=>whnf
 refine⟨⟨ai rfl trivial,trivial,trivial⟩,?_⟩
 intro i ⟨hi,H⟩
 conv=>whnf
 refine bH (fun h1=>?_) (fun h1=>?_)
 ·simp only[List.length_map]at h1
  obtain⟨x,hx,hd⟩:=ay (l:=l) (i:=i) (by omega)
  rw[hd,List.any_cons]at H
  conv=>whnf
  repeat(any_goals(first|exact ab|(refine ap ?_ ?_<;>intro _<;>first|exact aq|conv=>whnf)|((first|refine ae hx rfl ?_|refine ac ?_|refine bi ?_ ?_|intro _)<;>conv=>whnf)))
  ·rename_i he
   rw[decide_eq_true he,Bool.true_or]at H
   (refine⟨⟨?_⟩,trivial⟩;rw[H];rfl)
  ·rename_i he
   rw[decide_eq_false he,Bool.false_or]at H
   (refine⟨i+1,⟨by omega,H⟩,by omega,?_⟩;(conv=>whnf);refine⟨?_,?_,?_⟩<;>repeat(first|exact trivial|refine sc rfl ?_|refine kn ?_|refine kc rfl ?_))
 ·conv=>whnf
  simp only[List.length_map]at h1
  have:i=l.length:=by omega
  subst this
  rw[List.drop_length]at H
  (refine⟨⟨?_⟩,trivial⟩;rw[H];rfl)
end Go.Proofs.YtgncapdjheghfaaGreatDoor
namespace Go.Proofs.YtgncapdjheghfaaGreatDoor
open Go.Am Go.Proofs Go
theorem wW(x f:Fig):PureA Tryz.prog 56 [dS x,.cptr [aG f.name,aG f.role,aj f.room,aj f.height]] (aB (decide (x.name=f.name))):=by
 refine ag ao { l:=0,f:=56} mixed HG Tryz.func56 (by kernel_rfl) ?_
 conv=>whnf
 (refine⟨⟨?_⟩,trivial⟩;rfl)
theorem Fc(l:List Fig)(f:Fig)(hl:l.length≤1048576):PureA Tryz.prog 89 [dW l,.func (.func 56) [] [.cptr [aG f.name,aG f.role,aj f.room,aj f.height]]] (aj (idx (fun x=>decide (x.name=f.name)) l)):=by
 refine ag ao { l:=0,f:=89} mixed A7 Tryz.func89 (by kernel_rfl) ?_
 conv=>whnf
 refine aO ao { l:=0,f:=89} mixed (fun i:Nat=>[(8,aj i)]) (fun _=>[]) (fun _=>[]) (fun i=>i≤l.length∧idx (fun x:Fig=>decide (x.name=f.name)) l=ce (fun x:Fig=>decide (x.name=f.name)) i (l.drop i)) (fun i=>l.length-i) 0 (by kernel_rfl)
  ⟨Nat.zero_le _,rfl⟩ ?_
 conv=>whnf
 refine⟨⟨ai rfl trivial,trivial,trivial⟩,?_⟩
 intro i ⟨hi,H⟩
 conv=>whnf
 refine bH (fun h1=>?_) (fun h1=>?_)
 ·simp only[List.length_map]at h1
  obtain⟨x,hx,hd⟩:=ay (l:=l) (i:=i) (by omega)
  have H':=ei hd H
  conv=>whnf
  repeat(any_goals(first|exact ab|(refine ap ?_ ?_<;>intro _<;>first|exact aq|conv=>whnf)|((first|refine ae hx rfl ?_|refine aa (wW x f) ?_|refine ac ?_|refine bi ?_ ?_|intro _)<;>conv=>whnf)))
  ·rename_i he
   simp only[he,if_true]at H'
   (refine⟨⟨?_⟩,trivial⟩;simp[oneOf,aj,H'])
  ·rename_i he
   simp only[he,Bool.false_eq_true,if_false]at H'
   (refine⟨i+1,⟨by omega,H'⟩,by omega,?_⟩;(conv=>whnf);refine⟨?_,?_,?_⟩<;>repeat(first|exact trivial|refine sc rfl ?_|refine kn ?_|refine kc rfl ?_))
 ·conv=>whnf
  simp only[List.length_map]at h1
  have:i=l.length:=by omega
  subst this
  (refine⟨⟨?_⟩,trivial⟩;simp[oneOf,aj,H,ce])
theorem yt(l:List Fig)(f:Fig)(hl:l.length≤1048576):PureA Tryz.prog 55 [dW l,.func (.func 56) [] [.cptr [aG f.name,aG f.role,aj f.room,aj f.height]]] (aB (l.any (fun x=>decide (x.name=f.name)))):=by
 refine ag ao { l:=0,f:=55} mixed HF Tryz.func55 (by kernel_rfl) ?_
 conv=>whnf
 refine aa (Fc l f hl) ?_
 conv=>whnf
 (refine⟨⟨?_⟩,trivial⟩;rw[←q7];rfl)
theorem E4(s:Bill)(l:List Fig)(g:Nat→Fig→Int)(hl:l.length≤1048576)
  (h:∀(i:Nat) x,l[i]?=some x→PureA Tryz.prog 53 ([aj i,dS x,.cptr (yy s)]) (aj (g i x))) :
  PureA Tryz.prog 52 [dW l,.func (.func 53) [] [.cptr (yy s)]] (.tuple [aj (a6 g 0 l).1,aj (a6 g 0 l).2]):=by
 refine ag ao { l:=0,f:=52} mixed HC Tryz.func52 (by kernel_rfl) ?_
 conv=>whnf
 refine aO ao { l:=0,f:=52} mixed (fun i:Nat=>[(11,aj i)]) (fun _=>[]) (fun _=>[]) (fun i=>i≤l.length∧a6 g 0 l=a6 g i (l.drop i)) (fun i=>l.length-i) 0 (by kernel_rfl)
  ⟨Nat.zero_le _,rfl⟩ ?_
 conv=>whnf
 refine⟨⟨ai rfl trivial,trivial,trivial⟩,?_⟩
 intro i ⟨hi,H⟩
 conv=>whnf
 refine bH (fun h1=>?_) (fun h1=>?_)
 ·simp only[List.length_map]at h1
  obtain⟨x,hx,hd⟩:=ay (l:=l) (i:=i) (by omega)
  rw[hd]at H
  have hg:=h i x hx
  generalize hy:g i x=y at *
  simp only[a6,hy]at H
  conv=>whnf
  repeat(any_goals(first|exact ab|(refine ap ?_ ?_<;>intro _<;>first|exact aq|conv=>whnf)|((first|refine ae hx rfl ?_|refine aa hg ?_|refine ac ?_|refine bi ?_ ?_|intro _)<;>conv=>whnf)))
  ·rename_i h2
   rw[if_pos h2]at H
   (refine⟨i+1,⟨by omega,H⟩,by omega,?_⟩;(conv=>whnf);refine⟨?_,?_,?_⟩<;>repeat(first|exact trivial|refine sc rfl ?_|refine kn ?_|refine kc rfl ?_))
  ·rename_i h2
   rw[if_neg h2]at H
   (refine⟨⟨?_⟩,trivial⟩;simp[oneOf,aj,H])
 ·conv=>whnf
  simp only[List.length_map]at h1
  have:i=l.length:=by omega
  subst this
  (refine⟨⟨?_⟩,trivial⟩;simp[oneOf,aj,H,a6])
set_option maxHeartbeats 2000000 in
theorem E0(s:Bill)(i:Nat)(f:Fig)(hr:s.small)(hi:s.figs[i]?=some f) :
  PureA Tryz.prog 53 [aj i,dS f,.cptr (yy s)] (aj (fL (s.figs.take i) f)):=by
 obtain⟨h1,h2,h3⟩:=hr
 obtain⟨hf1,hf2⟩:=h3 f (List.mem_of_getElem? hi)
 have hlt:=(List.getElem?_eq_some_iff.1 hi).1
 have hn:=GZ f.name hf1
 have hn2:=GZ f.role hf2
 have ha:PureA Tryz.prog 55 [.slice 4 ((s.figs.map dS).take (i:Int).toNat) .no,.func (.func 56) [] [.cptr [aG f.name,aG f.role,aj f.room,aj f.height]]] (aB ((s.figs.take i).any (fun x=>decide (x.name=f.name)))):=by
  have:=yt (s.figs.take i) f (by simp;omega)
  simpa[dW,List.map_take]using this
 have hb1:=dy f.room 0 9
 have hb2:=dy f.height 1 6
 unfold fL
 generalize cp f.name=b1 at *
 generalize cp f.role=b5 at *
 generalize (s.figs.take i).any (fun x=>decide (x.name=f.name))=b2 at *
 generalize aW 0 9 f.room=b3 at *
 generalize aW 1 6 f.height=b4 at *
 have hbk:i=0∧dx (s.figs.take i) f=false∨∃j y,i=j+1∧s.figs[j]?=some y∧dx (s.figs.take i) f=decide (f.room<y.room):=by
  cases i with
  | zero=>exact .inl ⟨rfl,rfl⟩
  | succ j =>
   obtain⟨y,hy⟩:∃y,s.figs[j]?=some y:=⟨_,List.getElem?_eq_getElem (by omega)⟩
   refine .inr ⟨j,y,rfl,hy,?_⟩
   unfold dx
   rw[List.take_add_one,hy]
   simp
 rcases hbk with⟨rfl,hbk⟩|⟨j,y,rfl,hy,hbk⟩
 ·rw[hbk]
  refine ag ao { l:=0,f:=53} mixed uX Tryz.func53 (by kernel_rfl) ?_
  conv=>whnf
  cases b1<;>cases b2<;>cases b5<;>cases b3<;>cases b4
  all_goals
   repeat(any_goals(first|exact ab|(refine ap ?_ ?_<;>intro _<;>first|exact aq|conv=>whnf)|((first|refine aa hn ?_|refine af ha rfl ?_|refine aa hn2 ?_|refine aa hb1 ?_|refine aa hb2 ?_|refine ac ?_|refine bi ?_ ?_|intro _)<;>conv=>whnf)))
  all_goals(refine⟨⟨?_⟩,trivial⟩;rfl)
 ·rw[hbk]
  by_cases q:f.room<y.room
  ·rw[decide_eq_true q]
   refine ag ao { l:=0,f:=53} mixed uX Tryz.func53 (by kernel_rfl) ?_
   conv=>whnf
   cases b1<;>cases b2<;>cases b5<;>cases b3<;>cases b4
   all_goals
    repeat(any_goals(first|exact ab|(refine ap ?_ ?_<;>intro _<;>first|exact aq|conv=>whnf)|((first|refine aa hn ?_|refine af ha rfl ?_|refine aa hn2 ?_|refine aa hb1 ?_|refine aa hb2 ?_|refine ae hy (by omega) ?_|refine ac ?_|refine bi ?_ ?_|intro _)<;>conv=>whnf)))
   all_goals(refine⟨⟨?_⟩,trivial⟩;rfl)
  ·rw[decide_eq_false q]
   refine ag ao { l:=0,f:=53} mixed uX Tryz.func53 (by kernel_rfl) ?_
   conv=>whnf
   cases b1<;>cases b2<;>cases b5<;>cases b3<;>cases b4
   all_goals
    repeat(any_goals(first|exact ab|(refine ap ?_ ?_<;>intro _<;>first|exact aq|conv=>whnf)|((first|refine aa hn ?_|refine af ha rfl ?_|refine aa hn2 ?_|refine aa hb1 ?_|refine aa hb2 ?_|refine ae hy (by omega) ?_|refine ac ?_|refine bi ?_ ?_|intro _)<;>conv=>whnf)))
   all_goals(refine⟨⟨?_⟩,trivial⟩;rfl)
theorem f9(l:List Int)(t:Int)(hl:l.length≤1048576):PureA Tryz.prog 90 [aD l,aj t] (aj (idx (fun x=>decide (t=x)) l)):=by
 refine ag ao { l:=0,f:=90} mixed H8 Tryz.func90 (by kernel_rfl) ?_
 conv=>whnf
 refine aO ao { l:=0,f:=90} mixed (fun i:Nat=>[(8,aj i)]) (fun _=>[]) (fun _=>[]) (fun i=>i≤l.length∧idx (fun x:Int=>decide (t=x)) l=ce (fun x:Int=>decide (t=x)) i (l.drop i)) (fun i=>l.length-i) 0 (by kernel_rfl)
  ⟨Nat.zero_le _,rfl⟩ ?_
 conv=>whnf
 refine⟨⟨ai rfl trivial,trivial,trivial⟩,?_⟩
 intro i ⟨hi,H⟩
 conv=>whnf
 refine bH (fun h1=>?_) (fun h1=>?_)
 ·simp only[List.length_map]at h1
  obtain⟨x,hx,hd⟩:=ay (l:=l) (i:=i) (by omega)
  have H':=ei hd H
  conv=>whnf
  repeat(any_goals(first|exact ab|(refine ap ?_ ?_<;>intro _<;>first|exact aq|conv=>whnf)|((first|refine ae hx rfl ?_|refine ac ?_|refine bi ?_ ?_|intro _)<;>conv=>whnf)))
  ·rename_i he
   simp only[decide_eq_true he,if_true]at H'
   (refine⟨⟨?_⟩,trivial⟩;simp[oneOf,aj,H'])
  ·rename_i he
   simp only[decide_eq_false he,Bool.false_eq_true,if_false]at H'
   (refine⟨i+1,⟨by omega,H'⟩,by omega,?_⟩;(conv=>whnf);refine⟨?_,?_,?_⟩<;>repeat(first|exact trivial|refine sc rfl ?_|refine kn ?_|refine kc rfl ?_))
 ·conv=>whnf
  simp only[List.length_map]at h1
  have:i=l.length:=by omega
  subst this
  (refine⟨⟨?_⟩,trivial⟩;simp[oneOf,aj,H,ce])
theorem va(l:List Int)(t:Int)(hl:l.length≤1048576):PureA Tryz.prog 59 [aD l,aj t] (aB (l.any (fun x=>decide (x=t)))):=by
 have e:(fun x:Int=>decide (x=t))=fun x=>decide (t=x):=by funext x;rw[Bool.eq_iff_iff];simp[eq_comm]
 rw[e]
 refine ag ao { l:=0,f:=59} mixed HJ Tryz.func59 (by kernel_rfl) ?_
 conv=>whnf
 refine aa (f9 l t hl) ?_
 conv=>whnf
 (refine⟨⟨?_⟩,trivial⟩;rw[←q7];rfl)
theorem E5(s:Bill)(l:List Int)(g:Nat→Int→Int)(hl:l.length≤1048576)
  (h:∀(i:Nat) x,l[i]?=some x→PureA Tryz.prog 58 ([aj i,aj x,.cptr (yy s)]) (aj (g i x))) :
  PureA Tryz.prog 57 [aD l,.func (.func 58) [] [.cptr (yy s)]] (.tuple [aj (a6 g 0 l).1,aj (a6 g 0 l).2]):=by
 refine ag ao { l:=0,f:=57} mixed HH Tryz.func57 (by kernel_rfl) ?_
 conv=>whnf
 refine aO ao { l:=0,f:=57} mixed (fun i:Nat=>[(11,aj i)]) (fun _=>[]) (fun _=>[]) (fun i=>i≤l.length∧a6 g 0 l=a6 g i (l.drop i)) (fun i=>l.length-i) 0 (by kernel_rfl)
  ⟨Nat.zero_le _,rfl⟩ ?_
 conv=>whnf
 refine⟨⟨ai rfl trivial,trivial,trivial⟩,?_⟩
 intro i ⟨hi,H⟩
 conv=>whnf
 refine bH (fun h1=>?_) (fun h1=>?_)
 ·simp only[List.length_map]at h1
  obtain⟨x,hx,hd⟩:=ay (l:=l) (i:=i) (by omega)
  rw[hd]at H
  have hg:=h i x hx
  generalize hy:g i x=y at *
  simp only[a6,hy]at H
  conv=>whnf
  repeat(any_goals(first|exact ab|(refine ap ?_ ?_<;>intro _<;>first|exact aq|conv=>whnf)|((first|refine ae hx rfl ?_|refine aa hg ?_|refine ac ?_|refine bi ?_ ?_|intro _)<;>conv=>whnf)))
  ·rename_i h2
   rw[if_pos h2]at H
   (refine⟨i+1,⟨by omega,H⟩,by omega,?_⟩;(conv=>whnf);refine⟨?_,?_,?_⟩<;>repeat(first|exact trivial|refine sc rfl ?_|refine kn ?_|refine kc rfl ?_))
  ·rename_i h2
   rw[if_neg h2]at H
   (refine⟨⟨?_⟩,trivial⟩;simp[oneOf,aj,H])
 ·conv=>whnf
  simp only[List.length_map]at h1
  have:i=l.length:=by omega
  subst this
  (refine⟨⟨?_⟩,trivial⟩;simp[oneOf,aj,H,a6])
theorem rS:∀n:Nat,n≤6→IntKind.i64.wrap (1 * 2^min ((n:Int)).toNat IntKind.i64.bits)=2^n:=by decide +kernel
theorem fa{n:Nat}(h:n≤6):(1:Int)≤2^n∧(2:Int)^n≤64:=by
 have key:∀n:Nat,n≤6→(1:Int)≤2^n∧(2:Int)^n≤64:=by decide +kernel
 exact key n h
theorem z6(s:Bill)(i:Nat)(t:Int)(hr:s.small)(h6:s.figs.length≤6)(hi:i≤s.truths.length) :
  PureA Tryz.prog 58 [aj i,aj t,.cptr (yy s)] (aj (cN s.figs.length (s.truths.take i) t)):=by
 obtain⟨h1,h2,h3⟩:=hr
 have hfl:(s.figs.map dS).length=s.figs.length:=List.length_map ..
 have hsh:=rS s.figs.length h6
 rw[←hfl]at hsh
 obtain⟨p1,p2⟩:=fa h6
 have hb:=dy t 0 (IntKind.i64.wrap (1 * 2^min (((s.figs.map dS).length:Int)).toNat IntKind.i64.bits)-1)
 rw[hsh,hfl]at hb
 have hb:PureA Tryz.prog 51 [aj 0,aj (IntKind.i64.wrap (1 * 2^min (((s.figs.map dS).length:Int)).toNat IntKind.i64.bits)-1),aj t] (aB (aW 0 (2^s.figs.length-1) t)):=by
  rw[hsh,hfl];exact hb
 rw[hfl]at hsh
 have ha:PureA Tryz.prog 59 [.slice 1 ((s.truths.map aj).take (i:Int).toNat) .no,aj t] (aB ((s.truths.take i).any (fun x=>decide (x=t)))):=by
  have:=va (s.truths.take i) t (by simp;omega)
  simpa[aD,List.map_take]using this
 have htl:(s.truths.map aj).length=s.truths.length:=List.length_map ..
 unfold cN
 generalize aW 0 (2^s.figs.length-1) t=b1 at *
 generalize (s.truths.take i).any (fun x=>decide (x=t))=b2 at *
 refine ag ao { l:=0,f:=58} mixed HI Tryz.func58 (by kernel_rfl) ?_
 conv=>whnf
 cases b1<;>cases b2
 all_goals
  repeat(any_goals(first|exact ab|(refine ap ?_ ?_<;>intro _<;>first|exact aq|conv=>whnf)|((first|refine aa hb ?_|refine aa ha ?_|refine ac ?_|refine bi ?_ ?_|intro _)<;>conv=>whnf)))
 all_goals(refine⟨⟨?_⟩,trivial⟩;rfl)
theorem Bc(s:Bill)(hr:s.small):PureA Tryz.prog 15 [aI s] (D8 s.check):=by
 have hr':=hr
 obtain⟨h1,h2,h3⟩:=hr
 have hb0:=dy s.lines 14 30
 have hb1:=dy s.truths.length 1 6
 have hf:=E4 s s.figs (fun i f=>fL (s.figs.take i) f) h1 (fun i x hx=>E0 s i x hr' hx)
 have htl:(s.truths.map aj).length=s.truths.length:=List.length_map ..
 have hfl:(s.figs.map dS).length=s.figs.length:=List.length_map ..
 rw[←htl]at hb1
 by_cases h6:s.figs.length≤6
 ·have ht:=E5 s s.truths (fun i t=>cN s.figs.length (s.truths.take i) t) h2 (fun i x hx=>z6 s i x hr' h6 (Nat.le_of_lt (List.getElem?_eq_some_iff.1 hx).1))
  unfold Bill.check D8
  change PureA _ _ _ (.tuple [aj s.figsErr.1,aj s.figsErr.2])at hf
  change PureA _ _ _ (.tuple [aj s.truthsErr.1,aj s.truthsErr.2])at ht
  rw[←htl]
  generalize s.figsErr=F at *
  generalize s.truthsErr=T at *
  obtain⟨f1,f2⟩:=F
  obtain⟨t1,t2⟩:=T
  simp only at *
  generalize aW 14 30 s.lines=b0 at *
  generalize aW 1 6 ((s.truths.map aj).length:Int)=b1 at *
  rw[if_neg (show¬(6:Int)<s.figs.length by omega)]
  refine ag ao { l:=0,f:=15} mixed AS Tryz.func15 (by kernel_rfl) ?_
  conv=>whnf
  cases b0<;>cases b1<;>by_cases e1:f2=0<;>by_cases e2:t2=0
  all_goals
   repeat(any_goals(first|exact ab|(refine ap ?_ ?_<;>intro _<;>first|exact aq|conv=>whnf)|((first|refine aa hb0 ?_|refine af hf rfl ?_|refine aa hb1 ?_|refine af ht rfl ?_|refine ac ?_|refine bi ?_ ?_|intro _)<;>conv=>whnf)))
  all_goals(refine⟨⟨?_⟩,trivial⟩;first|rfl|simp_all [oneOf,aj])
 ·unfold Bill.check D8
  rw[if_pos (show(6:Int)<s.figs.length by omega)]
  generalize aW 14 30 s.lines=b0 at *
  refine ag ao { l:=0,f:=15} mixed AS Tryz.func15 (by kernel_rfl) ?_
  conv=>whnf
  cases b0
  all_goals
   repeat(any_goals(first|exact ab|(refine ap ?_ ?_<;>intro _<;>first|exact aq|conv=>whnf)|((first|refine aa hb0 ?_|refine ac ?_|refine bi ?_ ?_|intro _)<;>conv=>whnf)))
  all_goals(refine⟨⟨?_⟩,trivial⟩;rfl)
end Go.Proofs.YtgncapdjheghfaaGreatDoor
namespace Go.Proofs.YtgncapdjheghfaaGreatDoor
open Go.Am Go.Proofs Go
theorem KV(n:Nat)(h:n≤8):PureA Tryz.prog 47 [aj n] (aj (2^n)):=by
 have hp:∀i:Nat,i<8→(1:Int)≤2^i∧(2:Int)^i≤128:=by decide +kernel
 have hs:∀i:Nat,(2:Int) * 2^i=2^(i+1):=fun i=>by rw[Int.pow_succ];omega
 obtain⟨M,hM⟩:∃M:Nat→Int,∀i,(2:Int)^i=M i:=⟨fun i=>2^i,fun _=>rfl⟩
 have h0:M 0=1:=by rw[←hM];rfl
 simp only[hM]at hp hs ⊢
 clear hM
 refine ag ao { l:=0,f:=47} mixed Hy Tryz.func47 (by kernel_rfl) ?_
 conv=>whnf
 refine aO ao { l:=0,f:=47} mixed (fun i:Nat=>[(4,aj i),(3,aj (M i))]) (fun _=>[]) (fun _=>[]) (fun i=>i≤n) (fun i=>n-i) 0 (by kernel_rfl)
  (Nat.zero_le _) ?_
 conv=>whnf
 refine⟨⟨ai rfl (ai (by rw[h0];rfl) trivial),trivial,trivial⟩,?_⟩
 intro i hi
 by_cases hlt:i<n
 ·have hpi:=hp i (by omega)
  have hsi:=hs i
  conv=>whnf
  repeat(any_goals(first|exact ab|(refine ap ?_ ?_<;>intro _<;>first|exact aq|conv=>whnf)|((first|refine ac ?_|refine bi ?_ ?_|intro _)<;>conv=>whnf)))
  (refine⟨i+1,(by omega),(by omega),?_⟩;(conv=>whnf);refine⟨?_,?_,?_⟩<;>repeat(first|exact trivial|refine sc rfl ?_|refine kn ?_|refine kc rfl ?_|refine sc (by first|rfl|(rw[←hsi];rfl)) ?_|refine kc (by first|rfl|(rw[←hsi];rfl)) ?_))
 ·have:i=n:=by omega
  subst this
  conv=>whnf
  repeat(any_goals(first|exact ab|(refine ap ?_ ?_<;>intro _<;>first|exact aq|conv=>whnf)|((first|refine ac ?_|refine bi ?_ ?_|intro _)<;>conv=>whnf)))
  (refine⟨⟨?_⟩,trivial⟩;rfl)
theorem J9(t n:Nat)(hn:n≤63):decide (((t:Int).fdiv (2^min ((n:Int)).toNat IntKind.i64.bits)).tmod 2=1)=t.testBit n:=by
 have e:min ((n:Int)).toNat IntKind.i64.bits=n:=by rw[Int.toNat_natCast];show min n 64=n;omega
 rw[e,Nat.testBit_eq_decide_div_mod_eq]
 have h1:(t:Int).fdiv (2^n)=((t/2^n:Nat):Int):=by
  rw[Int.fdiv_eq_ediv_of_nonneg _ (by exact_mod_cast Nat.zero_le (2^n))]
  push_cast;rfl
 rw[h1,Bool.eq_iff_iff,decide_eq_true_eq,decide_eq_true_eq,Int.tmod_eq_emod_of_nonneg (Int.natCast_nonneg _)]
 omega
theorem FD(t:Int)(n:Nat)(ht:0≤t)(hn:n≤63):PureA Tryz.prog 39 [aj t,aj n] (aB (nv t n)):=by
 have hb:=J9 t.toNat n hn
 rw[Int.toNat_of_nonneg ht]at hb
 unfold nv
 rw[←hb]
 refine ag ao { l:=0,f:=39} mixed Hs Tryz.func39 (by kernel_rfl) ?_
 conv=>whnf
 repeat(any_goals(first|exact ab|(refine ap ?_ ?_<;>intro _<;>first|exact aq|conv=>whnf)|((first|refine ac ?_|refine bi ?_ ?_|intro _)<;>conv=>whnf)))
 (refine⟨⟨?_⟩,trivial⟩;rfl)
def Ca(s:Bill)(i:Nat)(f:Fig):Int:=tg f.name ((s.figs.take i).map (·.name))
theorem yO(s:Bill)(i:Nat)(f:Fig):fL (s.figs.take i) f=if Ca s i f≠0 then Ca s i f else if cp f.role=false then 6 else if(!bU f.room 0 9|| !bU f.height 1 6)=true then 7 else if dx (s.figs.take i) f=true then 2 else 0:=by
 unfold fL Ca tg
 rw[List.any_map,iS,iS,Bool.not_not,Bool.not_not]
 have e:((fun x=>decide (x=f.name))∘fun x:Fig=>x.name)=fun x=>decide (x.name=f.name):=rfl
 rw[e]
 by_cases h1:cp f.name=false
 ·simp[h1]
 ·rw[if_neg h1,if_neg h1]
  by_cases h2:((s.figs.take i).any fun x=>decide (x.name=f.name))=true
  ·rw[if_pos h2,if_pos h2];simp
  ·rw[if_neg h2,if_neg h2];simp
def gf(s:Bill)(i:Nat):List ByteArray:=(s.figs.take i).map (·.name)
theorem tf{s:Bill}{i:Nat}{f:Fig}(h:s.figs[i]?=some f):gf s (i+1)=gf s i++[f.name]:=by
 unfold gf
 rw[List.take_add_one,h,List.map_append];rfl
theorem vN(s:Bill)(i:Nat):(gf s i).length≤s.figs.length:=by unfold gf;rw[List.length_map,List.length_take];omega
def w7(s:Bill):Int×Int×Int:=if s.truthsErr.2≠0 then(3,s.truthsErr.1,s.truthsErr.2)else(0,0,0)
theorem uA(s:Bill)(i:Nat)(t:Int):cN s.figs.length (s.truths.take i) t=if(!bU t 0 (2^s.figs.length-1))=true then 4 else if(s.truths.take i).any (fun x=>decide (x=t))=true then 5 else 0:=by
 unfold cN
 rw[iS,Bool.not_not]
set_option maxHeartbeats 4000000 in
theorem lT(s:Bill)(hr:s.small):PureA Tryz.prog 16 [aI s] (D8 s.check):=by
 obtain⟨h1,h2,h3⟩:=hr
 have hb0:=eu s.lines 14 30
 have hb1:=eu s.truths.length 1 6
 have htl:(s.truths.map aj).length=s.truths.length:=List.length_map ..
 have hfl:(s.figs.map dS).length=s.figs.length:=List.length_map ..
 rw[←htl]at hb1
 rw[iS]at hb0 hb1
 unfold Bill.check D8
 rw[←htl]
 generalize aW 14 30 s.lines=b0 at *
 generalize aW 1 6 ((s.truths.map aj).length:Int)=b1 at *
 cases b0 with
 | true =>
  refine ag ao { l:=0,f:=16} mixed uR Tryz.func16 (by kernel_rfl) ?_
  conv=>whnf
  repeat(any_goals(first|exact ab|(refine ap ?_ ?_<;>intro _<;>first|exact aq|conv=>whnf)|((first|refine aa hb0 ?_|refine ac ?_|refine bi ?_ ?_|intro _)<;>conv=>whnf)))
  (refine⟨⟨?_⟩,trivial⟩;rfl)
 | false =>
  rw[if_neg (by simp)]
  by_cases h6:(6:Int)<s.figs.length
  ·rw[if_pos h6]
   refine ag ao { l:=0,f:=16} mixed uR Tryz.func16 (by kernel_rfl) ?_
   conv=>whnf
   repeat(any_goals(first|exact ab|(refine ap ?_ ?_<;>intro _<;>first|exact aq|conv=>whnf)|((first|refine aa hb0 ?_|refine ac ?_|refine bi ?_ ?_|intro _)<;>conv=>whnf)))
   (refine⟨⟨?_⟩,trivial⟩;rfl)
  ·rw[if_neg h6]
   have h6':s.figs.length≤6:=by omega
   have hnl:=vN s
   have hns:=fun i f (h:s.figs[i]?=some f)=>tf h
   have hn0:gf s 0=[]:=rfl
   have hnew:=fun i (f:Fig)=>LF (gf s i) f.name (by have:=hnl i;omega)
   have hnE:∀i (f:Fig),tg f.name (gf s i)=Ca s i f:=fun _ _=>rfl
   simp only[hnE]at hnew
   have hfe:=yO s
   obtain⟨R,hR⟩:∃R,R=(if s.figsErr.2≠0 then(2,s.figsErr.1,s.figsErr.2)else if b1=true then(3,0,3)else w7 s):=⟨_,rfl⟩
   have hRR:(if s.figsErr.2≠0 then(2,s.figsErr.1,s.figsErr.2)else if b1=true then(3,0,3)else if s.truthsErr.2≠0 then(3,s.truthsErr.1,s.truthsErr.2)else(0,0,0))=R:=hR.symm
   rw[hRR]
   clear hRR
   have hff:s.figsErr=a6 (fun i f=>fL (s.figs.take i) f) 0 (s.figs.drop 0):=rfl
   rw[hff]at hR
   obtain⟨Q,hQ⟩:∃Q:Nat→Int×Int,∀i,a6 (fun i f=>fL (s.figs.take i) f) i (s.figs.drop i)=Q i:=⟨_,fun _=>rfl⟩
   have hQs:∀i f,s.figs[i]?=some f→Q i=if fL (s.figs.take i) f=0 then Q (i+1)else((i:Int),fL (s.figs.take i) f):=by
    intro i f hi
    obtain⟨f',hf',hd⟩:=ay (l:=s.figs) (i:=i) (List.getElem?_eq_some_iff.1 hi).1
    rw[hi]at hf';cases hf'
    rw[←hQ, ←hQ,hd];rfl
   have hQe:Q s.figs.length=(0,0):=by rw[←hQ,List.drop_length];rfl
   rw[hQ]at hR
   clear hQ hff
   generalize gf s=NM at *
   refine ag ao { l:=0,f:=16} mixed uR Tryz.func16 (by kernel_rfl) ?_
   conv=>whnf
   repeat(any_goals(first|exact ab|(refine ap ?_ ?_<;>intro _<;>first|exact aq|conv=>whnf)|((first|refine aa hb0 ?_|refine ac ?_|refine bi ?_ ?_|intro _)<;>conv=>whnf)))
   refine fC 5 1 ⟨0,16,82⟩ ?_
   conv=>whnf
   refine aO ao { l:=0,f:=16} mixed (fun i:Nat=>[(6,aj i),(5,.slice 1 ((NM i).map aG) (.own ⟨0,16,82⟩ 1))]) (fun _=>[]) (fun i=>[(⟨0,16,82⟩,some (1,(NM i).length))]) (fun i=>i≤s.figs.length∧R=(if(Q i).2≠0 then(2,(Q i).1,(Q i).2)else if b1=true then(3,0,3)else w7 s)) (fun i=>s.figs.length-i) 0 (by kernel_rfl)
    ⟨Nat.zero_le _,hR⟩ ?_
   conv=>whnf
   refine⟨⟨ai rfl (ai (by rw[hn0];rfl) trivial),trivial,aL (by rw[hn0];rfl) trivial⟩,?_⟩
   clear hR
   intro i ⟨hi,H⟩
   have hni:=hnl i
   have hnm:((NM i).map aG).length=(NM i).length:=List.length_map ..
   by_cases hlt:i<s.figs.length
   ·obtain⟨f,hf,_⟩:=ay (l:=s.figs) (i:=i) hlt
    have hn:=hnew i f
    have hsc:=hns i f hf
    have hw1:=eu f.room 0 9
    have hw2:=eu f.height 1 6
    have hro:=t7 f.role
    rw[hQs i f hf,hfe i f]at H
    have hbk:i=0∧dx (s.figs.take i) f=false∨∃j y,i=j+1∧s.figs[j]?=some y∧dx (s.figs.take i) f=decide (f.room<y.room):=by
     cases i with
     | zero=>exact .inl ⟨rfl,rfl⟩
     | succ j =>
      obtain⟨y,hy⟩:∃y,s.figs[j]?=some y:=⟨_,List.getElem?_eq_getElem (by omega)⟩
      refine .inr ⟨j,y,rfl,hy,?_⟩
      unfold dx
      rw[List.take_add_one,hy]
      simp
    generalize Ca s i f=e0 at *
    generalize cp f.role=bo at *
    generalize bU f.room 0 9=bw1 at *
    generalize bU f.height 1 6=bw2 at *
    clear hnew hfe hns hnl hQs
    by_cases e1:e0=0
    ·subst e1
     rw[if_neg (show¬(0:Int)≠0 by simp)]at H
     rcases hbk with⟨rfl,hbk⟩|⟨j,y,rfl,hy,hbk⟩
     ·rw[hbk]at H
      cases bo<;>cases bw1<;>cases bw2
      all_goals simp only[if_true,if_false,Bool.false_eq_true,Bool.not_true,Bool.not_false,Bool.or_true,Bool.or_false,Bool.true_or,Bool.false_or,reduceCtorEq,ne_eq,not_true_eq_false,not_false_eq_true,show¬((6:Int)=0) by decide,show¬((7:Int)=0) by decide]at H
      all_goals conv=>whnf
      all_goals repeat(any_goals(first|exact ab|(refine ap ?_ ?_<;>intro _<;>first|exact aq|conv=>whnf)|((first|refine ae hf rfl ?_|refine aa hn ?_|refine aa hro ?_|refine aa hw1 ?_|refine aa hw2 ?_|refine ac ?_|refine bi ?_ ?_|intro _)<;>conv=>whnf)))
      all_goals first
       | (refine⟨⟨?_⟩,trivial⟩;rw[H];rfl)
       | (refine⟨0+1,⟨by omega,H⟩,(by omega),?_⟩;(conv=>whnf);refine⟨?_,?_,?_⟩<;>repeat(first|exact trivial|refine sc rfl ?_|refine kn ?_|refine kc rfl ?_|refine sc (by first|rfl|(rw[hsc];simp only[List.map_append,List.length_append,List.length_map];rfl)) ?_|refine kc (by first|rfl|(rw[hsc];simp only[List.map_append,List.length_append,List.length_map];rfl)) ?_))
     ·rw[hbk]at H
      by_cases q:f.room<y.room
      ·rw[decide_eq_true q]at H
       cases bo<;>cases bw1<;>cases bw2
       all_goals simp only[if_true,if_false,Bool.false_eq_true,Bool.not_true,Bool.not_false,Bool.or_true,Bool.or_false,Bool.true_or,Bool.false_or,reduceCtorEq,ne_eq,not_true_eq_false,not_false_eq_true,show¬((6:Int)=0) by decide,show¬((7:Int)=0) by decide,show¬((2:Int)=0) by decide]at H
       all_goals conv=>whnf
       all_goals repeat(any_goals(first|exact ab|(refine ap ?_ ?_<;>intro _<;>first|exact aq|conv=>whnf)|((first|refine ae hf rfl ?_|refine aa hn ?_|refine aa hro ?_|refine aa hw1 ?_|refine aa hw2 ?_|refine ae hy (by omega) ?_|refine ac ?_|refine bi ?_ ?_|intro _)<;>conv=>whnf)))
       all_goals first
        | (refine⟨⟨?_⟩,trivial⟩;rw[H];rfl)
      ·rw[decide_eq_false q]at H
       cases bo<;>cases bw1<;>cases bw2
       all_goals simp only[if_true,if_false,Bool.false_eq_true,Bool.not_true,Bool.not_false,Bool.or_true,Bool.or_false,Bool.true_or,Bool.false_or,reduceCtorEq,ne_eq,not_true_eq_false,not_false_eq_true,show¬((6:Int)=0) by decide,show¬((7:Int)=0) by decide]at H
       all_goals conv=>whnf
       all_goals repeat(any_goals(first|exact ab|(refine ap ?_ ?_<;>intro _<;>first|exact aq|conv=>whnf)|((first|refine ae hf rfl ?_|refine aa hn ?_|refine aa hro ?_|refine aa hw1 ?_|refine aa hw2 ?_|refine ae hy (by omega) ?_|refine ac ?_|refine bi ?_ ?_|intro _)<;>conv=>whnf)))
       all_goals first
        | (refine⟨⟨?_⟩,trivial⟩;rw[H];rfl)
        | (refine⟨j+1+1,⟨by omega,H⟩,(by omega),?_⟩;(conv=>whnf);refine⟨?_,?_,?_⟩<;>repeat(first|exact trivial|refine sc rfl ?_|refine kn ?_|refine kc rfl ?_|refine sc (by first|rfl|(rw[hsc];simp only[List.map_append,List.length_append,List.length_map];rfl)) ?_|refine kc (by first|rfl|(rw[hsc];simp only[List.map_append,List.length_append,List.length_map];rfl)) ?_))
    ·rw[if_pos e1,if_neg e1]at H
     simp only at H
     rw[if_pos e1]at H
     have hbk2:i=0∨∃j y,i=j+1∧s.figs[j]?=some y:=hbk.imp (·.1) fun⟨j,y,a,b,_⟩=>⟨j,y,a,b⟩
     conv=>whnf
     repeat(any_goals(first|exact ab|(refine ap ?_ ?_<;>intro _<;>first|exact aq|conv=>whnf)|((first|refine ae hf rfl ?_|refine aa hn ?_|refine ac ?_|refine bi ?_ ?_|intro _)<;>conv=>whnf)))
     (refine⟨⟨?_⟩,trivial⟩;rw[H];rfl)
   ·have:i=s.figs.length:=by omega
    subst this
    rw[hQe]at H
    simp only[ne_eq,not_true_eq_false,if_false]at H
    clear hnew hfe hns hQs
    cases b1 with
    | true =>
     rw[if_pos rfl]at H
     conv=>whnf
     repeat(any_goals(first|exact ab|(refine ap ?_ ?_<;>intro _<;>first|exact aq|conv=>whnf)|((first|refine aa hb1 ?_|refine ac ?_|refine bi ?_ ?_|intro _)<;>conv=>whnf)))
     (refine⟨⟨?_⟩,trivial⟩;rw[H];rfl)
    | false =>
     rw[if_neg (by simp)]at H
     unfold w7 at H
     have hff:s.truthsErr=a6 (fun i t=>cN s.figs.length (s.truths.take i) t) 0 (s.truths.drop 0):=rfl
     rw[hff]at H
     obtain⟨V,hV⟩:∃V:Nat→Int×Int,∀i,a6 (fun i t=>cN s.figs.length (s.truths.take i) t) i (s.truths.drop i)=V i:=⟨_,fun _=>rfl⟩
     have hVs:∀i f,s.truths[i]?=some f→V i=if cN s.figs.length (s.truths.take i) f=0 then V (i+1)else((i:Int),cN s.figs.length (s.truths.take i) f):=by
      intro i f hi
      obtain⟨f',hf',hd⟩:=ay (l:=s.truths) (i:=i) (List.getElem?_eq_some_iff.1 hi).1
      rw[hi]at hf';cases hf'
      rw[←hV, ←hV,hd];rfl
     have hVe:V s.truths.length=(0,0):=by rw[←hV,List.drop_length];rfl
     rw[hV]at H
     clear hV hff
     have hse:PureA Tryz.prog 47 [aj ((s.figs.map dS).length:Int)] (aj (2^s.figs.length)):=by rw[hfl];exact KV s.figs.length (by omega)
     have hp2:=fa h6'
     conv=>whnf
     repeat(any_goals(first|exact ab|(refine ap ?_ ?_<;>intro _<;>first|exact aq|conv=>whnf)|((first|refine aa hb1 ?_|refine ac ?_|refine bi ?_ ?_|intro _)<;>conv=>whnf)))
     refine aO ao { l:=0,f:=16} mixed (fun i:Nat=>[(9,aj i)]) (fun _=>[]) (fun _=>[]) (fun i=>i≤s.truths.length∧R=(if(V i).2≠0 then(3,(V i).1,(V i).2)else(0,0,0))) (fun i=>s.truths.length-i) 0 (by kernel_rfl)
      ⟨Nat.zero_le _,H⟩ ?_
     conv=>whnf
     refine⟨⟨ai rfl trivial,trivial,trivial⟩,?_⟩
     clear H
     intro i ⟨hi,H⟩
     by_cases hlt:i<s.truths.length
     ·obtain⟨t,ht,_⟩:=ay (l:=s.truths) (i:=i) hlt
      rw[hVs i t ht,uA]at H
      have hw:=eu t 0 (2^s.figs.length-1)
      have hh:=xL (s.truths.take i) t (by rw[List.length_take];omega)
      have hh:PureA Tryz.prog 41 [.slice 1 ((s.truths.map aj).take (i:Int).toNat) .no,aj t] (aB ((s.truths.take i).any (fun x=>decide (x=t)))):=by
       simpa[aD,List.map_take]using hh
      clear hVs
      generalize bU t 0 (2^s.figs.length-1)=bw at *
      generalize (s.truths.take i).any (fun x=>decide (x=t))=bh at *
      cases bw<;>cases bh
      all_goals simp only[if_true,if_false,Bool.false_eq_true,Bool.not_true,Bool.not_false,ne_eq,not_true_eq_false,not_false_eq_true,show¬((4:Int)=0) by decide,show¬((5:Int)=0) by decide]at H
      all_goals conv=>whnf
      all_goals repeat(any_goals(first|exact ab|(refine ap ?_ ?_<;>intro _<;>first|exact aq|conv=>whnf)|((first|refine ae ht rfl ?_|refine aa hse ?_|refine aa hw ?_|refine aa hh ?_|refine ac ?_|refine bi ?_ ?_|intro _)<;>conv=>whnf)))
      all_goals first
       | (refine⟨⟨?_⟩,trivial⟩;rw[H];rfl)
       | (refine⟨i+1,⟨by omega,H⟩,(by omega),?_⟩;(conv=>whnf);refine⟨?_,?_,?_⟩<;>repeat(first|exact trivial|refine sc rfl ?_|refine kn ?_|refine kc rfl ?_|refine sc (by rfl) ?_|refine kc (by rfl) ?_))
     ·have:i=s.truths.length:=by omega
      subst this
      rw[hVe]at H
      simp only[ne_eq,not_true_eq_false,if_false]at H
      conv=>whnf
      repeat(any_goals(first|exact ab|(refine ap ?_ ?_<;>intro _<;>first|exact aq|conv=>whnf)|((first|refine ac ?_|refine bi ?_ ?_|intro _)<;>conv=>whnf)))
      (refine⟨⟨?_⟩,trivial⟩;rw[H];rfl)
end Go.Proofs.YtgncapdjheghfaaGreatDoor
namespace Go.Proofs.YtgncapdjheghfaaGreatDoor
open Go.Am Go.Proofs Go
def D7(t:Int)(l:List Int):Bool:=l.any fun x=>nv t x.toNat
def Bill.allL(s:Bill)(l:List Int):Bool:=s.truths.all fun t=>D7 t l
def Bill.someL(s:Bill)(l:List Int):Bool:=s.truths.any fun t=>D7 t l
theorem Jb(t x:Int)(ht:0≤t)(hx:0≤x∧x≤63):PureA Tryz.prog 39 [aj t,aj x] (aB (nv t x.toNat)):=by
 obtain⟨n,rfl⟩:=Int.eq_ofNat_of_zero_le hx.1
 rw[Int.toNat_natCast]
 exact FD t n ht (by omega)
theorem KL(s:Bill)(t:Int)(ht:0≤t)(l:List Int)(hl:l.length≤1048576)(hin:∀x∈l,0≤x∧x≤63):PureA Tryz.prog 88 [aI s,aj t,aD l] (aB (D7 t l)):=by
 obtain⟨R,hR⟩:∃R,D7 t l=R:=⟨_,rfl⟩
 rw[hR]
 have hbit:=fun x h=>Jb t x ht h
 refine ag ao { l:=0,f:=88} mixed H7 Tryz.func88 (by kernel_rfl) ?_
 conv=>whnf
 refine aO ao { l:=0,f:=88} mixed (fun i:Nat=>[(7,aj i)]) (fun _=>[]) (fun _=>[]) (fun i=>i≤l.length∧R=D7 t (l.drop i)) (fun i=>l.length-i) 0 (by kernel_rfl)
  ⟨Nat.zero_le _,hR.symm⟩ ?_
 conv=>whnf
 refine⟨⟨ai rfl trivial,trivial,trivial⟩,?_⟩
 clear hR
 intro i ⟨hi,H⟩
 conv=>whnf
 refine bH (fun h1=>?_) (fun h1=>?_)
 ·simp only[List.length_map]at h1
  obtain⟨x,hx,hd⟩:=ay (l:=l) (i:=i) (by omega)
  rw[hd]at H
  have hb:=hbit x (hin x (List.mem_of_getElem? hx))
  have H:R=(nv t x.toNat||D7 t (l.drop (i+1))):=H
  cases hv:nv t x.toNat with
  | true =>
   rw[hv,Bool.true_or]at H
   rw[hv]at hb
   subst H
   conv=>whnf
   repeat(any_goals(first|exact ab|(refine ap ?_ ?_<;>intro _<;>first|exact aq|conv=>whnf)|((first|refine ae hx rfl ?_|refine aa hb ?_|refine ac ?_|refine bi ?_ ?_|intro _)<;>conv=>whnf)))
   (refine⟨⟨?_⟩,trivial⟩;rfl)
  | false =>
   rw[hv,Bool.false_or]at H
   rw[hv]at hb
   conv=>whnf
   repeat(any_goals(first|exact ab|(refine ap ?_ ?_<;>intro _<;>first|exact aq|conv=>whnf)|((first|refine ae hx rfl ?_|refine aa hb ?_|refine ac ?_|refine bi ?_ ?_|intro _)<;>conv=>whnf)))
   (refine⟨i+1,⟨by omega,H⟩,by omega,?_⟩;(conv=>whnf);refine⟨?_,?_,?_⟩<;>repeat(first|exact trivial|refine sc rfl ?_|refine kn ?_|refine kc rfl ?_))
 ·conv=>whnf
  simp only[List.length_map]at h1
  have:i=l.length:=by omega
  subst this
  rw[List.drop_length]at H
  have H:R=false:=H
  subst H
  (refine⟨⟨?_⟩,trivial⟩;rfl)
theorem Ef(s:Bill)(hs:s.truths.length≤1048576)(ht:∀t∈s.truths,0≤t)(l:List Int)(hl:l.length≤1048576)(hx:∀x∈l,0≤x∧x≤63):PureA Tryz.prog 50 [aI s,aD l] (aB (s.allL l)):=by
 obtain⟨R,hR⟩:∃R,s.allL l=R:=⟨_,rfl⟩
 rw[hR]
 have hone:=fun t h=>KL s t h l hl hx
 have htl:(s.truths.map aj).length=s.truths.length:=List.length_map ..
 unfold aI at hone
 refine ag ao { l:=0,f:=50} mixed HA Tryz.func50 (by kernel_rfl) ?_
 conv=>whnf
 refine aO ao { l:=0,f:=50} mixed (fun i:Nat=>[(5,aj i)]) (fun _=>[]) (fun _=>[]) (fun i=>i≤s.truths.length∧R=List.all (s.truths.drop i) fun t=>D7 t l) (fun i=>s.truths.length-i) 0 (by kernel_rfl)
  ⟨Nat.zero_le _,hR.symm⟩ ?_
 conv=>whnf
 refine⟨⟨ai rfl trivial,trivial,trivial⟩,?_⟩
 clear hR
 intro i ⟨hi,H⟩
 by_cases hlt:i<s.truths.length
 ·obtain⟨t,hx',hd⟩:=ay (l:=s.truths) (i:=i) hlt
  rw[hd]at H
  have ho:=hone t (ht t (List.mem_of_getElem? hx'))
  cases hv:D7 t l with
  | true =>
   rw[hv]at ho
   simp only[List.all_cons,List.any_cons,hv,Bool.true_and,Bool.true_or]at H
   conv=>whnf
   repeat(any_goals(first|exact ab|(refine ap ?_ ?_<;>intro _<;>first|exact aq|conv=>whnf)|((first|refine ae hx' rfl ?_|refine aa ho ?_|refine af ho rfl ?_|refine ac ?_|refine bi ?_ ?_|intro _)<;>conv=>whnf)))
   first
    | (refine⟨i+1,⟨by omega,H⟩,by omega,?_⟩;(conv=>whnf);refine⟨?_,?_,?_⟩<;>repeat(first|exact trivial|refine sc rfl ?_|refine kn ?_|refine kc rfl ?_))
    | (refine⟨⟨?_⟩,trivial⟩;rw[H];rfl)
  | false =>
   rw[hv]at ho
   simp only[List.all_cons,List.any_cons,hv,Bool.false_and,Bool.false_or]at H
   conv=>whnf
   repeat(any_goals(first|exact ab|(refine ap ?_ ?_<;>intro _<;>first|exact aq|conv=>whnf)|((first|refine ae hx' rfl ?_|refine aa ho ?_|refine af ho rfl ?_|refine ac ?_|refine bi ?_ ?_|intro _)<;>conv=>whnf)))
   first
    | (refine⟨i+1,⟨by omega,H⟩,by omega,?_⟩;(conv=>whnf);refine⟨?_,?_,?_⟩<;>repeat(first|exact trivial|refine sc rfl ?_|refine kn ?_|refine kc rfl ?_))
    | (refine⟨⟨?_⟩,trivial⟩;rw[H];rfl)
 ·have hin:i=s.truths.length:=by omega
  subst hin
  rw[List.drop_length]at H
  simp only[List.all_nil,List.any_nil]at H
  conv=>whnf
  repeat(any_goals(first|exact ab|(refine ap ?_ ?_<;>intro _<;>first|exact aq|conv=>whnf)|((first|refine ac ?_|refine bi ?_ ?_|intro _)<;>conv=>whnf)))
  (refine⟨⟨?_⟩,trivial⟩;rw[H];rfl)
theorem CZ(s:Bill)(hs:s.truths.length≤1048576)(ht:∀t∈s.truths,0≤t)(l:List Int)(hl:l.length≤1048576)(hx:∀x∈l,0≤x∧x≤63):PureA Tryz.prog 49 [aI s,aD l] (aB (s.someL l)):=by
 obtain⟨R,hR⟩:∃R,s.someL l=R:=⟨_,rfl⟩
 rw[hR]
 have hone:=fun t h=>KL s t h l hl hx
 have htl:(s.truths.map aj).length=s.truths.length:=List.length_map ..
 unfold aI at hone
 refine ag ao { l:=0,f:=49} mixed Hz Tryz.func49 (by kernel_rfl) ?_
 conv=>whnf
 refine aO ao { l:=0,f:=49} mixed (fun i:Nat=>[(5,aj i)]) (fun _=>[]) (fun _=>[]) (fun i=>i≤s.truths.length∧R=List.any (s.truths.drop i) fun t=>D7 t l) (fun i=>s.truths.length-i) 0 (by kernel_rfl)
  ⟨Nat.zero_le _,hR.symm⟩ ?_
 conv=>whnf
 refine⟨⟨ai rfl trivial,trivial,trivial⟩,?_⟩
 clear hR
 intro i ⟨hi,H⟩
 by_cases hlt:i<s.truths.length
 ·obtain⟨t,hx',hd⟩:=ay (l:=s.truths) (i:=i) hlt
  rw[hd]at H
  have ho:=hone t (ht t (List.mem_of_getElem? hx'))
  cases hv:D7 t l with
  | true =>
   rw[hv]at ho
   simp only[List.all_cons,List.any_cons,hv,Bool.true_and,Bool.true_or]at H
   conv=>whnf
   repeat(any_goals(first|exact ab|(refine ap ?_ ?_<;>intro _<;>first|exact aq|conv=>whnf)|((first|refine ae hx' rfl ?_|refine aa ho ?_|refine af ho rfl ?_|refine ac ?_|refine bi ?_ ?_|intro _)<;>conv=>whnf)))
   first
    | (refine⟨i+1,⟨by omega,H⟩,by omega,?_⟩;(conv=>whnf);refine⟨?_,?_,?_⟩<;>repeat(first|exact trivial|refine sc rfl ?_|refine kn ?_|refine kc rfl ?_))
    | (refine⟨⟨?_⟩,trivial⟩;rw[H];rfl)
  | false =>
   rw[hv]at ho
   simp only[List.all_cons,List.any_cons,hv,Bool.false_and,Bool.false_or]at H
   conv=>whnf
   repeat(any_goals(first|exact ab|(refine ap ?_ ?_<;>intro _<;>first|exact aq|conv=>whnf)|((first|refine ae hx' rfl ?_|refine aa ho ?_|refine af ho rfl ?_|refine ac ?_|refine bi ?_ ?_|intro _)<;>conv=>whnf)))
   first
    | (refine⟨i+1,⟨by omega,H⟩,by omega,?_⟩;(conv=>whnf);refine⟨?_,?_,?_⟩<;>repeat(first|exact trivial|refine sc rfl ?_|refine kn ?_|refine kc rfl ?_))
    | (refine⟨⟨?_⟩,trivial⟩;rw[H];rfl)
 ·have hin:i=s.truths.length:=by omega
  subst hin
  rw[List.drop_length]at H
  simp only[List.all_nil,List.any_nil]at H
  conv=>whnf
  repeat(any_goals(first|exact ab|(refine ap ?_ ?_<;>intro _<;>first|exact aq|conv=>whnf)|((first|refine ac ?_|refine bi ?_ ?_|intro _)<;>conv=>whnf)))
  (refine⟨⟨?_⟩,trivial⟩;rw[H];rfl)
end Go.Proofs.YtgncapdjheghfaaGreatDoor
namespace Go.Proofs.YtgncapdjheghfaaGreatDoor
open Go.Am Go.Proofs Go
def fb(a b:Int):Int:=IntKind.i64.wrap ((BitVec.ofInt IntKind.i64.bits a&&&BitVec.ofInt IntKind.i64.bits b).toNat:Nat)
def orX(a b:Int):Int:=IntKind.i64.wrap ((BitVec.ofInt IntKind.i64.bits a|||BitVec.ofInt IntKind.i64.bits b).toNat:Nat)
def bP(a b:Int):Int:=IntKind.i64.wrap ((BitVec.ofInt IntKind.i64.bits a&&& ~~~BitVec.ofInt IntKind.i64.bits b).toNat:Nat)
def k8(a b:Int):Int:=a.fdiv (2^min b.toNat IntKind.i64.bits)
def KW(a b:Int):Int:=IntKind.i64.wrap (a * 2^min b.toNat IntKind.i64.bits)
theorem JR(n:Nat)(h:n<4611686018427387904):IntKind.i64.wrap (n:Int)=n:=by
 rw[IntKind.wrap_i64];omega
theorem tn(n:Nat):BitVec.ofInt IntKind.i64.bits (n:Int)=BitVec.ofNat 64 n:=BitVec.ofInt_natCast ..
theorem fZ(a b:Nat)(ha:a<4611686018427387904)(hb:b<4611686018427387904):fb a b=((a&&&b:Nat):Int):=by
 unfold fb
 rw[tn,tn]
 have e:(BitVec.ofNat 64 a&&&BitVec.ofNat 64 b).toNat=a&&&b:=by
  rw[BitVec.toNat_and,BitVec.toNat_ofNat,BitVec.toNat_ofNat,Nat.mod_eq_of_lt (by omega),Nat.mod_eq_of_lt (by omega)]
 have h:=Nat.and_lt_two_pow (n:=62) a hb
 exact(congrArg (fun x:Nat=>IntKind.i64.wrap (x:Int)) e).trans (JR _ h)
theorem rF(a b:Nat)(ha:a<4611686018427387904)(hb:b<4611686018427387904):orX a b=((a|||b:Nat):Int):=by
 unfold orX
 rw[tn,tn]
 have e:(BitVec.ofNat 64 a|||BitVec.ofNat 64 b).toNat=a|||b:=by
  rw[BitVec.toNat_or,BitVec.toNat_ofNat,BitVec.toNat_ofNat,Nat.mod_eq_of_lt (by omega),Nat.mod_eq_of_lt (by omega)]
 have h:=Nat.or_lt_two_pow (n:=62) ha hb
 exact(congrArg (fun x:Nat=>IntKind.i64.wrap (x:Int)) e).trans (JR _ h)
theorem Eg(b:Nat)(hb:b<4611686018427387904):fb (-1) b=b:=by
 unfold fb
 rw[tn]
 have e:(BitVec.ofInt 64 (-1)&&&BitVec.ofNat 64 b).toNat=b:=by
  have:BitVec.ofInt 64 (-1)=BitVec.allOnes 64:=by decide
  rw[this,BitVec.allOnes_and,BitVec.toNat_ofNat,Nat.mod_eq_of_lt (by omega)]
 exact(congrArg (fun x:Nat=>IntKind.i64.wrap (x:Int)) e).trans (JR _ hb)
theorem eS:∀a b:Nat,a<64→b<64→bP a b=((a&&&(63^^^b):Nat):Int):=by
 have h:∀a,a<64→∀b,b<64→bP ((a:Nat):Int) ((b:Nat):Int)=((a&&&(63^^^b):Nat):Int):=by decide +kernel
 exact fun a b ha hb=>h a ha b hb
theorem kS(a b:Nat)(hb:b≤64):k8 a b=((a/2^b:Nat):Int):=by
 unfold k8
 have e:min ((b:Int)).toNat IntKind.i64.bits=b:=by rw[Int.toNat_natCast];show min b 64=b;omega
 rw[e,Int.fdiv_eq_ediv_of_nonneg _ (by exact_mod_cast Nat.zero_le (2^b))]
 push_cast;rfl
theorem rR:∀n:Nat,n≤6→KW 1 n=((2^n:Nat):Int):=by decide +kernel
theorem qE(n:Nat):n&&&1=n%2:=Nat.and_one_is_mod n
theorem Hj(a b:Nat)(ha:a<4611686018427387904)(hb:b≤64):decide (fb (k8 a b) 1=1)=a.testBit b:=by
 have h:a/2^b≤a:=Nat.div_le_self ..
 rw[kS a b hb,show(1:Int)=((1:Nat):Int) by rfl,fZ _ 1 (by omega) (by omega),qE,Nat.testBit_eq_decide_div_mod_eq]
 rw[Bool.eq_iff_iff,decide_eq_true_eq,decide_eq_true_eq]
 omega
def cz:Key:=⟨0,63,19⟩
def KX(s:Bill)(a b:Int):List AV:=[aj s.lines,dW s.figs,aD s.truths,aj a,aj b]
def CV(s:Bill)(a b:Int):AV:= .agg (KX s a b)
def dp(s:Bill):AV:= .cptr (KX s s.allN s.someN)
def cQ(s:Bill):cr:=(cz,1,5,[CV s s.allN s.someN])
def mN(s:Bill)(i:Nat):Int:=if i=0 then -1 else(((s.truths.take i).foldl (fun x t=>x&&&t.toNat) 63:Nat):Int)
def Av(s:Bill)(i:Nat):Int:=(((s.truths.take i).foldl (fun x t=>x|||t.toNat) 0:Nat):Int)
theorem yP(l:List Int):l.foldl (fun x t=>x&&&t.toNat) 63<64:=by
 apply Nat.lt_pow_two_of_testBit (n:=6)
 intro i hi
 rw[jm,Eo,decide_eq_false (by omega),Bool.false_and]
theorem sS:∀(l:List Int) (x:Nat),x<64→(∀t∈l,0≤t∧t<64)→l.foldl (fun x t=>x|||t.toNat) x<64
 | [],x,hx,_=>hx
 | t::l,x,hx,h=>by
  have ht:=h t (List.mem_cons_self ..)
  exact sS l _ (Nat.or_lt_two_pow (n:=6) hx (by omega)) fun y hy=>h y (List.mem_cons_of_mem _ hy)
theorem yr{s:Bill}{i:Nat}{t:Int}(h:s.truths[i]?=some t)(ht:0≤t∧t<64):fb (mN s i) t=mN s (i+1):=by
 obtain⟨n,rfl⟩:=Int.eq_ofNat_of_zero_le ht.1
 have e:s.truths.take (i+1)=s.truths.take i++[((n:Nat):Int)]:=by rw[List.take_add_one,h];rfl
 unfold mN
 rw[if_neg (show¬i+1=0 by omega),e,List.foldl_append]
 by_cases hi:i=0
 ·subst hi
  rw[if_pos rfl,Eg n (by omega)]
  simp only[List.take_zero,List.foldl_nil,List.foldl_cons,Int.toNat_natCast]
  have:63&&&n=n:=by
   rw[Nat.and_comm,show(63:Nat)=2^6-1 by rfl,Nat.and_two_pow_sub_one_eq_mod,Nat.mod_eq_of_lt (by omega)]
  rw[this]
 ·rw[if_neg hi]
  have:=yP (s.truths.take i)
  rw[fZ _ _ (by omega) (by omega)]
  simp only[List.foldl_nil,List.foldl_cons,Int.toNat_natCast]
theorem Cs{s:Bill}{i:Nat}{t:Int}(h:s.truths[i]?=some t)(hs:∀t∈s.truths,0≤t∧t<64):orX (Av s i) t=Av s (i+1):=by
 have ht:=hs t (List.mem_of_getElem? h)
 obtain⟨n,rfl⟩:=Int.eq_ofNat_of_zero_le ht.1
 have e:s.truths.take (i+1)=s.truths.take i++[((n:Nat):Int)]:=by rw[List.take_add_one,h];rfl
 unfold Av
 rw[e,List.foldl_append]
 have:=sS (s.truths.take i) 0 (by omega) fun x hx=>hs x (List.mem_of_mem_take hx)
 rw[rF _ _ (by omega) (by omega)]
 simp only[List.foldl_nil,List.foldl_cons,Int.toNat_natCast]
set_option maxHeartbeats 1000000 in
theorem BJ(s:Bill)(a b:Int)(hl:s.truths.length≤6)(hs:∀t∈s.truths,0≤t∧t<64) :
  BoxA Tryz.prog (.fn 85) [(cz,1,5,[CV s a b])] [.ptr cz 1 5 0 0] (.tuple []) [(cz,1,5,[CV s (mN s s.truths.length) (Av s s.truths.length)])]:=by
 have h0:mN s 0 = -1:=rfl
 have h1:Av s 0=0:=rfl
 have hA:∀i t,s.truths[i]?=some t→fb (mN s i) t=mN s (i+1):=fun i t h=>yr h (hs t (List.mem_of_getElem? h))
 have hO:∀i t,s.truths[i]?=some t→orX (Av s i) t=Av s (i+1):=fun i t h=>Cs h hs
 generalize mN s=F at *
 generalize Av s=G at *
 refine aN ao { l:=0,f:=85} mixed H5 Tryz.func85 (by kernel_rfl) ?_
 conv=>whnf
 refine aO ao { l:=0,f:=85} mixed (fun i:Nat=>[(16,aj i)]) (fun i=>[(cz,some (1,some (5,[CV s (F i) (G i)])))]) (fun _=>[]) (fun i=>i≤s.truths.length) (fun i=>s.truths.length-i) 0 (by kernel_rfl)
  (Nat.zero_le _) ?_
 conv=>whnf
 refine⟨⟨ai rfl trivial,aL (by rw[h0,h1];rfl) trivial,trivial⟩,?_⟩
 intro i hi
 conv=>whnf
 refine bH (fun h1=>?_) (fun h1=>?_)
 ·simp only[List.length_map]at h1
  obtain⟨x,hx,hd⟩:=ay (l:=s.truths) (i:=i) (by omega)
  have hA':=hA i x hx
  have hO':=hO i x hx
  conv=>whnf
  repeat(any_goals(first|exact ab|(refine ap ?_ ?_<;>intro _<;>first|exact aq|conv=>whnf)|((first|refine ae hx rfl ?_|refine ac ?_|refine bi ?_ ?_|intro _)<;>conv=>whnf)))
  (refine⟨i+1,(by omega),by omega,?_⟩;(conv=>whnf);refine⟨?_,?_,?_⟩<;>repeat(first|exact trivial|refine sc rfl ?_|refine kn ?_|refine kc rfl ?_|refine sc (by(rw[←hA', ←hO'];rfl)) ?_|refine kc (by(rw[←hA', ←hO'];rfl)) ?_))
 ·conv=>whnf
  simp only[List.length_map]at h1
  have:i=s.truths.length:=by omega
  subst this
  refine And.intro ?_ ?_
  ·conv=>whnf
   refine⟨⟨?_⟩,trivial⟩
   rfl
  ·repeat(first|exact trivial|refine And.intro rfl ?_|refine And.intro (by skip) ?_)
theorem jq(s:Bill)(hr:s.small)(hc:s.check.2.2=0):BoxA Tryz.prog (.fn 63) [] [aI s] (.tuple [.ptr cz 1 5 0 0,aj 0]) [cQ s]:=by
 have hg:=Bill.good hc
 have hk:=Bc s hr
 unfold D8 at hk
 rw[hc]at hk
 have hkn:=BJ s 0 0 hg.lenT.2 fun t ht=>hg.lt ht
 have e1:mN s s.truths.length=s.allN:=by
  unfold mN
  have:=hg.lenT
  rw[if_neg (by omega),List.take_length];rfl
 have e2:Av s s.truths.length=s.someN:=by
  unfold Av
  rw[List.take_length];rfl
 rw[e1,e2]at hkn
 unfold cQ
 refine aN ao { l:=0,f:=63,mat:=[85]} mixed A1 Tryz.func63 (by kernel_rfl) ?_
 conv=>whnf
 repeat(any_goals(first|exact ab|(refine ap ?_ ?_<;>intro _<;>first|exact aq|conv=>whnf)|((first|refine aa hk ?_|refine ac ?_|refine bi ?_ ?_|intro _)<;>conv=>whnf)))
 refine⟨[cz],?_⟩
 conv=>whnf
 refine⟨_,_,hkn,?_⟩
 conv=>whnf
 refine And.intro ?_ ?_
 ·conv=>whnf
  refine⟨⟨?_⟩,trivial⟩
  rfl
 ·repeat(first|exact trivial|refine And.intro rfl ?_|refine And.intro (by skip) ?_)
def Cd:AV:= .v (.pointer none)
theorem IJ(s:Bill)(hr:s.small)(hc:s.check.2.2≠0):BoxA Tryz.prog (.fn 63) [] [aI s] (.tuple [Cd,aj s.check.2.2]) []:=by
 have hk:=Bc s hr
 unfold D8 at hk
 generalize s.check=c at *
 obtain⟨c1,c2,c3⟩:=c
 refine aN ao { l:=0,f:=63,mat:=[85]} mixed A1 Tryz.func63 (by kernel_rfl) ?_
 conv=>whnf
 repeat(any_goals(first|exact ab|(refine ap ?_ ?_<;>intro _<;>first|exact aq|conv=>whnf)|((first|refine aa hk ?_|refine ac ?_|refine bi ?_ ?_|intro _)<;>conv=>whnf)))
 refine And.intro ?_ ?_
 ·conv=>whnf
  refine⟨⟨?_⟩,trivial⟩
  rfl
 ·repeat(first|exact trivial|refine And.intro rfl ?_|refine And.intro (by skip) ?_)
theorem Jx(t set:Int)(ht:0≤t∧t<64)(hs:0≤set∧set<64):PureA Tryz.prog 94 [aj t,.cptr [aj set]] (aB (decide (t.toNat&&&set.toNat=0))):=by
 obtain⟨n,rfl⟩:=Int.eq_ofNat_of_zero_le ht.1
 obtain⟨m,rfl⟩:=Int.eq_ofNat_of_zero_le hs.1
 have e:=fZ n m (by omega) (by omega)
 have e2:decide (n&&&m=0)=decide (fb n m=0):=by rw[e,decide_eq_decide];omega
 rw[Int.toNat_natCast,Int.toNat_natCast,e2]
 refine ag ao { l:=0,f:=94} mixed Ic Tryz.func94 (by kernel_rfl) ?_
 conv=>whnf
 (refine⟨⟨?_⟩,trivial⟩;rfl)
theorem IB(l:List Int)(set:Int)(hl:l.length≤1048576)(h:∀t∈l,0≤t∧t<64)(hs:0≤set∧set<64):PureA Tryz.prog 123 [aD l,.func (.func 94) [] [.cptr [aj set]]] (aj (idx (fun t=>decide (t.toNat&&&set.toNat=0)) l)):=by
 have hF:=fun t ht=>Jx t set (h t ht) hs
 generalize hp:(fun t:Int=>decide (t.toNat&&&set.toNat=0))=p at *
 have hp':∀t:Int,decide (t.toNat&&&set.toNat=0)=p t:=fun t=>by rw[←hp]
 simp only[hp']at hF
 clear hp hp'
 refine ag ao { l:=0,f:=123} mixed EJ Tryz.func123 (by kernel_rfl) ?_
 conv=>whnf
 refine aO ao { l:=0,f:=123} mixed (fun i:Nat=>[(8,aj i)]) (fun _=>[]) (fun _=>[]) (fun i=>i≤l.length∧idx p l=ce p i (l.drop i)) (fun i=>l.length-i) 0 (by kernel_rfl)
  ⟨Nat.zero_le _,rfl⟩ ?_
 conv=>whnf
 refine⟨⟨ai rfl trivial,trivial,trivial⟩,?_⟩
 intro i ⟨hi,H⟩
 conv=>whnf
 refine bH (fun h1=>?_) (fun h1=>?_)
 ·simp only[List.length_map]at h1
  obtain⟨x,hx,hd⟩:=ay (l:=l) (i:=i) (by omega)
  have H':=ei hd H
  have hFx:=hF x (List.mem_of_getElem? hx)
  conv=>whnf
  repeat(any_goals(first|exact ab|(refine ap ?_ ?_<;>intro _<;>first|exact aq|conv=>whnf)|((first|refine ae hx rfl ?_|refine aa hFx ?_|refine ac ?_|refine bi ?_ ?_|intro _)<;>conv=>whnf)))
  ·rename_i he
   simp only[he,if_true]at H'
   (refine⟨⟨?_⟩,trivial⟩;simp[oneOf,aj,H'])
  ·rename_i he
   simp only[he,Bool.false_eq_true,if_false]at H'
   (refine⟨i+1,⟨by omega,H'⟩,by omega,?_⟩;(conv=>whnf);refine⟨?_,?_,?_⟩<;>repeat(first|exact trivial|refine sc rfl ?_|refine kn ?_|refine kc rfl ?_))
 ·conv=>whnf
  simp only[List.length_map]at h1
  have:i=l.length:=by omega
  subst this
  (refine⟨⟨?_⟩,trivial⟩;simp[oneOf,aj,H,ce])
theorem Ik(l:List Int)(set:Int)(hl:l.length≤1048576)(h:∀t∈l,0≤t∧t<64)(hs:0≤set∧set<64):PureA Tryz.prog 93 [aD l,.func (.func 94) [] [.cptr [aj set]]] (aB (l.any (fun t=>decide (t.toNat&&&set.toNat=0)))):=by
 refine ag ao { l:=0,f:=93} mixed Ib Tryz.func93 (by kernel_rfl) ?_
 conv=>whnf
 refine aa (IB l set hl h hs) ?_
 conv=>whnf
 (refine⟨⟨?_⟩,trivial⟩;rw[←q7];rfl)
theorem yf(s:Bill)(hg:s.Good)(set:Int)(hs:0≤set∧set<64):PureA Tryz.prog 64 [dp s,aj set] (aB (s.sure set)):=by
 have h:=Ik s.truths set (by have:=hg.lenT;omega) (fun t ht=>hg.lt ht) hs
 unfold Bill.sure
 generalize (s.truths.any fun t=>decide (t.toNat&&&set.toNat=0))=b at *
 refine ag ao { l:=0,f:=64} mixed HP Tryz.func64 (by kernel_rfl) ?_
 conv=>whnf
 repeat(any_goals(first|exact ab|(refine ap ?_ ?_<;>intro _<;>first|exact aq|conv=>whnf)|((first|refine af h rfl ?_|refine ac ?_|refine bi ?_ ?_|intro _)<;>conv=>whnf)))
 (refine⟨⟨?_⟩,trivial⟩;rfl)
end Go.Proofs.YtgncapdjheghfaaGreatDoor
namespace Go.Proofs.YtgncapdjheghfaaGreatDoor
open Go.Am Go.Proofs Go
theorem e7{n:Nat}(h:n<64):n<4611686018427387904:=by omega
theorem xj(s:Bill)(n:Nat)(h:n<6):decide (fb (k8 s.allN n) 1=1)=s.inAll n:=by
 rw[Hj _ _ (e7 (uM s)) (by omega),jN,decide_eq_true h,Bool.true_and]
theorem GW(s:Bill)(x:Ent)(ha:0≤x.a∧x.a<6):PureA Tryz.prog 124 [dp s,bB x] (aB (decide (x.b=0)&&s.inAll x.a.toNat)):=by
 obtain⟨sy,a,b⟩:=x
 simp only[bB]at *
 obtain⟨n,rfl⟩:=Int.eq_ofNat_of_zero_le ha.1
 have hb:=xj s n (by omega)
 rw[Int.toNat_natCast, ←hb]
 by_cases q:b=0
 ·rw[decide_eq_true q]
  refine ag ao { l:=0,f:=124} mixed xv Tryz.func124 (by kernel_rfl) ?_
  conv=>whnf
  repeat(any_goals(first|exact ab|(refine ap ?_ ?_<;>intro _<;>first|exact aq|conv=>whnf)|((first|refine ac ?_|refine bi ?_ ?_|intro _)<;>conv=>whnf)))
  (refine⟨⟨?_⟩,trivial⟩;rfl)
 ·rw[decide_eq_false q]
  refine ag ao { l:=0,f:=124} mixed xv Tryz.func124 (by kernel_rfl) ?_
  conv=>whnf
  repeat(any_goals(first|exact ab|(refine ap ?_ ?_<;>intro _<;>first|exact aq|conv=>whnf)|((first|refine ac ?_|refine bi ?_ ?_|intro _)<;>conv=>whnf)))
  (refine⟨⟨?_⟩,trivial⟩;rfl)
theorem KE(s:Bill)(hg:s.Good)(n:Nat)(h:n<6):decide (fb (k8 (bP s.someN s.allN) n) 1=1)=(s.inSome n&& !s.inAll n):=by
 have h1:=ft hg
 have h2:=uM s
 have h3:(s.someN&&&(63^^^s.allN))<64:=Nat.and_lt_two_pow (n:=6) _ (Nat.xor_lt_two_pow (n:=6) (by omega) h2)
 rw[eS _ _ h1 h2,Hj _ _ (e7 h3) (by omega),Nat.testBit_and,Nat.testBit_xor,jN,dm,Eo,decide_eq_true h,Bool.true_and,Bool.true_xor]
theorem B7(s:Bill)(hg:s.Good)(x:Ent)(ha:0≤x.a∧x.a<6):PureA Tryz.prog 126 [dp s,bB x] (aB (decide (x.b=0)&&(s.inSome x.a.toNat&& !s.inAll x.a.toNat))):=by
 obtain⟨sy,a,b⟩:=x
 simp only[bB]at *
 obtain⟨n,rfl⟩:=Int.eq_ofNat_of_zero_le ha.1
 have hb:=KE s hg n (by omega)
 rw[Int.toNat_natCast, ←hb]
 by_cases q:b=0
 ·rw[decide_eq_true q]
  refine ag ao { l:=0,f:=126} mixed xw Tryz.func126 (by kernel_rfl) ?_
  conv=>whnf
  repeat(any_goals(first|exact ab|(refine ap ?_ ?_<;>intro _<;>first|exact aq|conv=>whnf)|((first|refine ac ?_|refine bi ?_ ?_|intro _)<;>conv=>whnf)))
  (refine⟨⟨?_⟩,trivial⟩;rfl)
 ·rw[decide_eq_false q]
  refine ag ao { l:=0,f:=126} mixed xw Tryz.func126 (by kernel_rfl) ?_
  conv=>whnf
  repeat(any_goals(first|exact ab|(refine ap ?_ ?_<;>intro _<;>first|exact aq|conv=>whnf)|((first|refine ac ?_|refine bi ?_ ?_|intro _)<;>conv=>whnf)))
  (refine⟨⟨?_⟩,trivial⟩;rfl)
theorem IK(s:Bill)(a b:Nat)(ha:a<6)(hb:b<6):decide (fb (orX (k8 s.allN a) (k8 s.allN b)) 1=0)=(!s.inAll a&& !s.inAll b):=by
 have h:=uM s
 have h1:s.allN/2^a≤s.allN:=Nat.div_le_self ..
 have h2:s.allN/2^b≤s.allN:=Nat.div_le_self ..
 have h3:(s.allN/2^a|||s.allN/2^b)<64:=Nat.or_lt_two_pow (n:=6) (by omega) (by omega)
 have e1:s.inAll a=s.allN.testBit a:=by rw[jN,decide_eq_true ha,Bool.true_and]
 have e2:s.inAll b=s.allN.testBit b:=by rw[jN,decide_eq_true hb,Bool.true_and]
 have p1:(s.allN/2^a).testBit 0=s.allN.testBit a:=by rw[Nat.testBit_div_two_pow,Nat.zero_add]
 have p2:(s.allN/2^b).testBit 0=s.allN.testBit b:=by rw[Nat.testBit_div_two_pow,Nat.zero_add]
 rw[kS _ _ (by omega),kS _ _ (by omega),rF _ _ (by omega) (by omega),show(1:Int)=((1:Nat):Int) by rfl,fZ _ _ (by omega) (by omega),qE,e1,e2, ←p1, ←p2, ←Bool.not_or, ←Nat.testBit_or,Nat.testBit_zero,Bool.eq_iff_iff,decide_eq_true_eq,Bool.not_eq_true',decide_eq_false_iff_not]
 omega
theorem IY(a b:Nat)(ha:a<6)(hb:b<6):orX (KW 1 a) (KW 1 b)=((2^a|||2^b:Nat):Int)∧(2^a|||2^b)<64:=by
 have h1:2^a<64:=by have:=Nat.pow_lt_pow_right (a:=2) (by omega) ha;omega
 have h2:2^b<64:=by have:=Nat.pow_lt_pow_right (a:=2) (by omega) hb;omega
 rw[rR a (by omega),rR b (by omega),rF _ _ (by omega) (by omega)]
 exact⟨rfl,Nat.or_lt_two_pow (n:=6) h1 h2⟩
theorem nG{s:Bill}{a:Int}(h:0≤a∧a≤(s.figs.length:Int)-1):∃f,s.figs[a.toNat]?=some f∧s.roomAt a=f.room∧s.heightAt a=f.height:=by
 have hl:a.toNat<s.figs.length:=by omega
 refine⟨s.figs[a.toNat],List.getElem?_eq_getElem hl,?_,?_⟩
 ·unfold Bill.roomAt;rw[List.getElem?_eq_getElem hl]
 ·unfold Bill.heightAt;rw[List.getElem?_eq_getElem hl]
set_option maxHeartbeats 1000000 in
theorem pD(s:Bill)(hg:s.Good)(x:Ent)(ha:0≤x.a∧x.a≤(s.figs.length:Int)-1)(hb:0≤x.b∧x.b≤(s.figs.length:Int)-1) :
  PureA Tryz.prog 125 [dp s,bB x] (aB (decide (x.a<x.b)&&(decide (s.roomAt x.a=s.roomAt x.b)&&((!s.inAll x.a.toNat&& !s.inAll x.b.toNat)&&s.oneOf x.a.toNat x.b.toNat)))):=by
 obtain⟨f,hf,er,_⟩:=nG ha
 obtain⟨g,hgg,er2,_⟩:=nG hb
 have h6:=hg.len
 obtain⟨sy,a,b⟩:=x
 simp only[bB]at *
 rw[er,er2]
 obtain⟨n,rfl⟩:=Int.eq_ofNat_of_zero_le ha.1
 obtain⟨m,rfl⟩:=Int.eq_ofNat_of_zero_le hb.1
 simp only[Int.toNat_natCast]at *
 have hN:=IK s n m (by omega) (by omega)
 obtain⟨hP,hP2⟩:=IY n m (by omega) (by omega)
 have hS:=yf s hg (orX (KW 1 n) (KW 1 m)) (by rw[hP];omega)
 rw[hP,Db, ←hP]at hS
 rw[←hN]
 clear hg
 generalize s.oneOf n m=B at *
 by_cases q1:(n:Int)<m
 ·rw[decide_eq_true q1]
  by_cases q2:f.room=g.room
  ·rw[decide_eq_true q2]
   by_cases q3:fb (orX (k8 s.allN n) (k8 s.allN m)) 1=0
   ·rw[decide_eq_true q3]
    unfold fb orX k8 at q3
    refine ag ao { l:=0,f:=125} mixed m5 Tryz.func125 (by kernel_rfl) ?_
    conv=>whnf
    repeat(any_goals(first|exact ab|(refine ap ?_ ?_<;>intro _<;>first|exact aq|conv=>whnf)|((first|refine ae hf rfl ?_|refine ae hgg rfl ?_|refine aa hS ?_|refine ac ?_|refine bi ?_ ?_|intro _)<;>conv=>whnf)))
    (refine⟨⟨?_⟩,trivial⟩;rfl)
   ·rw[decide_eq_false q3]
    unfold fb orX k8 at q3
    refine ag ao { l:=0,f:=125} mixed m5 Tryz.func125 (by kernel_rfl) ?_
    conv=>whnf
    repeat(any_goals(first|exact ab|(refine ap ?_ ?_<;>intro _<;>first|exact aq|conv=>whnf)|((first|refine ae hf rfl ?_|refine ae hgg rfl ?_|refine aa hS ?_|refine ac ?_|refine bi ?_ ?_|intro _)<;>conv=>whnf)))
    (refine⟨⟨?_⟩,trivial⟩;rfl)
  ·rw[decide_eq_false q2]
   refine ag ao { l:=0,f:=125} mixed m5 Tryz.func125 (by kernel_rfl) ?_
   conv=>whnf
   repeat(any_goals(first|exact ab|(refine ap ?_ ?_<;>intro _<;>first|exact aq|conv=>whnf)|((first|refine ae hf rfl ?_|refine ae hgg rfl ?_|refine aa hS ?_|refine ac ?_|refine bi ?_ ?_|intro _)<;>conv=>whnf)))
   (refine⟨⟨?_⟩,trivial⟩;rfl)
 ·rw[decide_eq_false q1]
  refine ag ao { l:=0,f:=125} mixed m5 Tryz.func125 (by kernel_rfl) ?_
  conv=>whnf
  repeat(any_goals(first|exact ab|(refine ap ?_ ?_<;>intro _<;>first|exact aq|conv=>whnf)|((first|refine ae hf rfl ?_|refine ae hgg rfl ?_|refine aa hS ?_|refine ac ?_|refine bi ?_ ?_|intro _)<;>conv=>whnf)))
  (refine⟨⟨?_⟩,trivial⟩;rfl)
theorem n7(x:Ent)(ha:0≤x.a∧x.a<6)(hb:0≤x.b∧x.b<6):PureA Tryz.prog 96 [bB x] (aj x.named):=by
 obtain⟨sy,a,b⟩:=x
 simp only[bB]at *
 obtain⟨n,rfl⟩:=Int.eq_ofNat_of_zero_le ha.1
 obtain⟨m,rfl⟩:=Int.eq_ofNat_of_zero_le hb.1
 have h1:=(IY n m (by omega) (by omega)).1
 have h2:=rR n (by omega)
 unfold Ent.named
 simp only[Int.toNat_natCast]
 by_cases q:sy=1
 ·rw[if_pos q, ←h1]
  refine ag ao { l:=0,f:=96} mixed A8 Tryz.func96 (by kernel_rfl) ?_
  conv=>whnf
  repeat(any_goals(first|exact ab|(refine ap ?_ ?_<;>intro _<;>first|exact aq|conv=>whnf)|((first|refine ac ?_|refine bi ?_ ?_|intro _)<;>conv=>whnf)))
  (refine⟨⟨?_⟩,trivial⟩;rfl)
 ·rw[if_neg q, ←h2]
  refine ag ao { l:=0,f:=96} mixed A8 Tryz.func96 (by kernel_rfl) ?_
  conv=>whnf
  repeat(any_goals(first|exact ab|(refine ap ?_ ?_<;>intro _<;>first|exact aq|conv=>whnf)|((first|refine ac ?_|refine bi ?_ ?_|intro _)<;>conv=>whnf)))
  (refine⟨⟨?_⟩,trivial⟩;rfl)
theorem ka(x:Ent)(ha:0≤x.a∧x.a<6)(hb:0≤x.b∧x.b<6):x.named<64:=by
 have h1:=(IY x.a.toNat x.b.toNat (by omega) (by omega)).2
 have h2:2^x.a.toNat<64:=Nat.pow_lt_pow_right (a:=2) (n:=6) (m:=x.a.toNat) (by omega) (by omega)
 unfold Ent.named
 split
 ·exact h1
 ·exact h2
def isB:ByteArray:=⟨#[105,115]⟩
def LE:ByteArray:=⟨#[109,97,121,32,98,101]⟩
def gn:List AV:=[.func (.func 124) [] [],aG isB,.func (.func 125) [] [],aG isB,.func (.func 126) [] [],aG LE]
theorem fU:PureA Tryz.prog 95 [] (.agg gn):=by
 refine ag ao { l:=0,f:=95} mixed Id Tryz.func95 (by kernel_rfl) ?_
 conv=>whnf
 (refine⟨⟨?_⟩,trivial⟩;rfl)
end Go.Proofs.YtgncapdjheghfaaGreatDoor
namespace Go.Proofs.YtgncapdjheghfaaGreatDoor
open Go.Am Go.Proofs Go
theorem n6(x:Ent)(c:List Ent):bC (x::c)=x.who++bC c:=by unfold bC;rw[List.flatMap_cons]
structure NmSt where
 i:Nat
 l:List Int
theorem qf(c:List Ent)(hl:c.length≤1000):PureA Tryz.prog 40 [aJ c] (aD (bC c)):=by
 obtain⟨R,hR⟩:∃R,bC c=R:=⟨_,rfl⟩
 rw[hR]
 have hcl:(c.map bB).length=c.length:=List.length_map ..
 have hlen:∀l:List Int,(l.map aj).length=l.length:=fun l=>List.length_map ..
 refine ag ao { l:=0,f:=40} mixed Ht Tryz.func40 (by kernel_rfl) ?_
 conv=>whnf
 refine fC 3 1 ⟨0,40,18⟩ ?_
 conv=>whnf
 refine aO ao { l:=0,f:=40} mixed (fun u:NmSt=>[(4,aj u.i),(3,.slice 1 (u.l.map aj) (.own ⟨0,40,18⟩ 1))]) (fun _=>[]) (fun u=>[(⟨0,40,18⟩,some (1,u.l.length))]) (fun u=>(u.i≤c.length∧u.l.length≤2 * u.i)∧R=u.l++bC (c.drop u.i)) (fun u=>c.length-u.i) (⟨0,[]⟩:NmSt) (by kernel_rfl)
  ⟨⟨Nat.zero_le _,Nat.zero_le _⟩,hR.symm⟩ ?_
 conv=>whnf
 refine⟨⟨ai rfl (ai rfl trivial),trivial,aL rfl trivial⟩,?_⟩
 clear hR
 rintro u ⟨⟨hi,hul⟩,H⟩
 generalize u.i=i at *
 generalize u.l=l at *
 clear u
 have hl1:=hlen l
 by_cases hlt:i<c.length
 ·obtain⟨x,hx,hd⟩:=ay (l:=c) (i:=i) hlt
  rw[hd,n6]at H
  obtain⟨sy,xa,xb⟩:=x
  by_cases q:sy=1
  ·subst q
   have hH:R=(l++[xa,xb])++bC (c.drop (i+1)):=by rw[H];show l++([xa,xb]++_)=_;simp
   conv=>whnf
   repeat(any_goals(first|exact ab|(refine ap ?_ ?_<;>intro _<;>first|exact aq|conv=>whnf)|((first|refine ae hx rfl ?_|refine ac ?_|refine bi ?_ ?_|intro _)<;>conv=>whnf)))
   (refine⟨⟨i+1,l++[xa,xb]⟩,⟨⟨by show i+1≤_;omega,by show(l++[xa,xb]).length≤2 * (i+1);rw[List.length_append];simp only[List.length_cons,List.length_nil];omega⟩,hH⟩,(by show _-(i+1)<_-i;omega),?_⟩;(conv=>whnf);refine⟨?_,?_,?_⟩<;>repeat(first|exact trivial|refine sc rfl ?_|refine kn ?_|refine kc rfl ?_|refine sc (by first|(show some (AV.slice 1 (l.map aj++[aj xa]++[aj xb]) _)=some (AV.slice 1 ((l++[xa,xb]).map aj) _);rw[List.map_append,List.append_assoc];rfl)|(show some (some (1,(l.map aj++[aj xa]).length+1))=some (some (1,(l++[xa,xb]).length));simp)) ?_|refine kc (by first|(show some (AV.slice 1 (l.map aj++[aj xa]++[aj xb]) _)=some (AV.slice 1 ((l++[xa,xb]).map aj) _);rw[List.map_append,List.append_assoc];rfl)|(show some (some (1,(l.map aj++[aj xa]).length+1))=some (some (1,(l++[xa,xb]).length));simp)) ?_))
  ·have hH:R=(l++[xa])++bC (c.drop (i+1)):=by rw[H];show l++((if sy=1 then [xa,xb]else [xa])++_)=_;rw[if_neg q];simp
   conv=>whnf
   repeat(any_goals(first|exact ab|(refine ap ?_ ?_<;>intro _<;>first|exact aq|conv=>whnf)|((first|refine ae hx rfl ?_|refine ac ?_|refine bi ?_ ?_|intro _)<;>conv=>whnf)))
   all_goals(try(exact absurd (by assumption) q))
   (refine⟨⟨i+1,l++[xa]⟩,⟨⟨by show i+1≤_;omega,by show(l++[xa]).length≤2 * (i+1);rw[List.length_append];simp only[List.length_cons,List.length_nil];omega⟩,hH⟩,(by show _-(i+1)<_-i;omega),?_⟩;(conv=>whnf);refine⟨?_,?_,?_⟩<;>repeat(first|exact trivial|refine sc rfl ?_|refine kn ?_|refine kc rfl ?_|refine sc (by first|(show some (AV.slice 1 (l.map aj++[aj xa]) _)=some (AV.slice 1 ((l++[xa]).map aj) _);rw[List.map_append];rfl)|(show some (some (1,(l.map aj).length+1))=some (some (1,(l++[xa]).length));simp)) ?_|refine kc (by first|(show some (AV.slice 1 (l.map aj++[aj xa]) _)=some (AV.slice 1 ((l++[xa]).map aj) _);rw[List.map_append];rfl)|(show some (some (1,(l.map aj).length+1))=some (some (1,(l++[xa]).length));simp)) ?_))
 ·have hin:i=c.length:=by omega
  subst hin
  rw[List.drop_length]at H
  have H:R=l++[]:=H
  rw[List.append_nil]at H
  subst H
  conv=>whnf
  repeat(any_goals(first|exact ab|(refine ap ?_ ?_<;>intro _<;>first|exact aq|conv=>whnf)|((first|refine ac ?_|refine bi ?_ ?_|intro _)<;>conv=>whnf)))
  (refine⟨⟨?_⟩,trivial⟩;rfl)
theorem AB(s:Bill)(a:Int):s.allL [a]=s.inAll a.toNat:=by unfold Bill.allL Bill.inAll;congr 1;funext t;show(nv t a.toNat||false)=_;rw[Bool.or_false]
theorem rU(s:Bill)(a:Int):s.someL [a]=s.inSome a.toNat:=by unfold Bill.someL Bill.inSome;congr 1;funext t;show(nv t a.toNat||false)=_;rw[Bool.or_false]
theorem Hc(s:Bill)(a b:Int):s.allL [a,b]=s.oneOf a.toNat b.toNat:=by unfold Bill.allL Bill.oneOf;congr 1;funext t;show(nv t a.toNat||(nv t b.toNat||false))=_;rw[Bool.or_false]
def Bill.stand(s:Bill)(a b:Int):Bool:=decide (a≠b)&&decide (s.roomAt a=s.roomAt b)&& !s.inAll a.toNat&& !s.inAll b.toNat&&s.oneOf a.toNat b.toNat
theorem Ju(s:Bill)(hg:s.Good)(a b:Int)(ha:0≤a∧a<s.figs.length)(hb:0≤b∧b<s.figs.length):PureA Tryz.prog 127 [aI s,aj a,aj b] (aB (s.stand a b)):=by
 have h6:=hg.len
 have hT:=hg.lenT
 have ht:∀t∈s.truths,0≤t:=fun t h=>(hg.lt h).1
 have h1:=Ef s (by omega) ht [a] (by simp) (by intro x hx;simp at hx;omega)
 have h2:=Ef s (by omega) ht [b] (by simp) (by intro x hx;simp at hx;omega)
 have h3:=Ef s (by omega) ht [a,b] (by simp) (by intro x hx;simp at hx;omega)
 rw[AB]at h1 h2
 rw[Hc]at h3
 obtain⟨f,hf,hfr,_⟩:=nG (s:=s) (a:=a) (by omega)
 obtain⟨g,hf2,hgr,_⟩:=nG (s:=s) (a:=b) (by omega)
 unfold Bill.stand
 rw[hfr,hgr]
 have hfl:(s.figs.map dS).length=s.figs.length:=List.length_map ..
 generalize s.inAll a.toNat=A at *
 generalize s.inAll b.toNat=B at *
 generalize s.oneOf a.toNat b.toNat=C at *
 unfold aI at h1 h2 h3
 clear hg ht
 by_cases q:a=b
 ·rw[decide_eq_false (by simpa using q)]
  refine ag ao { l:=0,f:=127} mixed qQ Tryz.func127 (by kernel_rfl) ?_
  conv=>whnf
  repeat(any_goals(first|exact ab|(refine ap ?_ ?_<;>intro _<;>first|exact aq|conv=>whnf)|((first|refine ae hf (by omega) ?_|refine ae hf2 (by omega) ?_|refine aa h1 ?_|refine aa h2 ?_|refine aa h3 ?_|refine af h1 rfl ?_|refine af h2 rfl ?_|refine af h3 rfl ?_|refine ac ?_|refine bi ?_ ?_|intro _)<;>conv=>whnf)))
  all_goals(refine⟨⟨?_⟩,trivial⟩;rfl)
 ·rw[decide_eq_true q]
  by_cases q2:f.room=g.room
  ·rw[decide_eq_true q2]
   cases A<;>cases B<;>cases C
   all_goals
    refine ag ao { l:=0,f:=127} mixed qQ Tryz.func127 (by kernel_rfl) ?_
    conv=>whnf
   all_goals repeat(any_goals(first|exact ab|(refine ap ?_ ?_<;>intro _<;>first|exact aq|conv=>whnf)|((first|refine ae hf (by omega) ?_|refine ae hf2 (by omega) ?_|refine aa h1 ?_|refine aa h2 ?_|refine aa h3 ?_|refine af h1 rfl ?_|refine af h2 rfl ?_|refine af h3 rfl ?_|refine ac ?_|refine bi ?_ ?_|intro _)<;>conv=>whnf)))
   all_goals(refine⟨⟨?_⟩,trivial⟩;rfl)
  ·rw[decide_eq_false q2]
   refine ag ao { l:=0,f:=127} mixed qQ Tryz.func127 (by kernel_rfl) ?_
   conv=>whnf
   repeat(any_goals(first|exact ab|(refine ap ?_ ?_<;>intro _<;>first|exact aq|conv=>whnf)|((first|refine ae hf (by omega) ?_|refine ae hf2 (by omega) ?_|refine aa h1 ?_|refine aa h2 ?_|refine aa h3 ?_|refine af h1 rfl ?_|refine af h2 rfl ?_|refine af h3 rfl ?_|refine ac ?_|refine bi ?_ ?_|intro _)<;>conv=>whnf)))
   all_goals(refine⟨⟨?_⟩,trivial⟩;rfl)
end Go.Proofs.YtgncapdjheghfaaGreatDoor
namespace Go.Proofs.YtgncapdjheghfaaGreatDoor
open Go.Am Go.Proofs Go
theorem Bi(s:Bill)(hg:s.Good)(x:Ent):PureA Tryz.prog 97 [aI s,bB x] (aB (s.entry x)):=by
 have h6:=hg.len
 have hT:=hg.lenT
 have ht:∀t∈s.truths,0≤t:=fun t h=>(hg.lt h).1
 have hfl:(s.figs.map dS).length=s.figs.length:=List.length_map ..
 obtain⟨sy,a,b⟩:=x
 have hw1:=eu a 0 ((s.figs.length:Int)-1)
 have hw2:=eu b 0 ((s.figs.length:Int)-1)
 rw[←hfl]at hw1 hw2
 unfold Bill.entry
 simp only
 rw[←hfl]
 cases hA:bU a 0 (((s.figs.map dS).length:Int)-1)with
 | false =>
  rw[hA]at hw1
  simp only[Bool.false_and,Bool.false_eq_true,if_false]
  clear hg ht
  refine ag ao { l:=0,f:=97} mixed f4 Tryz.func97 (by kernel_rfl) ?_
  conv=>whnf
  repeat(any_goals(first|exact ab|(refine ap ?_ ?_<;>intro _<;>first|exact aq|conv=>whnf)|((first|refine aa hw1 ?_|refine af hw1 rfl ?_|refine aa hw2 ?_|refine af hw2 rfl ?_|refine ac ?_|refine bi ?_ ?_|intro _)<;>conv=>whnf)))
  all_goals(try(first|exact absurd qb (by assumption)|exact absurd (by assumption) qb|exact absurd (by assumption) q0|exact absurd (by assumption) q1|exact absurd (by assumption) q2))
  all_goals(refine⟨⟨?_⟩,trivial⟩;rfl)
 | true =>
  rw[hA]at hw1
  cases hB:bU b 0 (((s.figs.map dS).length:Int)-1)with
  | false =>
   rw[hB]at hw2
   simp only[Bool.and_false,Bool.false_eq_true,if_false]
   clear hg ht
   refine ag ao { l:=0,f:=97} mixed f4 Tryz.func97 (by kernel_rfl) ?_
   conv=>whnf
   repeat(any_goals(first|exact ab|(refine ap ?_ ?_<;>intro _<;>first|exact aq|conv=>whnf)|((first|refine aa hw1 ?_|refine af hw1 rfl ?_|refine aa hw2 ?_|refine af hw2 rfl ?_|refine ac ?_|refine bi ?_ ?_|intro _)<;>conv=>whnf)))
   all_goals(try(first|exact absurd qb (by assumption)|exact absurd (by assumption) qb|exact absurd (by assumption) q0|exact absurd (by assumption) q1|exact absurd (by assumption) q2))
   all_goals(refine⟨⟨?_⟩,trivial⟩;rfl)
  | true =>
   rw[hB]at hw2
   simp only[Bool.and_true,if_true]
   rw[hfl,fY]at hA hB
   have h1:=Ef s (by omega) ht [a] (by simp) (by intro x hx;simp at hx;omega)
   have h2:=CZ s (by omega) ht [a] (by simp) (by intro x hx;simp at hx;omega)
   have h3:=Ju s hg a b (by omega) (by omega)
   rw[AB]at h1
   rw[rU]at h2
   unfold Bill.stand at h3
   generalize (decide (a≠b)&&decide (s.roomAt a=s.roomAt b)&& !s.inAll a.toNat&& !s.inAll b.toNat&&s.oneOf a.toNat b.toNat)=St at *
   generalize s.inAll a.toNat=Al at *
   generalize s.inSome a.toNat=So at *
   unfold aI at h1 h2 h3
   clear hg ht hA hB
   by_cases q0:sy=0
   ·subst q0
    simp only[if_true]
    by_cases qb:b=0
    ·rw[decide_eq_true qb]
     refine ag ao { l:=0,f:=97} mixed f4 Tryz.func97 (by kernel_rfl) ?_
     conv=>whnf
     repeat(any_goals(first|exact ab|(refine ap ?_ ?_<;>intro _<;>first|exact aq|conv=>whnf)|((first|refine aa hw1 ?_|refine af hw1 rfl ?_|refine aa hw2 ?_|refine af hw2 rfl ?_|refine aa h1 ?_|refine af h1 rfl ?_|refine ac ?_|refine bi ?_ ?_|intro _)<;>conv=>whnf)))
     all_goals(try(first|exact absurd qb (by assumption)|exact absurd (by assumption) qb|exact absurd (by assumption) q0|exact absurd (by assumption) q1|exact absurd (by assumption) q2))
     all_goals(refine⟨⟨?_⟩,trivial⟩;rfl)
    ·rw[decide_eq_false qb]
     refine ag ao { l:=0,f:=97} mixed f4 Tryz.func97 (by kernel_rfl) ?_
     conv=>whnf
     repeat(any_goals(first|exact ab|(refine ap ?_ ?_<;>intro _<;>first|exact aq|conv=>whnf)|((first|refine aa hw1 ?_|refine af hw1 rfl ?_|refine aa hw2 ?_|refine af hw2 rfl ?_|refine aa h1 ?_|refine af h1 rfl ?_|refine ac ?_|refine bi ?_ ?_|intro _)<;>conv=>whnf)))
     all_goals(try(first|exact absurd qb (by assumption)|exact absurd (by assumption) qb|exact absurd (by assumption) q0|exact absurd (by assumption) q1|exact absurd (by assumption) q2))
     all_goals(refine⟨⟨?_⟩,trivial⟩;rfl)
   ·rw[if_neg q0]
    by_cases q1:sy=1
    ·subst q1
     simp only[if_true]
     by_cases qb:a<b
     ·rw[decide_eq_true qb]
      refine ag ao { l:=0,f:=97} mixed f4 Tryz.func97 (by kernel_rfl) ?_
      conv=>whnf
      repeat(any_goals(first|exact ab|(refine ap ?_ ?_<;>intro _<;>first|exact aq|conv=>whnf)|((first|refine aa hw1 ?_|refine af hw1 rfl ?_|refine aa hw2 ?_|refine af hw2 rfl ?_|refine aa h3 ?_|refine af h3 rfl ?_|refine ac ?_|refine bi ?_ ?_|intro _)<;>conv=>whnf)))
      all_goals(try(first|exact absurd qb (by assumption)|exact absurd (by assumption) qb|exact absurd (by assumption) q0|exact absurd (by assumption) q1|exact absurd (by assumption) q2))
      all_goals(refine⟨⟨?_⟩,trivial⟩;rfl)
     ·rw[decide_eq_false qb]
      refine ag ao { l:=0,f:=97} mixed f4 Tryz.func97 (by kernel_rfl) ?_
      conv=>whnf
      repeat(any_goals(first|exact ab|(refine ap ?_ ?_<;>intro _<;>first|exact aq|conv=>whnf)|((first|refine aa hw1 ?_|refine af hw1 rfl ?_|refine aa hw2 ?_|refine af hw2 rfl ?_|refine aa h3 ?_|refine af h3 rfl ?_|refine ac ?_|refine bi ?_ ?_|intro _)<;>conv=>whnf)))
      all_goals(try(first|exact absurd qb (by assumption)|exact absurd (by assumption) qb|exact absurd (by assumption) q0|exact absurd (by assumption) q1|exact absurd (by assumption) q2))
      all_goals(refine⟨⟨?_⟩,trivial⟩;rfl)
    ·rw[if_neg q1]
     by_cases q2:sy=2
     ·subst q2
      simp only[if_true]
      by_cases qb:b=0
      ·rw[decide_eq_true qb]
       cases Al<;>cases So
       all_goals
        refine ag ao { l:=0,f:=97} mixed f4 Tryz.func97 (by kernel_rfl) ?_
        conv=>whnf
       all_goals repeat(any_goals(first|exact ab|(refine ap ?_ ?_<;>intro _<;>first|exact aq|conv=>whnf)|((first|refine aa hw1 ?_|refine af hw1 rfl ?_|refine aa hw2 ?_|refine af hw2 rfl ?_|refine aa h1 ?_|refine af h1 rfl ?_|refine aa h2 ?_|refine af h2 rfl ?_|refine ac ?_|refine bi ?_ ?_|intro _)<;>conv=>whnf)))
       all_goals(try(first|exact absurd qb (by assumption)|exact absurd (by assumption) qb|exact absurd (by assumption) q0|exact absurd (by assumption) q1|exact absurd (by assumption) q2))
       all_goals(refine⟨⟨?_⟩,trivial⟩;rfl)
      ·rw[decide_eq_false qb]
       refine ag ao { l:=0,f:=97} mixed f4 Tryz.func97 (by kernel_rfl) ?_
       conv=>whnf
       repeat(any_goals(first|exact ab|(refine ap ?_ ?_<;>intro _<;>first|exact aq|conv=>whnf)|((first|refine aa hw1 ?_|refine af hw1 rfl ?_|refine aa hw2 ?_|refine af hw2 rfl ?_|refine aa h1 ?_|refine af h1 rfl ?_|refine aa h2 ?_|refine af h2 rfl ?_|refine ac ?_|refine bi ?_ ?_|intro _)<;>conv=>whnf)))
       all_goals(try(first|exact absurd qb (by assumption)|exact absurd (by assumption) qb|exact absurd (by assumption) q0|exact absurd (by assumption) q1|exact absurd (by assumption) q2))
       all_goals(refine⟨⟨?_⟩,trivial⟩;rfl)
     ·rw[if_neg q2]
      refine ag ao { l:=0,f:=97} mixed f4 Tryz.func97 (by kernel_rfl) ?_
      conv=>whnf
      repeat(any_goals(first|exact ab|(refine ap ?_ ?_<;>intro _<;>first|exact aq|conv=>whnf)|((first|refine aa hw1 ?_|refine af hw1 rfl ?_|refine aa hw2 ?_|refine af hw2 rfl ?_|refine ac ?_|refine bi ?_ ?_|intro _)<;>conv=>whnf)))
      all_goals(try(first|exact absurd qb (by assumption)|exact absurd (by assumption) qb|exact absurd (by assumption) q0|exact absurd (by assumption) q1|exact absurd (by assumption) q2))
      all_goals(refine⟨⟨?_⟩,trivial⟩;rfl)
end Go.Proofs.YtgncapdjheghfaaGreatDoor
namespace Go.Proofs.YtgncapdjheghfaaGreatDoor
open Go.Am Go.Proofs Go
def zJ(c:List Ent)(i:Nat):Option Int:=if i=0 then none else(c[i-1]?).map (·.a)
theorem yu(x:Ent)(l:List Ent):xl none (x::l)=xl (some x.a) l:=rfl
theorem yv(p:Int)(x:Ent)(l:List Ent):xl (some p) (x::l)=(decide (p<x.a)&&xl (some x.a) l):=rfl
theorem yG(b:List Int)(x:Int)(l:List Int):qU b (x::l)=(!k7 x b&&qU (b++[x]) l):=rfl
theorem lC:∀c:List Ent,(bC c).length≤2 * c.length
 | []=>Nat.le_refl _
 | x::c=>by
  rw[n6,List.length_append,List.length_cons]
  have:=lC c
  have:x.who.length≤2:=by unfold Ent.who;split<;>simp
  omega
theorem zO(s:Bill)(hg:s.Good)(c:List Ent):PureA Tryz.prog 66 [aI s,aJ c] (aB (s.valid c)):=by
 have h6:=hg.len
 have hT:=hg.lenT
 have ht:∀t∈s.truths,0≤t:=fun t h=>(hg.lt h).1
 have hfl:(s.figs.map dS).length=s.figs.length:=List.length_map ..
 have hcl:(c.map bB).length=c.length:=List.length_map ..
 obtain⟨R,hR⟩:∃R,s.valid c=R:=⟨_,rfl⟩
 rw[hR]
 unfold Bill.valid at hR
 by_cases hlen:s.figs.length<c.length
 ·rw[decide_eq_false (by omega),Bool.false_and,Bool.false_and,Bool.false_and]at hR
  subst hR
  clear hg ht
  refine ag ao { l:=0,f:=66} mixed A2 Tryz.func66 (by kernel_rfl) ?_
  conv=>whnf
  repeat(any_goals(first|exact ab|(refine ap ?_ ?_<;>intro _<;>first|exact aq|conv=>whnf)|((first|refine ac ?_|refine bi ?_ ?_|intro _)<;>conv=>whnf)))
  (refine⟨⟨?_⟩,trivial⟩;rfl)
 ·rw[decide_eq_true (by omega),Bool.true_and]at hR
  have hen:=fun x=>Bi s hg x
  have hso:=fun(i:Nat) (hi:i<s.figs.length)=>CZ s (by omega) ht [(i:Int)] (by simp) (by intro x hx;simp at hx;omega)
  have hnm:=qf c (by omega)
  have hnl:=lC c
  obtain⟨L,hL⟩:∃L,bC c=L:=⟨_,rfl⟩
  rw[hL]at hR hnm hnl
  have hml:(L.map aj).length=L.length:=List.length_map ..
  have hhas:=fun(i:Nat) (x:Int)=>xL (L.take i) x (by rw[List.length_take];omega)
  have hhas2:=fun(x:Int)=>xL L x (by omega)
  obtain⟨R2,hR2⟩:∃R2,(List.range s.figs.length).all (fun f=> !s.inSome f||k7 (f:Int) L)=R2:=⟨_,rfl⟩
  rw[hR2]at hR
  obtain⟨R1,hR1⟩:∃R1,qU [] L=R1:=⟨_,rfl⟩
  rw[hR1]at hR
  unfold aI at hen hso
  clear hg ht hL
  refine ag ao { l:=0,f:=66} mixed A2 Tryz.func66 (by kernel_rfl) ?_
  conv=>whnf
  repeat(any_goals(first|exact ab|(refine ap ?_ ?_<;>intro _<;>first|exact aq|conv=>whnf)|((first|refine ac ?_|refine bi ?_ ?_|intro _)<;>conv=>whnf)))
  refine aO ao { l:=0,f:=66} mixed (fun i:Nat=>[(5,aj i)]) (fun _=>[]) (fun _=>[]) (fun i=>i≤c.length∧R=(((c.drop i).all s.entry&&xl (zJ c i) (c.drop i))&&R1&&R2)) (fun i=>c.length-i) 0 (by kernel_rfl)
   ⟨Nat.zero_le _,hR.symm⟩ ?_
  conv=>whnf
  refine⟨⟨ai rfl trivial,trivial,trivial⟩,?_⟩
  clear hR
  intro i ⟨hi,H⟩
  by_cases hlt:i<c.length
  ·obtain⟨x,hx,hd⟩:=ay (l:=c) (i:=i) hlt
   rw[hd,List.all_cons]at H
   have he:=hen x
   have hpn:zJ c (i+1)=some x.a:=by unfold zJ;rw[if_neg (by omega),Nat.add_sub_cancel,hx];rfl
   cases hv:s.entry x with
   | false =>
    rw[hv]at he H
    simp only[Bool.false_and]at H
    subst H
    conv=>whnf
    repeat(any_goals(first|exact ab|(refine ap ?_ ?_<;>intro _<;>first|exact aq|conv=>whnf)|((first|refine ae hx rfl ?_|refine aa he ?_|refine af he rfl ?_|refine ac ?_|refine bi ?_ ?_|intro _)<;>conv=>whnf)))
    all_goals(refine⟨⟨?_⟩,trivial⟩;rfl)
   | true =>
    rw[hv]at he H
    rw[Bool.true_and]at H
    cases i with
    | zero =>
     have e0:zJ c 0=none:=rfl
     rw[e0,yu, ←hpn]at H
     conv=>whnf
     repeat(any_goals(first|exact ab|(refine ap ?_ ?_<;>intro _<;>first|exact aq|conv=>whnf)|((first|refine ae hx rfl ?_|refine aa he ?_|refine af he rfl ?_|refine ac ?_|refine bi ?_ ?_|intro _)<;>conv=>whnf)))
     (refine⟨0+1,⟨by omega,H⟩,by omega,?_⟩;(conv=>whnf);refine⟨?_,?_,?_⟩<;>repeat(first|exact trivial|refine sc rfl ?_|refine kn ?_|refine kc rfl ?_))
    | succ k =>
     obtain⟨y,hy⟩:∃y,c[k]?=some y:=⟨_,List.getElem?_eq_getElem (by omega)⟩
     have e1:zJ c (k+1)=some y.a:=by unfold zJ;rw[if_neg (by omega),Nat.add_sub_cancel,hy];rfl
     rw[e1,yv, ←hpn]at H
     by_cases q:y.a<x.a
     ·rw[decide_eq_true q,Bool.true_and]at H
      conv=>whnf
      repeat(any_goals(first|exact ab|(refine ap ?_ ?_<;>intro _<;>first|exact aq|conv=>whnf)|((first|refine ae hx rfl ?_|refine ae hy (by omega) ?_|refine aa he ?_|refine af he rfl ?_|refine ac ?_|refine bi ?_ ?_|intro _)<;>conv=>whnf)))
      (refine⟨k+1+1,⟨by omega,H⟩,by omega,?_⟩;(conv=>whnf);refine⟨?_,?_,?_⟩<;>repeat(first|exact trivial|refine sc rfl ?_|refine kn ?_|refine kc rfl ?_))
     ·rw[decide_eq_false q]at H
      simp only[Bool.false_and,Bool.and_false]at H
      subst H
      conv=>whnf
      repeat(any_goals(first|exact ab|(refine ap ?_ ?_<;>intro _<;>first|exact aq|conv=>whnf)|((first|refine ae hx rfl ?_|refine ae hy (by omega) ?_|refine aa he ?_|refine af he rfl ?_|refine ac ?_|refine bi ?_ ?_|intro _)<;>conv=>whnf)))
      all_goals(refine⟨⟨?_⟩,trivial⟩;rfl)
  ·have hin:i=c.length:=by omega
   subst hin
   rw[List.drop_length]at H
   have H:R=(true&&R1&&R2):=H
   rw[Bool.true_and]at H
   clear hen
   conv=>whnf
   repeat(any_goals(first|exact ab|(refine ap ?_ ?_<;>intro _<;>first|exact aq|conv=>whnf)|((first|refine aa hnm ?_|refine af hnm rfl ?_|refine ac ?_|refine bi ?_ ?_|intro _)<;>conv=>whnf)))
   refine aO ao { l:=0,f:=66} mixed (fun i:Nat=>[(7,aj i)]) (fun _=>[]) (fun _=>[]) (fun i=>i≤L.length∧R=(qU (L.take i) (L.drop i)&&R2)) (fun i=>L.length-i) 0 (by kernel_rfl)
    ⟨Nat.zero_le _,by rw[H, ←hR1];rfl⟩ ?_
   conv=>whnf
   refine⟨⟨ai rfl trivial,trivial,trivial⟩,?_⟩
   clear H hR1
   intro i ⟨hi,H⟩
   by_cases hlt:i<L.length
   ·obtain⟨x,hx,hd⟩:=ay (l:=L) (i:=i) hlt
    have htk:L.take (i+1)=L.take i++[x]:=by rw[List.take_add_one,hx];rfl
    rw[hd,yG, ←htk]at H
    have hh:PureA Tryz.prog 41 [.slice 1 ((L.map aj).take i) .no,aj x] (aB (k7 x (L.take i))):=by
     have:=hhas i x
     unfold aD at this
     rw[List.map_take]at this
     exact this
    cases hv:k7 x (L.take i)with
    | true =>
     rw[hv]at hh H
     simp only[Bool.not_true,Bool.false_and]at H
     subst H
     conv=>whnf
     repeat(any_goals(first|exact ab|(refine ap ?_ ?_<;>intro _<;>first|exact aq|conv=>whnf)|((first|refine ae hx rfl ?_|refine aa hh ?_|refine af hh rfl ?_|refine ac ?_|refine bi ?_ ?_|intro _)<;>conv=>whnf)))
     all_goals(refine⟨⟨?_⟩,trivial⟩;rfl)
    | false =>
     rw[hv]at hh H
     simp only[Bool.not_false,Bool.true_and]at H
     conv=>whnf
     repeat(any_goals(first|exact ab|(refine ap ?_ ?_<;>intro _<;>first|exact aq|conv=>whnf)|((first|refine ae hx rfl ?_|refine aa hh ?_|refine af hh rfl ?_|refine ac ?_|refine bi ?_ ?_|intro _)<;>conv=>whnf)))
     (refine⟨i+1,⟨by omega,H⟩,by omega,?_⟩;(conv=>whnf);refine⟨?_,?_,?_⟩<;>repeat(first|exact trivial|refine sc rfl ?_|refine kn ?_|refine kc rfl ?_))
   ·have hin:i=L.length:=by omega
    subst hin
    rw[List.drop_length]at H
    have H:R=(true&&R2):=H
    rw[Bool.true_and]at H
    clear hhas
    conv=>whnf
    repeat(any_goals(first|exact ab|(refine ap ?_ ?_<;>intro _<;>first|exact aq|conv=>whnf)|((first|refine ac ?_|refine bi ?_ ?_|intro _)<;>conv=>whnf)))
    refine aO ao { l:=0,f:=66} mixed (fun i:Nat=>[(8,aj i)]) (fun _=>[]) (fun _=>[]) (fun i=>i≤s.figs.length∧R=((List.range s.figs.length).drop i).all (fun f=> !s.inSome f||k7 (f:Int) L)) (fun i=>s.figs.length-i) 0 (by kernel_rfl)
     ⟨Nat.zero_le _,by rw[H, ←hR2];rfl⟩ ?_
    conv=>whnf
    refine⟨⟨ai rfl trivial,trivial,trivial⟩,?_⟩
    clear H hR2
    intro i ⟨hi,H⟩
    by_cases hlt:i<s.figs.length
    ·obtain⟨x,hx,hd⟩:=ay (l:=List.range s.figs.length) (i:=i) (by rw[List.length_range];exact hlt)
     have hxi:x=i:=by rw[List.getElem?_range hlt]at hx;exact(Option.some.inj hx).symm
     subst hxi
     rw[hd,List.all_cons]at H
     have h1:=hso x hlt
     have h2:=hhas2 (x:Int)
     rw[rU,Int.toNat_natCast]at h1
     have h2:PureA Tryz.prog 41 [aD L,aj x] (aB (k7 (x:Int) L)):=h2
     cases hv:s.inSome x with
     | false =>
      rw[hv]at h1 H
      simp only[Bool.not_false,Bool.true_or,Bool.true_and]at H
      conv=>whnf
      repeat(any_goals(first|exact ab|(refine ap ?_ ?_<;>intro _<;>first|exact aq|conv=>whnf)|((first|refine aa h1 ?_|refine af h1 rfl ?_|refine ac ?_|refine bi ?_ ?_|intro _)<;>conv=>whnf)))
      (refine⟨x+1,⟨by omega,H⟩,by omega,?_⟩;(conv=>whnf);refine⟨?_,?_,?_⟩<;>repeat(first|exact trivial|refine sc rfl ?_|refine kn ?_|refine kc rfl ?_))
     | true =>
      rw[hv]at h1 H
      cases hw:k7 (x:Int) L with
      | true =>
       rw[hw]at h2 H
       simp only[Bool.not_true,Bool.false_or,Bool.true_and]at H
       conv=>whnf
       repeat(any_goals(first|exact ab|(refine ap ?_ ?_<;>intro _<;>first|exact aq|conv=>whnf)|((first|refine aa h1 ?_|refine af h1 rfl ?_|refine aa h2 ?_|refine af h2 rfl ?_|refine ac ?_|refine bi ?_ ?_|intro _)<;>conv=>whnf)))
       (refine⟨x+1,⟨by omega,H⟩,by omega,?_⟩;(conv=>whnf);refine⟨?_,?_,?_⟩<;>repeat(first|exact trivial|refine sc rfl ?_|refine kn ?_|refine kc rfl ?_))
      | false =>
       rw[hw]at h2 H
       simp only[Bool.not_true,Bool.false_or,Bool.false_and]at H
       subst H
       conv=>whnf
       repeat(any_goals(first|exact ab|(refine ap ?_ ?_<;>intro _<;>first|exact aq|conv=>whnf)|((first|refine aa h1 ?_|refine af h1 rfl ?_|refine aa h2 ?_|refine af h2 rfl ?_|refine ac ?_|refine bi ?_ ?_|intro _)<;>conv=>whnf)))
       all_goals(refine⟨⟨?_⟩,trivial⟩;rfl)
    ·have hin:i=s.figs.length:=by omega
     subst hin
     rw[List.drop_of_length_le (by rw[List.length_range];exact Nat.le_refl _),List.all_nil]at H
     subst H
     conv=>whnf
     repeat(any_goals(first|exact ab|(refine ap ?_ ?_<;>intro _<;>first|exact aq|conv=>whnf)|((first|refine ac ?_|refine bi ?_ ?_|intro _)<;>conv=>whnf)))
     (refine⟨⟨?_⟩,trivial⟩;rfl)
end Go.Proofs.YtgncapdjheghfaaGreatDoor
namespace Go.Proofs.YtgncapdjheghfaaGreatDoor
open Go.Am Go.Proofs Go
theorem Fj(m n:Nat)(hm:m<64)(hn:n<64):fb m n=((m&&&n:Nat):Int)∧orX m n=((m|||n:Nat):Int)∧(m|||n)<64 :=
 ⟨fZ m n (by omega) (by omega),rF m n (by omega) (by omega),Nat.or_lt_two_pow (n:=6) hm hn⟩
def CY(s:Bill)(x:Ent):Nat→Bool
 | 0=>decide (x.b=0)&&s.inAll x.a.toNat
 | 1=>decide (x.a<x.b)&&(decide (s.roomAt x.a=s.roomAt x.b)&&((!s.inAll x.a.toNat&& !s.inAll x.b.toNat)&&s.oneOf x.a.toNat x.b.toNat))
 | _=>decide (x.b=0)&&(s.inSome x.a.toNat&& !s.inAll x.a.toNat)
structure HState where
 i:Nat
 met:Nat
 last:Int
set_option maxHeartbeats 2000000 in
theorem q6(s:Bill)(hg:s.Good)(c:List Ent)(hl:c.length≤1048576):PureA Tryz.prog 65 [dp s,aJ c] (aB (s.holds c)):=by
 have h6:=hg.len
 have hfl:(s.figs.map dS).length=s.figs.length:=List.length_map ..
 have h64:=ft hg
 have hend:∀m:Nat,decide (m=s.someN)=decide ((m:Int)=(s.someN:Int)):=fun m=>by rw[decide_eq_decide];omega
 have hH:s.holds c=s.holdsL (c.drop 0) 0 (-1):=rfl
 generalize s.holds c=R at *
 refine ag ao { l:=0,f:=65} mixed HQ Tryz.func65 (by kernel_rfl) ?_
 conv=>whnf
 repeat(any_goals(first|exact ab|(refine ap ?_ ?_<;>intro _<;>first|exact aq|conv=>whnf)|((first|refine aa fU ?_|refine ac ?_|refine bi ?_ ?_|intro _)<;>conv=>whnf)))
 refine aO ao { l:=0,f:=65} mixed (fun u:HState=>[(13,aj u.i),(6,aj u.met),(7,aj u.last)]) (fun _=>[]) (fun _=>[]) (fun u=>u.i≤c.length∧(u.met<64∧ -1≤u.last∧u.last≤6)∧R=s.holdsL (c.drop u.i) u.met u.last) (fun u=>c.length-u.i) (⟨0,0, -1⟩:HState) (by kernel_rfl)
  ⟨Nat.zero_le _,⟨by decide,by decide,by decide⟩,hH⟩ ?_
 conv=>whnf
 refine⟨⟨ai rfl (ai rfl (ai rfl trivial)),trivial,trivial⟩,?_⟩
 clear hH
 rintro⟨i,m,la⟩ ⟨hi,⟨hm,hl1,hl2⟩,H⟩
 simp only at hi hm hl1 hl2 H
 conv=>whnf
 refine bH (fun h1=>?_) (fun h1=>?_)
 ·simp only[List.length_map]at h1
  obtain⟨x,hx,hd⟩:=ay (l:=c) (i:=i) (by omega)
  rw[hd]at H
  simp only[Bill.holdsL]at H
  have hb1:=dy x.says 0 2
  have hb2:=dy x.a (la+1) (((s.figs.map dS).length:Int)-1)
  have hb3:=dy x.b 0 (((s.figs.map dS).length:Int)-1)
  rw[←hfl]at H
  by_cases hok:(aW 0 2 x.says||(aW (la+1) (((s.figs.map dS).length:Int)-1) x.a||aW 0 (((s.figs.map dS).length:Int)-1) x.b))=true
  ·rw[if_pos hok]at H
   generalize aW 0 2 x.says=b1 at *
   generalize aW (la+1) (((s.figs.map dS).length:Int)-1) x.a=b2 at *
   generalize aW 0 (((s.figs.map dS).length:Int)-1) x.b=b3 at *
   cases b1<;>cases b2<;>cases b3
   all_goals first
    | exact absurd hok (by decide)
    | skip
   all_goals conv=>whnf
   all_goals repeat(any_goals(first|exact ab|(refine ap ?_ ?_<;>intro _<;>first|exact aq|conv=>whnf)|((first|refine ae hx rfl ?_|refine aa hb1 ?_|refine aa hb2 ?_|refine aa hb3 ?_|refine ac ?_|refine bi ?_ ?_|intro _)<;>conv=>whnf)))
   all_goals(refine⟨⟨?_⟩,trivial⟩;rw[H];rfl)
  ·rw[if_neg hok]at H
   rw[Bool.not_eq_true,Bool.or_eq_false_iff,Bool.or_eq_false_iff]at hok
   obtain⟨o1,o2,o3⟩:=hok
   rw[o1]at hb1
   rw[o2]at hb2
   rw[o3]at hb3
   rw[bD]at o1 o2 o3
   rw[hfl]at o2 o3
   have hn:=n7 x (by omega) (by omega)
   have hn64:=ka x (by omega) (by omega)
   obtain⟨m1,m2,m3⟩:=Fj m x.named hm hn64
   have hz:decide (m&&&x.named≠0) = !decide (fb m x.named=0):=by rw[m1, ←decide_not,decide_eq_decide];omega
   have hso:PureA Tryz.prog 124 [dp s,bB x] (aB (CY s x 0)):=GW s x (by omega)
   have hso1:PureA Tryz.prog 125 [dp s,bB x] (aB (CY s x 1)):=pD s hg x (by omega) o3
   have hso2:PureA Tryz.prog 126 [dp s,bB x] (aB (CY s x 2)):=B7 s hg x (by omega)
   have hS:s.so x=CY s x x.says.toNat:=by
    unfold Bill.so CY
    rcases(by omega:x.says=0∨x.says=1∨x.says=2)with h|h|h<;>rw[h]<;>rfl
   rw[hS,hz]at H
   clear hS hz hend
   generalize x.named=nm at *
   have hm2:m|||nm<64:=m3
   obtain⟨sy,xa,xb⟩:=x
   simp only[bB]at *
   rcases(by omega:sy=0∨sy=1∨sy=2)with h|h|h
   all_goals subst h
   ·change R=if(!CY s _ 0|| !decide (fb m nm=0))=true then false else _ at H
    clear hso1 hso2
    generalize CY s _ 0=B at *
    by_cases z:fb m nm=0
    ·rw[decide_eq_true z]at H
     unfold fb at z
     cases B
     ·conv=>whnf
      repeat(any_goals(first|exact ab|(refine ap ?_ ?_<;>intro _<;>first|exact aq|conv=>whnf)|((first|refine ae hx rfl ?_|refine aa hb1 ?_|refine aa hb2 ?_|refine aa hb3 ?_|refine aa hso ?_|refine aa hn ?_|refine ac ?_|refine bi ?_ ?_|intro _)<;>conv=>whnf)))
      (refine⟨⟨?_⟩,trivial⟩;rw[H];rfl)
     ·rw[if_neg (by simp)]at H
      conv=>whnf
      repeat(any_goals(first|exact ab|(refine ap ?_ ?_<;>intro _<;>first|exact aq|conv=>whnf)|((first|refine ae hx rfl ?_|refine aa hb1 ?_|refine aa hb2 ?_|refine aa hb3 ?_|refine aa hso ?_|refine aa hn ?_|refine ac ?_|refine bi ?_ ?_|intro _)<;>conv=>whnf)))
      (refine⟨⟨i+1,m|||nm,xa⟩,⟨by show i+1≤_;omega,⟨hm2,by show -1≤xa;omega,by show xa≤6;omega⟩,H⟩,(by show _-(i+1)<_-i;omega),?_⟩;(conv=>whnf);refine⟨?_,?_,?_⟩<;>repeat(first|exact trivial|refine sc rfl ?_|refine kn ?_|refine kc rfl ?_|refine sc (by(rw[←m2];rfl)) ?_|refine kc (by(rw[←m2];rfl)) ?_))
    ·rw[decide_eq_false z]at H
     unfold fb at z
     cases B
     all_goals conv=>whnf
     all_goals repeat(any_goals(first|exact ab|(refine ap ?_ ?_<;>intro _<;>first|exact aq|conv=>whnf)|((first|refine ae hx rfl ?_|refine aa hb1 ?_|refine aa hb2 ?_|refine aa hb3 ?_|refine aa hso ?_|refine aa hn ?_|refine ac ?_|refine bi ?_ ?_|intro _)<;>conv=>whnf)))
     all_goals(refine⟨⟨?_⟩,trivial⟩;rw[H];rfl)
   ·change R=if(!CY s _ 1|| !decide (fb m nm=0))=true then false else _ at H
    clear hso hso2
    generalize CY s _ 1=B at *
    by_cases z:fb m nm=0
    ·rw[decide_eq_true z]at H
     unfold fb at z
     cases B
     ·conv=>whnf
      repeat(any_goals(first|exact ab|(refine ap ?_ ?_<;>intro _<;>first|exact aq|conv=>whnf)|((first|refine ae hx rfl ?_|refine aa hb1 ?_|refine aa hb2 ?_|refine aa hb3 ?_|refine aa hso1 ?_|refine aa hn ?_|refine ac ?_|refine bi ?_ ?_|intro _)<;>conv=>whnf)))
      (refine⟨⟨?_⟩,trivial⟩;rw[H];rfl)
     ·rw[if_neg (by simp)]at H
      conv=>whnf
      repeat(any_goals(first|exact ab|(refine ap ?_ ?_<;>intro _<;>first|exact aq|conv=>whnf)|((first|refine ae hx rfl ?_|refine aa hb1 ?_|refine aa hb2 ?_|refine aa hb3 ?_|refine aa hso1 ?_|refine aa hn ?_|refine ac ?_|refine bi ?_ ?_|intro _)<;>conv=>whnf)))
      (refine⟨⟨i+1,m|||nm,xa⟩,⟨by show i+1≤_;omega,⟨hm2,by show -1≤xa;omega,by show xa≤6;omega⟩,H⟩,(by show _-(i+1)<_-i;omega),?_⟩;(conv=>whnf);refine⟨?_,?_,?_⟩<;>repeat(first|exact trivial|refine sc rfl ?_|refine kn ?_|refine kc rfl ?_|refine sc (by(rw[←m2];rfl)) ?_|refine kc (by(rw[←m2];rfl)) ?_))
    ·rw[decide_eq_false z]at H
     unfold fb at z
     cases B
     all_goals conv=>whnf
     all_goals repeat(any_goals(first|exact ab|(refine ap ?_ ?_<;>intro _<;>first|exact aq|conv=>whnf)|((first|refine ae hx rfl ?_|refine aa hb1 ?_|refine aa hb2 ?_|refine aa hb3 ?_|refine aa hso1 ?_|refine aa hn ?_|refine ac ?_|refine bi ?_ ?_|intro _)<;>conv=>whnf)))
     all_goals(refine⟨⟨?_⟩,trivial⟩;rw[H];rfl)
   ·change R=if(!CY s _ 2|| !decide (fb m nm=0))=true then false else _ at H
    clear hso hso1
    generalize CY s _ 2=B at *
    by_cases z:fb m nm=0
    ·rw[decide_eq_true z]at H
     unfold fb at z
     cases B
     ·conv=>whnf
      repeat(any_goals(first|exact ab|(refine ap ?_ ?_<;>intro _<;>first|exact aq|conv=>whnf)|((first|refine ae hx rfl ?_|refine aa hb1 ?_|refine aa hb2 ?_|refine aa hb3 ?_|refine aa hso2 ?_|refine aa hn ?_|refine ac ?_|refine bi ?_ ?_|intro _)<;>conv=>whnf)))
      (refine⟨⟨?_⟩,trivial⟩;rw[H];rfl)
     ·rw[if_neg (by simp)]at H
      conv=>whnf
      repeat(any_goals(first|exact ab|(refine ap ?_ ?_<;>intro _<;>first|exact aq|conv=>whnf)|((first|refine ae hx rfl ?_|refine aa hb1 ?_|refine aa hb2 ?_|refine aa hb3 ?_|refine aa hso2 ?_|refine aa hn ?_|refine ac ?_|refine bi ?_ ?_|intro _)<;>conv=>whnf)))
      (refine⟨⟨i+1,m|||nm,xa⟩,⟨by show i+1≤_;omega,⟨hm2,by show -1≤xa;omega,by show xa≤6;omega⟩,H⟩,(by show _-(i+1)<_-i;omega),?_⟩;(conv=>whnf);refine⟨?_,?_,?_⟩<;>repeat(first|exact trivial|refine sc rfl ?_|refine kn ?_|refine kc rfl ?_|refine sc (by(rw[←m2];rfl)) ?_|refine kc (by(rw[←m2];rfl)) ?_))
    ·rw[decide_eq_false z]at H
     unfold fb at z
     cases B
     all_goals conv=>whnf
     all_goals repeat(any_goals(first|exact ab|(refine ap ?_ ?_<;>intro _<;>first|exact aq|conv=>whnf)|((first|refine ae hx rfl ?_|refine aa hb1 ?_|refine aa hb2 ?_|refine aa hb3 ?_|refine aa hso2 ?_|refine aa hn ?_|refine ac ?_|refine bi ?_ ?_|intro _)<;>conv=>whnf)))
     all_goals(refine⟨⟨?_⟩,trivial⟩;rw[H];rfl)
 ·conv=>whnf
  simp only[List.length_map]at h1
  have:i=c.length:=by omega
  subst this
  rw[List.drop_length]at H
  simp only[Bill.holdsL]at H
  rw[hend]at H
  (refine⟨⟨?_⟩,trivial⟩;rw[H];rfl)
end Go.Proofs.YtgncapdjheghfaaGreatDoor
namespace Go.Proofs.YtgncapdjheghfaaGreatDoor
open Go.Am Go.Proofs Go
def Bill.surelyR(s:Bill)(set:Int):Bool×Int:=if s.check.2.2≠0 then(false,s.check.2.2)else if aW 0 (2^s.figs.length-1) set=true then(false,4)else(s.sure set,0)
def Bill.trueR(s:Bill)(c:List Ent):Bool×Int:=if s.check.2.2≠0 then(false,s.check.2.2)else(s.holds c,0)
theorem s7(s:Bill)(hr:s.small)(e:Int)(he:s.check.2.2=e)(h0:e≠0):BoxA Tryz.prog (.fn 63) [] [aI s] (.tuple [Cd,aj e]) []:=by
 subst he;exact IJ s hr h0
theorem o8(s:Bill)(hr:s.small)(set:Int):PureA Tryz.prog 17 [aI s,aj set] (.tuple [aB (s.surelyR set).1,aj (s.surelyR set).2]):=by
 have hfl:(s.figs.map dS).length=s.figs.length:=List.length_map ..
 unfold Bill.surelyR
 by_cases hc:s.check.2.2=0
 ·rw[hc,if_neg (by simp)]
  have hg:=Bill.good hc
  have hlk:=jq s hr hc
  unfold cQ at hlk
  obtain⟨p1,p2⟩:=fa hg.len
  have hsh:=rS s.figs.length hg.len
  have hb:PureA Tryz.prog 51 [aj 0,aj (IntKind.i64.wrap (1 * 2^min (((s.figs.map dS).length:Int)).toNat IntKind.i64.bits)-1),aj set] (aB (aW 0 (2^s.figs.length-1) set)):=by
   have:=dy set 0 (2^s.figs.length-1)
   rw[hfl,hsh];exact this
  rw[←hfl]at hsh
  by_cases q:aW 0 (2^s.figs.length-1) set=true
  ·rw[q]at hb
   rw[if_pos q]
   refine ag ao { l:=0,f:=17,mat:=[63]} mixed uS Tryz.func17 (by kernel_rfl) ?_
   conv=>whnf
   refine⟨[],?_⟩
   conv=>whnf
   refine⟨_,_,hlk,?_⟩
   conv=>whnf
   repeat(any_goals(first|exact ab|(refine ap ?_ ?_<;>intro _<;>first|exact aq|conv=>whnf)|((first|refine aa hb ?_|refine ac ?_|refine bi ?_ ?_|intro _)<;>conv=>whnf)))
   (refine⟨⟨?_⟩,trivial⟩;rfl)
  ·rw[if_neg q]
   rw[Bool.not_eq_true]at q
   rw[q]at hb
   rw[bD]at q
   have hs:=yf s hg set (by omega)
   generalize s.sure set=B at *
   clear hg
   refine ag ao { l:=0,f:=17,mat:=[63]} mixed uS Tryz.func17 (by kernel_rfl) ?_
   conv=>whnf
   refine⟨[],?_⟩
   conv=>whnf
   refine⟨_,_,hlk,?_⟩
   conv=>whnf
   repeat(any_goals(first|exact ab|(refine ap ?_ ?_<;>intro _<;>first|exact aq|conv=>whnf)|((first|refine aa hb ?_|refine af hs rfl ?_|refine ac ?_|refine bi ?_ ?_|intro _)<;>conv=>whnf)))
   (refine⟨⟨?_⟩,trivial⟩;rfl)
 ·rw[if_pos hc]
  obtain⟨e,he⟩:∃e,s.check.2.2=e:=⟨_,rfl⟩
  have hlk:=s7 s hr e he (by rw[←he];exact hc)
  rw[he]at hc
  rw[he]
  refine ag ao { l:=0,f:=17,mat:=[63]} mixed uS Tryz.func17 (by kernel_rfl) ?_
  conv=>whnf
  refine⟨[],?_⟩
  conv=>whnf
  refine⟨_,_,hlk,?_⟩
  conv=>whnf
  repeat(any_goals(first|exact ab|(refine ap ?_ ?_<;>intro _<;>first|exact aq|conv=>whnf)|((first|refine ac ?_|refine bi ?_ ?_|intro _)<;>conv=>whnf)))
  (refine⟨⟨?_⟩,trivial⟩;rfl)
theorem uz(s:Bill)(hr:s.small)(c:List Ent)(hl:c.length≤1048576):PureA Tryz.prog 19 [aI s,aJ c] (.tuple [aB (s.trueR c).1,aj (s.trueR c).2]):=by
 unfold Bill.trueR
 by_cases hc:s.check.2.2=0
 ·rw[hc,if_neg (by simp)]
  have hg:=Bill.good hc
  have hlk:=jq s hr hc
  unfold cQ at hlk
  have hs:=q6 s hg c hl
  generalize s.holds c=B at *
  clear hg
  refine ag ao { l:=0,f:=19,mat:=[63]} mixed AT Tryz.func19 (by kernel_rfl) ?_
  conv=>whnf
  refine⟨[],?_⟩
  conv=>whnf
  refine⟨_,_,hlk,?_⟩
  conv=>whnf
  repeat(any_goals(first|exact ab|(refine ap ?_ ?_<;>intro _<;>first|exact aq|conv=>whnf)|((first|refine af hs rfl ?_|refine ac ?_|refine bi ?_ ?_|intro _)<;>conv=>whnf)))
  (refine⟨⟨?_⟩,trivial⟩;rfl)
 ·rw[if_pos hc]
  obtain⟨e,he⟩:∃e,s.check.2.2=e:=⟨_,rfl⟩
  have hlk:=s7 s hr e he (by rw[←he];exact hc)
  rw[he]at hc
  rw[he]
  refine ag ao { l:=0,f:=19,mat:=[63]} mixed AT Tryz.func19 (by kernel_rfl) ?_
  conv=>whnf
  refine⟨[],?_⟩
  conv=>whnf
  refine⟨_,_,hlk,?_⟩
  conv=>whnf
  repeat(any_goals(first|exact ab|(refine ap ?_ ?_<;>intro _<;>first|exact aq|conv=>whnf)|((first|refine ac ?_|refine bi ?_ ?_|intro _)<;>conv=>whnf)))
  (refine⟨⟨?_⟩,trivial⟩;rfl)
theorem ea(s:Bill)(hr:s.small)(c:List Ent)(hl:c.length≤1048576)(hk:bZ s c=0):BoxA Tryz.prog (.fn 71) [] [aI s,aJ c] (.tuple [.ptr cz 1 5 0 0,aj 0]) [cQ s]:=by
 unfold bZ at hk
 by_cases hc:s.check.2.2=0
 ·rw[hc,if_neg (by simp)]at hk
  by_cases hh:s.holds c=true
  ·have hg:=Bill.good hc
   have hlk:=jq s hr hc
   have hs:=q6 s hg c hl
   rw[hh]at hs
   unfold cQ at *
   clear hg
   refine aN ao { l:=0,f:=71,mat:=[63]} mixed uY Tryz.func71 (by kernel_rfl) ?_
   conv=>whnf
   refine⟨[],?_⟩
   conv=>whnf
   refine⟨_,_,hlk,?_⟩
   conv=>whnf
   repeat(any_goals(first|exact ab|(refine ap ?_ ?_<;>intro _<;>first|exact aq|conv=>whnf)|((first|refine af hs rfl ?_|refine ac ?_|refine bi ?_ ?_|intro _)<;>conv=>whnf)))
   refine And.intro ?_ ?_
   ·conv=>whnf
    refine⟨⟨?_⟩,trivial⟩
    rfl
   ·repeat(first|exact trivial|refine And.intro rfl ?_|refine And.intro (by skip) ?_)
  ·rw[if_neg hh]at hk;omega
 ·rw[if_pos hc]at hk;omega
theorem jU(s:Bill)(hr:s.small)(c:List Ent)(hl:c.length≤1048576)(e:Int)(hk:bZ s c=e)(h0:e≠0):BoxA Tryz.prog (.fn 71) [] [aI s,aJ c] (.tuple [Cd,aj e]) []:=by
 unfold bZ at hk
 by_cases hc:s.check.2.2=0
 ·rw[hc,if_neg (by simp)]at hk
  by_cases hh:s.holds c=true
  ·rw[if_pos hh]at hk;omega
  ·rw[if_neg hh]at hk
   subst hk
   rw[Bool.not_eq_true]at hh
   have hg:=Bill.good hc
   have hlk:=jq s hr hc
   have hs:=q6 s hg c hl
   rw[hh]at hs
   unfold cQ at *
   clear hg
   refine aN ao { l:=0,f:=71,mat:=[63]} mixed uY Tryz.func71 (by kernel_rfl) ?_
   conv=>whnf
   refine⟨[],?_⟩
   conv=>whnf
   refine⟨_,_,hlk,?_⟩
   conv=>whnf
   repeat(any_goals(first|exact ab|(refine ap ?_ ?_<;>intro _<;>first|exact aq|conv=>whnf)|((first|refine af hs rfl ?_|refine ac ?_|refine bi ?_ ?_|intro _)<;>conv=>whnf)))
   refine And.intro ?_ ?_
   ·conv=>whnf
    refine⟨⟨?_⟩,trivial⟩
    rfl
   ·repeat(first|exact trivial|refine And.intro rfl ?_|refine And.intro (by skip) ?_)
 ·rw[if_pos hc]at hk
  have hlk:=s7 s hr e hk h0
  refine aN ao { l:=0,f:=71,mat:=[63]} mixed uY Tryz.func71 (by kernel_rfl) ?_
  conv=>whnf
  refine⟨[],?_⟩
  conv=>whnf
  refine⟨_,_,hlk,?_⟩
  conv=>whnf
  repeat(any_goals(first|exact ab|(refine ap ?_ ?_<;>intro _<;>first|exact aq|conv=>whnf)|((first|refine ac ?_|refine bi ?_ ?_|intro _)<;>conv=>whnf)))
  refine And.intro ?_ ?_
  ·conv=>whnf
   refine⟨⟨?_⟩,trivial⟩
   rfl
  ·repeat(first|exact trivial|refine And.intro rfl ?_|refine And.intro (by skip) ?_)
end Go.Proofs.YtgncapdjheghfaaGreatDoor
namespace Go.Proofs.YtgncapdjheghfaaGreatDoor
open Go.Am Go.Proofs Go
def Bill.In(s:Bill)(x:Ent):Prop:=(0≤x.says∧x.says≤2)∧(0≤x.a∧x.a≤(s.figs.length:Int)-1)∧0≤x.b∧x.b≤(s.figs.length:Int)-1
theorem Bill.OkE.inn{s:Bill}{x:Ent}(h:s.OkE x):s.In x:=⟨by have:=h.says;omega,by have:=h.a;omega,by have:=h.b;omega⟩
set_option maxHeartbeats 1000000 in
theorem eW(s:Bill)(c:List Ent)(hc:∀x∈c,s.In x)(h6:c.length≤6)(i:Nat)(hi:i<c.length)(top:Bool) :
  PureA Tryz.prog 102 [dp s,aJ c,aj i,aB top] (aj (s.heading c i top)):=by
 obtain⟨x,hx⟩:∃x,c[i]?=some x:=⟨_,List.getElem?_eq_getElem hi⟩
 have hxi:=hc x (List.mem_of_getElem? hx)
 obtain⟨f,hf,rf,_⟩:=nG hxi.2.1
 cases i with
 | zero =>
  have e:s.heading c 0 top=2:=by unfold Bill.heading;rw[hx];rfl
  rw[e]
  refine ag ao { l:=0,f:=102} mixed m4 Tryz.func102 (by kernel_rfl) ?_
  conv=>whnf
  repeat(any_goals(first|exact ab|(refine ap ?_ ?_<;>intro _<;>first|exact aq|conv=>whnf)|((first|refine ac ?_|refine bi ?_ ?_|intro _)<;>conv=>whnf)))
  (refine⟨⟨?_⟩,trivial⟩;rfl)
 | succ j =>
  obtain⟨y,hy⟩:∃y,c[j]?=some y:=⟨_,List.getElem?_eq_getElem (by omega)⟩
  have hyi:=hc y (List.mem_of_getElem? hy)
  obtain⟨g,hgg,rg,_⟩:=nG hyi.2.1
  have e:s.heading c (j+1) top=if s.roomAt x.a≠s.roomAt y.a then 2 else if top=true then 1 else 0:=by
   unfold Bill.heading
   rw[hx]
   simp only[Nat.add_sub_cancel,if_neg (show¬j+1=0 by omega),hy]
  rw[e,rf,rg]
  have q1:=hxi.2.1
  have q2:=hyi.2.1
  by_cases q:f.room=g.room
  ·rw[if_neg (by simpa using q)]
   cases top
   ·refine ag ao { l:=0,f:=102} mixed m4 Tryz.func102 (by kernel_rfl) ?_
    conv=>whnf
    repeat(any_goals(first|exact ab|(refine ap ?_ ?_<;>intro _<;>first|exact aq|conv=>whnf)|((first|refine ae hx rfl ?_|refine ae hf (by omega) ?_|refine ae hy (by omega) ?_|refine ae hgg (by omega) ?_|refine ac ?_|refine bi ?_ ?_|intro _)<;>conv=>whnf)))
    (refine⟨⟨?_⟩,trivial⟩;rfl)
   ·refine ag ao { l:=0,f:=102} mixed m4 Tryz.func102 (by kernel_rfl) ?_
    conv=>whnf
    repeat(any_goals(first|exact ab|(refine ap ?_ ?_<;>intro _<;>first|exact aq|conv=>whnf)|((first|refine ae hx rfl ?_|refine ae hf (by omega) ?_|refine ae hy (by omega) ?_|refine ae hgg (by omega) ?_|refine ac ?_|refine bi ?_ ?_|intro _)<;>conv=>whnf)))
    (refine⟨⟨?_⟩,trivial⟩;rfl)
  ·rw[if_pos (by simpa using q)]
   refine ag ao { l:=0,f:=102} mixed m4 Tryz.func102 (by kernel_rfl) ?_
   conv=>whnf
   repeat(any_goals(first|exact ab|(refine ap ?_ ?_<;>intro _<;>first|exact aq|conv=>whnf)|((first|refine ae hx rfl ?_|refine ae hf (by omega) ?_|refine ae hy (by omega) ?_|refine ae hgg (by omega) ?_|refine ac ?_|refine bi ?_ ?_|intro _)<;>conv=>whnf)))
   (refine⟨⟨?_⟩,trivial⟩;rfl)
def yT(s:Bill)(m:Nat):Nat→Int
 | 0=>0
 | i+1=>yT s m i+if m.testBit i=true then s.heightAt i else 0
theorem pL{s:Bill}(hg:s.Good)(m:Nat):∀i:Nat,i≤s.figs.length→0≤yT s m i∧yT s m i≤6 * (i:Int)
 | 0,_=>by simp[yT]
 | i+1,h=>by
  have:=pL hg m i (by omega)
  obtain⟨f,hf,_,e⟩:=nG (s:=s) (a:=(i:Int)) (by omega)
  have:=hg.figs f (List.mem_of_getElem? hf)
  simp only[yT]
  split
  ·omega
  ·omega
theorem BB{s:Bill}{x:Ent}(ha:0≤x.a)(hb:0≤x.b)(hne:x.says=1→x.a≠x.b):∀i:Nat,yT s x.named i=(if x.a<i then s.heightAt x.a else 0)+(if x.says=1∧x.b<i then s.heightAt x.b else 0)
 | 0=>by
  simp only[yT]
  rw[if_neg (by omega),if_neg (by omega)];rfl
 | i+1=>by
  have ih:=BB (s:=s) ha hb hne i
  simp only[yT]
  rw[ih,bp]
  by_cases h1:(i:Int)=x.a
  ·have e:decide (i=x.a.toNat∨(x.says=1∧i=x.b.toNat))=true:=decide_eq_true (.inl (by omega))
   rw[e,if_pos rfl,if_neg (by omega),if_pos (show x.a<((i+1:Nat):Int) by omega),h1]
   by_cases h2:x.says=1
   ·have:=hne h2
    by_cases h3:x.b<(i:Int)
    ·rw[if_pos ⟨h2,by omega⟩,if_pos ⟨h2,by omega⟩];omega
    ·rw[if_neg (by omega),if_neg (by omega)];omega
   ·rw[if_neg (by omega),if_neg (by omega)];omega
  ·by_cases h2:x.says=1∧(i:Int)=x.b
   ·have e:decide (i=x.a.toNat∨(x.says=1∧i=x.b.toNat))=true:=decide_eq_true (.inr ⟨h2.1,by omega⟩)
    have h3:=h2.2
    rw[e,if_pos rfl,if_neg (show¬(x.says=1∧x.b<(i:Int)) by omega),if_pos (show x.says=1∧x.b<((i+1:Nat):Int) by omega), ←h2.2]
    by_cases h4:x.a<(i:Int)
    ·rw[if_pos h4,if_pos (by omega)];omega
    ·rw[if_neg h4,if_neg (by omega)];omega
   ·have e:decide (i=x.a.toNat∨(x.says=1∧i=x.b.toNat))=false:=decide_eq_false (by omega)
    rw[e,if_neg (show¬(false=true) by simp)]
    have p1:(x.a<((i+1:Nat):Int))↔x.a<(i:Int):=by omega
    have p2:(x.says=1∧x.b<((i+1:Nat):Int))↔x.says=1∧x.b<(i:Int):=by omega
    simp only[p1,p2];omega
theorem Bz{s:Bill}{x:Ent}(h:s.In x)(hne:x.says=1→x.a≠x.b):yT s x.named s.figs.length=s.height x:=by
 obtain⟨_,h2,h3⟩:=h
 rw[BB h2.1 h3.1 hne]
 unfold Bill.height
 rw[if_pos (by omega)]
 by_cases h1:x.says=1
 ·rw[if_pos h1,if_pos (by omega)]
 ·rw[if_neg h1,if_neg (by omega)]
set_option maxHeartbeats 1000000 in
theorem Fb(s:Bill)(hg:s.Good)(x:Ent)(hx:s.In x)(hne:x.says=1→x.a≠x.b):PureA Tryz.prog 103 [dp s,bB x] (aj (s.height x)):=by
 have h6:=hg.len
 have hn:=n7 x (by have:=hx.2.1;omega) (by have:=hx.2.2;omega)
 have hn64:=ka x (by have:=hx.2.1;omega) (by have:=hx.2.2;omega)
 rw[←Bz hx hne]
 have hB:∀i:Nat,i<6→decide (fb (k8 x.named i) 1=1)=x.named.testBit i:=fun i hi=>Hj _ _ (by omega) (by omega)
 generalize x.named=m at *
 have hr:=pL hg m
 have hs:∀i:Nat,yT s m (i+1)=yT s m i+if m.testBit i=true then s.heightAt i else 0:=fun _=>rfl
 have h0:yT s m 0=0:=rfl
 have hgf:=hg.figs
 generalize yT s m=F at *
 clear hg hx hne
 refine ag ao { l:=0,f:=103} mixed Ew Tryz.func103 (by kernel_rfl) ?_
 conv=>whnf
 refine aa hn ?_
 conv=>whnf
 refine aO ao { l:=0,f:=103} mixed (fun i:Nat=>[(15,aj i),(4,aj (F i))]) (fun _=>[]) (fun _=>[]) (fun i=>i≤s.figs.length) (fun i=>s.figs.length-i) 0 (by kernel_rfl)
  (Nat.zero_le _) ?_
 conv=>whnf
 refine⟨⟨ai rfl (ai (by rw[h0];rfl) trivial),trivial,trivial⟩,?_⟩
 intro i hi
 conv=>whnf
 refine bH (fun h1=>?_) (fun h1=>?_)
 ·simp only[List.length_map]at h1
  obtain⟨x,hx,hd⟩:=ay (l:=s.figs) (i:=i) (by omega)
  obtain⟨f,hf,_,hh⟩:=nG (s:=s) (a:=(i:Int)) (by omega)
  rw[Int.toNat_natCast]at hf
  have hfx:=hgf f (List.mem_of_getElem? hf)
  have hri:=hr i (by omega)
  have hsi:=hs i
  have hBi:=hB i (by omega)
  rw[hh, ←hBi]at hsi
  by_cases q:fb (k8 m i) 1=1
  ·rw[decide_eq_true q,if_pos rfl]at hsi
   unfold fb k8 at q
   conv=>whnf
   repeat(any_goals(first|exact ab|(refine ap ?_ ?_<;>intro _<;>first|exact aq|conv=>whnf)|((first|refine ae hf rfl ?_|refine ac ?_|refine bi ?_ ?_|intro _)<;>conv=>whnf)))
   (refine⟨i+1,(by omega),by omega,?_⟩;(conv=>whnf);refine⟨?_,?_,?_⟩<;>repeat(first|exact trivial|refine sc rfl ?_|refine kn ?_|refine kc rfl ?_|refine sc (by(rw[hsi];rfl)) ?_|refine kc (by(rw[hsi];rfl)) ?_))
  ·rw[decide_eq_false q,if_neg (by simp)]at hsi
   unfold fb k8 at q
   conv=>whnf
   repeat(any_goals(first|exact ab|(refine ap ?_ ?_<;>intro _<;>first|exact aq|conv=>whnf)|((first|refine ae hf rfl ?_|refine ac ?_|refine bi ?_ ?_|intro _)<;>conv=>whnf)))
   (refine⟨i+1,(by omega),by omega,?_⟩;(conv=>whnf);refine⟨?_,?_,?_⟩<;>repeat(first|exact trivial|refine sc rfl ?_|refine kn ?_|refine kc rfl ?_|refine sc (by(rw[hsi,Int.add_zero];rfl)) ?_|refine kc (by(rw[hsi,Int.add_zero];rfl)) ?_))
 ·conv=>whnf
  simp only[List.length_map]at h1
  have:i=s.figs.length:=by omega
  subst this
  (refine⟨⟨?_⟩,trivial⟩;rfl)
set_option maxHeartbeats 1000000 in
theorem xM(s:Bill)(hg:s.Good)(c:List Ent)(hc:∀x∈c,s.OkE x)(h6:c.length≤6)(i j:Nat)(hij:i≤j)(hj:j≤c.length) :
  PureA Tryz.prog 72 [dp s,aJ c,aj i,aj j] (aj (s.left c i j)):=by
 have hln:=hg.lines
 have hhd:=fun k (hk:k<c.length) t=>eW s c (fun x hx=>(hc x hx).inn) h6 k hk t
 have hht:=fun x (hx:x∈c)=>Fb s hg x (hc x hx).inn fun h1=>by have:=(hc x hx).lt h1;omega
 have hr:∀n:Nat,i+n≤c.length→0≤s.linesOn c i n∧s.linesOn c i n≤14 * (n:Int):=by
  intro n
  induction n with
  | zero=>intro _;exact⟨Int.le_refl _,by simp[Bill.linesOn]⟩
  | succ n ih =>
   intro h
   have:=ih (by omega)
   have:=dq hg hc (i:=i+n) (by omega) (n==0)
   simp only[Bill.linesOn]
   omega
 have hs:∀n x,c[i+n]?=some x→s.linesOn c i (n+1)=s.linesOn c i n+(s.heading c (i+n) (n==0)+s.height x):=by
  intro n x hx
  simp only[Bill.linesOn,Bill.lineOf,hx]
 have hh:=eE s c
 have hp:=fun x (hx:x∈c)=>lv hg (hc x hx)
 have h0:s.linesOn c i 0=0:=rfl
 unfold Bill.left
 generalize s.linesOn c i=F at *
 clear hg hc
 refine ag ao { l:=0,f:=72} mixed HX Tryz.func72 (by kernel_rfl) ?_
 conv=>whnf
 refine aO ao { l:=0,f:=72} mixed (fun n:Nat=>[(10,aj ((i+n:Nat):Int)),(9,aj (s.lines-F n))]) (fun _=>[]) (fun _=>[]) (fun n=>i+n≤j) (fun n=>j-(i+n)) 0 (by kernel_rfl)
  hij ?_
 conv=>whnf
 refine⟨⟨ai rfl (ai (by rw[h0,Int.sub_zero];rfl) trivial),trivial,trivial⟩,?_⟩
 intro n hn
 by_cases hlt:i+n<j
 ·obtain⟨x,hx⟩:∃x,c[i+n]?=some x:=⟨_,List.getElem?_eq_getElem (by omega)⟩
  have hxm:=List.mem_of_getElem? hx
  have hht':=hht x hxm
  have hhd':=hhd (i+n) (by omega) (n==0)
  have hsn:=hs n x hx
  have hrn:=hr n (by omega)
  have hhn:=hh (i+n) (n==0)
  have hpn:=hp x hxm
  have e:(n==0)=decide (((i+n:Nat):Int)=(i:Int)):=by
   rw[Bool.eq_iff_iff,decide_eq_true_eq,beq_iff_eq];omega
  rw[e]at hhd' hsn hhn
  generalize s.heading c (i+n) (decide (((i+n:Nat):Int)=(i:Int)))=y at *
  generalize s.height x=z at *
  clear hht hhd hs hr hh hp e
  conv=>whnf
  repeat(any_goals(first|exact ab|(refine ap ?_ ?_<;>intro _<;>first|exact aq|conv=>whnf)|((first|refine aa hhd' ?_|refine ae hx rfl ?_|refine aa hht' ?_|refine ac ?_|refine bi ?_ ?_|intro _)<;>conv=>whnf)))
  (refine⟨n+1,(by omega),(by omega),?_⟩;(conv=>whnf);refine⟨?_,?_,?_⟩<;>repeat(first|exact trivial|refine sc rfl ?_|refine kn ?_|refine kc rfl ?_|refine sc (by first|rfl|(rw[←Nat.add_assoc];rfl)|(rw[hsn,show s.lines-(F n+(y+z))=s.lines-F n-(y+z) by omega];rfl)) ?_|refine kc (by first|rfl|(rw[←Nat.add_assoc];rfl)|(rw[hsn,show s.lines-(F n+(y+z))=s.lines-F n-(y+z) by omega];rfl)) ?_))
 ·have:i+n=j:=by omega
  have hn2:n=j-i:=by omega
  subst hn2
  conv=>whnf
  repeat(any_goals(first|exact ab|(refine ap ?_ ?_<;>intro _<;>first|exact aq|conv=>whnf)|((first|refine ac ?_|refine bi ?_ ?_|intro _)<;>conv=>whnf)))
  (refine⟨⟨?_⟩,trivial⟩;rfl)
end Go.Proofs.YtgncapdjheghfaaGreatDoor
namespace Go.Proofs.YtgncapdjheghfaaGreatDoor
open Go.Am Go.Proofs Go
def tm(x:Int):Option Int→Bool
 | none=>false
 | some y=>decide (x≤y)
def nu(n:Nat):Option Int→List Int→Bool
 | _,[]=>false
 | p,x::l=>(tm x p||decide ((n:Int)≤x))||nu n (some x) l
def fQ(p:List Int):Bool:=match p with
 | []=>false
 | x::_=>decide (x≠0)
def dG(n:Nat)(p:List Int):Bool:=(decide (n=0) != decide (p.length=0))||(fQ p||nu n none p)
def dN(acc:Int):Option Int→Int×Int
 | none=>(0,7)
 | some w=>(acc+w,0)
def Bill.fitsR(s:Bill)(c:List Ent)(p:List Int):Int×Int :=
 if bZ s c≠0 then(0,bZ s c)else if dG c.length p=true then(0,2)else dN 0 (s.whiteI c p)
def Bill.fewR(s:Bill)(c:List Ent):Int×Int:=if bZ s c≠0 then(0,bZ s c)else((s.few c:Int),0)
def mB(l:List Int):Nat→Option Int
 | 0=>none
 | i+1=>l[i]?
theorem uN{n:Nat}:∀{p:List Int} {q:Option Int},nu n q p=false→∀(i:Nat) x,p[i]?=some x→x<n
 | [],_,_,i,x,h=>by simp at h
 | y::l,q,hb,i,x,h=>by
  simp only[nu,Bool.or_eq_false_iff,decide_eq_false_iff_not]at hb
  cases i with
  | zero=>simp at h;subst h;omega
  | succ i=>exact uN hb.2 i x (by simpa using h)
theorem qI{n:Nat}:∀{p:List Int} {q:Option Int},nu n q p=false→∀(i:Nat) x y,p[i]?=some x→p[i+1]?=some y→x<y
 | [],_,_,i,x,y,h,_=>by simp at h
 | z::l,q,hb,i,x,y,h,h2=>by
  simp only[nu,Bool.or_eq_false_iff]at hb
  cases i with
  | zero =>
   simp at h;subst h
   cases l with
   | nil=>simp at h2
   | cons w l =>
    simp at h2;subst h2
    have:=hb.2
    simp only[nu,Bool.or_eq_false_iff,tm,decide_eq_false_iff_not]at this
    omega
  | succ i=>exact qI hb.2 i x y (by simpa using h) (by simpa using h2)
theorem qH{n:Nat}{p:List Int}(hb:nu n none p=false)(h0:fQ p=false):∀(i:Nat) x,p[i]?=some x→0≤x
 | 0,x,h=>by
  cases p with
  | nil=>simp at h
  | cons y l=>simp at h;subst h;simp[fQ]at h0;omega
 | i+1,x,h=>by
  have hi:i<p.length:=by have:=(List.getElem?_eq_some_iff.1 h).1;omega
  have:=qH hb h0 i p[i] (List.getElem?_eq_getElem hi)
  have:=qI hb i p[i] x (List.getElem?_eq_getElem hi) h
  omega
theorem vH{s:Bill}{c:List Ent}(h:bZ s c=0):s.check.2.2=0∧s.holds c=true:=by
 unfold bZ at h
 by_cases hc:s.check.2.2=0
 ·rw[hc,if_neg (by simp)]at h
  by_cases hh:s.holds c=true
  ·exact⟨hc,hh⟩
  ·rw[if_neg hh]at h;omega
 ·rw[if_pos hc]at h;omega
theorem bQ{s:Bill}{c:List Ent}(h:bZ s c=0):s.Good∧(∀x∈c,s.OkE x)∧c.length≤6:=by
 obtain⟨h1,h2⟩:=vH h
 have hg:=Bill.good h1
 have:=jY hg h2
 have:=hg.len
 exact⟨hg,jZ h2,by omega⟩
theorem n8(i j:Nat){a b r:Bool}(h:(a != b)=r):∀w:World,Sem.run Tryz.prog (dP BinOp.neq 4 (Operand.tmp i) (Operand.tmp j) (.bool a) (.bool b)) w = .ok (.bool r) w:=by
 intro w
 subst h
 cases a<;>cases b<;>kernel_rfl
theorem Iy(s:Bill)(hr:s.small)(c:List Ent)(hl:c.length≤1048576)(p:List Int)(e:Int)(hk:bZ s c=e)(h0:e≠0) :
  PureA Tryz.prog 25 [aI s,aJ c,aD p] (.tuple [aj 0,aj e]):=by
 have he:=jU s hr c hl e hk h0
 refine ag ao { l:=0,f:=25,mat:=[71]} mixed lg Tryz.func25 (by kernel_rfl) ?_
 conv=>whnf
 refine⟨[],?_⟩
 conv=>whnf
 refine⟨_,_,he,?_⟩
 conv=>whnf
 repeat(any_goals(first|exact ab|(refine ap ?_ ?_<;>intro _<;>first|exact aq|conv=>whnf)|((first|refine ac ?_|refine bi ?_ ?_|intro _)<;>conv=>whnf)))
 (refine⟨⟨?_⟩,trivial⟩;rfl)
theorem Bt(s:Bill)(hr:s.small)(c:List Ent)(hl:c.length≤1048576)(p:List Int)(hp:p.length≤1048576)(hk:bZ s c=0)(y:Int)(hy:y≠0)(hy0:p[0]?=some y)(hc0:0<c.length) :
  PureA Tryz.prog 25 [aI s,aJ c,aD p] (.tuple [aj 0,aj 2]):=by
 have he:=ea s hr c hl hk
 unfold cQ at he
 have hcl:(c.map bB).length=c.length:=List.length_map ..
 have hpl:(p.map aj).length=p.length:=List.length_map ..
 have hp0:0<p.length:=(List.getElem?_eq_some_iff.1 hy0).1
 have hz':(decide (((c.map bB).length:Int)=0) != decide (((p.map aj).length:Int)=0))=false:=by
  rw[decide_eq_false (by rw[hcl];omega),decide_eq_false (by rw[hpl];omega)];rfl
 refine ag ao { l:=0,f:=25,mat:=[71]} mixed lg Tryz.func25 (by kernel_rfl) ?_
 conv=>whnf
 refine⟨[],?_⟩
 conv=>whnf
 refine⟨_,_,he,?_⟩
 conv=>whnf
 repeat(any_goals(first|exact ab|(refine ap ?_ ?_<;>intro _<;>first|exact aq|conv=>whnf)|((first|refine⟨.bool false,n8 _ _ hz',?_⟩|refine ae hy0 rfl ?_|refine ac ?_|refine bi ?_ ?_|intro _)<;>conv=>whnf)))
 (refine⟨⟨?_⟩,trivial⟩;rfl)
theorem Bu(s:Bill)(hr:s.small)(c:List Ent)(hl:c.length≤1048576)(p:List Int)(hp:p.length≤1048576)(hk:bZ s c=0)(hz:(decide (c.length=0) != decide (p.length=0))=true) :
  PureA Tryz.prog 25 [aI s,aJ c,aD p] (.tuple [aj 0,aj 2]):=by
 have he:=ea s hr c hl hk
 unfold cQ at he
 have hcl:(c.map bB).length=c.length:=List.length_map ..
 have hpl:(p.map aj).length=p.length:=List.length_map ..
 have hz':(decide (((c.map bB).length:Int)=0) != decide (((p.map aj).length:Int)=0))=true:=by
  rw[hcl,hpl, ←hz];congr 1<;>rw[decide_eq_decide]<;>omega
 refine ag ao { l:=0,f:=25,mat:=[71]} mixed lg Tryz.func25 (by kernel_rfl) ?_
 conv=>whnf
 refine⟨[],?_⟩
 conv=>whnf
 refine⟨_,_,he,?_⟩
 conv=>whnf
 repeat(any_goals(first|exact ab|(refine ap ?_ ?_<;>intro _<;>first|exact aq|conv=>whnf)|((first|refine⟨.bool true,n8 _ _ hz',?_⟩|refine ac ?_|refine bi ?_ ?_|intro _)<;>conv=>whnf)))
 (refine⟨⟨?_⟩,trivial⟩;rfl)
theorem E6(s:Bill)(hr:s.small)(c:List Ent)(hl:c.length≤1048576)(p:List Int)(hp:p.length≤1048576)(hk:bZ s c=0)(hb:((decide (c.length=0) != decide (p.length=0))||fQ p)=true) :
  PureA Tryz.prog 25 [aI s,aJ c,aD p] (.tuple [aj 0,aj 2]):=by
 cases hz:(decide (c.length=0) != decide (p.length=0))with
 | true=>exact Bu s hr c hl p hp hk hz
 | false =>
  rw[hz,Bool.false_or]at hb
  cases p with
  | nil=>simp[fQ]at hb
  | cons y p =>
   have hy:y≠0:=by simpa[fQ]using hb
   have hc0:0<c.length:=by
    rcases Nat.eq_zero_or_pos c.length with h|h
    ·rw[h]at hz;simp at hz
    ·exact h
   exact Bt s hr c hl (y::p) hp hk y hy rfl hc0
set_option maxHeartbeats 2000000 in
theorem E7(s:Bill)(hr:s.small)(c:List Ent)(hl:c.length≤1048576)(p:List Int)(hp:p.length≤1048576)(hk:bZ s c=0)
  (hz:(decide (c.length=0) != decide (p.length=0))=false) (hn:fQ p=false) (hb:nu c.length none p=true) :
  PureA Tryz.prog 25 [aI s,aJ c,aD p] (.tuple [aj 0,aj 2]):=by
 have he:=ea s hr c hl hk
 unfold cQ at he
 have hcl:(c.map bB).length=c.length:=List.length_map ..
 have hpl:(p.map aj).length=p.length:=List.length_map ..
 have hz':(decide (((c.map bB).length:Int)=0) != decide (((p.map aj).length:Int)=0))=false:=by
  rw[hcl,hpl, ←hz];congr 1<;>rw[decide_eq_decide]<;>omega
 obtain⟨y,hy0,hyz⟩:∃y,p[0]?=some y∧y=0:=by
  cases p with
  | nil=>simp[nu]at hb
  | cons y p=>exact⟨y,rfl,by simpa[fQ]using hn⟩
 have hp0:0<p.length:=(List.getElem?_eq_some_iff.1 hy0).1
 refine ag ao { l:=0,f:=25,mat:=[71]} mixed lg Tryz.func25 (by kernel_rfl) ?_
 conv=>whnf
 refine⟨[],?_⟩
 conv=>whnf
 refine⟨_,_,he,?_⟩
 conv=>whnf
 repeat(any_goals(first|exact ab|(refine ap ?_ ?_<;>intro _<;>first|exact aq|conv=>whnf)|((first|refine⟨.bool false,n8 _ _ hz',?_⟩|refine ae hy0 rfl ?_|refine ac ?_|refine bi ?_ ?_|intro _)<;>conv=>whnf)))
 refine aO ao { l:=0,f:=25} mixed (fun i:Nat=>[(44,aj i)]) (fun _=>[]) (fun _=>[]) (fun i=>i≤p.length∧nu c.length (mB p i) (p.drop i)=true) (fun i=>p.length-i) 0 (by kernel_rfl)
  ⟨Nat.zero_le _,hb⟩ ?_
 conv=>whnf
 refine⟨⟨ai rfl trivial,trivial,trivial⟩,?_⟩
 intro i ⟨hi,H⟩
 conv=>whnf
 refine bH (fun h1=>?_) (fun h1=>?_)
 ·simp only[List.length_map]at h1
  obtain⟨x,hx,hd⟩:=ay (l:=p) (i:=i) (by omega)
  rw[hd]at H
  simp only[nu,Bool.or_eq_true]at H
  cases i with
  | zero =>
   by_cases q:(c.length:Int)≤x
   ·conv=>whnf
    repeat(any_goals(first|exact ab|(refine ap ?_ ?_<;>intro _<;>first|exact aq|conv=>whnf)|((first|refine ae hx rfl ?_|refine ac ?_|refine bi ?_ ?_|intro _)<;>conv=>whnf)))
    (refine⟨⟨?_⟩,trivial⟩;rfl)
   ·have H':nu c.length (mB p 1) (p.drop 1)=true:=by
     simpa[tm,mB,q,hx]using H
    conv=>whnf
    repeat(any_goals(first|exact ab|(refine ap ?_ ?_<;>intro _<;>first|exact aq|conv=>whnf)|((first|refine ae hx rfl ?_|refine ac ?_|refine bi ?_ ?_|intro _)<;>conv=>whnf)))
    (refine⟨1,⟨by omega,H'⟩,by omega,?_⟩;(conv=>whnf);refine⟨?_,?_,?_⟩<;>repeat(first|exact trivial|refine sc rfl ?_|refine kn ?_|refine kc rfl ?_))
  | succ j =>
   obtain⟨z,hzz⟩:∃z,p[j]?=some z:=⟨_,List.getElem?_eq_getElem (by omega)⟩
   by_cases q1:x≤z
   ·conv=>whnf
    repeat(any_goals(first|exact ab|(refine ap ?_ ?_<;>intro _<;>first|exact aq|conv=>whnf)|((first|refine ae hx rfl ?_|refine ae hzz (by omega) ?_|refine ac ?_|refine bi ?_ ?_|intro _)<;>conv=>whnf)))
    (refine⟨⟨?_⟩,trivial⟩;rfl)
   ·by_cases q:(c.length:Int)≤x
    ·conv=>whnf
     repeat(any_goals(first|exact ab|(refine ap ?_ ?_<;>intro _<;>first|exact aq|conv=>whnf)|((first|refine ae hx rfl ?_|refine ae hzz (by omega) ?_|refine ac ?_|refine bi ?_ ?_|intro _)<;>conv=>whnf)))
     (refine⟨⟨?_⟩,trivial⟩;rfl)
    ·have H':nu c.length (mB p (j+1+1)) (p.drop (j+1+1))=true:=by
      simpa[tm,mB,q,q1,hzz,hx]using H
     conv=>whnf
     repeat(any_goals(first|exact ab|(refine ap ?_ ?_<;>intro _<;>first|exact aq|conv=>whnf)|((first|refine ae hx rfl ?_|refine ae hzz (by omega) ?_|refine ac ?_|refine bi ?_ ?_|intro _)<;>conv=>whnf)))
     (refine⟨j+1+1,⟨by omega,H'⟩,by omega,?_⟩;(conv=>whnf);refine⟨?_,?_,?_⟩<;>repeat(first|exact trivial|refine sc rfl ?_|refine kn ?_|refine kc rfl ?_))
 ·simp only[List.length_map]at h1
  have:i=p.length:=by omega
  subst this
  rw[List.drop_length]at H
  simp[nu]at H
theorem ph{s:Bill}{c:List Ent}{x:Int}{l:List Int}{m:Nat}(hm:bV c (l.map Int.toNat)=m):s.whiteI c (x::l)=if s.left c x.toNat m<0 then none else match s.whiteI c l with
  | none=>none
  | some w=>some ((if m<c.length then s.left c x.toNat m * s.left c x.toNat m else 0)+w):=by
 subst hm;rfl
theorem pe{acc a:Int}{o:Option Int}:dN acc (match o with|none=>none|some w=>some (a+w))=dN (acc+a) o:=by
 cases o with
 | none=>rfl
 | some w=>simp only[dN,Int.add_assoc]
structure FState where
 i:Nat
 acc:Int
theorem KY{x:Int}(h0:0≤x)(h:x≤30):0≤x * x∧x * x≤900:=by
 have h1:x * x≤30 * 30:=Int.mul_le_mul h h h0 (by omega)
 exact⟨Int.mul_nonneg h0 h0,h1⟩
set_option maxHeartbeats 4000000 in
theorem Iz(s:Bill)(hr:s.small)(c:List Ent)(hl:c.length≤1048576)(p:List Int)(hp:p.length≤1048576)(hk:bZ s c=0)(y:Int)(hy0:p[0]?=some y)(hyz:y=0)
  (hz:(decide (c.length=0) != decide (p.length=0))=false) (hn:fQ p=false) (hb:nu c.length none p=false) :
  PureA Tryz.prog 25 [aI s,aJ c,aD p] (.tuple [aj (dN 0 (s.whiteI c p)).1,aj (dN 0 (s.whiteI c p)).2]):=by
 have he:=ea s hr c hl hk
 obtain⟨hg,hok,h6⟩:=bQ hk
 have hlf:=fun i j hij hj=>xM s hg c hok h6 i j hij hj
 have hle:=fun i j (hij:i≤j) (hj:j≤c.length)=>nT hg hok hij hj
 have hlt:=uN hb
 have hup:=qI hb
 have hps:=qH hb hn
 unfold cQ at he
 have hcl:(c.map bB).length=c.length:=List.length_map ..
 have hpl:(p.map aj).length=p.length:=List.length_map ..
 have hz':(decide (((c.map bB).length:Int)=0) != decide (((p.map aj).length:Int)=0))=false:=by
  rw[hcl,hpl, ←hz];congr 1<;>rw[decide_eq_decide]<;>omega
 have hwc:=fun x l m hm=>ph (s:=s) (c:=c) (x:=x) (l:=l) (m:=m) hm
 have hH:dN 0 (s.whiteI c p)=dN 0 (s.whiteI c (p.drop 0)):=rfl
 have hw0:s.whiteI c []=some 0:=rfl
 generalize dN 0 (s.whiteI c p)=R at *
 generalize s.whiteI c=W at *
 generalize s.left c=L at *
 clear hb hn hz hok hg
 have hp0:0<p.length:=(List.getElem?_eq_some_iff.1 hy0).1
 refine ag ao { l:=0,f:=25,mat:=[71]} mixed lg Tryz.func25 (by kernel_rfl) ?_
 conv=>whnf
 refine⟨[],?_⟩
 conv=>whnf
 refine⟨_,_,he,?_⟩
 conv=>whnf
 repeat(any_goals(first|exact ab|(refine ap ?_ ?_<;>intro _<;>first|exact aq|conv=>whnf)|((first|refine⟨.bool false,n8 _ _ hz',?_⟩|refine ae hy0 rfl ?_|refine ac ?_|refine bi ?_ ?_|intro _)<;>conv=>whnf)))
 refine aO ao { l:=0,f:=25} mixed (fun i:Nat=>[(44,aj i),(6,aj 0)]) (fun _=>[]) (fun _=>[]) (fun i=>i≤p.length) (fun i=>p.length-i) 0 (by kernel_rfl)
  (Nat.zero_le _) ?_
 conv=>whnf
 refine⟨⟨ai rfl (ai rfl trivial),trivial,trivial⟩,?_⟩
 intro i hi
 conv=>whnf
 refine bH (fun h1=>?_) (fun h1=>?_)
 ·simp only[List.length_map]at h1
  obtain⟨x,hx,hd⟩:=ay (l:=p) (i:=i) (by omega)
  have hxl:=hlt i x hx
  clear hd hwc hH hlf hle hps
  cases i with
  | zero =>
   conv=>whnf
   repeat(any_goals(first|exact ab|(refine ap ?_ ?_<;>intro _<;>first|exact aq|conv=>whnf)|((first|refine ae hx rfl ?_|refine ac ?_|refine bi ?_ ?_|intro _)<;>conv=>whnf)))
   (refine⟨1,(by omega),by omega,?_⟩;(conv=>whnf);refine⟨?_,?_,?_⟩<;>repeat(first|exact trivial|refine sc rfl ?_|refine kn ?_|refine kc rfl ?_))
  | succ j =>
   obtain⟨z,hzz⟩:∃z,p[j]?=some z:=⟨_,List.getElem?_eq_getElem (by omega)⟩
   have hzx:=hup j z x hzz hx
   conv=>whnf
   repeat(any_goals(first|exact ab|(refine ap ?_ ?_<;>intro _<;>first|exact aq|conv=>whnf)|((first|refine ae hx rfl ?_|refine ae hzz (by omega) ?_|refine ac ?_|refine bi ?_ ?_|intro _)<;>conv=>whnf)))
   (refine⟨j+1+1,(by omega),by omega,?_⟩;(conv=>whnf);refine⟨?_,?_,?_⟩<;>repeat(first|exact trivial|refine sc rfl ?_|refine kn ?_|refine kc rfl ?_))
 ·conv=>whnf
  simp only[List.length_map]at h1
  have:i=p.length:=by omega
  subst this
  repeat(any_goals(first|exact ab|(refine ap ?_ ?_<;>intro _<;>first|exact aq|conv=>whnf)|((first|refine ac ?_|refine bi ?_ ?_|intro _)<;>conv=>whnf)))
  refine aO ao { l:=0,f:=25} mixed (fun u:FState=>[(69,aj u.i),(6,aj u.acc),(8,.ptr cz 1 5 0 0)]) (fun _=>[]) (fun _=>[]) (fun u=>u.i≤p.length∧(0≤u.acc∧u.acc≤900 * (u.i:Int))∧R=dN u.acc (W (p.drop u.i))) (fun u=>p.length-u.i) (⟨0,0⟩:FState) (by kernel_rfl)
   ⟨Nat.zero_le _,⟨by decide,by decide⟩,hH⟩ ?_
  conv=>whnf
  refine⟨⟨ai rfl (ai rfl (ai rfl trivial)),trivial,trivial⟩,?_⟩
  clear hH
  rintro u ⟨hi,⟨ha1,ha2⟩,H⟩
  generalize u.i=i at *
  generalize u.acc=acc at *
  clear u
  conv=>whnf
  refine bH (fun h1=>?_) (fun h1=>?_)
  ·simp only[List.length_map]at h1
   obtain⟨x,hx,hd⟩:=ay (l:=p) (i:=i) (by omega)
   rw[hd]at H
   have hxl:=hlt i x hx
   have hx0:=hps i x hx
   obtain⟨n,rfl⟩:=Int.eq_ofNat_of_zero_le hx0
   by_cases hlast:i+1<p.length
   ·obtain⟨y2,hy2⟩:∃y,p[i+1]?=some y:=⟨_,List.getElem?_eq_getElem hlast⟩
    have hyl:=hlt (i+1) y2 hy2
    have hyu:=hup i _ y2 hx hy2
    obtain⟨m,rfl⟩:=Int.eq_ofNat_of_zero_le (hps (i+1) y2 hy2)
    have hem:bV c ((p.drop (i+1)).map Int.toNat)=m:=by
     obtain⟨z,hz1,hz2⟩:=ay (l:=p) (i:=i+1) hlast
     rw[hy2]at hz1;cases hz1
     rw[hz2];rfl
    rw[hwc _ _ m hem,Int.toNat_natCast,if_pos (show m<c.length by omega)]at H
    have hlf':=hlf n m (by omega) (by omega)
    have hle':=hle n m (by omega) (by omega)
    generalize L n m=x0 at *
    clear hlf hle hwc hem hd
    by_cases q:x0<0
    ·rw[if_pos q]at H
     conv=>whnf
     repeat(any_goals(first|exact ab|(refine ap ?_ ?_<;>intro _<;>first|exact aq|conv=>whnf)|((first|refine ae hx rfl ?_|refine ae hy2 (by omega) ?_|refine af hlf' rfl ?_|refine ac ?_|refine bi ?_ ?_|intro _)<;>conv=>whnf)))
     (refine⟨⟨?_⟩,trivial⟩;rw[H];rfl)
    ·rw[if_neg q,pe]at H
     have hq:=KY (by omega:0≤x0) hle'
     conv=>whnf
     repeat(any_goals(first|exact ab|(refine ap ?_ ?_<;>intro _<;>first|exact aq|conv=>whnf)|((first|refine ae hx rfl ?_|refine ae hy2 (by omega) ?_|refine af hlf' rfl ?_|refine ac ?_|refine bi ?_ ?_|intro _)<;>conv=>whnf)))
     all_goals(refine⟨⟨i+1,acc+x0 * x0⟩,⟨by show i+1≤_;omega,⟨by show 0≤acc+x0 * x0;omega,by show acc+x0 * x0≤900 * ((i+1:Nat):Int);omega⟩,H⟩,(by show _-(i+1)<_-i;omega),?_⟩;(conv=>whnf);refine⟨?_,?_,?_⟩<;>repeat(first|exact trivial|refine sc rfl ?_|refine kn ?_|refine kc rfl ?_))
   ·have hil:i+1=p.length:=by omega
    have hem:bV c ((p.drop (i+1)).map Int.toNat)=c.length:=by rw[hil,List.drop_length];rfl
    rw[hwc _ _ c.length hem,Int.toNat_natCast,if_neg (Nat.lt_irrefl c.length)]at H
    have hlf':PureA Tryz.prog 72 [dp s,aJ c,aj n,aj ((c.map bB).length:Int)] (aj (L n c.length)):=by rw[hcl];exact hlf n c.length (by omega) (Nat.le_refl _)
    generalize L n c.length=x0 at *
    clear hlf hle hwc hem hd
    by_cases q:x0<0
    ·rw[if_pos q]at H
     conv=>whnf
     repeat(any_goals(first|exact ab|(refine ap ?_ ?_<;>intro _<;>first|exact aq|conv=>whnf)|((first|refine ae hx rfl ?_|refine af hlf' rfl ?_|refine ac ?_|refine bi ?_ ?_|intro _)<;>conv=>whnf)))
     (refine⟨⟨?_⟩,trivial⟩;rw[H];rfl)
    ·rw[if_neg q,pe,Int.add_zero]at H
     conv=>whnf
     repeat(any_goals(first|exact ab|(refine ap ?_ ?_<;>intro _<;>first|exact aq|conv=>whnf)|((first|refine ae hx rfl ?_|refine af hlf' rfl ?_|refine ac ?_|refine bi ?_ ?_|intro _)<;>conv=>whnf)))
     all_goals(refine⟨⟨i+1,acc⟩,⟨by show i+1≤_;omega,⟨ha1,by show acc≤900 * ((i+1:Nat):Int);omega⟩,H⟩,(by show _-(i+1)<_-i;omega),?_⟩;(conv=>whnf);refine⟨?_,?_,?_⟩<;>repeat(first|exact trivial|refine sc rfl ?_|refine kn ?_|refine kc rfl ?_))
  ·conv=>whnf
   simp only[List.length_map]at h1
   have:i=p.length:=by omega
   subst this
   rw[List.drop_length,hw0]at H
   simp only[dN,Int.add_zero]at H
   (refine⟨⟨?_⟩,trivial⟩;rw[H];rfl)
theorem Ix(s:Bill)(hr:s.small)(hk:bZ s []=0):PureA Tryz.prog 25 [aI s,aJ [],aD []] (.tuple [aj 0,aj 0]):=by
 have he:=ea s hr [] (by simp) hk
 unfold cQ at he
 refine ag ao { l:=0,f:=25,mat:=[71]} mixed lg Tryz.func25 (by kernel_rfl) ?_
 conv=>whnf
 refine⟨[],?_⟩
 conv=>whnf
 refine⟨_,_,he,?_⟩
 conv=>whnf
 repeat(any_goals(first|exact ab|(refine ap ?_ ?_<;>intro _<;>first|exact aq|conv=>whnf)|((first|refine⟨.bool false,n8 _ _ rfl,?_⟩|refine ac ?_|refine bi ?_ ?_|intro _)<;>conv=>whnf)))
 refine aO ao { l:=0,f:=25} mixed (fun i:Nat=>[(44,aj i),(6,aj 0)]) (fun _=>[]) (fun _=>[]) (fun i=>i=0) (fun i=>i) 0 (by kernel_rfl)
  rfl ?_
 conv=>whnf
 refine⟨⟨ai rfl (ai rfl trivial),trivial,trivial⟩,?_⟩
 intro i hi
 subst hi
 conv=>whnf
 repeat(any_goals(first|exact ab|(refine ap ?_ ?_<;>intro _<;>first|exact aq|conv=>whnf)|((first|refine ac ?_|refine bi ?_ ?_|intro _)<;>conv=>whnf)))
 refine aO ao { l:=0,f:=25} mixed (fun i:Nat=>[(69,aj i),(6,aj 0),(8,.ptr cz 1 5 0 0)]) (fun _=>[]) (fun _=>[]) (fun i=>i=0) (fun i=>i) 0 (by kernel_rfl)
  rfl ?_
 conv=>whnf
 refine⟨⟨ai rfl (ai rfl (ai rfl trivial)),trivial,trivial⟩,?_⟩
 intro i hi
 subst hi
 conv=>whnf
 repeat(any_goals(first|exact ab|(refine ap ?_ ?_<;>intro _<;>first|exact aq|conv=>whnf)|((first|refine ac ?_|refine bi ?_ ?_|intro _)<;>conv=>whnf)))
 (refine⟨⟨?_⟩,trivial⟩;rfl)
theorem gP(s:Bill)(hr:s.small)(c:List Ent)(hl:c.length≤1048576)(p:List Int)(hp:p.length≤1048576) :
  PureA Tryz.prog 25 [aI s,aJ c,aD p] (.tuple [aj (s.fitsR c p).1,aj (s.fitsR c p).2]):=by
 unfold Bill.fitsR
 by_cases hk:bZ s c=0
 ·rw[hk,if_neg (by simp)]
  by_cases hb:((decide (c.length=0) != decide (p.length=0))||fQ p)=true
  ·rw[if_pos (by unfold dG;rw[←Bool.or_assoc,hb,Bool.true_or])]
   exact E6 s hr c hl p hp hk hb
  ·rw[Bool.not_eq_true,Bool.or_eq_false_iff]at hb
   obtain⟨hz,hn⟩:=hb
   unfold dG
   rw[hz,hn,Bool.false_or,Bool.false_or]
   cases hb:nu c.length none p with
   | true=>exact E7 s hr c hl p hp hk hz hn hb
   | false =>
    rw[if_neg (by simp)]
    cases p with
    | nil =>
     have:c=[]:=by
      cases c with
      | nil=>rfl
      | cons z c=>simp at hz
     subst this
     exact Ix s hr hk
    | cons y p=>exact Iz s hr c hl (y::p) hp hk y rfl (by simpa[fQ]using hn) hz hn hb
 ·rw[if_pos hk]
  exact Iy s hr c hl p _ rfl hk
end Go.Proofs.YtgncapdjheghfaaGreatDoor
namespace Go.Proofs.YtgncapdjheghfaaGreatDoor
open Go.Am Go.Proofs Go
theorem iL(s:Bill)(hr:s.small)(c:List Ent):PureA Tryz.prog 73 [aI s,aJ c] (aj (bZ s c)):=by
 have hk:=lT s hr
 unfold bZ D8 at *
 obtain⟨⟨p,a,e⟩,hck⟩:∃v,s.check=v:=⟨_,rfl⟩
 rw[hck]at hk ⊢
 simp only at hk ⊢
 unfold aI at hk
 by_cases h0:e=0
 ·rw[if_neg (fun h=>h h0)]
  have hg:s.Good:=Bill.good (by rw[hck];exact h0)
  have hv:=zO s hg c
  rw[xf hg]at hv
  generalize s.holds c=B at *
  subst h0
  unfold aI at hv
  clear hg
  cases B
  all_goals
   refine ag ao { l:=0,f:=73} mixed A3 Tryz.func73 (by kernel_rfl) ?_
   conv=>whnf
  all_goals repeat(any_goals(first|exact ab|(refine ap ?_ ?_<;>intro _<;>first|exact aq|conv=>whnf)|((first|refine aa hk ?_|refine af hk rfl ?_|refine aa hv ?_|refine af hv rfl ?_|refine ac ?_|refine bi ?_ ?_|intro _)<;>conv=>whnf)))
  all_goals(refine⟨⟨?_⟩,trivial⟩;rfl)
 ·rw[if_pos h0]
  refine ag ao { l:=0,f:=73} mixed A3 Tryz.func73 (by kernel_rfl) ?_
  conv=>whnf
  repeat(any_goals(first|exact ab|(refine ap ?_ ?_<;>intro _<;>first|exact aq|conv=>whnf)|((first|refine aa hk ?_|refine af hk rfl ?_|refine ac ?_|refine bi ?_ ?_|intro _)<;>conv=>whnf)))
  (refine⟨⟨?_⟩,trivial⟩;rfl)
theorem oK(s:Bill)(x:Ent)(ha:0≤x.a∧x.a≤(s.figs.length:Int)-1):PureA Tryz.prog 116 [aI s,bB x] (aj (s.roomAt x.a)):=by
 obtain⟨f,hf,hfr,_⟩:=nG ha
 rw[hfr]
 obtain⟨sy,a,b⟩:=x
 simp only at ha hf
 have hfl:(s.figs.map dS).length=s.figs.length:=List.length_map ..
 refine ag ao { l:=0,f:=116} mixed ED Tryz.func116 (by kernel_rfl) ?_
 conv=>whnf
 repeat(any_goals(first|exact ab|(refine ap ?_ ?_<;>intro _<;>first|exact aq|conv=>whnf)|((first|refine ae hf (by show a=_;omega) ?_|refine ac ?_|refine bi ?_ ?_|intro _)<;>conv=>whnf)))
 (refine⟨⟨?_⟩,trivial⟩;rfl)
theorem wS(s:Bill)(hg:s.Good)(x:Ent)(hx:s.In x):PureA Tryz.prog 128 [aI s,bB x] (aj (s.height x)):=by
 obtain⟨_,ha,hb⟩:=hx
 obtain⟨f,hf,_,hfh⟩:=nG ha
 obtain⟨g,hf2,_,hgh⟩:=nG hb
 have b1:=(hg.figs f (List.mem_of_getElem? hf)).2.2
 have b2:=(hg.figs g (List.mem_of_getElem? hf2)).2.2
 unfold Bill.height
 rw[hfh,hgh]
 obtain⟨sy,a,b⟩:=x
 simp only at ha hb hf hf2 ⊢
 have hfl:(s.figs.map dS).length=s.figs.length:=List.length_map ..
 clear hg
 by_cases q:sy=1
 ·rw[if_pos q]
  refine ag ao { l:=0,f:=128} mixed xx Tryz.func128 (by kernel_rfl) ?_
  conv=>whnf
  repeat(any_goals(first|exact ab|(refine ap ?_ ?_<;>intro _<;>first|exact aq|conv=>whnf)|((first|refine ae hf (by show a=_;omega) ?_|refine ae hf2 (by show b=_;omega) ?_|refine ac ?_|refine bi ?_ ?_|intro _)<;>conv=>whnf)))
  all_goals(try(exact absurd q (by assumption)))
  (refine⟨⟨?_⟩,trivial⟩;rfl)
 ·rw[if_neg q,Int.add_zero]
  refine ag ao { l:=0,f:=128} mixed xx Tryz.func128 (by kernel_rfl) ?_
  conv=>whnf
  repeat(any_goals(first|exact ab|(refine ap ?_ ?_<;>intro _<;>first|exact aq|conv=>whnf)|((first|refine ae hf (by show a=_;omega) ?_|refine ae hf2 (by show b=_;omega) ?_|refine ac ?_|refine bi ?_ ?_|intro _)<;>conv=>whnf)))
  all_goals(try(exact absurd (by assumption) q))
  (refine⟨⟨?_⟩,trivial⟩;rfl)
theorem mE(s:Bill)(c:List Ent)(hc:∀x∈c,s.In x)(h6:c.length≤6)(i:Nat)(hi:i<c.length)(top:Bool):PureA Tryz.prog 115 [aI s,aJ c,aj i,aB top] (aj (s.heading c i top)):=by
 obtain⟨x,hx⟩:∃x,c[i]?=some x:=⟨_,List.getElem?_eq_getElem hi⟩
 have hrx:=oK s x (hc x (List.mem_of_getElem? hx)).2.1
 unfold Bill.heading
 rw[hx]
 simp only
 unfold aI at hrx
 cases i with
 | zero =>
  refine ag ao { l:=0,f:=115} mixed qP Tryz.func115 (by kernel_rfl) ?_
  conv=>whnf
  repeat(any_goals(first|exact ab|(refine ap ?_ ?_<;>intro _<;>first|exact aq|conv=>whnf)|((first|refine ac ?_|refine bi ?_ ?_|intro _)<;>conv=>whnf)))
  (refine⟨⟨?_⟩,trivial⟩;rfl)
 | succ k =>
  obtain⟨y,hy⟩:∃y,c[k]?=some y:=⟨_,List.getElem?_eq_getElem (by omega)⟩
  have hry:=oK s y (hc y (List.mem_of_getElem? hy)).2.1
  unfold aI at hry
  rw[if_neg (by omega),Nat.add_sub_cancel,hy]
  simp only
  generalize s.roomAt x.a=p at *
  generalize s.roomAt y.a=q at *
  by_cases e:p=q
  ·rw[if_neg (fun h=>h e)]
   cases top
   all_goals
    refine ag ao { l:=0,f:=115} mixed qP Tryz.func115 (by kernel_rfl) ?_
    conv=>whnf
   all_goals repeat(any_goals(first|exact ab|(refine ap ?_ ?_<;>intro _<;>first|exact aq|conv=>whnf)|((first|refine ae hx rfl ?_|refine ae hy (by omega) ?_|refine aa hrx ?_|refine af hrx rfl ?_|refine aa hry ?_|refine af hry rfl ?_|refine ac ?_|refine bi ?_ ?_|intro _)<;>conv=>whnf)))
   all_goals(refine⟨⟨?_⟩,trivial⟩;rfl)
  ·rw[if_pos e]
   refine ag ao { l:=0,f:=115} mixed qP Tryz.func115 (by kernel_rfl) ?_
   conv=>whnf
   repeat(any_goals(first|exact ab|(refine ap ?_ ?_<;>intro _<;>first|exact aq|conv=>whnf)|((first|refine ae hx rfl ?_|refine ae hy (by omega) ?_|refine aa hrx ?_|refine af hrx rfl ?_|refine aa hry ?_|refine af hry rfl ?_|refine ac ?_|refine bi ?_ ?_|intro _)<;>conv=>whnf)))
   (refine⟨⟨?_⟩,trivial⟩;rfl)
end Go.Proofs.YtgncapdjheghfaaGreatDoor
namespace Go.Proofs.YtgncapdjheghfaaGreatDoor
open Go.Am Go.Proofs Go
theorem Ku(s:Bill)(hr:s.small)(c:List Ent)(hl:c.length≤1048576)(e:Int)(hk:bZ s c=e)(h0:e≠0) :
  PureA Tryz.prog 30 [aI s,aJ c] (.tuple [aj 0,aj e]):=by
 have he:=jU s hr c hl e hk h0
 refine ag ao { l:=0,f:=30,mat:=[71]} mixed AX Tryz.func30 (by kernel_rfl) ?_
 conv=>whnf
 refine⟨[],?_⟩
 conv=>whnf
 refine⟨_,_,he,?_⟩
 conv=>whnf
 repeat(any_goals(first|exact ab|(refine ap ?_ ?_<;>intro _<;>first|exact aq|conv=>whnf)|((first|refine ac ?_|refine bi ?_ ?_|intro _)<;>conv=>whnf)))
 (refine⟨⟨?_⟩,trivial⟩;rfl)
structure WState where
 at':Nat
 many:Nat
theorem vC(s:Bill)(c:List Ent)(i f j:Nat):s.fullTo c i (f+1) j=if j<c.length∧0≤s.left c i (j+1)then s.fullTo c i f (j+1)else j:=rfl
set_option maxHeartbeats 2000000 in
theorem Kv(s:Bill)(hr:s.small)(c:List Ent)(hl:c.length≤1048576)(hk:bZ s c=0) :
  PureA Tryz.prog 30 [aI s,aJ c] (.tuple [aj (s.few c),aj 0]):=by
 have he:=ea s hr c hl hk
 obtain⟨hg,hok,h6⟩:=bQ hk
 have hlf:=fun i j hij hj=>xM s hg c hok h6 i j hij hj
 unfold cQ at he
 have hcl:(c.map bB).length=c.length:=List.length_map ..
 have hst:∀i,i<c.length→s.fullN c c.length i=s.fullN c c.length (s.full c i)+1:=by
  intro i hi
  have h:=dX s c (c.length-1) i hi
  rw[show c.length-1+1=c.length by omega]at h
  rw[h]
  congr 1
  have:=(eg hg hok hi).1
  exact pI hg hok _ _ _ (by omega) (by omega)
 have hfs:∀i,i<c.length→i<s.full c i∧s.full c i≤c.length:=fun i hi=>by
  have:=eg hg hok hi
  omega
 have hen:=fun i=>ef s c c.length i
 have hft:=vC s c
 have hf0:∀i j,s.fullTo c i 0 j=j:=fun _ _=>rfl
 have hfu:∀i,s.full c i=s.fullTo c i c.length (i+1):=fun _=>rfl
 have hfe:s.few c=0+s.fullN c c.length 0:=(Nat.zero_add _).symm
 generalize s.few c=R at *
 generalize s.fullN c c.length=F at *
 generalize s.fullTo c=G at *
 generalize s.full c=E at *
 generalize s.left c=L at *
 clear hg hok
 refine ag ao { l:=0,f:=30,mat:=[71]} mixed AX Tryz.func30 (by kernel_rfl) ?_
 conv=>whnf
 refine⟨[],?_⟩
 conv=>whnf
 refine⟨_,_,he,?_⟩
 conv=>whnf
 repeat(any_goals(first|exact ab|(refine ap ?_ ?_<;>intro _<;>first|exact aq|conv=>whnf)|((first|refine ac ?_|refine bi ?_ ?_|intro _)<;>conv=>whnf)))
 refine aO ao { l:=0,f:=30} mixed (fun u:WState=>[(7,aj u.at'),(4,aj u.many),(6,.ptr cz 1 5 0 0)]) (fun _=>[]) (fun _=>[]) (fun u=>(u.at'≤c.length∧u.many≤u.at')∧R=u.many+F u.at') (fun u=>c.length-u.at') (⟨0,0⟩:WState) (by kernel_rfl)
  ⟨⟨Nat.zero_le _,Nat.le_refl _⟩,hfe⟩ ?_
 conv=>whnf
 refine⟨⟨ai rfl (ai rfl (ai rfl trivial)),trivial,trivial⟩,?_⟩
 clear hfe
 rintro u ⟨⟨hi,hm⟩,H⟩
 generalize u.at'=i at *
 generalize u.many=m at *
 clear u
 conv=>whnf
 refine bH (fun h1=>?_) (fun h1=>?_)
 ·rw[hcl]at h1
  have hil:i<c.length:=by omega
  rw[hst i hil]at H
  obtain⟨f1,f2⟩:=hfs i hil
  conv=>whnf
  repeat(any_goals(first|exact ab|(refine ap ?_ ?_<;>intro _<;>first|exact aq|conv=>whnf)|((first|refine ac ?_|refine bi ?_ ?_|intro _)<;>conv=>whnf)))
  refine aO ao { l:=0,f:=30} mixed (fun j:Nat=>[(8,aj j),(6,.ptr cz 1 5 0 0)]) (fun _=>[]) (fun _=>[]) (fun j=>(i<j∧j≤c.length)∧∃f,c.length≤j+f∧E i=G i f j) (fun j=>c.length-j) (i+1) (by kernel_rfl)
   ⟨⟨by omega,by omega⟩,c.length,by omega,hfu i⟩ ?_
  conv=>whnf
  refine⟨⟨ai rfl (ai rfl trivial),trivial,trivial⟩,?_⟩
  rintro j ⟨⟨hij,hj⟩,f,hf,K⟩
  by_cases hjl:j<c.length
  ·obtain⟨f,rfl⟩:∃g,f=g+1:=⟨f-1,by omega⟩
   rw[hft]at K
   have hlf':PureA Tryz.prog 72 [dp s,aJ c,aj i,aj ((j:Int)+1)] (aj (L i (j+1))):=by
    have:=hlf i (j+1) (by omega) (by omega)
    rwa [show(((j+1:Nat)):Int)=(j:Int)+1 by omega]at this
   generalize L i (j+1)=y at *
   clear hlf hft hf0 hfu hen hst hfs
   by_cases q:0≤y
   ·rw[if_pos ⟨hjl,q⟩]at K
    conv=>whnf
    repeat(any_goals(first|exact ab|(refine ap ?_ ?_<;>intro _<;>first|exact aq|conv=>whnf)|((first|refine af hlf' rfl ?_|refine ac ?_|refine bi ?_ ?_|intro _)<;>conv=>whnf)))
    (refine⟨j+1,⟨⟨by omega,by omega⟩,f,by omega,K⟩,by omega,?_⟩;(conv=>whnf);refine⟨?_,?_,?_⟩<;>repeat(first|exact trivial|refine sc rfl ?_|refine kn ?_|refine kc rfl ?_))
   ·rw[if_neg (fun h=>q h.2)]at K
    subst K
    conv=>whnf
    repeat(any_goals(first|exact ab|(refine ap ?_ ?_<;>intro _<;>first|exact aq|conv=>whnf)|((first|refine af hlf' rfl ?_|refine ac ?_|refine bi ?_ ?_|intro _)<;>conv=>whnf)))
    (refine⟨⟨E i,m+1⟩,⟨⟨by show E i≤_;omega,by show m+1≤E i;omega⟩,by rw[H];show m+(F (E i)+1)=m+1+F (E i);omega⟩,(by show _-E i<_;omega),?_⟩;(conv=>whnf);refine⟨?_,?_,?_⟩<;>repeat(first|exact trivial|refine sc rfl ?_|refine kn ?_|refine kc rfl ?_))
  ·have hjc:j=c.length:=by omega
   have K2:E i=j:=by
    cases f with
    | zero=>rw[K,hf0]
    | succ f=>rw[K,hft,if_neg (fun h=>hjl h.1)]
   obtain rfl:j=E i:=K2.symm
   clear hlf hft hf0 hfu hen hst hfs
   conv=>whnf
   repeat(any_goals(first|exact ab|(refine ap ?_ ?_<;>intro _<;>first|exact aq|conv=>whnf)|((first|refine ac ?_|refine bi ?_ ?_|intro _)<;>conv=>whnf)))
   (refine⟨⟨E i,m+1⟩,⟨⟨by show E i≤_;omega,by show m+1≤E i;omega⟩,by rw[H];show m+(F (E i)+1)=m+1+F (E i);omega⟩,(by show _-E i<_;omega),?_⟩;(conv=>whnf);refine⟨?_,?_,?_⟩<;>repeat(first|exact trivial|refine sc rfl ?_|refine kn ?_|refine kc rfl ?_))
 ·rw[hcl]at h1
  rw[hen i (by omega),Nat.add_zero]at H
  subst H
  conv=>whnf
  (refine⟨⟨?_⟩,trivial⟩;rfl)
theorem m7(s:Bill)(hr:s.small)(c:List Ent)(hl:c.length≤1048576):PureA Tryz.prog 30 [aI s,aJ c] (.tuple [aj (s.fewR c).1,aj (s.fewR c).2]):=by
 unfold Bill.fewR
 by_cases hk:bZ s c=0
 ·rw[hk,if_neg (by simp)]
  exact Kv s hr c hl hk
 ·rw[if_pos hk]
  exact Ku s hr c hl _ rfl hk
end Go.Proofs.YtgncapdjheghfaaGreatDoor
namespace Go.Proofs.YtgncapdjheghfaaGreatDoor
open Go.Am Go.Proofs Go
structure Rec where
 g:Nat
 a:Code
 b:Code
 l:List AV
def Rec.box(r:Rec)(kl:Key)(ps:Array Tmp)(done:Bool):cr:=match done with
 | false=>(kl,r.g,0,[.lp .ready none ps r.a r.b r.l])
 | true=>(kl,r.g,0,[.lp .done (some .ret) ps r.a r.b r.l])
def kLb:Key:=({ l:=0,f:=22}:Cx).loopKey #[20]
def kB1:Key:=⟨0,22,1⟩
def kB2:Key:=⟨0,22,2⟩
def kB3:Key:=⟨0,22,3⟩
def kMk:Key:=⟨0,22,42⟩
def kT:Key:=⟨0,69,1⟩
def kY:Key:=⟨0,99,2⟩
def kA:Key:=⟨0,99,3⟩
def kCc:Key:=⟨0,99,4⟩
def kN:Key:=⟨0,99,5⟩
def kC:Key:=⟨0,100,63⟩
inductive CSt where
 | nil
 | own (g:Nat) (ee:List Ent) (n:Nat)
def CSt.av:CSt→AV
 | .nil=> .slice 0 [] .tight
 | .own g _ n=> .own kC g 3 n 0
def CSt.rows:CSt→List cr
 | .nil=>[]
 | .own g ee _=>[(kC,g,3,ee.map bB)]
def CSt.list:CSt→List Ent
 | .nil=>[]
 | .own _ ee n=>ee.take n
def CSt.ok(k:Nat):CSt→Prop
 | .nil=>True
 | .own _ ee n=>n≤ee.length∧n≤k
def CSt.push(x:Ent):CSt→CSt
 | .nil=> .own 1 [x] 1
 | .own g ee n=> .own (g+1) (ee.take n++[x]) (n+1)
def CSt.pop:CSt→CSt
 | .nil=> .nil
 | .own g ee n=> .own g ee (n-1)
structure NSt where
 c:CSt
 G:Nat
 o:Option (List Ent×Int)
def J7(G:Nat):Option (List Ent×Int)→AV
 | none=> .slice 0 [] .tight
 | some (b,_)=> .own kMk G 3 b.length 0
def leastOf:Option (List Ent×Int)→Int
 | none=> -1
 | some (_,n)=>n
def B8(G:Nat):Option (List Ent×Int)→List cr
 | none=>[]
 | some (b,_)=>[(kMk,G,3,b.map bB)]
def IM:AV:= .func (.func 100) [] [.ptr kY 1 1 0 0,.ptr kCc 1 1 0 0,.ptr kN 1 1 0 0,.ptr kA 1 6 0 0,.ptr kT 1 1 0 0]
def yR(s:Bill)(r:Rec)(t:NSt):List cr :=
 [r.box kLb #[20] false,(kB1,1,3,[aI s]),(kB2,1,1,[J7 t.G t.o]),(kB3,1,1,[aj (leastOf t.o)]),cQ s,(kT,1,1,[.ptr cz 1 5 0 0])]
def eC(s:Bill)(r:Rec)(t:NSt):List cr:=yR s r t++(t.c.rows++B8 t.G t.o)
def ba(s:Bill)(r:Rec)(t:NSt):List cr :=
 yR s r t++((kY,1,1,[.yld kLb r.g])::(kA,1,6,[.agg gn])::(kCc,1,1,[t.c.av])::(kN,1,1,[IM])::(t.c.rows++B8 t.G t.o))
def jF(o:Option (List Ent×Int))(c:List Ent):Option (List Ent×Int):=match o with
 | none=>some (c,(dZ c:Int))
 | some (b,n)=>if(dZ c:Int)<n then some (c,(dZ c:Int))else some (b,n)
def Fl(o:Option (List Ent×Int))(c:List Ent):Bool:=match o with
 | none=>true
 | some (_,n)=>decide ((dZ c:Int)<n)
def NSt.yieldM(t:NSt):NSt:=⟨t.c,if Fl t.o t.c.list=true then t.G+1 else t.G,jF t.o t.c.list⟩
def Bill.nextM(s:Bill):Nat→Nat→Nat→NSt→NSt
 | 0,_,_,t=>t.yieldM
 | f+1,a,left,t=>if left=0 then t.yieldM else if left.testBit a=false then s.nextM f (a+1) left t
  else(s.tries a).foldl (fun t x=>if s.fitsIn left x=true then(let u:=s.nextM f (a+1) (bc left x.named) ⟨t.c.push x,t.G,t.o⟩;⟨u.c.pop,u.G,u.o⟩)else t) t
def Bill.takeM(s:Bill)(f a left:Nat)(t:NSt)(x:Ent):NSt :=
 if s.fitsIn left x=true then(let u:=s.nextM f (a+1) (bc left x.named) ⟨t.c.push x,t.G,t.o⟩;⟨u.c.pop,u.G,u.o⟩)else t
theorem fP(s:Bill)(f a left:Nat)(t:NSt):s.nextM (f+1) a left t=if left=0 then t.yieldM else if left.testBit a=false then s.nextM f (a+1) left t else(s.tries a).foldl (s.takeM f a left) t:=rfl
theorem I4{c:CSt}{k:Nat}(x:Ent)(h:c.ok k):∃g ee n,c.push x = .own g ee (n+1)∧n+1≤ee.length∧n≤k∧ee.take (n+1)=c.list++[x]:=by
 cases c with
 | nil=>exact⟨1,[x],0,rfl,by simp,Nat.zero_le _,rfl⟩
 | own g ee n =>
  obtain⟨h1,h2⟩:=h
  have hl:(ee.take n).length=n:=by rw[List.length_take];omega
  exact⟨g+1,ee.take n++[x],n,rfl,by simp;omega,h2,by rw[List.take_of_length_le (by simp;omega)];rfl⟩
theorem yh{n:Nat}{F:NSt→Ent→NSt}(h:∀t x,(∃g ee,t.c = .own g ee n∧n≤ee.length)→∃g ee,(F t x).c = .own g ee n∧n≤ee.length∧(F t x).c.list=t.c.list) :
  ∀(l:List Ent) (t:NSt),(∃g ee,t.c = .own g ee n∧n≤ee.length)→∃g ee,(l.foldl F t).c = .own g ee n∧n≤ee.length∧(l.foldl F t).c.list=t.c.list
 | [],t,⟨g,ee,e,hn⟩=>⟨g,ee,e,hn,rfl⟩
 | x::l,t,ht=>by
  obtain⟨g,ee,e,hn,he⟩:=h t x ht
  obtain⟨g2,ee2,e2,hn2,he2⟩:=yh h l (F t x) ⟨g,ee,e,hn⟩
  exact⟨g2,ee2,e2,hn2,he2.trans he⟩
theorem dD(s:Bill):∀(f a left n:Nat) (t:NSt),(∃g ee,t.c = .own g ee n∧n≤ee.length)→∃g ee,(s.nextM f a left t).c = .own g ee n∧n≤ee.length∧(s.nextM f a left t).c.list=t.c.list
 | 0,_,_,n,t,⟨g,ee,e,hn⟩=>⟨g,ee,e,hn,rfl⟩
 | f+1,a,left,n,t,ht=>by
  obtain⟨g,ee,e,hn⟩:=id ht
  rw[fP]
  split
  ·exact⟨g,ee,e,hn,rfl⟩
  ·split
   ·exact dD s f _ _ n t ht
   ·refine yh ?_ _ t ht
    rintro t x ⟨g,ee,e,hn⟩
    unfold Bill.takeM
    split
    ·have hl:(ee.take n).length=n:=by rw[List.length_take];omega
     obtain⟨g2,ee2,e2,hn2,he2⟩:=dD s f (a+1) (bc left x.named) (n+1) ⟨t.c.push x,t.G,t.o⟩ ⟨g+1,ee.take n++[x],by rw[e];rfl,by simp;omega⟩
     refine⟨g2,ee2,by simp only[e2];rfl,by omega,?_⟩
     rw[e2,e]at he2
     simp only[CSt.list,CSt.push]at he2
     rw[List.take_of_length_le (show(ee.take n++[x]).length≤n+1 by simp;omega)]at he2
     have h3:=congrArg (List.take n) he2
     rw[List.take_take,Nat.min_eq_left (by omega),List.take_append_of_le_length (by omega),List.take_take,Nat.min_self]at h3
     show(s.nextM f (a+1) (bc left x.named) ⟨t.c.push x,t.G,t.o⟩).c.pop.list=t.c.list
     rw[e2,e]
     show ee2.take (n+1-1)=ee.take n
     rw[Nat.add_sub_cancel]
     exact h3
    ·exact⟨g,ee,e,hn,rfl⟩
theorem eD:∀(l m:List (List Ent)) (o:Option (List Ent×Int)),dg o (l++m)=dg (dg o l) m
 | [],m,o=>by cases o<;>rfl
 | c::l,m,none=>eD l m _
 | c::l,m,some (b,n)=>by
  show(if _ then _ else _)=dg (if _ then _ else _) m
  split
  ·exact eD l m _
  ·exact eD l m _
theorem py(o:Option (List Ent×Int))(c:List Ent):dg o [c]=jF o c:=by
 cases o with
 | none=>rfl
 | some q=>obtain⟨b,n⟩:=q;show(if _ then _ else _)=if _ then _ else _;split<;>rfl
theorem yx(o:Option (List Ent×Int)):dg o []=o:=by cases o<;>rfl
theorem lD(s:Bill):∀(f a left k:Nat) (t:NSt),t.c.ok k→(f=0→left=0)→(∀f',f'<f→True)→(6≤a+f∧xh a left∧left<64) →
  (s.nextM f a left t).o=dg t.o ((s.catsN f a left).map (t.c.list++ ·))∧(s.nextM f a left t).c.list=t.c.list
 | 0,a,left,k,t,_,h0,_,_=>by
  have:s.catsN 0 a left=[[]]:=by show(if left=0 then _ else _)=_;rw[if_pos (h0 rfl)]
  rw[this]
  refine⟨?_,rfl⟩
  show jF t.o t.c.list=dg t.o [t.c.list++[]]
  rw[List.append_nil,py]
 | f+1,a,left,k,t,hk,_,_,⟨h6,hF,hlt⟩=>by
  rw[fP]
  show _=dg t.o ((if left=0 then [[]]else if left.testBit a=false then s.catsN f (a+1) left
   else((s.tries a).filter (s.fitsIn left)).flatMap fun x=>(s.catsN f (a+1) (bc left x.named)).map (x:: ·)).map (t.c.list++ ·))∧_
  split
  ·refine⟨?_,rfl⟩
   show jF t.o t.c.list=dg t.o [t.c.list++[]]
   rw[List.append_nil,py]
  ·split
   ·rename_i hne hb
    have hF':=hF.next hb
    refine lD s f (a+1) left k t hk (fun hf=>?_) (fun _ _=>trivial) ⟨by omega,hF',hlt⟩
    exact hF'.zero hlt (by omega)
   ·rename_i hne hb
    have key:∀(l:List Ent) (t:NSt),t.c.ok k→(∀x∈l,x.a=a∧0≤x.b) →
      (l.foldl (s.takeM f a left) t).o=dg t.o (((l.filter (s.fitsIn left)).flatMap fun x=>(s.catsN f (a+1) (bc left x.named)).map (x:: ·)).map (t.c.list++ ·))∧(l.foldl (s.takeM f a left) t).c.list=t.c.list:=by
     intro l
     induction l with
     | nil=>intro t _ _;exact⟨(yx _).symm,rfl⟩
     | cons x l ih =>
      intro t ht hx
      rw[List.foldl_cons]
      by_cases hf:s.fitsIn left x=true
      ·obtain⟨g,ee,n,hp,hn,hnk,he⟩:=I4 x ht
       have hFm:xh (a+1) (bc left x.named):=fun i hi=>by
        rw[cH _ _ _ hlt,Bool.and_eq_true]at hi
        have h1:=hF i hi.1
        rcases Nat.lt_or_ge a i with h|h
        ·exact h
        ·have:i=a:=by omega
         subst this
         have h2:x.named.testBit i=true:=by
          rw[bp,decide_eq_true_eq]
          have:=(hx x (List.mem_cons_self ..)).1
          omega
         rw[h2]at hi;simp at hi
       have hlm:bc left x.named<64:=iF hlt
       obtain⟨s1,s2⟩:=lD s f (a+1) (bc left x.named) (k+1) ⟨t.c.push x,t.G,t.o⟩ (by rw[hp];exact⟨hn,by omega⟩) (fun hf=>hFm.zero hlm (by omega)) (fun _ _=>trivial) ⟨by omega,hFm,hlm⟩
       obtain⟨g2,ee2,e2,hn2,he2⟩:=dD s f (a+1) (bc left x.named) (n+1) ⟨t.c.push x,t.G,t.o⟩ ⟨g,ee,hp,hn⟩
       have hu:s.takeM f a left t x=⟨(s.nextM f (a+1) (bc left x.named) ⟨t.c.push x,t.G,t.o⟩).c.pop,(s.nextM f (a+1) (bc left x.named) ⟨t.c.push x,t.G,t.o⟩).G,(s.nextM f (a+1) (bc left x.named) ⟨t.c.push x,t.G,t.o⟩).o⟩:=by
        unfold Bill.takeM;rw[if_pos hf]
       have hlist:(s.takeM f a left t x).c.list=t.c.list:=by
        rw[hu]
        simp only
        have h3:ee2.take (n+1)=t.c.list++[x]:=by
         have:=he2
         rw[e2]at this
         simp only at this
         rw[hp]at this
         exact this.trans he
        rw[e2]
        show ee2.take (n+1-1)=_
        have h5:t.c.list.length=n:=by
         have:=congrArg List.length h3
         simp at this;omega
        have h4:ee2.take n=t.c.list:=by
         have:=congrArg (List.take n) h3
         rw[List.take_take,show min n (n+1)=n by omega]at this
         rw[this,List.take_append_of_le_length (by omega)]
         exact List.take_of_length_le (by omega)
        rw[Nat.add_sub_cancel]
        exact h4
       have hok':(s.takeM f a left t x).c.ok k:=by
        rw[hu]
        simp only
        rw[e2]
        exact⟨by omega,by omega⟩
       obtain⟨i1,i2⟩:=ih (s.takeM f a left t x) hok' (fun y hy=>hx y (List.mem_cons_of_mem _ hy))
       refine⟨?_,i2.trans hlist⟩
       rw[i1,hlist,List.filter_cons_of_pos hf,List.flatMap_cons,List.map_append,eD]
       congr 1
       rw[hu]
       simp only
       rw[s1]
       have hpl:(t.c.push x).list=t.c.list++[x]:=by rw[hp];exact he
       simp only[hpl,List.map_map]
       congr 1
       apply List.map_congr_left
       intro d _
       simp
      ·have hu:s.takeM f a left t x=t:=by unfold Bill.takeM;rw[if_neg hf]
       rw[hu,List.filter_cons_of_neg hf]
       exact ih t ht (fun y hy=>hx y (List.mem_cons_of_mem _ hy))
    exact key (s.tries a) t hk fun x hx=>by
     obtain⟨_,h2,h3,_⟩:=dM.1 hx
     exact⟨h2,h3⟩
end Go.Proofs.YtgncapdjheghfaaGreatDoor
namespace Go.Proofs.YtgncapdjheghfaaGreatDoor
open Go.Am Go.Proofs Go
theorem Dh{α:Type}{f:α→AV}{g:AV→Option AV}(h:∀a,g (f a)=some (f a)):∀l:List α,tkL g (l.map f)=some (l.map f)
 | []=>rfl
 | x::xs=>by simp only[List.map_cons,tkL,h,Dh h xs]
theorem az(ks:List Key)(l:List Ent):tkL (tk2 ks) (l.map bB)=some (l.map bB):=Dh (f:=bB) (g:=tk2 ks) (fun _=>rfl) l
theorem Di(ks:List Key)(ee:List Ent)(n:Nat)(x:Ent):tkL (tk2 ks) ((ee.map bB).take n++[bB x])=some ((ee.take n++[x]).map bB):=by
 have:=az ks (ee.take n++[x])
 rw[List.map_append,List.map_take]at this
 rw[List.map_append,List.map_take]
 exact this
theorem jJ(t:NSt):∃q,t.yieldM.o=some q:=by
 show∃q,jF t.o t.c.list=some q
 unfold jF
 split
 ·exact⟨_,rfl⟩
 ·split<;>exact⟨_,rfl⟩
set_option maxHeartbeats 4000000 in
theorem Cb(s:Bill)(r:Rec)(a:Nat)(st:NSt)(hl:∀t,fW (aK (eC s r t)) r.l=r.l)
  (hy:BoxA Tryz.prog (.yld kLb r.g) (eC s r st) [st.c.av] (aB true) (eC s r st.yieldM)) :
  BoxA Tryz.prog (.fn 100) (ba s r st) [aj a,aj 0,.ptr kY 1 1 0 0,.ptr kCc 1 1 0 0,.ptr kN 1 1 0 0,.ptr kA 1 6 0 0,.ptr kT 1 1 0 0] (aB true) (ba s r st.yieldM):=by
 have hl2:=hl st.yieldM
 have hl:=hl st
 obtain⟨rg,ra,rb,rl⟩:=r
 have hyy:BoxA Tryz.prog (.yld kLb rg) (eC s ⟨rg,ra,rb,fW (aK (eC s ⟨rg,ra,rb,rl⟩ st)) rl⟩ st) [st.c.av] (aB true) (eC s ⟨rg,ra,rb,rl⟩ st.yieldM):=by
  rw[hl];exact hy
 have hc:st.yieldM.c=st.c:=rfl
 obtain⟨q,hq⟩:=jJ st
 generalize st.yieldM=st2 at *
 obtain⟨c,G,o⟩:=st
 obtain⟨c2,G2,o2⟩:=st2
 simp only at hc hq
 subst hc hq
 clear hy
 cases c2 with
 | nil =>
  cases o with
  | none =>
   refine aN ao { l:=0,f:=100} mixed ff Tryz.func100 (by kernel_rfl) ?_
   conv=>whnf
   repeat(any_goals(first|exact ab|(refine ap ?_ ?_<;>intro _<;>first|exact aq|conv=>whnf)|((first|refine ac ?_|refine bi ?_ ?_|intro _)<;>conv=>whnf)))
   refine⟨aK (eC s ⟨rg,ra,rb,rl⟩ ⟨.nil,G,none⟩),?_⟩
   conv=>whnf
   refine⟨_,_,hyy,?_⟩
   conv=>whnf
   refine ah (az _ q.1) ?_
   conv=>whnf
   repeat(any_goals(first|exact ab|(refine ap ?_ ?_<;>intro _<;>first|exact aq|conv=>whnf)|((first|refine ac ?_|refine bi ?_ ?_|intro _)<;>conv=>whnf)))
   refine And.intro ?_ ?_
   ·conv=>whnf
    exact⟨⟨rfl⟩,trivial⟩
   ·rw[cb]
    refine kc ?_ ?_
    ·exact(congrArg (fun z=>some (some (rg,some (0,[AV.lp .ready none #[20] ra rb z])))) hl2)
    ·repeat(first|exact trivial|refine kc rfl ?_)
  | some w =>
   refine aN ao { l:=0,f:=100} mixed ff Tryz.func100 (by kernel_rfl) ?_
   conv=>whnf
   repeat(any_goals(first|exact ab|(refine ap ?_ ?_<;>intro _<;>first|exact aq|conv=>whnf)|((first|refine ac ?_|refine bi ?_ ?_|intro _)<;>conv=>whnf)))
   refine⟨aK (eC s ⟨rg,ra,rb,rl⟩ ⟨.nil,G,some w⟩),?_⟩
   conv=>whnf
   refine ah (az _ w.1) ?_
   conv=>whnf
   refine⟨_,_,hyy,?_⟩
   conv=>whnf
   refine ah (az _ q.1) ?_
   conv=>whnf
   repeat(any_goals(first|exact ab|(refine ap ?_ ?_<;>intro _<;>first|exact aq|conv=>whnf)|((first|refine ac ?_|refine bi ?_ ?_|intro _)<;>conv=>whnf)))
   refine And.intro ?_ ?_
   ·conv=>whnf
    exact⟨⟨rfl⟩,trivial⟩
   ·rw[cb]
    refine kc ?_ ?_
    ·exact(congrArg (fun z=>some (some (rg,some (0,[AV.lp .ready none #[20] ra rb z])))) hl2)
    ·repeat(first|exact trivial|refine kc rfl ?_)
 | own g ee n =>
  cases o with
  | none =>
   refine aN ao { l:=0,f:=100} mixed ff Tryz.func100 (by kernel_rfl) ?_
   conv=>whnf
   repeat(any_goals(first|exact ab|(refine ap ?_ ?_<;>intro _<;>first|exact aq|conv=>whnf)|((first|refine ac ?_|refine bi ?_ ?_|intro _)<;>conv=>whnf)))
   refine⟨aK (eC s ⟨rg,ra,rb,rl⟩ ⟨.own g ee n,G,none⟩),?_⟩
   conv=>whnf
   refine ah (az _ ee) ?_
   conv=>whnf
   refine⟨_,_,hyy,?_⟩
   conv=>whnf
   refine ah (az _ ee) ?_
   conv=>whnf
   refine ah (az _ q.1) ?_
   conv=>whnf
   repeat(any_goals(first|exact ab|(refine ap ?_ ?_<;>intro _<;>first|exact aq|conv=>whnf)|((first|refine ac ?_|refine bi ?_ ?_|intro _)<;>conv=>whnf)))
   refine And.intro ?_ ?_
   ·conv=>whnf
    exact⟨⟨rfl⟩,trivial⟩
   ·rw[cb]
    refine kc ?_ ?_
    ·exact(congrArg (fun z=>some (some (rg,some (0,[AV.lp .ready none #[20] ra rb z])))) hl2)
    ·repeat(first|exact trivial|refine kc rfl ?_)
  | some w =>
   refine aN ao { l:=0,f:=100} mixed ff Tryz.func100 (by kernel_rfl) ?_
   conv=>whnf
   repeat(any_goals(first|exact ab|(refine ap ?_ ?_<;>intro _<;>first|exact aq|conv=>whnf)|((first|refine ac ?_|refine bi ?_ ?_|intro _)<;>conv=>whnf)))
   refine⟨aK (eC s ⟨rg,ra,rb,rl⟩ ⟨.own g ee n,G,some w⟩),?_⟩
   conv=>whnf
   refine ah (az _ ee) ?_
   conv=>whnf
   refine ah (az _ w.1) ?_
   conv=>whnf
   refine⟨_,_,hyy,?_⟩
   conv=>whnf
   refine ah (az _ ee) ?_
   conv=>whnf
   refine ah (az _ q.1) ?_
   conv=>whnf
   repeat(any_goals(first|exact ab|(refine ap ?_ ?_<;>intro _<;>first|exact aq|conv=>whnf)|((first|refine ac ?_|refine bi ?_ ?_|intro _)<;>conv=>whnf)))
   refine And.intro ?_ ?_
   ·conv=>whnf
    exact⟨⟨rfl⟩,trivial⟩
   ·rw[cb]
    refine kc ?_ ?_
    ·exact(congrArg (fun z=>some (some (rg,some (0,[AV.lp .ready none #[20] ra rb z])))) hl2)
    ·repeat(first|exact trivial|refine kc rfl ?_)
end Go.Proofs.YtgncapdjheghfaaGreatDoor
namespace Go.Proofs.YtgncapdjheghfaaGreatDoor
open Go.Am Go.Proofs Go
theorem je:∀a b:Nat,a<64→b<64→decide (bP a b=0)=decide (a&&&b=a):=by
 intro a b ha hb
 rw[eS a b ha hb]
 have h:∀a,a<64→∀b,b<64→decide ((a&&&(63^^^b):Nat)=0)=decide (a&&&b=a):=by decide +kernel
 rw[←h a ha b hb,decide_eq_decide];omega
def Bill.rowE(s:Bill)(a k:Nat):List Ent:=(List.range s.figs.length).map fun(b:Nat)=>⟨(k:Int),(a:Int),(b:Int)⟩
def Bill.rowsE(s:Bill)(a i:Nat):List Ent:=(List.range' i (3-i)).flatMap (s.rowE a)
theorem zZ(s:Bill)(a:Nat):s.tries a=s.rowsE a 0:=by
 unfold Bill.tries Bill.rowsE Bill.rowE
 rw[show List.range 3=List.range' 0 (3-0)from rfl]
theorem lW(s:Bill)(a i:Nat)(h:i<3):s.rowsE a i=s.rowE a i++s.rowsE a (i+1):=by
 unfold Bill.rowsE
 rw[show 3-i=(3-(i+1))+1 by omega,List.range'_succ,List.flatMap_cons]
theorem oM(s:Bill)(a k b:Nat)(h:b<s.figs.length):(s.rowE a k).drop b=⟨(k:Int),(a:Int),(b:Int)⟩::(s.rowE a k).drop (b+1):=by
 have hl:b<(s.rowE a k).length:=by unfold Bill.rowE;simpa using h
 rw[List.drop_eq_getElem_cons hl]
 congr 1
 simp[Bill.rowE]
theorem rM(s:Bill)(a k:Nat):(s.rowE a k).length=s.figs.length:=by unfold Bill.rowE;simp
def yp(t u:NSt):Prop:=(∀g ee n,t.c = .own g ee n→∃g' ee' n',u.c = .own g' ee' n')∧(∀q,t.o=some q→∃q',u.o=some q')
theorem yp.refl(t:NSt):yp t t:=⟨fun g ee n h=>⟨g,ee,n,h⟩,fun q h=>⟨q,h⟩⟩
theorem yp.trans{t u v:NSt}(h:yp t u)(k:yp u v):yp t v :=
 ⟨fun g ee n e=>by obtain⟨a,b,c,e2⟩:=h.1 g ee n e;exact k.1 _ _ _ e2,fun q e=>by obtain⟨a,e2⟩:=h.2 q e;exact k.2 _ e2⟩
theorem pJ{F:NSt→Ent→NSt}(h:∀t x,yp t (F t x)):∀(l:List Ent) (t:NSt),yp t (l.foldl F t)
 | [],t=>yp.refl t
 | x::l,t=>(h t x).trans (pJ h l _)
theorem pK(t:NSt):yp t t.yieldM:=⟨fun g ee n e=>⟨g,ee,n,e⟩,fun q _=>jJ t⟩
theorem dA(s:Bill):∀(f a left:Nat) (t:NSt),yp t (s.nextM f a left t)
 | 0,_,_,t=>pK t
 | f+1,a,left,t=>by
  rw[fP]
  split
  ·exact pK t
  ·split
   ·exact dA s f _ _ t
   ·refine pJ (fun t x=>?_) _ _
    unfold Bill.takeM
    split
    ·have:=dA s f (a+1) (bc left x.named) ⟨t.c.push x,t.G,t.o⟩
     refine⟨fun g ee n e=>?_,fun q e=>this.2 q e⟩
     obtain⟨g',ee',n',e'⟩:=this.1 (g+1) (ee.take n++[x]) (n+1) (by simp only[e];rfl)
     exact⟨g',ee',n'-1,by simp only[e'];rfl⟩
    ·exact yp.refl t
set_option maxHeartbeats 4000000 in
theorem IN(s:Bill)(r:Rec)(a left:Nat)(t u:NSt)(ha:a<6)(h0:left≠0)(h64:left<64)(hb:left.testBit a=false)(hu:yp t u)(hno:t.c = .nil→t.o=none)(hl:∀t,fW (aK (ba s r t)) r.l=r.l)
  (ih:BoxA Tryz.prog (.fn 100) (ba s r t) [aj ((a+1:Nat):Int),aj left,.ptr kY 1 1 0 0,.ptr kCc 1 1 0 0,.ptr kN 1 1 0 0,.ptr kA 1 6 0 0,.ptr kT 1 1 0 0] (aB true) (ba s r u)) :
  BoxA Tryz.prog (.fn 100) (ba s r t) [aj a,aj left,.ptr kY 1 1 0 0,.ptr kCc 1 1 0 0,.ptr kN 1 1 0 0,.ptr kA 1 6 0 0,.ptr kT 1 1 0 0] (aB true) (ba s r u):=by
 have hl2:=hl u
 have hl:=hl t
 obtain⟨rg,ra,rb,rl⟩:=r
 have ih:BoxA Tryz.prog (.fn 100) (ba s ⟨rg,ra,rb,fW (aK (ba s ⟨rg,ra,rb,rl⟩ t)) rl⟩ t) [aj ((a:Int)+1),aj left,.ptr kY 1 1 0 0,.ptr kCc 1 1 0 0,.ptr kN 1 1 0 0,.ptr kA 1 6 0 0,.ptr kT 1 1 0 0] (aB true) (ba s ⟨rg,ra,rb,rl⟩ u):=by
  rw[hl];exact ih
 have hbit:=Hj left a (e7 h64) (by omega)
 rw[hb,decide_eq_false_iff_not]at hbit
 have h2:fb (k8 left a) 1=0:=by
  rw[kS _ _ (by omega),show(1:Int)=((1:Nat):Int) by rfl,fZ _ 1 (by have:left/2^a≤left:=Nat.div_le_self ..;omega) (by omega),qE]at hbit ⊢
  omega
 unfold fb k8 at h2
 obtain⟨g1,g2⟩:=hu
 obtain⟨c,G,o⟩:=t
 obtain⟨c2,G2,o2⟩:=u
 simp only at g1 g2
 cases c with
 | nil =>
  cases o with
  | none =>
   cases c2<;>cases o2
   all_goals
    refine aN ao { l:=0,f:=100,mat:=[100]} mixed ff Tryz.func100 (by kernel_rfl) ?_
    conv=>whnf
   all_goals repeat(any_goals(first|exact ab|(refine ap ?_ ?_<;>intro _<;>first|exact aq|conv=>whnf)|((first|refine ac ?_|refine bi ?_ ?_|intro _)<;>conv=>whnf)))
   all_goals
    refine⟨aK (ba s ⟨rg,ra,rb,rl⟩ ⟨.nil,G,none⟩),?_⟩
    conv=>whnf
   all_goals
    refine⟨_,_,ih,?_⟩
    conv=>whnf
   all_goals repeat(refine ah (az _ _) ?_<;>(conv=>whnf))
   all_goals repeat(any_goals(first|exact ab|(refine ap ?_ ?_<;>intro _<;>first|exact aq|conv=>whnf)|((first|refine ac ?_|refine bi ?_ ?_|intro _)<;>conv=>whnf)))
   all_goals
    refine And.intro ?_ ?_
    ·conv=>whnf
     exact⟨⟨rfl⟩,trivial⟩
    ·rw[cb]
     refine kc ?_ ?_
     ·exact(congrArg (fun z=>some (some (rg,some (0,[AV.lp .ready none #[20] ra rb z])))) hl2)
     ·repeat(first|exact trivial|refine kc rfl ?_)
  | some w=>cases hno rfl
 | own g ee n =>
  obtain⟨g',ee',n',rfl⟩:=g1 g ee n rfl
  cases o with
  | none =>
   cases o2
   all_goals
    refine aN ao { l:=0,f:=100,mat:=[100]} mixed ff Tryz.func100 (by kernel_rfl) ?_
    conv=>whnf
   all_goals repeat(any_goals(first|exact ab|(refine ap ?_ ?_<;>intro _<;>first|exact aq|conv=>whnf)|((first|refine ac ?_|refine bi ?_ ?_|intro _)<;>conv=>whnf)))
   all_goals
    refine⟨aK (ba s ⟨rg,ra,rb,rl⟩ ⟨.own g ee n,G,none⟩),?_⟩
    conv=>whnf
   all_goals repeat(refine ah (az _ _) ?_<;>(conv=>whnf))
   all_goals
    refine⟨_,_,ih,?_⟩
    conv=>whnf
   all_goals repeat(refine ah (az _ _) ?_<;>(conv=>whnf))
   all_goals repeat(any_goals(first|exact ab|(refine ap ?_ ?_<;>intro _<;>first|exact aq|conv=>whnf)|((first|refine ac ?_|refine bi ?_ ?_|intro _)<;>conv=>whnf)))
   all_goals
    refine And.intro ?_ ?_
    ·conv=>whnf
     exact⟨⟨rfl⟩,trivial⟩
    ·rw[cb]
     refine kc ?_ ?_
     ·exact(congrArg (fun z=>some (some (rg,some (0,[AV.lp .ready none #[20] ra rb z])))) hl2)
     ·repeat(first|exact trivial|refine kc rfl ?_)
  | some w =>
   obtain⟨q,rfl⟩:=g2 w rfl
   all_goals
    refine aN ao { l:=0,f:=100,mat:=[100]} mixed ff Tryz.func100 (by kernel_rfl) ?_
    conv=>whnf
   all_goals repeat(any_goals(first|exact ab|(refine ap ?_ ?_<;>intro _<;>first|exact aq|conv=>whnf)|((first|refine ac ?_|refine bi ?_ ?_|intro _)<;>conv=>whnf)))
   all_goals
    refine⟨aK (ba s ⟨rg,ra,rb,rl⟩ ⟨.own g ee n,G,some w⟩),?_⟩
    conv=>whnf
   all_goals repeat(refine ah (az _ _) ?_<;>(conv=>whnf))
   all_goals
    refine⟨_,_,ih,?_⟩
    conv=>whnf
   all_goals repeat(refine ah (az _ _) ?_<;>(conv=>whnf))
   all_goals repeat(any_goals(first|exact ab|(refine ap ?_ ?_<;>intro _<;>first|exact aq|conv=>whnf)|((first|refine ac ?_|refine bi ?_ ?_|intro _)<;>conv=>whnf)))
   all_goals
    refine And.intro ?_ ?_
    ·conv=>whnf
     exact⟨⟨rfl⟩,trivial⟩
    ·rw[cb]
     refine kc ?_ ?_
     ·exact(congrArg (fun z=>some (some (rg,some (0,[AV.lp .ready none #[20] ra rb z])))) hl2)
     ·repeat(first|exact trivial|refine kc rfl ?_)
end Go.Proofs.YtgncapdjheghfaaGreatDoor
namespace Go.Proofs.YtgncapdjheghfaaGreatDoor
open Go.Am Go.Proofs Go
structure LSt where
 i:Nat
 t:NSt
def Qs(G:Nat)(o:Option (List Ent×Int)):Prop:=(o=none→G=0)∧∀b m,o=some (b,m)→0≤m
def NSt.good(t:NSt)(a:Nat):Prop:=t.c.ok a∧(t.c = .nil→t.o=none)∧Qs t.G t.o
theorem qB(t:NSt)(h:Qs t.G t.o):Qs t.yieldM.G t.yieldM.o:=by
 refine⟨fun e=>?_,fun b m e=>?_⟩
 ·obtain⟨q,hq⟩:=jJ t
  rw[hq]at e;cases e
 ·have e:jF t.o t.c.list=some (b,m):=e
  unfold jF at e
  split at e
  ·cases e;omega
  ·rename_i b' n' ho
   split at e
   ·cases e;omega
   ·cases e;exact h.2 _ _ ho
theorem pQ{F:NSt→Ent→NSt}(h:∀t x,Qs t.G t.o→Qs (F t x).G (F t x).o):∀(l:List Ent) (t:NSt),Qs t.G t.o→Qs (l.foldl F t).G (l.foldl F t).o
 | [],t,q=>q
 | x::l,t,q=>pQ h l _ (h t x q)
theorem ek(s:Bill):∀(f a left:Nat) (t:NSt),Qs t.G t.o→Qs (s.nextM f a left t).G (s.nextM f a left t).o
 | 0,_,_,t,h=>qB t h
 | f+1,a,left,t,h=>by
  rw[fP]
  split
  ·exact qB t h
  ·split
   ·exact ek s f _ _ t h
   ·refine pQ (fun t x h=>?_) _ _ h
    unfold Bill.takeM
    split
    ·exact ek s f (a+1) (bc left x.named) ⟨t.c.push x,t.G,t.o⟩ h
    ·exact h
theorem iO{s:Bill}{f a left:Nat}{t:NSt}{x:Ent}(h:s.fitsIn left x=false):s.takeM f a left t x=t:=by
 unfold Bill.takeM;rw[if_neg (by rw[h];simp)]
theorem o9{s:Bill}{f a left:Nat}{t:NSt}{x:Ent}(h:s.fitsIn left x=true):s.takeM f a left t x=⟨(s.nextM f (a+1) (bc left x.named) ⟨t.c.push x,t.G,t.o⟩).c.pop,(s.nextM f (a+1) (bc left x.named) ⟨t.c.push x,t.G,t.o⟩).G,(s.nextM f (a+1) (bc left x.named) ⟨t.c.push x,t.G,t.o⟩).o⟩:=by
 unfold Bill.takeM;rw[if_pos h]
def cS:CSt→jd
 | .nil=>(0,none)
 | .own g ee _=>(g,some (3,ee.map bB))
def mS(G:Nat):Option (List Ent×Int)→jd
 | none=>(0,none)
 | some (b,_)=>(G,some (3,b.map bB))
def GM(s:Bill)(r:Rec)(t:NSt):List (Key×Option jd) :=
 rH (yR s r t++[(kY,1,1,[.yld kLb r.g]),(kA,1,6,[.agg gn]),(kCc,1,1,[t.c.av]),(kN,1,1,[IM])])++[(kC,some (cS t.c)),(kMk,some (mS t.G t.o))]
theorem fO(k0 k:Key):∀A:List (Key×Option jd),(match bg (A++[(k0,some ((0,none):jd))]) k with
  | some (some c)=>c
  | _=>(0,none))=match bg A k with
  | some (some c)=>c
  | _=>(0,none)
 | []=>by
  show(match(match k.beq k0 with|true=>some (some ((0,none):jd))|false=>none)with
   | some (some c)=>c
   | _=>(0,none))=_
  cases k.beq k0<;>rfl
 | (j,c)::A=>by
  simp only[List.cons_append,bg]
  cases k.beq j with
  | true=>rfl
  | false=>exact fO k0 k A
theorem xO(k0 k:Key)(B:List (Key×Option jd)):∀A:List (Key×Option jd),bg B k0=none→(match bg (A++(k0,some ((0,none):jd))::B) k with
  | some (some c)=>c
  | _=>(0,none))=match bg (A++B) k with
  | some (some c)=>c
  | _=>(0,none)
 | [],hB=>by
  simp only[List.nil_append,bg]
  cases hk:k.beq k0 with
  | true =>
   have:=Key.beq_eq.1 hk
   subst this
   rw[hB]
  | false=>rfl
 | (j,c)::A,hB=>by
  simp only[List.cons_append,bg]
  cases k.beq j with
  | true=>rfl
  | false=>exact xO k0 k B A hB
theorem Ep(s:Bill)(r:Rec)(t:NSt)(k:Key):cD (ba s r t) k=match bg (GM s r t) k with
  | some (some c)=>c
  | _=>(0,none):=by
 rw[kF]
 obtain⟨c,G,o⟩:=t
 cases c<;>cases o
 ·exact((fO kMk k _).trans (fO kC k (rH (ba s r ⟨.nil,G,none⟩)))).symm
 ·rename_i q
  exact(xO kC k [(kMk,some (G,some (3,q.1.map bB)))] (rH (yR s r ⟨.nil,G,some q⟩++[(kY,1,1,[.yld kLb r.g]),(kA,1,6,[.agg gn]),(kCc,1,1,[CSt.nil.av]),(kN,1,1,[IM])])) (by
   rfl)).symm
 ·exact(fO kMk k (rH (ba s r ⟨.own _ _ _,G,none⟩))).symm
 ·rfl
theorem BK(s:Bill)(r:Rec)(t:NSt)(args:List AV):Knows ⟨cI 0 args,GM s r t,[]⟩ (dV (ba s r t) args) where
 slot i v h:=by
  have:=(dl args 0 i v h).2
  simp only[Nat.sub_zero]at this
  simp[dV,List.getD,this]
 box k:=by
  have:=Ep s r t k
  split
  ·rename_i c hc;simp only[dV,this,hc]
  ·trivial
  ·rename_i hc;simp only[dV,this,hc]
 tk k:=rfl
theorem Er{P:Program}{T:Tab}(hT:T.Ok P)(cx:Cx)(hm:P.follows .mixedOrders=true){f:FuncId}{fn:Func}{s:Bill}{r:Rec}{t:NSt}{post:List cr}{args:List AV}{res:AV}
  (hc:ak P f) (hf:P.funcs[f]?=some fn) (hok:GR fn args.length=true)
  (h:yz P T cx fn res post ⟨cI 0 args,GM s r t,[]⟩) (hrd:cx.rd=false:=by rfl):BoxA P (.fn f) (ba s r t) args res post:=by
 unfold yz at h
 unfold GR at hok
 split at h
 ·rename_i c hb
  rw[hb]at hok
  simp only[Bool.and_eq_true,decide_eq_true_eq]at hok
  refine uO hc hf hb (by rw[hok.1.2,decide_eq_true hok.1.1];rfl) (hrd▸bJ cx hm c hok.2 (bO cx c (fun e S'=>?_) (bI hT cx c (BK s r t args) h)))
  rintro⟨ss',h1,h2⟩
  have key:((wU T fn.results.toList fun l=> .lst l fun l=> .need (Res res (oneOf l)) (Classical.propDecidable _) (.done [])).ev P ss' (fun _ _=>True)∧vX ss' fun _ bx _=>c9 (0,none) bx (rH post)) →
    J3 P fn S' res∧∀p∈post,S'.box p.1=(p.2.1,some (p.2.2.1,p.2.2.2)):=by
   rintro⟨h,hk⟩
   have h:=RB.ev_rm h1 _ h
   have h:=ig (rs:=fn.results.toList) (k':=fun l=> .need (res=oneOf l) (.done [])) hT (fun l=>au fun hr=>aA hr.eq (ar _)) _ _ h
   have h:=RM.wp_wp0 _ h
   exact⟨RM.wp0_mono _ h fun _ _=>trivial,e5 h1.box hk⟩
  cases e with
  | normal=>exact⟨.inl rfl,key h2⟩
  | ret=>exact⟨.inr rfl,key h2⟩
  | _=>exact h2.elim
 ·exact h.elim
noncomputable def s8:Code→Option Code
 | .seq x y=>match s8 x with
  | some c=>some c
  | none=>s8 y
 | .cond _ x y=>match s8 x with
  | some c=>some c
  | none=>s8 y
 | .block _ c=>s8 c
 | .scope c=>s8 c
 | .loop c=>some c
 | _=>none
noncomputable def K4:Code:=((Tryz.f100.body.bind s8)).getD .skip
def cxT:Cx:={ l:=0,f:=100,mat:=[100],ow:=[63]}
def G5(s:Bill)(r:Rec)(a left:Nat)(u:LSt):SS :=
 Iv [(30,aj u.i)] (GM s r u.t) [] [cxT.key 11,cxT.key 13,cxT.key 63] [cxT.key 63]
  [(29,.agg gn),(23,.v (.bool false)),(22,ofValue (.int .i64 (IntKind.i64.wrap (BitVec.ofInt IntKind.i64.bits ((left:Int).fdiv (2^min (a:Int).toNat IntKind.i64.bits))&&&BitVec.ofInt IntKind.i64.bits 1).toNat))),
   (21,ofValue (.int .i64 ((left:Int).fdiv (2^min (a:Int).toNat IntKind.i64.bits)))),(20,aj a),(19,aj left),(15,.v (.bool false)),(14,aj left),(0,aj a),
   (1,aj left),(2,.ptr kY 1 1 0 0),(3,.ptr kCc 1 1 0 0),(4,.ptr kN 1 1 0 0),(5,.ptr kA 1 6 0 0),(6,.ptr kT 1 1 0 0)] [] []
def Ax(s:Bill)(r:Rec)(f a left k:Nat)(Z t:NSt):Prop :=
 ∀Q:Exit→SS→Prop,eU Tryz.prog tab cxT Tryz.f100.ntmps K4
  (ut (fun ss'=>∃a':LSt,(a'.i≤3∧a'.t.good a∧Z=(s.rowsE a a'.i).foldl (s.takeM f a left) a'.t)∧3-a'.i<3-k∧uB ss' (G5 s r a left a')) Q) (G5 s r a left ⟨k,t⟩)
end Go.Proofs.YtgncapdjheghfaaGreatDoor
namespace Go.Proofs.YtgncapdjheghfaaGreatDoor
open Go.Am Go.Proofs Go
set_option maxHeartbeats 8000000 in
theorem FW(s:Bill)(hg:s.Good)(r:Rec)(f a left:Nat)(Z t:NSt)(ha:a<6)(h64:left<64)(hal:a<s.figs.length)(hgd:t.good a)(hl:∀t,fW (aK (ba s r t)) r.l=r.l)
  (ih:∀x,s.fitsIn left x=true→x.a=a→0≤x.b→∀u:NSt,u.good (a+1)→BoxA Tryz.prog (.fn 100) (ba s r u) [aj ((a+1:Nat):Int),aj (bc left x.named:Nat),.ptr kY 1 1 0 0,.ptr kCc 1 1 0 0,.ptr kN 1 1 0 0,.ptr kA 1 6 0 0,.ptr kT 1 1 0 0] (aB true) (ba s r (s.nextM f (a+1) (bc left x.named) u)))
  (hZ:Z=(s.rowsE a 0).foldl (s.takeM f a left) t):Ax s r f a left 0 Z t:=by
 rw[lW s a 0 (by omega),List.foldl_append]at hZ
 have hfl:(s.figs.map dS).length=s.figs.length:=List.length_map ..
 have h6:=hg.len
 have hS0:∀b:Nat,b<s.figs.length→PureA Tryz.prog 124 [dp s,bB ⟨(0:Nat),a,b⟩] (aB (s.so ⟨(0:Nat),a,b⟩)):=fun b hb=>GW s ⟨(0:Nat),a,b⟩ (by simp only;omega)
 obtain⟨rg,ra,rb,rl⟩:=r
 intro Q
 conv=>whnf
 repeat(any_goals(first|exact ab|(refine ap ?_ ?_<;>intro _<;>first|exact aq|conv=>whnf)|((first|refine ac ?_|refine bi ?_ ?_|intro _)<;>conv=>whnf)))
 refine aO ao { l:=0,f:=100,mat:=[100],ow:=[63]} mixed (fun u:LSt=>[(40,aj u.i)]) (fun u=>GM s ⟨rg,ra,rb,rl⟩ u.t) (fun _=>[]) (fun u=>u.i≤s.figs.length∧u.t.good a∧Z=(s.rowsE a (0+1)).foldl (s.takeM f a left) (((s.rowE a 0).drop u.i).foldl (s.takeM f a left) u.t)) (fun u=>s.figs.length-u.i) (⟨0,t⟩:LSt) (by kernel_rfl)
  ⟨Nat.zero_le _,hgd,hZ⟩ ?_
 conv=>whnf
 refine⟨⟨ai rfl trivial,?_,trivial⟩,?_⟩
 ·repeat(first|exact trivial|refine kc rfl ?_|refine bW rfl ?_)
 clear hZ hgd
 rintro u ⟨hbi,hgd,hZ⟩
 generalize u.i=b at *
 generalize u.t=t at *
 clear u
 by_cases hbl:b<s.figs.length
 ·rw[oM s a 0 b hbl,List.foldl_cons]at hZ
  have hso:=hS0 b hbl
  have hn:=n7 ⟨(0:Nat),a,b⟩ (by simp only;omega) (by simp only;omega)
  have hn64:=ka ⟨(0:Nat),a,b⟩ (by simp only;omega) (by simp only;omega)
  have hz:=je (Ent.named ⟨(0:Nat),a,b⟩) left hn64 h64
  have hm:bP left (Ent.named ⟨(0:Nat),a,b⟩)=(bc left (Ent.named ⟨(0:Nat),a,b⟩):Nat):=eS _ _ h64 hn64
  have hih:=ih ⟨(0:Nat),a,b⟩
  rw[←hm]at hih
  have hfit:s.fitsIn left ⟨(0:Nat),a,b⟩=(s.so ⟨(0:Nat),a,b⟩&&decide (bP (Ent.named ⟨(0:Nat),a,b⟩) left=0)):=by rw[hz];rfl
  obtain⟨nm,hnm⟩:∃nm,Ent.named ⟨(0:Nat),a,b⟩=nm:=⟨_,rfl⟩
  rw[hnm]at hn hn64 hz hm hih hfit
  cases hS:s.so ⟨(0:Nat),a,b⟩with
  | false =>
   rw[hS,Bool.false_and]at hfit
   rw[iO hfit]at hZ
   rw[hS]at hso
   clear hih ih
   conv=>whnf
   repeat(any_goals(first|exact ab|(refine ap ?_ ?_<;>intro _<;>first|exact aq|conv=>whnf)|((first|refine af hso rfl ?_|refine aa hn ?_|refine af hn rfl ?_|refine ac ?_|refine bi ?_ ?_|intro _)<;>conv=>whnf)))
   all_goals(refine⟨⟨b+1,t⟩,⟨by show b+1≤_;omega,hgd,hZ⟩,(by show _-(b+1)<_-b;omega),?_⟩;(conv=>whnf);refine⟨?_,?_,?_⟩<;>repeat(first|exact trivial|refine sc rfl ?_|refine kn ?_|refine kc rfl ?_|refine sc (by exact(congrArg (fun z=>some (some (rg,some (0,[AV.lp .ready none #[20] ra rb z])))) (hl _))) ?_|refine kc (by exact(congrArg (fun z=>some (some (rg,some (0,[AV.lp .ready none #[20] ra rb z])))) (hl _))) ?_))
  | true =>
   rw[hS,Bool.true_and]at hfit
   rw[hS]at hso
   by_cases hq:bP nm left=0
   ·have hq0:=hq
    rw[decide_eq_true hq]at hfit
    rw[o9 hfit,hnm]at hZ
    unfold bP at hq
    have hih:=hih hfit rfl (by simp only;omega)
    obtain⟨c,G,o⟩:=t
    obtain⟨hck,hno,hQs⟩:=hgd
    simp only at hck hno hQs
    cases c with
    | nil =>
     cases hno rfl
     obtain⟨g2,ee2,e2,hn2,_⟩:=dD s f (a+1) (bc left nm) 1 ⟨CSt.nil.push ⟨(0:Nat),a,b⟩,G,none⟩ ⟨1,[⟨(0:Nat),a,b⟩],rfl,by simp⟩
     have hih:=hih ⟨CSt.nil.push ⟨(0:Nat),a,b⟩,G,none⟩ ⟨⟨by simp,by omega⟩,(fun h=>by cases h),hQs⟩
     have hkp:=ek s f (a+1) (bc left nm) ⟨CSt.nil.push ⟨(0:Nat),a,b⟩,G,none⟩ hQs
     have hgr:=(dA s f (a+1) (bc left nm) ⟨CSt.nil.push ⟨(0:Nat),a,b⟩,G,none⟩).2
     generalize s.nextM f (a+1) (bc left nm) ⟨CSt.nil.push ⟨(0:Nat),a,b⟩,G,none⟩=u at *
     have hih:BoxA Tryz.prog (.fn 100) (ba s ⟨rg,ra,rb,fW (aK (ba s ⟨rg,ra,rb,rl⟩ ⟨CSt.nil.push ⟨(0:Nat),a,b⟩,G,none⟩)) rl⟩ ⟨CSt.nil.push ⟨(0:Nat),a,b⟩,G,none⟩) [aj ((a:Int)+1),aj (bP left nm),.ptr kY 1 1 0 0,.ptr kCc 1 1 0 0,.ptr kN 1 1 0 0,.ptr kA 1 6 0 0,.ptr kT 1 1 0 0] (aB true) (ba s ⟨rg,ra,rb,rl⟩ u):=by
      rw[hl];exact hih
     have hl2:=hl u
     obtain⟨cu,G2,o2⟩:=u
     simp only at e2 hgr hkp
     subst e2
     have hto:(((0+1:Nat):Int)-1).toNat=0:=by omega
     clear ih
     cases o2
     all_goals
       conv=>whnf
       repeat(any_goals(first|exact ab|(refine ap ?_ ?_<;>intro _<;>first|exact aq|conv=>whnf)|((first|refine af hso rfl ?_|refine aa hn ?_|refine af hn rfl ?_|refine ac ?_|refine bi ?_ ?_|intro _)<;>conv=>whnf)))
       try(refine And.intro ⟨by rw[List.length_map];omega,by simp only[List.length_cons,List.length_nil];omega,by simp only[List.length_cons,List.length_nil,maxLen];omega⟩ ?_;(conv=>whnf))
       repeat(any_goals(first|exact ab|(refine ap ?_ ?_<;>intro _<;>first|exact aq|conv=>whnf)|((first|refine aa hn ?_|refine af hn rfl ?_|refine ac ?_|refine bi ?_ ?_|intro _)<;>conv=>whnf)))
       refine⟨aK (ba s ⟨rg,ra,rb,rl⟩ ⟨CSt.nil.push ⟨(0:Nat),a,b⟩,G,none⟩),?_⟩
       conv=>whnf
       repeat((first|refine ah (htk _) ?_|refine ah (az _ [_]) ?_|refine ah (az _ _) ?_)<;>(conv=>whnf))
       refine⟨_,_,hih,?_⟩
       conv=>whnf
       repeat(refine ah (az _ _) ?_<;>(conv=>whnf))
       repeat(any_goals(first|exact ab|(refine ap ?_ ?_<;>intro _<;>first|exact aq|conv=>whnf)|((first|refine ac ?_|refine bi ?_ ?_|intro _)<;>conv=>whnf)))
       (refine⟨⟨b+1,⟨.own g2 ee2 0,G2,_⟩⟩,⟨by show b+1≤_;omega,⟨⟨by omega,by omega⟩,(fun h=>by cases h),hkp⟩,hZ⟩,(by show _-(b+1)<_-b;omega),?_⟩;(conv=>whnf);refine⟨?_,?_,?_⟩<;>repeat(first|exact trivial|refine sc rfl ?_|refine kn ?_|refine kc rfl ?_|refine sc (by first|exact(congrArg (fun z=>some (some (rg,some (0,[AV.lp .ready none #[20] ra rb z])))) hl2)|(show some (some (1,some (1,[AV.own kC g2 3 (((0+1:Nat):Int)-1).toNat 0])))=_;rw[hto];rfl)) ?_|refine kc (by first|exact(congrArg (fun z=>some (some (rg,some (0,[AV.lp .ready none #[20] ra rb z])))) hl2)|(show some (some (1,some (1,[AV.own kC g2 3 (((0+1:Nat):Int)-1).toNat 0])))=_;rw[hto];rfl)) ?_))
    | own g ee n =>
     obtain⟨hn1,hna⟩:=hck
     have hel:(ee.map bB).length=ee.length:=List.length_map ..
     have htk:=fun ks=>Di ks ee n ⟨(0:Nat),a,b⟩
     obtain⟨g2,ee2,e2,hn2,_⟩:=dD s f (a+1) (bc left nm) (n+1) ⟨(CSt.own g ee n).push ⟨(0:Nat),a,b⟩,G,o⟩ ⟨g+1,ee.take n++[⟨(0:Nat),a,b⟩],rfl,by simp;omega⟩
     have hih:=hih ⟨(CSt.own g ee n).push ⟨(0:Nat),a,b⟩,G,o⟩ ⟨⟨by simp;omega,by omega⟩,(fun h=>by cases h),hQs⟩
     have hkp:=ek s f (a+1) (bc left nm) ⟨(CSt.own g ee n).push ⟨(0:Nat),a,b⟩,G,o⟩ hQs
     have hgr:=(dA s f (a+1) (bc left nm) ⟨(CSt.own g ee n).push ⟨(0:Nat),a,b⟩,G,o⟩).2
     generalize s.nextM f (a+1) (bc left nm) ⟨(CSt.own g ee n).push ⟨(0:Nat),a,b⟩,G,o⟩=u at *
     have hih:BoxA Tryz.prog (.fn 100) (ba s ⟨rg,ra,rb,fW (aK (ba s ⟨rg,ra,rb,rl⟩ ⟨(CSt.own g ee n).push ⟨(0:Nat),a,b⟩,G,o⟩)) rl⟩ ⟨(CSt.own g ee n).push ⟨(0:Nat),a,b⟩,G,o⟩) [aj ((a:Int)+1),aj (bP left nm),.ptr kY 1 1 0 0,.ptr kCc 1 1 0 0,.ptr kN 1 1 0 0,.ptr kA 1 6 0 0,.ptr kT 1 1 0 0] (aB true) (ba s ⟨rg,ra,rb,rl⟩ u):=by
      rw[hl];exact hih
     have hl2:=hl u
     obtain⟨cu,G2,o2⟩:=u
     simp only at e2 hgr hkp
     subst e2
     have hto:(((n+1:Nat):Int)-1).toNat=n:=by omega
     clear ih
     cases o with
     | none =>
      cases o2
      all_goals
        conv=>whnf
        repeat(any_goals(first|exact ab|(refine ap ?_ ?_<;>intro _<;>first|exact aq|conv=>whnf)|((first|refine af hso rfl ?_|refine aa hn ?_|refine af hn rfl ?_|refine ac ?_|refine bi ?_ ?_|intro _)<;>conv=>whnf)))
        try(refine And.intro ⟨by rw[List.length_map];omega,by simp only[List.length_cons,List.length_nil];omega,by simp only[List.length_cons,List.length_nil,maxLen];omega⟩ ?_;(conv=>whnf))
        repeat(any_goals(first|exact ab|(refine ap ?_ ?_<;>intro _<;>first|exact aq|conv=>whnf)|((first|refine aa hn ?_|refine af hn rfl ?_|refine ac ?_|refine bi ?_ ?_|intro _)<;>conv=>whnf)))
        refine⟨aK (ba s ⟨rg,ra,rb,rl⟩ ⟨(CSt.own g ee n).push ⟨(0:Nat),a,b⟩,G,none⟩),?_⟩
        conv=>whnf
        repeat((first|refine ah (htk _) ?_|refine ah (az _ [_]) ?_|refine ah (az _ _) ?_)<;>(conv=>whnf))
        refine⟨_,_,hih,?_⟩
        conv=>whnf
        repeat(refine ah (az _ _) ?_<;>(conv=>whnf))
        repeat(any_goals(first|exact ab|(refine ap ?_ ?_<;>intro _<;>first|exact aq|conv=>whnf)|((first|refine ac ?_|refine bi ?_ ?_|intro _)<;>conv=>whnf)))
        (refine⟨⟨b+1,⟨.own g2 ee2 n,G2,_⟩⟩,⟨by show b+1≤_;omega,⟨⟨by omega,by omega⟩,(fun h=>by cases h),hkp⟩,hZ⟩,(by show _-(b+1)<_-b;omega),?_⟩;(conv=>whnf);refine⟨?_,?_,?_⟩<;>repeat(first|exact trivial|refine sc rfl ?_|refine kn ?_|refine kc rfl ?_|refine sc (by first|exact(congrArg (fun z=>some (some (rg,some (0,[AV.lp .ready none #[20] ra rb z])))) hl2)|(show some (some (1,some (1,[AV.own kC g2 3 (((n+1:Nat):Int)-1).toNat 0])))=_;rw[hto];rfl)) ?_|refine kc (by first|exact(congrArg (fun z=>some (some (rg,some (0,[AV.lp .ready none #[20] ra rb z])))) hl2)|(show some (some (1,some (1,[AV.own kC g2 3 (((n+1:Nat):Int)-1).toNat 0])))=_;rw[hto];rfl)) ?_))
     | some w =>
      obtain⟨w2,rfl⟩:=hgr w rfl
      conv=>whnf
      repeat(any_goals(first|exact ab|(refine ap ?_ ?_<;>intro _<;>first|exact aq|conv=>whnf)|((first|refine af hso rfl ?_|refine aa hn ?_|refine af hn rfl ?_|refine ac ?_|refine bi ?_ ?_|intro _)<;>conv=>whnf)))
      try(refine And.intro ⟨by rw[List.length_map];omega,by simp only[List.length_cons,List.length_nil];omega,by simp only[List.length_cons,List.length_nil,maxLen];omega⟩ ?_;(conv=>whnf))
      repeat(any_goals(first|exact ab|(refine ap ?_ ?_<;>intro _<;>first|exact aq|conv=>whnf)|((first|refine aa hn ?_|refine af hn rfl ?_|refine ac ?_|refine bi ?_ ?_|intro _)<;>conv=>whnf)))
      refine⟨aK (ba s ⟨rg,ra,rb,rl⟩ ⟨(CSt.own g ee n).push ⟨(0:Nat),a,b⟩,G,some w⟩),?_⟩
      conv=>whnf
      repeat((first|refine ah (htk _) ?_|refine ah (az _ [_]) ?_|refine ah (az _ _) ?_)<;>(conv=>whnf))
      refine⟨_,_,hih,?_⟩
      conv=>whnf
      repeat(refine ah (az _ _) ?_<;>(conv=>whnf))
      repeat(any_goals(first|exact ab|(refine ap ?_ ?_<;>intro _<;>first|exact aq|conv=>whnf)|((first|refine ac ?_|refine bi ?_ ?_|intro _)<;>conv=>whnf)))
      (refine⟨⟨b+1,⟨.own g2 ee2 n,G2,_⟩⟩,⟨by show b+1≤_;omega,⟨⟨by omega,by omega⟩,(fun h=>by cases h),hkp⟩,hZ⟩,(by show _-(b+1)<_-b;omega),?_⟩;(conv=>whnf);refine⟨?_,?_,?_⟩<;>repeat(first|exact trivial|refine sc rfl ?_|refine kn ?_|refine kc rfl ?_|refine sc (by first|exact(congrArg (fun z=>some (some (rg,some (0,[AV.lp .ready none #[20] ra rb z])))) hl2)|(show some (some (1,some (1,[AV.own kC g2 3 (((n+1:Nat):Int)-1).toNat 0])))=_;rw[hto];rfl)) ?_|refine kc (by first|exact(congrArg (fun z=>some (some (rg,some (0,[AV.lp .ready none #[20] ra rb z])))) hl2)|(show some (some (1,some (1,[AV.own kC g2 3 (((n+1:Nat):Int)-1).toNat 0])))=_;rw[hto];rfl)) ?_))
   ·rw[decide_eq_false hq]at hfit
    rw[iO hfit]at hZ
    unfold bP at hq
    clear hih ih
    conv=>whnf
    repeat(any_goals(first|exact ab|(refine ap ?_ ?_<;>intro _<;>first|exact aq|conv=>whnf)|((first|refine af hso rfl ?_|refine aa hn ?_|refine af hn rfl ?_|refine ac ?_|refine bi ?_ ?_|intro _)<;>conv=>whnf)))
    all_goals(refine⟨⟨b+1,t⟩,⟨by show b+1≤_;omega,hgd,hZ⟩,(by show _-(b+1)<_-b;omega),?_⟩;(conv=>whnf);refine⟨?_,?_,?_⟩<;>repeat(first|exact trivial|refine sc rfl ?_|refine kn ?_|refine kc rfl ?_|refine sc (by exact(congrArg (fun z=>some (some (rg,some (0,[AV.lp .ready none #[20] ra rb z])))) (hl _))) ?_|refine kc (by exact(congrArg (fun z=>some (some (rg,some (0,[AV.lp .ready none #[20] ra rb z])))) (hl _))) ?_))
 ·have hbn:b=s.figs.length:=by omega
  rw[List.drop_of_length_le (by rw[rM];omega),List.foldl_nil]at hZ
  clear ih hbl
  conv=>whnf
  repeat(any_goals(first|exact ab|(refine ap ?_ ?_<;>intro _<;>first|exact aq|conv=>whnf)|((first|refine ac ?_|refine bi ?_ ?_|intro _)<;>conv=>whnf)))
  all_goals(refine⟨⟨0+1,t⟩,⟨by show 0+1≤3;omega,hgd,hZ⟩,(by show 3-(0+1)<3-0;omega),?_⟩;(conv=>whnf);refine⟨?_,?_,?_⟩<;>repeat(first|exact trivial|refine sc rfl ?_|refine kn ?_|refine kc rfl ?_|refine sc (by exact(congrArg (fun z=>some (some (rg,some (0,[AV.lp .ready none #[20] ra rb z])))) (hl _))) ?_|refine kc (by exact(congrArg (fun z=>some (some (rg,some (0,[AV.lp .ready none #[20] ra rb z])))) (hl _))) ?_))
end Go.Proofs.YtgncapdjheghfaaGreatDoor
