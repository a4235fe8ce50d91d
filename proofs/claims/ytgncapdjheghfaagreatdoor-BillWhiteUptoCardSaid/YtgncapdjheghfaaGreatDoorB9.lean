/- Part 9 of the texts that the last one stands on. -/
import Derived.Laws.Slices
import Derived.Test.YtgncapdjheghfaaGreatDoorB8
set_option linter.unusedVariables false
set_option linter.unusedSimpArgs false
namespace Go.Proofs.YtgncapdjheghfaaGreatDoor
open Go.Am Go.Proofs Go
theorem Jd(x:Fig)(w:ByteArray):PureA Tryz.prog 122 [dS x,.cptr [aG w]] (aB (decide (x.name=w))):=by
 refine ag ao { l:=0,f:=122} mixed EI Tryz.func122 (by kernel_rfl) ?_
 conv=>whnf
 (refine⟨⟨?_⟩,trivial⟩;rfl)
theorem KR(l:List Fig)(w:ByteArray)(hl:l.length≤1048576):PureA Tryz.prog 89 [dW l,.func (.func 122) [] [.cptr [aG w]]] (aj (idx (fun x=>decide (x.name=w)) l)):=by
 refine ag ao { l:=0,f:=89} mixed A7 Tryz.func89 (by kernel_rfl) ?_
 conv=>whnf
 refine aO ao { l:=0,f:=89} mixed (fun i:Nat=>[(8,aj i)]) (fun _=>[]) (fun _=>[]) (fun i=>i≤l.length∧idx (fun x:Fig=>decide (x.name=w)) l=ce (fun x:Fig=>decide (x.name=w)) i (l.drop i)) (fun i=>l.length-i) 0 (by kernel_rfl)
  ⟨Nat.zero_le _,rfl⟩ ?_
 conv=>whnf
 refine⟨⟨ai rfl trivial,trivial,trivial⟩,?_⟩
 intro i ⟨hi,H⟩
 conv=>whnf
 refine bH (fun h1=>?_) (fun h1=>?_)
 ·simp only[List.length_map]at h1
  obtain⟨x,hx,hd⟩:=ay (l:=l) (i:=i) (by omega)
  have H':=ei hd H
  conv=>whnf
  repeat(any_goals(first|exact ab|(refine ap ?_ ?_<;>intro _<;>first|exact aq|conv=>whnf)|((first|refine ae hx rfl ?_|refine aa (Jd x w) ?_|refine ac ?_|refine bi ?_ ?_|intro _)<;>conv=>whnf)))
  ·rename_i he
   simp only[he,if_true]at H'
   (refine⟨⟨?_⟩,trivial⟩;simp[oneOf,aj,H'])
  ·rename_i he
   simp only[he,Bool.false_eq_true,if_false]at H'
   (refine⟨i+1,⟨by omega,H'⟩,by omega,?_⟩;(conv=>whnf);refine⟨?_,?_,?_⟩<;>repeat(first|exact trivial|refine sc rfl ?_|refine kn ?_|refine kc rfl ?_))
 ·conv=>whnf
  simp only[List.length_map]at h1
  have:i=l.length:=by omega
  subst this
  (refine⟨⟨?_⟩,trivial⟩;simp[oneOf,aj,H,ce])
theorem Jv{w:Bs}{s:ByteArray}:s=aH w↔bytes s=w:=⟨fun e=>by rw[e,eQ],fun e=>by rw[←e,aX]⟩
theorem JQ(s:Bill)(hl:s.figs.length≤6)(w:Bs):PureA Tryz.prog 121 [aG (aH w),.cptr [dp s]] (aj (s.whoAt w)):=by
 have h:=KR s.figs (aH w) (by omega)
 have e:s.whoAt w=idx (fun x:Fig=>decide (x.name=aH w)) s.figs:=by
  unfold Bill.whoAt
  congr 1
  funext f
  rw[decide_eq_decide]
  exact Jv.symm
 rw[e]
 generalize idx (fun x:Fig=>decide (x.name=aH w)) s.figs=n at *
 refine ag ao { l:=0,f:=121} mixed EH Tryz.func121 (by kernel_rfl) ?_
 conv=>whnf
 repeat(any_goals(first|exact ab|(refine ap ?_ ?_<;>intro _<;>first|exact aq|conv=>whnf)|((first|refine aa h ?_|refine af h rfl ?_|refine ac ?_|refine bi ?_ ?_|intro _)<;>conv=>whnf)))
 (refine⟨⟨?_⟩,trivial⟩;rfl)
def I7:Option Ent→AV
 | none=> .tuple [bB ⟨0,0,0⟩,aB false]
 | some x=> .tuple [bB x,aB true]
theorem KC{α:Type}:(∀l:List α,l.length=5→∃a b c d e,l=[a,b,c,d,e])∧(∀l:List α,l.length=6→∃a b c d e f,l=[a,b,c,d,e,f])∧(∀l:List α,l.length=9→∃a b c d e f g h i,l=[a,b,c,d,e,f,g,h,i]):=by
 refine⟨fun l h=>?_,fun l h=>?_,fun l h=>?_⟩
 ·match l,h with
  | [a,b,c,d,e],_=>exact⟨_,_,_,_,_,rfl⟩
 ·match l,h with
  | [a,b,c,d,e,f],_=>exact⟨_,_,_,_,_,_,rfl⟩
 ·match l,h with
  | [a,b,c,d,e,f,g,h,i],_=>exact⟨_,_,_,_,_,_,_,_,_,rfl⟩
theorem KP(s:Bill)(hl:s.figs.length≤6)(ws:List Bs)(hn:ws.length≤1048576):PureA Tryz.prog 84 [dp s,.slice 1 (fx ws) .no] (I7 (s.readE ws)):=by
 have hw:=JQ s hl
 obtain⟨l5,l6,l9⟩:=KC (α:=Bs)
 have his:∀{b:Bs},¬b=wIs→¬aH b=(⟨#[105,115]⟩:ByteArray):=fun {b} h e=>h (by rw[←eQ b,e];rfl)
 have hma:∀{b:Bs},¬b=Ag→¬aH b=(⟨#[109,97,121]⟩:ByteArray):=fun {b} h e=>h (by rw[←eQ b,e];rfl)
 by_cases h5:ws.length=5
 ·obtain⟨a,b,c,d,e,rfl⟩:=l5 ws h5
  by_cases hb:b=wIs
  ·subst hb
   have hwc:=hw c
   rw[show s.readE [a,wIs,c,d,e]=some ⟨0,s.whoAt c,0⟩from rfl]
   generalize s.whoAt c=n at *
   refine ag ao { l:=0,f:=84} mixed jh Tryz.func84 (by kernel_rfl) ?_
   conv=>whnf
   repeat(any_goals(first|exact ab|(refine ap ?_ ?_<;>intro _<;>first|exact aq|conv=>whnf)|((first|refine ck (decide_eq_true rfl) ?_|refine aa hwc ?_|refine af hwc rfl ?_|refine ac ?_|refine bi ?_ ?_|intro _)<;>conv=>whnf)))
   (refine⟨⟨?_⟩,trivial⟩;rfl)
  ·have hb':=his hb
   rw[show s.readE [a,b,c,d,e]=none by unfold Bill.readE;simp[hb]]
   refine ag ao { l:=0,f:=84} mixed jh Tryz.func84 (by kernel_rfl) ?_
   conv=>whnf
   repeat(any_goals(first|exact ab|(refine ap ?_ ?_<;>intro _<;>first|exact aq|conv=>whnf)|((first|refine ac ?_|refine bi ?_ ?_|intro _)<;>conv=>whnf)))
   all_goals(try(exact absurd (by assumption) hb'))
   all_goals(refine⟨⟨?_⟩,trivial⟩;rfl)
 ·by_cases h9:ws.length=9
  ·obtain⟨a,b,c,d,e,f,g,h,i,rfl⟩:=l9 ws h9
   by_cases hb:b=wIs
   ·subst hb
    have hwc:=hw c
    have hwg:=hw g
    rw[show s.readE [a,wIs,c,d,e,f,g,h,i]=some ⟨1,s.whoAt c,s.whoAt g⟩from rfl]
    generalize s.whoAt c=n at *
    generalize s.whoAt g=m at *
    refine ag ao { l:=0,f:=84} mixed jh Tryz.func84 (by kernel_rfl) ?_
    conv=>whnf
    repeat(any_goals(first|exact ab|(refine ap ?_ ?_<;>intro _<;>first|exact aq|conv=>whnf)|((first|refine ck (decide_eq_true rfl) ?_|refine aa hwc ?_|refine af hwc rfl ?_|refine aa hwg ?_|refine af hwg rfl ?_|refine ac ?_|refine bi ?_ ?_|intro _)<;>conv=>whnf)))
    (refine⟨⟨?_⟩,trivial⟩;rfl)
   ·have hb':=his hb
    rw[show s.readE [a,b,c,d,e,f,g,h,i]=none by unfold Bill.readE;simp[hb]]
    refine ag ao { l:=0,f:=84} mixed jh Tryz.func84 (by kernel_rfl) ?_
    conv=>whnf
    repeat(any_goals(first|exact ab|(refine ap ?_ ?_<;>intro _<;>first|exact aq|conv=>whnf)|((first|refine ac ?_|refine bi ?_ ?_|intro _)<;>conv=>whnf)))
    all_goals(try(exact absurd (by assumption) hb'))
    all_goals(refine⟨⟨?_⟩,trivial⟩;rfl)
  ·by_cases h6:ws.length=6
   ·obtain⟨a,b,c,d,e,f,rfl⟩:=l6 ws h6
    by_cases hb:b=Ag
    ·subst hb
     have hwd:=hw d
     rw[show s.readE [a,Ag,c,d,e,f]=some ⟨2,s.whoAt d,0⟩from rfl]
     generalize s.whoAt d=n at *
     refine ag ao { l:=0,f:=84} mixed jh Tryz.func84 (by kernel_rfl) ?_
     conv=>whnf
     repeat(any_goals(first|exact ab|(refine ap ?_ ?_<;>intro _<;>first|exact aq|conv=>whnf)|((first|refine ck (decide_eq_true rfl) ?_|refine aa hwd ?_|refine af hwd rfl ?_|refine ac ?_|refine bi ?_ ?_|intro _)<;>conv=>whnf)))
     (refine⟨⟨?_⟩,trivial⟩;rfl)
    ·have hb':=hma hb
     rw[show s.readE [a,b,c,d,e,f]=none by unfold Bill.readE;simp[hb]]
     refine ag ao { l:=0,f:=84} mixed jh Tryz.func84 (by kernel_rfl) ?_
     conv=>whnf
     repeat(any_goals(first|exact ab|(refine ap ?_ ?_<;>intro _<;>first|exact aq|conv=>whnf)|((first|refine ac ?_|refine bi ?_ ?_|intro _)<;>conv=>whnf)))
     all_goals(try(exact absurd (by assumption) hb'))
     all_goals(refine⟨⟨?_⟩,trivial⟩;rfl)
   ·have hlen:(fx ws).length=ws.length:=List.length_map ..
    rw[show s.readE ws=none by unfold Bill.readE;simp[h5,h9,h6]]
    refine ag ao { l:=0,f:=84} mixed jh Tryz.func84 (by kernel_rfl) ?_
    conv=>whnf
    repeat(any_goals(first|exact ab|(refine ap ?_ ?_<;>intro _<;>first|exact aq|conv=>whnf)|((first|refine ac ?_|refine bi ?_ ?_|intro _)<;>conv=>whnf)))
    (refine⟨⟨?_⟩,trivial⟩;rfl)
theorem mK(r:Bs)(a b:Nat):(aH r).extract a b=aH ((r.drop a).take (b-a)):=by
 refine aR ?_
 unfold bytes
 rw[ByteArray.data_extract,Array.toList_extract]
 simp[aH,List.extract_eq_take_drop]
theorem FR(r:Bs)(n:Nat)(hn:n≤r.length)(w:World):(Instr.sliceAt 9 (.string (aH r)) none (some (.int .i64 n)) none).run Tryz.prog w = .ok (.string (aH (r.take n))) w:=by
 rw[run_sliceAt_string w 9 _ _ _ _ Tryz.underlying9]
 have hs:(aH r).size=r.length:=rfl
 simp[Instr.slice,run_underlying Tryz.underlying9,Instr.sliceBounds,run_sliceBound,hs,hn]
 rw[mK];simp
theorem FP(r:Bs)(n:Nat)(hn:n≤r.length)(w:World):(Instr.sliceAt 9 (.string (aH r)) (some (.int .i64 n)) none none).run Tryz.prog w = .ok (.string (aH (r.drop n))) w:=by
 rw[run_sliceAt_string w 9 _ _ _ _ Tryz.underlying9]
 have hs:(aH r).size=r.length:=rfl
 simp[Instr.slice,run_underlying Tryz.underlying9,Instr.sliceBounds,run_sliceBound,hs,hn]
 rw[mK,List.take_of_length_le (by simp)]
inductive RowsOk:List Bs→Prop where
 | nil:RowsOk []
 | row (w:Bs) (rs:List Bs) (h:(10:UInt8)∉w) (k:RowsOk rs):RowsOk ((w++[10])::rs)
 | last (w:Bs) (h:(10:UInt8)∉w) (h0:w≠[]):RowsOk [w]
def fX(r:Bs):Bs:=Lib.trimSuffix r [10]
theorem FZ(w:Bs):fX (w++[10])=w:=by
 unfold fX Lib.trimSuffix Lib.hasSuffix
 rw[if_pos (by simp)]
 simp
theorem Dk{w:Bs}(h:(10:UInt8)∉w):fX w=w:=by
 unfold fX Lib.trimSuffix Lib.hasSuffix
 rw[if_neg]
 intro hs
 rw[List.isSuffixOf_iff_suffix]at hs
 obtain⟨a,ha⟩:=hs
 exact h (by rw[←ha];simp)
theorem y6{w:Bs}(h:(10:UInt8)∉w):∀cur:Bs,fM cur w=if cur++w=[]then []else [cur++w]:=by
 induction w with
 | nil=>intro cur;simp[fM]
 | cons b w ih =>
  intro cur
  simp only[List.mem_cons,not_or]at h
  show(if b=10 then cur::fM [] w else fM (cur++[b]) w)=_
  rw[if_neg (fun e=>h.1 e.symm),ih h.2]
  simp
theorem qh:∀{rs:List Bs},RowsOk rs→fM [] rs.flatten=rs.map fX
 | _,.nil=>rfl
 | _,.row w rs h k=>by
  rw[List.flatten_cons,List.append_assoc,List.singleton_append,jo w [] _ h,qh k,List.map_cons,FZ,List.nil_append]
 | _,.last w h h0=>by
  simp only[List.flatten_cons,List.flatten_nil,List.append_nil,List.map_cons,List.map_nil]
  rw[y6 h,Dk h,if_neg (by simpa using h0),List.nil_append]
theorem CS:∀(n:Nat) (t:Bs),t.length≤n→∃rs,RowsOk rs∧rs.flatten=t
 | 0,t,h=>⟨[],.nil,by rw[List.length_eq_zero_iff.1 (Nat.le_zero.1 h)];rfl⟩
 | n+1,t,h=>by
  by_cases h0:t=[]
  ·exact⟨[],.nil,by rw[h0];rfl⟩
  ·by_cases hm:(10:UInt8)∈t
   ·obtain⟨a,b,hab,ha⟩:∃a b,t=a++10::b∧(10:UInt8)∉a:=by
     clear h h0
     induction t with
     | nil=>simp at hm
     | cons x t ih =>
      by_cases hx:x=10
      ·exact⟨[],t,by rw[hx];rfl,by simp⟩
      ·have hm':(10:UInt8)∈t:=by
        rcases List.mem_cons.1 hm with e|e
        ·exact absurd e.symm hx
        ·exact e
       obtain⟨a,b,e,h1⟩:=ih hm'
       exact⟨x::a,b,by rw[e];rfl,by simp only[List.mem_cons,not_or];exact⟨fun e=>hx e.symm,h1⟩⟩
    obtain⟨rs,h1,h2⟩:=CS n b (by rw[hab,List.length_append,List.length_cons]at h;omega)
    exact⟨(a++[10])::rs,.row a rs ha h1,by rw[List.flatten_cons,h2,hab];simp⟩
   ·exact⟨[t],.last t hm h0,by simp⟩
theorem sV:∀(w rest:Bs),(10:UInt8)∉w→Lib.indexByte (w++10::rest) 10=(w.length:Int)
 | [],rest,_=>rfl
 | b::w,rest,h=>by
  simp only[List.mem_cons,not_or]at h
  have ih:=sV w rest h.2
  show(if(b==10)=true then(0:Int)else if(Lib.indexByte (w++10::rest) 10== -1)=true then -1 else Lib.indexByte (w++10::rest) 10+1)=_
  rw[if_neg (by simpa using fun e=>h.1 e.symm),ih,if_neg (by simp)]
  simp
theorem pO:∀(w:Bs),(10:UInt8)∉w→Lib.indexByte w 10 = -1
 | [],_=>rfl
 | b::w,h=>by
  simp only[List.mem_cons,not_or]at h
  have ih:=pO w h.2
  show(if(b==10)=true then(0:Int)else if(Lib.indexByte w 10== -1)=true then -1 else Lib.indexByte w 10+1) = -1
  rw[if_neg (by simpa using fun e=>h.1 e.symm),ih]
  rfl
theorem BC(s:ByteArray)(c:Nat):PureA Tryz.prog 119 [aG s,.v (.int .u8 c)] (aj (Lib.indexByte s.data.toList (c:Int).toNat.toUInt8)):=by
 have h:=vF s c
 generalize Lib.indexByte s.data.toList (c:Int).toNat.toUInt8=n at *
 refine ag ao { l:=0,f:=119} mixed EG Tryz.func119 (by kernel_rfl) ?_
 conv=>whnf
 repeat(any_goals(first|exact ab|(refine ap ?_ ?_<;>intro _<;>first|exact aq|conv=>whnf)|((first|refine aa h ?_|refine ac ?_|refine bi ?_ ?_|intro _)<;>conv=>whnf)))
 (refine⟨⟨?_⟩,trivial⟩;rfl)
def Bill.lineE(s:Bill)(w:Bs):Option (Option Ent):=match bM [] w with
 | none=>none
 | some ws=>if gF ws=true then some none else match s.readE ws with
  | none=>none
  | some x=>some (some x)
theorem v6(s:Bill)(w:Bs)(ls:List Bs):s.parseW (w::ls)=match s.lineE w with
  | none=>none
  | some o=>match s.parseW ls with
   | none=>none
   | some l=>some (o.toList++l):=by
 show(match bM [] w with
  | none=>none
  | some ws=>if gF ws=true then s.parseW ls else match s.readE ws with
   | none=>none
   | some x=>(s.parseW ls).map (x:: ·))=_
 unfold Bill.lineE
 cases bM [] w with
 | none=>rfl
 | some ws =>
  simp only
  by_cases hk:gF ws=true
  ·rw[if_pos hk,if_pos hk]
   cases s.parseW ls<;>rfl
  ·rw[if_neg hk,if_neg hk]
   cases s.readE ws with
   | none=>rfl
   | some x=>cases s.parseW ls<;>rfl
theorem um:∀{l w:Bs} {ws:List Bs},bM w l=some ws→ws≠[]
 | [],w,ws,h=>by cases h;simp
 | b::l,w,ws,h=>by
  rw[jD]at h
  split at h
  ·cases hs:bM [] l with
   | none=>rw[hs]at h;cases h
   | some vs=>rw[hs]at h;cases h;simp
  ·split at h
   ·exact um h
   ·cases h
theorem l7:∀{l w:Bs} {ws:List Bs},bM w l=some ws→ws.length≤l.length+1
 | [],w,ws,h=>by cases h;simp
 | b::l,w,ws,h=>by
  rw[jD]at h
  split at h
  ·cases hs:bM [] l with
   | none=>rw[hs]at h;cases h
   | some vs=>rw[hs]at h;cases h;have:=l7 hs;simp;omega
  ·split at h
   ·have:=l7 h;simp;omega
   ·cases h
def kLr:Key:=({ l:=0,f:=34}:Cx).loopKey #[26]
def kRt:Key:=⟨0,34,4⟩
def kRe:Key:=⟨0,34,5⟩
def kRs:Key:=⟨0,34,6⟩
def kRx:Key:=⟨0,34,10⟩
def kRl:Key:=⟨0,34,56⟩
def kLn:Key:=⟨0,81,1⟩
structure RS where
 l:List Ent
 st:Nat
def KD:List Ent→AV
 | []=> .slice 0 [] .tight
 | x::l=> .own kRl (l.length+1) 3 (l.length+1) 0
def lstS:List Ent→jd
 | []=>(0,none)
 | x::l=>(l.length+1,some (3,(x::l).map bB))
def LD:List Ent→List cr
 | []=>[]
 | x::l=>[(kRl,l.length+1,3,(x::l).map bB)]
def yW(x:Ent):List Ent→Ent
 | []=>x
 | y::l=>yW y l
def curS:RS→jd
 | ⟨l,2⟩=>(l.length+1,some (3,[bB ⟨0,0,0⟩]))
 | ⟨[],_⟩=>(0,none)
 | ⟨x::l,_⟩=>(l.length+1,some (3,[bB (yW x l)]))
def Lz:RS→List cr
 | ⟨l,2⟩=>[(kRx,l.length+1,3,[bB ⟨0,0,0⟩])]
 | ⟨[],_⟩=>[]
 | ⟨x::l,_⟩=>[(kRx,l.length+1,3,[bB (yW x l)])]
def yS(s:Bill)(r:Rec)(done:Bool)(l:AV)(e:Int):List cr:=[r.box kLr #[26] done,(kRt,1,1,[l]),(kRe,1,1,[aj e]),(kRs,1,1,[.ptr cz 1 5 0 0]),cQ s]
def Jl(s:Bill)(r:Rec)(u:RS):List cr :=
 (match u.st with
 | 0=>yS s r false (KD u.l) 0
 | _=>yS s r true (.slice 0 [] .tight) 6)++(LD u.l++Lz u)
def Bill.stepM(s:Bill)(l:List Ent)(r:Bs):RS:=match bM [] (fX r)with
 | none=>⟨l,1⟩
 | some ws=>if gF ws=true then⟨l,0⟩else match s.readE ws with
  | none=>⟨l,2⟩
  | some x=>⟨l++[x],0⟩
def Bill.readM(s:Bill):List Bs→List Ent→RS×List Bs
 | [],l=>(⟨l,0⟩,[])
 | r::rs,l=>if(s.stepM l r).st=0 then s.readM rs (s.stepM l r).l else(s.stepM l r,rs)
theorem jx(s:Bill):∀(rs:List Bs) (l:List Ent),match s.parseW (rs.map fX)with
  | none=>(s.readM rs l).1.st=1∨(s.readM rs l).1.st=2
  | some m=>s.readM rs l=(⟨l++m,0⟩,[])
 | [],l=>by show(⟨l,0⟩,[])=((⟨l++[],0⟩,[]):RS×List Bs);rw[List.append_nil]
 | r::rs,l=>by
  rw[List.map_cons,v6]
  unfold Bill.lineE
  show match(match(match bM [] (fX r)with
   | none=>none
   | some ws=>if gF ws=true then some none else match s.readE ws with
    | none=>none
    | some x=>some (some x))with
   | none=>none
   | some o=>match s.parseW (rs.map fX)with
    | none=>none
    | some l=>some (o.toList++l))with
   | none=>((if(s.stepM l r).st=0 then s.readM rs (s.stepM l r).l else(s.stepM l r,rs)):RS×List Bs).1.st=1∨((if(s.stepM l r).st=0 then s.readM rs (s.stepM l r).l else(s.stepM l r,rs)):RS×List Bs).1.st=2
   | some m=>(if(s.stepM l r).st=0 then s.readM rs (s.stepM l r).l else(s.stepM l r,rs))=(⟨l++m,0⟩,[])
  unfold Bill.stepM
  cases bM [] (fX r)with
  | none=>exact .inl rfl
  | some ws =>
   simp only
   by_cases hk:gF ws=true
   ·rw[if_pos hk]
    simp only[if_pos hk,if_true]
    have:=jx s rs l
    cases hp:s.parseW (rs.map fX)with
    | none=>rw[hp]at this;simpa using this
    | some m=>rw[hp]at this;simpa using this
   ·rw[if_neg hk]
    simp only[if_neg hk]
    cases s.readE ws with
    | none=>exact .inr rfl
    | some x =>
     simp only[if_true]
     have:=jx s rs (l++[x])
     cases hp:s.parseW (rs.map fX)with
     | none=>rw[hp]at this;simpa using this
     | some m=>rw[hp]at this;simpa using this
theorem y5(t:ByteArray):BoxA Tryz.prog (.fn 81) [] [aG t] (.func (.func 118) [] [.ptr kLn 1 1 0 0]) [(kLn,1,1,[aG t])]:=by
 refine aN ao { l:=0,f:=81} mixed H2 Tryz.func81 (by kernel_rfl) ?_
 conv=>whnf
 repeat(any_goals(first|exact ab|(refine ap ?_ ?_<;>intro _<;>first|exact aq|conv=>whnf)|((first|refine ac ?_|refine bi ?_ ?_|intro _)<;>conv=>whnf)))
 refine And.intro ?_ ?_
 ·conv=>whnf
  refine⟨⟨?_⟩,trivial⟩
  rfl
 ·repeat(first|exact trivial|refine And.intro rfl ?_|refine And.intro (by skip) ?_)
theorem AM{P:Program}{T:Tab}(hT:T.Ok P)(cx:Cx)(hm:P.follows .mixedOrders=true){f:FuncId}{fn:Func}{pre:List cr}{bov:List (Key×Option jd)}{post:List cr}{args:List AV}{res:AV}
  (hlook:∀k,cD pre k=match bg bov k with
   | some (some c)=>c
   | _=>(0,none))
  (hc:ak P f) (hf:P.funcs[f]?=some fn) (hok:GR fn args.length=true)
  (h:yz P T cx fn res post ⟨cI 0 args,bov,[]⟩) (hrd:cx.rd=false:=by rfl):BoxA P (.fn f) pre args res post:=by
 have kn:Knows ⟨cI 0 args,bov,[]⟩ (dV pre args):={
  slot:=fun i v h=>by
   have:=(dl args 0 i v h).2
   simp only[Nat.sub_zero]at this
   simp[dV,List.getD,this]
  box:=fun k=>by
   have:=hlook k
   split
   ·rename_i c hc;simp only[dV,this,hc]
   ·trivial
   ·rename_i hc;simp only[dV,this,hc]
  tk:=fun k=>rfl}
 unfold yz at h
 unfold GR at hok
 split at h
 ·rename_i c hb
  rw[hb]at hok
  simp only[Bool.and_eq_true,decide_eq_true_eq]at hok
  refine uO hc hf hb (by rw[hok.1.2,decide_eq_true hok.1.1];rfl) (hrd▸bJ cx hm c hok.2 (bO cx c (fun e S'=>?_) (bI hT cx c kn h)))
  rintro⟨ss',h1,h2⟩
  have key:((wU T fn.results.toList fun l=> .lst l fun l=> .need (Res res (oneOf l)) (Classical.propDecidable _) (.done [])).ev P ss' (fun _ _=>True)∧vX ss' fun _ bx _=>c9 (0,none) bx (rH post)) →
    J3 P fn S' res∧∀p∈post,S'.box p.1=(p.2.1,some (p.2.2.1,p.2.2.2)):=by
   rintro⟨h,hk⟩
   have h:=RB.ev_rm h1 _ h
   have h:=ig (rs:=fn.results.toList) (k':=fun l=> .need (res=oneOf l) (.done [])) hT (fun l=>au fun hr=>aA hr.eq (ar _)) _ _ h
   have h:=RM.wp_wp0 _ h
   exact⟨RM.wp0_mono _ h fun _ _=>trivial,e5 h1.box hk⟩
  cases e with
  | normal=>exact⟨.inl rfl,key h2⟩
  | ret=>exact⟨.inr rfl,key h2⟩
  | _=>exact h2.elim
 ·exact h.elim
def dk(s:Bill)(r:Rec)(t:Bs)(u:RS):List cr:=(kLn,1,1,[aG (aH t)])::Jl s r u
def Ly(s:Bill)(r:Rec)(t:Bs)(l:List Ent):List (Key×Option jd) :=
 rH ((kLn,1,1,[aG (aH t)])::yS s r false (KD l) 0)++[(kRl,some (lstS l)),(kRx,some (curS ⟨l,0⟩))]
theorem AL(s:Bill)(r:Rec)(t:Bs)(l:List Ent)(k:Key):cD (dk s r t ⟨l,0⟩) k=match bg (Ly s r t l) k with
  | some (some c)=>c
  | _=>(0,none):=by
 rw[kF]
 cases l with
 | nil=>exact((fO kRx k _).trans (fO kRl k (rH (dk s r t ⟨[],0⟩)))).symm
 | cons x l=>rfl
theorem jG(s:Bill)(l:List Ent)(r:Bs):s.stepM l r=⟨l,1⟩∨s.stepM l r=⟨l,0⟩∨s.stepM l r=⟨l,2⟩∨∃x,s.stepM l r=⟨l++[x],0⟩:=by
 unfold Bill.stepM
 split
 ·exact .inl rfl
 ·split
  ·exact .inr (.inl rfl)
  ·split
   ·exact .inr (.inr (.inl rfl))
   ·exact .inr (.inr (.inr ⟨_,rfl⟩))
theorem lS(s:Bill)(r:Bs)(rs:List Bs)(l:List Ent):s.readM (r::rs) l=if(s.stepM l r).st=0 then s.readM rs (s.stepM l r).l else(s.stepM l r,rs):=rfl
theorem CM(s:Bill)(l:List Ent):s.readM [] l=(⟨l,0⟩,[]):=rfl
structure LnSt where
 rs:List Bs
 l:List Ent
set_option maxHeartbeats 8000000 in
theorem BX(s:Bill)(r:Rec)(hl:∀(t:Bs) (u:RS),fW (aK (dk s r t u)) r.l=r.l)
  (hy:∀(t:Bs) (l:List Ent) (row:Bs),row.length≤800→l.length≤800→BoxA Tryz.prog (.yld kLr r.g) (dk s r t ⟨l,0⟩) [aG (aH row)] (aB (decide ((s.stepM l row).st=0))) (dk s r t (s.stepM l row)))
  (rs:List Bs) (hok:RowsOk rs) (hsz:rs.flatten.length≤800) :
  BoxA Tryz.prog (.fn 118) (dk s r rs.flatten ⟨[],0⟩) [.yld kLr r.g,.ptr kLn 1 1 0 0] (.tuple []) (dk s r (s.readM rs []).2.flatten (s.readM rs []).1):=by
 obtain⟨Z,hZ⟩:∃Z,s.readM rs []=Z:=⟨_,rfl⟩
 rw[hZ]
 obtain⟨rg,ra,rb,rl⟩:=r
 simp only at hl hy
 refine AM (bov:=Ly s ⟨rg,ra,rb,rl⟩ rs.flatten []) ao { l:=0,f:=118} mixed (AL s _ _ []) EF Tryz.func118 (by kernel_rfl) ?_
 conv=>whnf
 refine aO ao { l:=0,f:=118} mixed (fun _:LnSt=>[]) (fun u=>Ly s ⟨rg,ra,rb,rl⟩ u.rs.flatten u.l) (fun _=>[]) (fun u=>RowsOk u.rs∧u.l.length+u.rs.flatten.length≤800∧s.readM u.rs u.l=Z) (fun u=>u.rs.length) (⟨rs,[]⟩:LnSt) (by kernel_rfl)
  ⟨hok,by show 0+rs.flatten.length≤800;omega,hZ⟩ ?_
 conv=>whnf
 refine⟨⟨trivial,?_,trivial⟩,?_⟩
 ·repeat(first|exact trivial|refine kc rfl ?_|refine bW rfl ?_)
 clear hok hsz hZ
 rintro⟨rs,l⟩ ⟨hok,hsz,HZ⟩
 simp only at hok hsz HZ
 cases hok with
 | nil =>
  rw[CM]at HZ
  subst HZ
  clear hy
  cases l with
  | nil =>
   conv=>whnf
   repeat(any_goals(first|exact ab|(refine ap ?_ ?_<;>intro _<;>first|exact aq|conv=>whnf)|((first|refine ac ?_|refine bi ?_ ?_|intro _)<;>conv=>whnf)))
   refine And.intro ?_ ?_
   ·conv=>whnf
    refine⟨⟨?_⟩,trivial⟩
    rfl
   ·repeat(first|exact trivial|refine And.intro rfl ?_|refine And.intro (by first|exact(congrArg (fun z=>some (some (rg,some (0,[AV.lp .ready none #[26] ra rb z])))) (hl _ _))|rfl) ?_)
  | cons y l =>
   conv=>whnf
   repeat(any_goals(first|exact ab|(refine ap ?_ ?_<;>intro _<;>first|exact aq|conv=>whnf)|((first|refine ac ?_|refine bi ?_ ?_|intro _)<;>conv=>whnf)))
   refine And.intro ?_ ?_
   ·conv=>whnf
    refine⟨⟨?_⟩,trivial⟩
    rfl
   ·repeat(first|exact trivial|refine And.intro rfl ?_|refine And.intro (by first|exact(congrArg (fun z=>some (some (rg,some (0,[AV.lp .ready none #[26] ra rb z])))) (hl _ _))|rfl) ?_)
 | row w rs h10 hrs =>
  obtain⟨T,hT0⟩:∃T,((w++[10])::rs).flatten=T:=⟨_,rfl⟩
  rw[hT0]at hsz ⊢
  have hT:T=w++10::rs.flatten:=by rw[←hT0];simp
  have hTl:T.length=w.length+1+rs.flatten.length:=by rw[hT];simp;omega
  have hidx:=BC (aH T) 10
  rw[show Lib.indexByte (aH T).data.toList ((10:Nat):Int).toNat.toUInt8=(w.length:Int) by show Lib.indexByte T 10=_;rw[hT];exact sV w _ h10]at hidx
  have hs1:=FR T (w.length+1) (by omega)
  rw[show T.take (w.length+1)=w++[10] by rw[hT,show w++10::rs.flatten=(w++[10])++rs.flatten by simp];exact List.take_left' (by simp)]at hs1
  have hs2:=FP T (w.length+1) (by omega)
  rw[show T.drop (w.length+1)=rs.flatten by rw[hT,show w++10::rs.flatten=(w++[10])++rs.flatten by simp];exact List.drop_left' (by simp)]at hs2
  rw[show((w.length+1:Nat):Int)=(w.length:Int)+1 by omega]at hs1 hs2
  have hTs:(aH T).size=T.length:=rfl
  have h256:(aH T).size=w.length+1+rs.flatten.length:=hTl
  have hy:=hy (rs.flatten) (l) (w++[10]) (by(try simp only[List.length_append,List.length_cons,List.length_nil]);omega) (by omega)
  have hY:BoxA Tryz.prog (.yld kLr rg) (dk s ⟨rg,ra,rb,fW (aK (dk s ⟨rg,ra,rb,rl⟩ (rs.flatten) ⟨l,0⟩)) rl⟩ (rs.flatten) ⟨l,0⟩) [aG (aH (w++[10]))] (aB (decide ((s.stepM (l) (w++[10])).st=0))) (dk s ⟨rg,ra,rb,rl⟩ (rs.flatten) (s.stepM (l) (w++[10]))):=by
   have e:=hl (rs.flatten) ⟨l,0⟩
   rw[e];exact hy
  clear hy
  rw[lS]at HZ
  obtain⟨R0,hR0⟩:∃R0,w++[10]=R0:=⟨_,rfl⟩
  rw[hR0]at hY HZ hs1
  clear hT hT0 h10
  rcases jG s l R0 with e|e|e|⟨x,e⟩
  ·rw[e]at hY HZ
   rw[if_neg (by simp)]at HZ
   subst HZ
   cases l with
   | nil =>
    conv=>whnf
    repeat(any_goals(first|exact ab|(refine ap ?_ ?_<;>intro _<;>first|exact aq|conv=>whnf)|((first|refine aa hidx ?_|refine af hidx rfl ?_|refine ac ?_|refine bi ?_ ?_|intro _)<;>conv=>whnf)))
    refine⟨_,hs1,?_⟩
    conv=>whnf
    repeat(any_goals(first|exact ab|(refine ap ?_ ?_<;>intro _<;>first|exact aq|conv=>whnf)|((first|refine aa hidx ?_|refine af hidx rfl ?_|refine ac ?_|refine bi ?_ ?_|intro _)<;>conv=>whnf)))
    refine⟨_,hs2,?_⟩
    conv=>whnf
    repeat(any_goals(first|exact ab|(refine ap ?_ ?_<;>intro _<;>first|exact aq|conv=>whnf)|((first|refine aa hidx ?_|refine af hidx rfl ?_|refine ac ?_|refine bi ?_ ?_|intro _)<;>conv=>whnf)))
    refine⟨aK (dk s ⟨rg,ra,rb,rl⟩ (rs.flatten) ⟨[],0⟩),?_⟩
    conv=>whnf
    repeat(refine ah (az _ _) ?_<;>(conv=>whnf))
    refine⟨_,_,hY,?_⟩
    conv=>whnf
    repeat(refine ah (az _ _) ?_<;>(conv=>whnf))
    repeat(any_goals(first|exact ab|(refine ap ?_ ?_<;>intro _<;>first|exact aq|conv=>whnf)|((first|refine aa hidx ?_|refine af hidx rfl ?_|refine ac ?_|refine bi ?_ ?_|intro _)<;>conv=>whnf)))
    refine And.intro ?_ ?_
    ·conv=>whnf
     exact⟨⟨rfl⟩,trivial⟩
    ·rw[cb]
     repeat(first|exact trivial|refine kc rfl ?_|refine kc (congrArg (fun z=>some (some (rg,some (0,[AV.lp .done (some .ret) #[26] ra rb z])))) (hl _ _)) ?_)
   | cons y l =>
    conv=>whnf
    repeat(any_goals(first|exact ab|(refine ap ?_ ?_<;>intro _<;>first|exact aq|conv=>whnf)|((first|refine aa hidx ?_|refine af hidx rfl ?_|refine ac ?_|refine bi ?_ ?_|intro _)<;>conv=>whnf)))
    refine⟨_,hs1,?_⟩
    conv=>whnf
    repeat(any_goals(first|exact ab|(refine ap ?_ ?_<;>intro _<;>first|exact aq|conv=>whnf)|((first|refine aa hidx ?_|refine af hidx rfl ?_|refine ac ?_|refine bi ?_ ?_|intro _)<;>conv=>whnf)))
    refine⟨_,hs2,?_⟩
    conv=>whnf
    repeat(any_goals(first|exact ab|(refine ap ?_ ?_<;>intro _<;>first|exact aq|conv=>whnf)|((first|refine aa hidx ?_|refine af hidx rfl ?_|refine ac ?_|refine bi ?_ ?_|intro _)<;>conv=>whnf)))
    refine⟨aK (dk s ⟨rg,ra,rb,rl⟩ (rs.flatten) ⟨(y::l),0⟩),?_⟩
    conv=>whnf
    repeat(refine ah (az _ _) ?_<;>(conv=>whnf))
    refine⟨_,_,hY,?_⟩
    conv=>whnf
    repeat(refine ah (az _ _) ?_<;>(conv=>whnf))
    repeat(any_goals(first|exact ab|(refine ap ?_ ?_<;>intro _<;>first|exact aq|conv=>whnf)|((first|refine aa hidx ?_|refine af hidx rfl ?_|refine ac ?_|refine bi ?_ ?_|intro _)<;>conv=>whnf)))
    refine And.intro ?_ ?_
    ·conv=>whnf
     exact⟨⟨rfl⟩,trivial⟩
    ·rw[cb]
     repeat(first|exact trivial|refine kc rfl ?_|refine kc (congrArg (fun z=>some (some (rg,some (0,[AV.lp .done (some .ret) #[26] ra rb z])))) (hl _ _)) ?_)
  ·rw[e]at hY HZ
   rw[if_pos rfl]at HZ
   cases l with
   | nil =>
    conv=>whnf
    repeat(any_goals(first|exact ab|(refine ap ?_ ?_<;>intro _<;>first|exact aq|conv=>whnf)|((first|refine aa hidx ?_|refine af hidx rfl ?_|refine ac ?_|refine bi ?_ ?_|intro _)<;>conv=>whnf)))
    refine⟨_,hs1,?_⟩
    conv=>whnf
    repeat(any_goals(first|exact ab|(refine ap ?_ ?_<;>intro _<;>first|exact aq|conv=>whnf)|((first|refine aa hidx ?_|refine af hidx rfl ?_|refine ac ?_|refine bi ?_ ?_|intro _)<;>conv=>whnf)))
    refine⟨_,hs2,?_⟩
    conv=>whnf
    repeat(any_goals(first|exact ab|(refine ap ?_ ?_<;>intro _<;>first|exact aq|conv=>whnf)|((first|refine aa hidx ?_|refine af hidx rfl ?_|refine ac ?_|refine bi ?_ ?_|intro _)<;>conv=>whnf)))
    refine⟨aK (dk s ⟨rg,ra,rb,rl⟩ (rs.flatten) ⟨[],0⟩),?_⟩
    conv=>whnf
    repeat(refine ah (az _ _) ?_<;>(conv=>whnf))
    refine⟨_,_,hY,?_⟩
    conv=>whnf
    repeat(refine ah (az _ _) ?_<;>(conv=>whnf))
    repeat(any_goals(first|exact ab|(refine ap ?_ ?_<;>intro _<;>first|exact aq|conv=>whnf)|((first|refine aa hidx ?_|refine af hidx rfl ?_|refine ac ?_|refine bi ?_ ?_|intro _)<;>conv=>whnf)))
    (refine⟨⟨rs,[]⟩,⟨hrs,by show List.length ([])+(rs).flatten.length≤800;(try simp only[List.length_append,List.length_cons,List.length_nil]at hsz ⊢);omega,HZ⟩,(by show(rs).length<_;simp),?_⟩;(conv=>whnf);refine⟨?_,?_,?_⟩<;>repeat(first|exact trivial|refine sc rfl ?_|refine kn ?_|refine kc rfl ?_|refine sc (by first|exact(congrArg (fun z=>some (some (rg,some (0,[AV.lp .ready none #[26] ra rb z])))) (hl _ _))|rfl) ?_|refine kc (by first|exact(congrArg (fun z=>some (some (rg,some (0,[AV.lp .ready none #[26] ra rb z])))) (hl _ _))|rfl) ?_))
   | cons y l =>
    conv=>whnf
    repeat(any_goals(first|exact ab|(refine ap ?_ ?_<;>intro _<;>first|exact aq|conv=>whnf)|((first|refine aa hidx ?_|refine af hidx rfl ?_|refine ac ?_|refine bi ?_ ?_|intro _)<;>conv=>whnf)))
    refine⟨_,hs1,?_⟩
    conv=>whnf
    repeat(any_goals(first|exact ab|(refine ap ?_ ?_<;>intro _<;>first|exact aq|conv=>whnf)|((first|refine aa hidx ?_|refine af hidx rfl ?_|refine ac ?_|refine bi ?_ ?_|intro _)<;>conv=>whnf)))
    refine⟨_,hs2,?_⟩
    conv=>whnf
    repeat(any_goals(first|exact ab|(refine ap ?_ ?_<;>intro _<;>first|exact aq|conv=>whnf)|((first|refine aa hidx ?_|refine af hidx rfl ?_|refine ac ?_|refine bi ?_ ?_|intro _)<;>conv=>whnf)))
    refine⟨aK (dk s ⟨rg,ra,rb,rl⟩ (rs.flatten) ⟨(y::l),0⟩),?_⟩
    conv=>whnf
    repeat(refine ah (az _ _) ?_<;>(conv=>whnf))
    refine⟨_,_,hY,?_⟩
    conv=>whnf
    repeat(refine ah (az _ _) ?_<;>(conv=>whnf))
    repeat(any_goals(first|exact ab|(refine ap ?_ ?_<;>intro _<;>first|exact aq|conv=>whnf)|((first|refine aa hidx ?_|refine af hidx rfl ?_|refine ac ?_|refine bi ?_ ?_|intro _)<;>conv=>whnf)))
    (refine⟨⟨rs,(y::l)⟩,⟨hrs,by show List.length ((y::l))+(rs).flatten.length≤800;(try simp only[List.length_append,List.length_cons,List.length_nil]at hsz ⊢);omega,HZ⟩,(by show(rs).length<_;simp),?_⟩;(conv=>whnf);refine⟨?_,?_,?_⟩<;>repeat(first|exact trivial|refine sc rfl ?_|refine kn ?_|refine kc rfl ?_|refine sc (by first|exact(congrArg (fun z=>some (some (rg,some (0,[AV.lp .ready none #[26] ra rb z])))) (hl _ _))|rfl) ?_|refine kc (by first|exact(congrArg (fun z=>some (some (rg,some (0,[AV.lp .ready none #[26] ra rb z])))) (hl _ _))|rfl) ?_))
  ·rw[e]at hY HZ
   rw[if_neg (by simp)]at HZ
   subst HZ
   cases l with
   | nil =>
    conv=>whnf
    repeat(any_goals(first|exact ab|(refine ap ?_ ?_<;>intro _<;>first|exact aq|conv=>whnf)|((first|refine aa hidx ?_|refine af hidx rfl ?_|refine ac ?_|refine bi ?_ ?_|intro _)<;>conv=>whnf)))
    refine⟨_,hs1,?_⟩
    conv=>whnf
    repeat(any_goals(first|exact ab|(refine ap ?_ ?_<;>intro _<;>first|exact aq|conv=>whnf)|((first|refine aa hidx ?_|refine af hidx rfl ?_|refine ac ?_|refine bi ?_ ?_|intro _)<;>conv=>whnf)))
    refine⟨_,hs2,?_⟩
    conv=>whnf
    repeat(any_goals(first|exact ab|(refine ap ?_ ?_<;>intro _<;>first|exact aq|conv=>whnf)|((first|refine aa hidx ?_|refine af hidx rfl ?_|refine ac ?_|refine bi ?_ ?_|intro _)<;>conv=>whnf)))
    refine⟨aK (dk s ⟨rg,ra,rb,rl⟩ (rs.flatten) ⟨[],0⟩),?_⟩
    conv=>whnf
    repeat(refine ah (az _ _) ?_<;>(conv=>whnf))
    refine⟨_,_,hY,?_⟩
    conv=>whnf
    repeat(refine ah (az _ _) ?_<;>(conv=>whnf))
    repeat(any_goals(first|exact ab|(refine ap ?_ ?_<;>intro _<;>first|exact aq|conv=>whnf)|((first|refine aa hidx ?_|refine af hidx rfl ?_|refine ac ?_|refine bi ?_ ?_|intro _)<;>conv=>whnf)))
    refine And.intro ?_ ?_
    ·conv=>whnf
     exact⟨⟨rfl⟩,trivial⟩
    ·rw[cb]
     repeat(first|exact trivial|refine kc rfl ?_|refine kc (congrArg (fun z=>some (some (rg,some (0,[AV.lp .done (some .ret) #[26] ra rb z])))) (hl _ _)) ?_)
   | cons y l =>
    conv=>whnf
    repeat(any_goals(first|exact ab|(refine ap ?_ ?_<;>intro _<;>first|exact aq|conv=>whnf)|((first|refine aa hidx ?_|refine af hidx rfl ?_|refine ac ?_|refine bi ?_ ?_|intro _)<;>conv=>whnf)))
    refine⟨_,hs1,?_⟩
    conv=>whnf
    repeat(any_goals(first|exact ab|(refine ap ?_ ?_<;>intro _<;>first|exact aq|conv=>whnf)|((first|refine aa hidx ?_|refine af hidx rfl ?_|refine ac ?_|refine bi ?_ ?_|intro _)<;>conv=>whnf)))
    refine⟨_,hs2,?_⟩
    conv=>whnf
    repeat(any_goals(first|exact ab|(refine ap ?_ ?_<;>intro _<;>first|exact aq|conv=>whnf)|((first|refine aa hidx ?_|refine af hidx rfl ?_|refine ac ?_|refine bi ?_ ?_|intro _)<;>conv=>whnf)))
    refine⟨aK (dk s ⟨rg,ra,rb,rl⟩ (rs.flatten) ⟨(y::l),0⟩),?_⟩
    conv=>whnf
    repeat(refine ah (az _ _) ?_<;>(conv=>whnf))
    refine⟨_,_,hY,?_⟩
    conv=>whnf
    repeat(refine ah (az _ _) ?_<;>(conv=>whnf))
    repeat(any_goals(first|exact ab|(refine ap ?_ ?_<;>intro _<;>first|exact aq|conv=>whnf)|((first|refine aa hidx ?_|refine af hidx rfl ?_|refine ac ?_|refine bi ?_ ?_|intro _)<;>conv=>whnf)))
    refine And.intro ?_ ?_
    ·conv=>whnf
     exact⟨⟨rfl⟩,trivial⟩
    ·rw[cb]
     repeat(first|exact trivial|refine kc rfl ?_|refine kc (congrArg (fun z=>some (some (rg,some (0,[AV.lp .done (some .ret) #[26] ra rb z])))) (hl _ _)) ?_)
  ·rw[e]at hY HZ
   rw[if_pos rfl]at HZ
   cases l with
   | nil =>
    conv=>whnf
    repeat(any_goals(first|exact ab|(refine ap ?_ ?_<;>intro _<;>first|exact aq|conv=>whnf)|((first|refine aa hidx ?_|refine af hidx rfl ?_|refine ac ?_|refine bi ?_ ?_|intro _)<;>conv=>whnf)))
    refine⟨_,hs1,?_⟩
    conv=>whnf
    repeat(any_goals(first|exact ab|(refine ap ?_ ?_<;>intro _<;>first|exact aq|conv=>whnf)|((first|refine aa hidx ?_|refine af hidx rfl ?_|refine ac ?_|refine bi ?_ ?_|intro _)<;>conv=>whnf)))
    refine⟨_,hs2,?_⟩
    conv=>whnf
    repeat(any_goals(first|exact ab|(refine ap ?_ ?_<;>intro _<;>first|exact aq|conv=>whnf)|((first|refine aa hidx ?_|refine af hidx rfl ?_|refine ac ?_|refine bi ?_ ?_|intro _)<;>conv=>whnf)))
    refine⟨aK (dk s ⟨rg,ra,rb,rl⟩ (rs.flatten) ⟨[],0⟩),?_⟩
    conv=>whnf
    repeat(refine ah (az _ _) ?_<;>(conv=>whnf))
    refine⟨_,_,hY,?_⟩
    conv=>whnf
    repeat(refine ah (az _ _) ?_<;>(conv=>whnf))
    repeat(any_goals(first|exact ab|(refine ap ?_ ?_<;>intro _<;>first|exact aq|conv=>whnf)|((first|refine aa hidx ?_|refine af hidx rfl ?_|refine ac ?_|refine bi ?_ ?_|intro _)<;>conv=>whnf)))
    (refine⟨⟨rs,([]++[x])⟩,⟨hrs,by show List.length (([]++[x]))+(rs).flatten.length≤800;(try simp only[List.length_append,List.length_cons,List.length_nil]at hsz ⊢);omega,HZ⟩,(by show(rs).length<_;simp),?_⟩;(conv=>whnf);refine⟨?_,?_,?_⟩<;>repeat(first|exact trivial|refine sc rfl ?_|refine kn ?_|refine kc rfl ?_|refine sc (by first|exact(congrArg (fun z=>some (some (rg,some (0,[AV.lp .ready none #[26] ra rb z])))) (hl _ _))|rfl) ?_|refine kc (by first|exact(congrArg (fun z=>some (some (rg,some (0,[AV.lp .ready none #[26] ra rb z])))) (hl _ _))|rfl) ?_))
   | cons y l =>
    conv=>whnf
    repeat(any_goals(first|exact ab|(refine ap ?_ ?_<;>intro _<;>first|exact aq|conv=>whnf)|((first|refine aa hidx ?_|refine af hidx rfl ?_|refine ac ?_|refine bi ?_ ?_|intro _)<;>conv=>whnf)))
    refine⟨_,hs1,?_⟩
    conv=>whnf
    repeat(any_goals(first|exact ab|(refine ap ?_ ?_<;>intro _<;>first|exact aq|conv=>whnf)|((first|refine aa hidx ?_|refine af hidx rfl ?_|refine ac ?_|refine bi ?_ ?_|intro _)<;>conv=>whnf)))
    refine⟨_,hs2,?_⟩
    conv=>whnf
    repeat(any_goals(first|exact ab|(refine ap ?_ ?_<;>intro _<;>first|exact aq|conv=>whnf)|((first|refine aa hidx ?_|refine af hidx rfl ?_|refine ac ?_|refine bi ?_ ?_|intro _)<;>conv=>whnf)))
    refine⟨aK (dk s ⟨rg,ra,rb,rl⟩ (rs.flatten) ⟨(y::l),0⟩),?_⟩
    conv=>whnf
    repeat(refine ah (az _ _) ?_<;>(conv=>whnf))
    refine⟨_,_,hY,?_⟩
    conv=>whnf
    repeat(refine ah (az _ _) ?_<;>(conv=>whnf))
    repeat(any_goals(first|exact ab|(refine ap ?_ ?_<;>intro _<;>first|exact aq|conv=>whnf)|((first|refine aa hidx ?_|refine af hidx rfl ?_|refine ac ?_|refine bi ?_ ?_|intro _)<;>conv=>whnf)))
    (refine⟨⟨rs,((y::l)++[x])⟩,⟨hrs,by show List.length (((y::l)++[x]))+(rs).flatten.length≤800;(try simp only[List.length_append,List.length_cons,List.length_nil]at hsz ⊢);omega,HZ⟩,(by show(rs).length<_;simp),?_⟩;(conv=>whnf);refine⟨?_,?_,?_⟩<;>repeat(first|exact trivial|refine sc rfl ?_|refine kn ?_|refine kc rfl ?_|refine sc (by first|exact(congrArg (fun z=>some (some (rg,some (0,[AV.lp .ready none #[26] ra rb z])))) (hl _ _))|rfl) ?_|refine kc (by first|exact(congrArg (fun z=>some (some (rg,some (0,[AV.lp .ready none #[26] ra rb z])))) (hl _ _))|rfl) ?_))
 | last w h10 h0 =>
  obtain⟨T,hT0⟩:∃T,([w]:List Bs).flatten=T:=⟨_,rfl⟩
  rw[hT0]at hsz ⊢
  have hT:w=T:=by rw[←hT0];simp
  subst hT
  have hidx:=BC (aH w) 10
  rw[show Lib.indexByte (aH w).data.toList ((10:Nat):Int).toNat.toUInt8 = -1 from pO w h10]at hidx
  have hTs:(aH w).size=w.length:=rfl
  have hpos:0<w.length:=List.length_pos_iff.2 h0
  have hrs:RowsOk []:= .nil
  have hfl:([]:List Bs).flatten.length=0:=rfl
  have hy:=hy ([]) (l) (w) (by(try simp only[List.length_append,List.length_cons,List.length_nil]);omega) (by omega)
  have hY:BoxA Tryz.prog (.yld kLr rg) (dk s ⟨rg,ra,rb,fW (aK (dk s ⟨rg,ra,rb,rl⟩ ([]) ⟨l,0⟩)) rl⟩ ([]) ⟨l,0⟩) [aG (aH (w))] (aB (decide ((s.stepM (l) (w)).st=0))) (dk s ⟨rg,ra,rb,rl⟩ ([]) (s.stepM (l) (w))):=by
   have e:=hl ([]) ⟨l,0⟩
   rw[e];exact hy
  clear hy
  rw[lS]at HZ
  obtain⟨R0,hR0⟩:∃R0,w=R0:=⟨_,rfl⟩
  subst hR0
  clear hT0 h10
  rcases jG s l w with e|e|e|⟨x,e⟩
  ·rw[e]at hY HZ
   rw[if_neg (by simp)]at HZ
   subst HZ
   cases l with
   | nil =>
    conv=>whnf
    repeat(any_goals(first|exact ab|(refine ap ?_ ?_<;>intro _<;>first|exact aq|conv=>whnf)|((first|refine aa hidx ?_|refine af hidx rfl ?_|refine ac ?_|refine bi ?_ ?_|intro _)<;>conv=>whnf)))
    refine⟨aK (dk s ⟨rg,ra,rb,rl⟩ ([]) ⟨[],0⟩),?_⟩
    conv=>whnf
    repeat(refine ah (az _ _) ?_<;>(conv=>whnf))
    refine⟨_,_,hY,?_⟩
    conv=>whnf
    repeat(refine ah (az _ _) ?_<;>(conv=>whnf))
    repeat(any_goals(first|exact ab|(refine ap ?_ ?_<;>intro _<;>first|exact aq|conv=>whnf)|((first|refine aa hidx ?_|refine af hidx rfl ?_|refine ac ?_|refine bi ?_ ?_|intro _)<;>conv=>whnf)))
    refine And.intro ?_ ?_
    ·conv=>whnf
     exact⟨⟨rfl⟩,trivial⟩
    ·rw[cb]
     repeat(first|exact trivial|refine kc rfl ?_|refine kc (congrArg (fun z=>some (some (rg,some (0,[AV.lp .done (some .ret) #[26] ra rb z])))) (hl _ _)) ?_)
   | cons y l =>
    conv=>whnf
    repeat(any_goals(first|exact ab|(refine ap ?_ ?_<;>intro _<;>first|exact aq|conv=>whnf)|((first|refine aa hidx ?_|refine af hidx rfl ?_|refine ac ?_|refine bi ?_ ?_|intro _)<;>conv=>whnf)))
    refine⟨aK (dk s ⟨rg,ra,rb,rl⟩ ([]) ⟨(y::l),0⟩),?_⟩
    conv=>whnf
    repeat(refine ah (az _ _) ?_<;>(conv=>whnf))
    refine⟨_,_,hY,?_⟩
    conv=>whnf
    repeat(refine ah (az _ _) ?_<;>(conv=>whnf))
    repeat(any_goals(first|exact ab|(refine ap ?_ ?_<;>intro _<;>first|exact aq|conv=>whnf)|((first|refine aa hidx ?_|refine af hidx rfl ?_|refine ac ?_|refine bi ?_ ?_|intro _)<;>conv=>whnf)))
    refine And.intro ?_ ?_
    ·conv=>whnf
     exact⟨⟨rfl⟩,trivial⟩
    ·rw[cb]
     repeat(first|exact trivial|refine kc rfl ?_|refine kc (congrArg (fun z=>some (some (rg,some (0,[AV.lp .done (some .ret) #[26] ra rb z])))) (hl _ _)) ?_)
  ·rw[e]at hY HZ
   rw[if_pos rfl]at HZ
   cases l with
   | nil =>
    conv=>whnf
    repeat(any_goals(first|exact ab|(refine ap ?_ ?_<;>intro _<;>first|exact aq|conv=>whnf)|((first|refine aa hidx ?_|refine af hidx rfl ?_|refine ac ?_|refine bi ?_ ?_|intro _)<;>conv=>whnf)))
    refine⟨aK (dk s ⟨rg,ra,rb,rl⟩ ([]) ⟨[],0⟩),?_⟩
    conv=>whnf
    repeat(refine ah (az _ _) ?_<;>(conv=>whnf))
    refine⟨_,_,hY,?_⟩
    conv=>whnf
    repeat(refine ah (az _ _) ?_<;>(conv=>whnf))
    repeat(any_goals(first|exact ab|(refine ap ?_ ?_<;>intro _<;>first|exact aq|conv=>whnf)|((first|refine aa hidx ?_|refine af hidx rfl ?_|refine ac ?_|refine bi ?_ ?_|intro _)<;>conv=>whnf)))
    (refine⟨⟨[],[]⟩,⟨hrs,by show List.length ([])+([]).flatten.length≤800;(try simp only[List.length_append,List.length_cons,List.length_nil]at hsz ⊢);omega,HZ⟩,(by show([]).length<_;simp),?_⟩;(conv=>whnf);refine⟨?_,?_,?_⟩<;>repeat(first|exact trivial|refine sc rfl ?_|refine kn ?_|refine kc rfl ?_|refine sc (by first|exact(congrArg (fun z=>some (some (rg,some (0,[AV.lp .ready none #[26] ra rb z])))) (hl _ _))|rfl) ?_|refine kc (by first|exact(congrArg (fun z=>some (some (rg,some (0,[AV.lp .ready none #[26] ra rb z])))) (hl _ _))|rfl) ?_))
   | cons y l =>
    conv=>whnf
    repeat(any_goals(first|exact ab|(refine ap ?_ ?_<;>intro _<;>first|exact aq|conv=>whnf)|((first|refine aa hidx ?_|refine af hidx rfl ?_|refine ac ?_|refine bi ?_ ?_|intro _)<;>conv=>whnf)))
    refine⟨aK (dk s ⟨rg,ra,rb,rl⟩ ([]) ⟨(y::l),0⟩),?_⟩
    conv=>whnf
    repeat(refine ah (az _ _) ?_<;>(conv=>whnf))
    refine⟨_,_,hY,?_⟩
    conv=>whnf
    repeat(refine ah (az _ _) ?_<;>(conv=>whnf))
    repeat(any_goals(first|exact ab|(refine ap ?_ ?_<;>intro _<;>first|exact aq|conv=>whnf)|((first|refine aa hidx ?_|refine af hidx rfl ?_|refine ac ?_|refine bi ?_ ?_|intro _)<;>conv=>whnf)))
    (refine⟨⟨[],(y::l)⟩,⟨hrs,by show List.length ((y::l))+([]).flatten.length≤800;(try simp only[List.length_append,List.length_cons,List.length_nil]at hsz ⊢);omega,HZ⟩,(by show([]).length<_;simp),?_⟩;(conv=>whnf);refine⟨?_,?_,?_⟩<;>repeat(first|exact trivial|refine sc rfl ?_|refine kn ?_|refine kc rfl ?_|refine sc (by first|exact(congrArg (fun z=>some (some (rg,some (0,[AV.lp .ready none #[26] ra rb z])))) (hl _ _))|rfl) ?_|refine kc (by first|exact(congrArg (fun z=>some (some (rg,some (0,[AV.lp .ready none #[26] ra rb z])))) (hl _ _))|rfl) ?_))
  ·rw[e]at hY HZ
   rw[if_neg (by simp)]at HZ
   subst HZ
   cases l with
   | nil =>
    conv=>whnf
    repeat(any_goals(first|exact ab|(refine ap ?_ ?_<;>intro _<;>first|exact aq|conv=>whnf)|((first|refine aa hidx ?_|refine af hidx rfl ?_|refine ac ?_|refine bi ?_ ?_|intro _)<;>conv=>whnf)))
    refine⟨aK (dk s ⟨rg,ra,rb,rl⟩ ([]) ⟨[],0⟩),?_⟩
    conv=>whnf
    repeat(refine ah (az _ _) ?_<;>(conv=>whnf))
    refine⟨_,_,hY,?_⟩
    conv=>whnf
    repeat(refine ah (az _ _) ?_<;>(conv=>whnf))
    repeat(any_goals(first|exact ab|(refine ap ?_ ?_<;>intro _<;>first|exact aq|conv=>whnf)|((first|refine aa hidx ?_|refine af hidx rfl ?_|refine ac ?_|refine bi ?_ ?_|intro _)<;>conv=>whnf)))
    refine And.intro ?_ ?_
    ·conv=>whnf
     exact⟨⟨rfl⟩,trivial⟩
    ·rw[cb]
     repeat(first|exact trivial|refine kc rfl ?_|refine kc (congrArg (fun z=>some (some (rg,some (0,[AV.lp .done (some .ret) #[26] ra rb z])))) (hl _ _)) ?_)
   | cons y l =>
    conv=>whnf
    repeat(any_goals(first|exact ab|(refine ap ?_ ?_<;>intro _<;>first|exact aq|conv=>whnf)|((first|refine aa hidx ?_|refine af hidx rfl ?_|refine ac ?_|refine bi ?_ ?_|intro _)<;>conv=>whnf)))
    refine⟨aK (dk s ⟨rg,ra,rb,rl⟩ ([]) ⟨(y::l),0⟩),?_⟩
    conv=>whnf
    repeat(refine ah (az _ _) ?_<;>(conv=>whnf))
    refine⟨_,_,hY,?_⟩
    conv=>whnf
    repeat(refine ah (az _ _) ?_<;>(conv=>whnf))
    repeat(any_goals(first|exact ab|(refine ap ?_ ?_<;>intro _<;>first|exact aq|conv=>whnf)|((first|refine aa hidx ?_|refine af hidx rfl ?_|refine ac ?_|refine bi ?_ ?_|intro _)<;>conv=>whnf)))
    refine And.intro ?_ ?_
    ·conv=>whnf
     exact⟨⟨rfl⟩,trivial⟩
    ·rw[cb]
     repeat(first|exact trivial|refine kc rfl ?_|refine kc (congrArg (fun z=>some (some (rg,some (0,[AV.lp .done (some .ret) #[26] ra rb z])))) (hl _ _)) ?_)
  ·rw[e]at hY HZ
   rw[if_pos rfl]at HZ
   cases l with
   | nil =>
    conv=>whnf
    repeat(any_goals(first|exact ab|(refine ap ?_ ?_<;>intro _<;>first|exact aq|conv=>whnf)|((first|refine aa hidx ?_|refine af hidx rfl ?_|refine ac ?_|refine bi ?_ ?_|intro _)<;>conv=>whnf)))
    refine⟨aK (dk s ⟨rg,ra,rb,rl⟩ ([]) ⟨[],0⟩),?_⟩
    conv=>whnf
    repeat(refine ah (az _ _) ?_<;>(conv=>whnf))
    refine⟨_,_,hY,?_⟩
    conv=>whnf
    repeat(refine ah (az _ _) ?_<;>(conv=>whnf))
    repeat(any_goals(first|exact ab|(refine ap ?_ ?_<;>intro _<;>first|exact aq|conv=>whnf)|((first|refine aa hidx ?_|refine af hidx rfl ?_|refine ac ?_|refine bi ?_ ?_|intro _)<;>conv=>whnf)))
    (refine⟨⟨[],([]++[x])⟩,⟨hrs,by show List.length (([]++[x]))+([]).flatten.length≤800;(try simp only[List.length_append,List.length_cons,List.length_nil]at hsz ⊢);omega,HZ⟩,(by show([]).length<_;simp),?_⟩;(conv=>whnf);refine⟨?_,?_,?_⟩<;>repeat(first|exact trivial|refine sc rfl ?_|refine kn ?_|refine kc rfl ?_|refine sc (by first|exact(congrArg (fun z=>some (some (rg,some (0,[AV.lp .ready none #[26] ra rb z])))) (hl _ _))|rfl) ?_|refine kc (by first|exact(congrArg (fun z=>some (some (rg,some (0,[AV.lp .ready none #[26] ra rb z])))) (hl _ _))|rfl) ?_))
   | cons y l =>
    conv=>whnf
    repeat(any_goals(first|exact ab|(refine ap ?_ ?_<;>intro _<;>first|exact aq|conv=>whnf)|((first|refine aa hidx ?_|refine af hidx rfl ?_|refine ac ?_|refine bi ?_ ?_|intro _)<;>conv=>whnf)))
    refine⟨aK (dk s ⟨rg,ra,rb,rl⟩ ([]) ⟨(y::l),0⟩),?_⟩
    conv=>whnf
    repeat(refine ah (az _ _) ?_<;>(conv=>whnf))
    refine⟨_,_,hY,?_⟩
    conv=>whnf
    repeat(refine ah (az _ _) ?_<;>(conv=>whnf))
    repeat(any_goals(first|exact ab|(refine ap ?_ ?_<;>intro _<;>first|exact aq|conv=>whnf)|((first|refine aa hidx ?_|refine af hidx rfl ?_|refine ac ?_|refine bi ?_ ?_|intro _)<;>conv=>whnf)))
    (refine⟨⟨[],((y::l)++[x])⟩,⟨hrs,by show List.length (((y::l)++[x]))+([]).flatten.length≤800;(try simp only[List.length_append,List.length_cons,List.length_nil]at hsz ⊢);omega,HZ⟩,(by show([]).length<_;simp),?_⟩;(conv=>whnf);refine⟨?_,?_,?_⟩<;>repeat(first|exact trivial|refine sc rfl ?_|refine kn ?_|refine kc rfl ?_|refine sc (by first|exact(congrArg (fun z=>some (some (rg,some (0,[AV.lp .ready none #[26] ra rb z])))) (hl _ _))|rfl) ?_|refine kc (by first|exact(congrArg (fun z=>some (some (rg,some (0,[AV.lp .ready none #[26] ra rb z])))) (hl _ _))|rfl) ?_))
def Fa:List Key:=[kLn,kLr,kRt,kRe,kRs,cz]
theorem FC{s:Bill}{r:Rec}(h:fW Fa r.l=r.l)(t:Bs)(u:RS):fW (aK (dk s r t u)) r.l=r.l:=by
 rw[←h]
 refine kV (fun k hk=>?_) _
 unfold dk Jl yS
 obtain⟨l,st⟩:=u
 cases st with
 | zero=>exact gW (aK (LD l++Lz ⟨l,0⟩)) Fa k hk
 | succ n=>exact gW (aK (LD l++Lz ⟨l,n+1⟩)) Fa k hk
def tj(e:Int):AV:= .tuple [lE,aj e]
theorem I8(s:Bill)(hr:s.small)(t:ByteArray)(hc:s.check.2.2≠0):PureA Tryz.prog 34 [aI s,aG t] (tj s.check.2.2):=by
 have hlk:=s7 s hr _ rfl hc
 unfold tj
 generalize s.check.2.2=e at *
 refine ag ao { l:=0,f:=34,mat:=[63,81,118],ow:=[56]} mixed uU Tryz.func34 (by kernel_rfl) ?_
 conv=>whnf
 repeat(any_goals(first|exact ab|(refine ap ?_ ?_<;>intro _<;>first|exact aq|conv=>whnf)|((first|refine ac ?_|refine bi ?_ ?_|intro _)<;>conv=>whnf)))
 refine⟨[],?_⟩
 conv=>whnf
 refine⟨_,_,hlk,?_⟩
 conv=>whnf
 repeat(any_goals(first|exact ab|(refine ap ?_ ?_<;>intro _<;>first|exact aq|conv=>whnf)|((first|refine ac ?_|refine bi ?_ ?_|intro _)<;>conv=>whnf)))
 (refine⟨⟨?_⟩,trivial⟩;rfl)
theorem I9(s:Bill)(hr:s.small)(t:ByteArray)(hc:s.check.2.2=0)(hz:800<t.size):PureA Tryz.prog 34 [aI s,aG t] (tj 3):=by
 have hlk:=jq s hr hc
 unfold tj
 unfold cQ at hlk
 refine ag ao { l:=0,f:=34,mat:=[63,81,118],ow:=[56]} mixed uU Tryz.func34 (by kernel_rfl) ?_
 conv=>whnf
 repeat(any_goals(first|exact ab|(refine ap ?_ ?_<;>intro _<;>first|exact aq|conv=>whnf)|((first|refine ac ?_|refine bi ?_ ?_|intro _)<;>conv=>whnf)))
 refine⟨[],?_⟩
 conv=>whnf
 refine⟨_,_,hlk,?_⟩
 conv=>whnf
 repeat(any_goals(first|exact ab|(refine ap ?_ ?_<;>intro _<;>first|exact aq|conv=>whnf)|((first|refine ac ?_|refine bi ?_ ?_|intro _)<;>conv=>whnf)))
 (refine⟨⟨?_⟩,trivial⟩;rfl)
theorem Dj(r:Bs):(fX r).length≤r.length:=by
 unfold fX Lib.trimSuffix
 split
 ·rw[List.length_take];omega
 ·exact Nat.le_refl _
theorem pS:∀(l:List Ent) (y x:Ent),yW y (l++[x])=x
 | [],_,_=>rfl
 | z::l,y,x=>pS l z x
theorem CT(s:Bill)(r:Rec)(y:Ent)(l:List Ent)(x:Ent):Jl s r ⟨(y::l)++[x],0⟩ =
  (yS s r false (.own kRl (l.length+1+1) 3 (l.length+1+1) 0) 0++([(kRl,l.length+1+1,3,((y::l).map bB).take (l.length+1)++[bB x])]++[(kRx,l.length+1+1,3,[bB x])])):=by
 have h1:(l++[x]).length=l.length+1:=by simp
 have h2:yW y (l++[x])=x:=pS l y x
 have h3:(y::(l++[x])).map bB=((y::l).map bB).take (l.length+1)++[bB x]:=by rw[List.take_of_length_le (by simp)];simp
 show(yS s r false (.own kRl ((l++[x]).length+1) 3 ((l++[x]).length+1) 0) 0++([(kRl,(l++[x]).length+1,3,(y::(l++[x])).map bB)]++[(kRx,(l++[x]).length+1,3,[bB (yW y (l++[x]))])]))=_
 rw[h1,h2,h3]
def zM(s:Bill)(t:ByteArray)(l:List Ent):AV:=if s.holds l=true∧s.textL l=bytes t then .tuple [(match l with|[]=>lE|_::_=>aJ l),aj 0]else tj 6
set_option maxHeartbeats 8000000 in
theorem CN(s:Bill)(hr:s.small)(t:ByteArray)(hc:s.check.2.2=0)(hz:t.size≤800)(rs:List Bs)(hok:RowsOk rs)(hfl:rs.flatten=bytes t)(l0:List Ent)(st:Nat)(rest:List Bs)(hl0:l0.length≤1048576)(hZ:s.readM rs []=(⟨l0,st⟩,rest))(R:AV)(hR:((st=1∨st=2)∧R=tj 6)∨(st=0∧R=zM s t l0)):PureA Tryz.prog 34 [aI s,aG t] R:=by
 have hg:=Bill.good hc
 have hlk:=jq s hr hc
 have hln:=y5 t
 have hit:=fun r hl hy=>BX s r hl hy rs hok (by rw[hfl];exact hz)
 have ht:aH rs.flatten=t:=by rw[hfl];rfl
 unfold dk at hit
 rw[ht,hZ]at hit
 simp only at hit
 unfold cQ at hlk
 refine ag ao { l:=0,f:=34,mat:=[63,81,118],ow:=[56]} mixed uU Tryz.func34 (by kernel_rfl) ?_
 conv=>whnf
 repeat(any_goals(first|exact ab|(refine ap ?_ ?_<;>intro _<;>first|exact aq|conv=>whnf)|((first|refine ac ?_|refine bi ?_ ?_|intro _)<;>conv=>whnf)))
 refine⟨[],?_⟩
 conv=>whnf
 refine⟨_,_,hlk,?_⟩
 conv=>whnf
 repeat(any_goals(first|exact ab|(refine ap ?_ ?_<;>intro _<;>first|exact aq|conv=>whnf)|((first|refine ac ?_|refine bi ?_ ?_|intro _)<;>conv=>whnf)))
 refine⟨[],?_⟩
 conv=>whnf
 refine⟨_,_,hln,?_⟩
 conv=>whnf
 repeat(any_goals(first|exact ab|(refine ap ?_ ?_<;>intro _<;>first|exact aq|conv=>whnf)|((first|refine ac ?_|refine bi ?_ ?_|intro _)<;>conv=>whnf)))
 refine⟨Fa,?_⟩
 conv=>whnf
 refine⟨_,_,hit ⟨_,_,_,_⟩ ?_ ?_,?_⟩
 ·exact FC (by first|exact uw _ _|rfl)
 ·intro t' l row hrow hll
  clear hit
  have htr:PureA Tryz.prog 83 [aG (aH row),aG ⟨#[10]⟩] (aG (aH (fX row))):=K5 (aH row) ⟨#[10]⟩ (by show row.length≤_;omega)
  have htl:=Dj row
  have hsp:=Js (aH (fX row)) (by show(fX row).length≤_;omega)
  rw[eQ]at hsp
  obtain⟨v,hv⟩:∃v,s.stepM l row=v:=⟨_,rfl⟩
  rw[hv]
  unfold Bill.stepM at hv
  generalize fX row=W at *
  cases hS:bM [] W with
  | none =>
   rw[hS]at hsp hv
   unfold C5 at hsp
   simp only at hv
   subst hv
   cases l with
   | nil =>
    refine bv ao { l:=0,f:=34,rd:=true,ow:=[56]} mixed rfl rfl rfl (by kernel_rfl) ?_
    conv=>whnf
    refine And.intro rfl ?_
    conv=>whnf
    repeat(any_goals(first|exact ab|(refine ap ?_ ?_<;>intro _<;>first|exact aq|conv=>whnf)|((first|refine aa htr ?_|refine af htr rfl ?_|refine aa hsp ?_|refine af hsp rfl ?_|refine aa hrd ?_|refine af hrd rfl ?_|refine ac ?_|refine bi ?_ ?_|intro _)<;>conv=>whnf)))
    repeat(first|exact trivial|refine And.intro rfl ?_|refine kc rfl ?_)
   | cons y l =>
    refine bv ao { l:=0,f:=34,rd:=true,ow:=[56]} mixed rfl rfl rfl (by kernel_rfl) ?_
    conv=>whnf
    refine And.intro rfl ?_
    conv=>whnf
    repeat(any_goals(first|exact ab|(refine ap ?_ ?_<;>intro _<;>first|exact aq|conv=>whnf)|((first|refine aa htr ?_|refine af htr rfl ?_|refine aa hsp ?_|refine af hsp rfl ?_|refine aa hrd ?_|refine af hrd rfl ?_|refine ac ?_|refine bi ?_ ?_|intro _)<;>conv=>whnf)))
    repeat(first|exact trivial|refine And.intro rfl ?_|refine kc rfl ?_)
  | some ws =>
   rw[hS]at hsp hv
   unfold C5 at hsp
   simp only at hv
   have hne:=um hS
   have hwl:=l7 hS
   cases ws with
   | nil=>exact absurd rfl hne
   | cons w0 ws =>
    have hrd:=KP s hg.len (w0::ws) (by omega)
    clear hS hne
    by_cases hp:w0=cJ
    ·subst hp
     rw[if_pos (show gF (cJ::ws)=true by unfold gF;simp)]at hv
     subst hv
     have hc1:aH cJ=(⟨#[112,97,103,101]⟩:ByteArray):=rfl
     clear hrd
     cases l with
     | nil =>
      refine bv ao { l:=0,f:=34,rd:=true,ow:=[56]} mixed rfl rfl rfl (by kernel_rfl) ?_
      conv=>whnf
      refine And.intro rfl ?_
      conv=>whnf
      repeat(any_goals(first|exact ab|(refine ap ?_ ?_<;>intro _<;>first|exact aq|conv=>whnf)|((first|refine aa htr ?_|refine af htr rfl ?_|refine aa hsp ?_|refine af hsp rfl ?_|refine aa hrd ?_|refine af hrd rfl ?_|refine ac ?_|refine bi ?_ ?_|intro _)<;>conv=>whnf)))
      all_goals(try(exact absurd hc1 (by assumption)))
      all_goals repeat(first|exact trivial|refine And.intro rfl ?_|refine kc rfl ?_)
     | cons y l =>
      refine bv ao { l:=0,f:=34,rd:=true,ow:=[56]} mixed rfl rfl rfl (by kernel_rfl) ?_
      conv=>whnf
      refine And.intro rfl ?_
      conv=>whnf
      repeat(any_goals(first|exact ab|(refine ap ?_ ?_<;>intro _<;>first|exact aq|conv=>whnf)|((first|refine aa htr ?_|refine af htr rfl ?_|refine aa hsp ?_|refine af hsp rfl ?_|refine aa hrd ?_|refine af hrd rfl ?_|refine ac ?_|refine bi ?_ ?_|intro _)<;>conv=>whnf)))
      all_goals(try(exact absurd hc1 (by assumption)))
      all_goals repeat(first|exact trivial|refine And.intro rfl ?_|refine kc rfl ?_)
    ·have hp':¬aH w0=(⟨#[112,97,103,101]⟩:ByteArray):=fun e=>hp (by rw[←eQ w0,e];rfl)
     by_cases hq:w0=a7
     ·subst hq
      rw[if_pos (show gF (a7::ws)=true by unfold gF;simp)]at hv
      subst hv
      have hc1:aH a7=(⟨#[114,111,111,109]⟩:ByteArray):=rfl
      clear hrd
      cases l with
      | nil =>
       refine bv ao { l:=0,f:=34,rd:=true,ow:=[56]} mixed rfl rfl rfl (by kernel_rfl) ?_
       conv=>whnf
       refine And.intro rfl ?_
       conv=>whnf
       repeat(any_goals(first|exact ab|(refine ap ?_ ?_<;>intro _<;>first|exact aq|conv=>whnf)|((first|refine aa htr ?_|refine af htr rfl ?_|refine aa hsp ?_|refine af hsp rfl ?_|refine aa hrd ?_|refine af hrd rfl ?_|refine ac ?_|refine bi ?_ ?_|intro _)<;>conv=>whnf)))
       all_goals(try(first|exact absurd hc1 (by assumption)|exact absurd (by assumption) hp'))
       all_goals repeat(first|exact trivial|refine And.intro rfl ?_|refine kc rfl ?_)
      | cons y l =>
       refine bv ao { l:=0,f:=34,rd:=true,ow:=[56]} mixed rfl rfl rfl (by kernel_rfl) ?_
       conv=>whnf
       refine And.intro rfl ?_
       conv=>whnf
       repeat(any_goals(first|exact ab|(refine ap ?_ ?_<;>intro _<;>first|exact aq|conv=>whnf)|((first|refine aa htr ?_|refine af htr rfl ?_|refine aa hsp ?_|refine af hsp rfl ?_|refine aa hrd ?_|refine af hrd rfl ?_|refine ac ?_|refine bi ?_ ?_|intro _)<;>conv=>whnf)))
       all_goals(try(first|exact absurd hc1 (by assumption)|exact absurd (by assumption) hp'))
       all_goals repeat(first|exact trivial|refine And.intro rfl ?_|refine kc rfl ?_)
     ·have hq':¬aH w0=(⟨#[114,111,111,109]⟩:ByteArray):=fun e=>hq (by rw[←eQ w0,e];rfl)
      rw[if_neg (show¬gF (w0::ws)=true by unfold gF;simp[hp,hq])]at hv
      cases hE:s.readE (w0::ws)with
      | none =>
       rw[hE]at hrd hv
       unfold I7 at hrd
       simp only at hv
       subst hv
       cases l with
       | nil =>
        refine bv ao { l:=0,f:=34,rd:=true,ow:=[56]} mixed rfl rfl rfl (by kernel_rfl) ?_
        conv=>whnf
        refine And.intro rfl ?_
        conv=>whnf
        repeat(any_goals(first|exact ab|(refine ap ?_ ?_<;>intro _<;>first|exact aq|conv=>whnf)|((first|refine aa htr ?_|refine af htr rfl ?_|refine aa hsp ?_|refine af hsp rfl ?_|refine aa hrd ?_|refine af hrd rfl ?_|refine ac ?_|refine bi ?_ ?_|intro _)<;>conv=>whnf)))
        all_goals(try(first|exact absurd (by assumption) hp'|exact absurd (by assumption) hq'))
        all_goals repeat(first|exact trivial|refine And.intro rfl ?_|refine kc rfl ?_)
       | cons y l =>
        refine bv ao { l:=0,f:=34,rd:=true,ow:=[56]} mixed rfl rfl rfl (by kernel_rfl) ?_
        conv=>whnf
        refine And.intro rfl ?_
        conv=>whnf
        repeat(any_goals(first|exact ab|(refine ap ?_ ?_<;>intro _<;>first|exact aq|conv=>whnf)|((first|refine aa htr ?_|refine af htr rfl ?_|refine aa hsp ?_|refine af hsp rfl ?_|refine aa hrd ?_|refine af hrd rfl ?_|refine ac ?_|refine bi ?_ ?_|intro _)<;>conv=>whnf)))
        all_goals(try(first|exact absurd (by assumption) hp'|exact absurd (by assumption) hq'))
        all_goals repeat(first|exact trivial|refine And.intro rfl ?_|refine kc rfl ?_)
      | some x =>
       rw[hE]at hrd hv
       unfold I7 at hrd
       simp only at hv
       subst hv
       cases l with
       | nil =>
        refine bv ao { l:=0,f:=34,rd:=true,ow:=[56]} mixed rfl rfl rfl (by kernel_rfl) ?_
        conv=>whnf
        refine And.intro rfl ?_
        conv=>whnf
        repeat(any_goals(first|exact ab|(refine ap ?_ ?_<;>intro _<;>first|exact aq|conv=>whnf)|((first|refine aa htr ?_|refine af htr rfl ?_|refine aa hsp ?_|refine af hsp rfl ?_|refine aa hrd ?_|refine af hrd rfl ?_|refine ac ?_|refine bi ?_ ?_|intro _)<;>conv=>whnf)))
        all_goals(try(first|exact absurd (by assumption) hp'|exact absurd (by assumption) hq'))
        all_goals repeat(first|exact trivial|refine And.intro rfl ?_|refine kc rfl ?_)
       | cons y l =>
        rw[CT]
        simp only[List.length_cons]at hll
        have hel:((y::l).map bB).length=l.length+1:=by simp
        refine bv ao { l:=0,f:=34,rd:=true,ow:=[56]} mixed rfl rfl rfl (by kernel_rfl) ?_
        conv=>whnf
        refine And.intro rfl ?_
        conv=>whnf
        repeat(any_goals(first|exact ab|(refine ap ?_ ?_<;>intro _<;>first|exact aq|conv=>whnf)|((first|refine aa htr ?_|refine af htr rfl ?_|refine aa hsp ?_|refine af hsp rfl ?_|refine aa hrd ?_|refine af hrd rfl ?_|refine ac ?_|refine bi ?_ ?_|intro _)<;>conv=>whnf)))
        all_goals(try(first|exact absurd (by assumption) hp'|exact absurd (by assumption) hq'))
        all_goals repeat(first|exact trivial|refine And.intro rfl ?_|refine kc rfl ?_)
 ·clear hit hln hlk
  rcases hR with⟨rfl|rfl,rfl⟩|⟨rfl,rfl⟩
  ·unfold tj
   cases l0 with
   | nil =>
    conv=>whnf
    repeat(refine ah (az _ _) ?_<;>(conv=>whnf))
    repeat(any_goals(first|exact ab|(refine ap ?_ ?_<;>intro _<;>first|exact aq|conv=>whnf)|((first|refine ac ?_|refine bi ?_ ?_|intro _)<;>conv=>whnf)))
    (refine⟨⟨?_⟩,trivial⟩;rfl)
   | cons y l =>
    conv=>whnf
    repeat(refine ah (az _ _) ?_<;>(conv=>whnf))
    repeat(any_goals(first|exact ab|(refine ap ?_ ?_<;>intro _<;>first|exact aq|conv=>whnf)|((first|refine ac ?_|refine bi ?_ ?_|intro _)<;>conv=>whnf)))
    (refine⟨⟨?_⟩,trivial⟩;rfl)
  ·unfold tj
   cases l0 with
   | nil =>
    conv=>whnf
    repeat(refine ah (az _ _) ?_<;>(conv=>whnf))
    repeat(any_goals(first|exact ab|(refine ap ?_ ?_<;>intro _<;>first|exact aq|conv=>whnf)|((first|refine ac ?_|refine bi ?_ ?_|intro _)<;>conv=>whnf)))
    (refine⟨⟨?_⟩,trivial⟩;rfl)
   | cons y l =>
    conv=>whnf
    repeat(refine ah (az _ _) ?_<;>(conv=>whnf))
    repeat(any_goals(first|exact ab|(refine ap ?_ ?_<;>intro _<;>first|exact aq|conv=>whnf)|((first|refine ac ?_|refine bi ?_ ?_|intro _)<;>conv=>whnf)))
    (refine⟨⟨?_⟩,trivial⟩;rfl)
  ·have hho:=q6 s hg l0 hl0
   cases l0 with
   | nil =>
    have hho:=hho.args (args:=[dp s,lE]) (WkL.cons (Wk.refl _) (WkL.cons (Wk.nil 3) trivial))
    by_cases hh:s.holds []=true
    ·rw[hh]at hho
     have htx:=Dd s hg [] (jZ hh) (Nat.le_trans (jY hg hh) hg.len)
     have htx:=htx.args (args:=[dp s,lE]) (WkL.cons (Wk.refl _) (WkL.cons (Wk.nil 3) trivial))
     unfold zM
     by_cases ht2:s.textL []=bytes t
     ·rw[if_pos ⟨hh,ht2⟩]
      have hd:aH (s.textL [])=t:=by rw[ht2];rfl
      clear hh ht2
      generalize s.textL []=T at *
      conv=>whnf
      repeat(refine ah (az _ _) ?_<;>(conv=>whnf))
      repeat(first|(refine ah (bL (y::l) (l.length+1) (by simp)) ?_<;>(conv=>whnf))|(any_goals(first|exact ab|((first|refine bd ?_ ?_|refine bn ?_ ?_)<;>intro _<;>first|(exfalso;omega)|conv=>whnf)|((first|refine af hho rfl ?_|refine af htx rfl ?_|refine ah (bL (y::l) (l.length+1) (by simp)) ?_|refine dI ?_|refine okI ?_|refine bt ?_|refine bi (fun _=>?_) (fun _=>?_)|refine Hl ?_|intro _)<;>conv=>whnf))))
      all_goals(try(exact absurd hd (by assumption)))
      all_goals(refine⟨⟨?_⟩,trivial⟩;rfl)
     ·rw[if_neg (fun h=>ht2 h.2)]
      have hd:¬aH (s.textL [])=t:=fun e=>ht2 (by rw[←e];rfl)
      clear hh ht2
      generalize s.textL []=T at *
      unfold tj
      conv=>whnf
      repeat(refine ah (az _ _) ?_<;>(conv=>whnf))
      repeat(first|(refine ah (bL (y::l) (l.length+1) (by simp)) ?_<;>(conv=>whnf))|(any_goals(first|exact ab|((first|refine bd ?_ ?_|refine bn ?_ ?_)<;>intro _<;>first|(exfalso;omega)|conv=>whnf)|((first|refine af hho rfl ?_|refine af htx rfl ?_|refine ah (bL (y::l) (l.length+1) (by simp)) ?_|refine dI ?_|refine okI ?_|refine bt ?_|refine bi (fun _=>?_) (fun _=>?_)|refine Hl ?_|intro _)<;>conv=>whnf))))
      all_goals(try(exact absurd (by assumption) hd))
      all_goals(refine⟨⟨?_⟩,trivial⟩;rfl)
    ·unfold zM
     rw[if_neg (fun h=>hh h.1)]
     rw[Bool.eq_false_iff.2 hh]at hho
     unfold tj
     conv=>whnf
     repeat(refine ah (az _ _) ?_<;>(conv=>whnf))
     repeat(first|(refine ah (bL (y::l) (l.length+1) (by simp)) ?_<;>(conv=>whnf))|(any_goals(first|exact ab|((first|refine bd ?_ ?_|refine bn ?_ ?_)<;>intro _<;>first|(exfalso;omega)|conv=>whnf)|((first|refine af hho rfl ?_|refine af htx rfl ?_|refine ah (bL (y::l) (l.length+1) (by simp)) ?_|refine dI ?_|refine okI ?_|refine bt ?_|refine bi (fun _=>?_) (fun _=>?_)|refine Hl ?_|intro _)<;>conv=>whnf))))
     all_goals(refine⟨⟨?_⟩,trivial⟩;rfl)
   | cons y l =>
    have hel:((y::l).map bB).length=l.length+1:=by simp
    by_cases hh:s.holds (y::l)=true
    ·rw[hh]at hho
     have htx:=Dd s hg (y::l) (jZ hh) (Nat.le_trans (jY hg hh) hg.len)
     unfold zM
     by_cases ht2:s.textL (y::l)=bytes t
     ·rw[if_pos ⟨hh,ht2⟩]
      have hd:aH (s.textL (y::l))=t:=by rw[ht2];rfl
      clear hh ht2
      generalize s.textL (y::l)=T at *
      conv=>whnf
      repeat(refine ah (az _ _) ?_<;>(conv=>whnf))
      repeat(first|(refine ah (bL (y::l) (l.length+1) (by simp)) ?_<;>(conv=>whnf))|(any_goals(first|exact ab|((first|refine bd ?_ ?_|refine bn ?_ ?_)<;>intro _<;>first|(exfalso;omega)|conv=>whnf)|((first|refine af hho rfl ?_|refine af htx rfl ?_|refine ah (bL (y::l) (l.length+1) (by simp)) ?_|refine dI ?_|refine okI ?_|refine bt ?_|refine bi (fun _=>?_) (fun _=>?_)|refine Hl ?_|intro _)<;>conv=>whnf))))
      all_goals(try(exact absurd hd (by assumption)))
      all_goals(refine⟨⟨?_⟩,trivial⟩;rfl)
     ·rw[if_neg (fun h=>ht2 h.2)]
      have hd:¬aH (s.textL (y::l))=t:=fun e=>ht2 (by rw[←e];rfl)
      clear hh ht2
      generalize s.textL (y::l)=T at *
      unfold tj
      conv=>whnf
      repeat(refine ah (az _ _) ?_<;>(conv=>whnf))
      repeat(first|(refine ah (bL (y::l) (l.length+1) (by simp)) ?_<;>(conv=>whnf))|(any_goals(first|exact ab|((first|refine bd ?_ ?_|refine bn ?_ ?_)<;>intro _<;>first|(exfalso;omega)|conv=>whnf)|((first|refine af hho rfl ?_|refine af htx rfl ?_|refine ah (bL (y::l) (l.length+1) (by simp)) ?_|refine dI ?_|refine okI ?_|refine bt ?_|refine bi (fun _=>?_) (fun _=>?_)|refine Hl ?_|intro _)<;>conv=>whnf))))
      all_goals(try(exact absurd (by assumption) hd))
      all_goals(refine⟨⟨?_⟩,trivial⟩;rfl)
    ·unfold zM
     rw[if_neg (fun h=>hh h.1)]
     rw[Bool.eq_false_iff.2 hh]at hho
     unfold tj
     conv=>whnf
     repeat(refine ah (az _ _) ?_<;>(conv=>whnf))
     repeat(first|(refine ah (bL (y::l) (l.length+1) (by simp)) ?_<;>(conv=>whnf))|(any_goals(first|exact ab|((first|refine bd ?_ ?_|refine bn ?_ ?_)<;>intro _<;>first|(exfalso;omega)|conv=>whnf)|((first|refine af hho rfl ?_|refine af htx rfl ?_|refine ah (bL (y::l) (l.length+1) (by simp)) ?_|refine dI ?_|refine okI ?_|refine bt ?_|refine bi (fun _=>?_) (fun _=>?_)|refine Hl ?_|intro _)<;>conv=>whnf))))
     all_goals(refine⟨⟨?_⟩,trivial⟩;rfl)
theorem tX(s:Bill):∀(rs:List Bs) (l:List Ent),(s.readM rs l).1.l.length≤l.length+rs.length
 | [],l=>Nat.le_refl _
 | r::rs,l=>by
  rw[lS]
  have h:(s.stepM l r).l.length≤l.length+1:=by
   rcases jG s l r with e|e|e|⟨x,e⟩<;>rw[e]<;>simp
  split
  ·have:=tX s rs (s.stepM l r).l
   simp only[List.length_cons];omega
  ·simp only[List.length_cons];omega
theorem yd:∀{rs:List Bs},RowsOk rs→rs.length≤rs.flatten.length
 | _,.nil=>Nat.le_refl _
 | _,.row w rs _ k=>by have:=yd k;simp only[List.length_cons,List.flatten_cons,List.length_append,List.length_nil];omega
 | _,.last w _ h0=>by have:=List.length_pos_iff.2 h0;simp only[List.length_cons,List.flatten_cons,List.flatten_nil,List.append_nil,List.length_nil];omega
theorem ri{P:Program}{f:FuncId}{args:List AV}{e:Int}(h:PureA P f args (tj e)):PureA P f args (.tuple [aJ [],aj e]) :=
 h.wk (Wk.tuple (.cons (Wk.nil 3) (WkL.refl _)))
theorem tY(s:Bill)(hr:s.small)(t:ByteArray):PureA Tryz.prog 34 [aI s,aG t] (.tuple [aJ (s.readR t).1,aj (s.readR t).2]):=by
 unfold Bill.readR
 by_cases hc:s.check.2.2=0
 ·rw[if_neg (fun h=>h hc)]
  by_cases hz:800<t.size
  ·rw[if_pos hz]
   exact ri (I9 s hr t hc hz)
  ·rw[if_neg hz]
   obtain⟨rs,hok,hfl⟩:=CS (bytes t).length (bytes t) (Nat.le_refl _)
   have hp:s.parse (bytes t)=s.parseW (rs.map fX):=by unfold Bill.parse;rw[←hfl,qh hok]
   rw[hp]
   have hm:=jx s rs []
   have hlen:=tX s rs []
   have hrl:=yd hok
   have hts:rs.flatten.length=t.size:=by rw[hfl];rfl
   have hb:(s.readM rs []).1.l.length≤1048576:=by simp only[List.length_nil]at hlen;omega
   cases hw:s.parseW (rs.map fX)with
   | none =>
    rw[hw]at hm
    simp only at hm ⊢
    exact ri (CN s hr t hc (by omega) rs hok hfl _ _ _ hb rfl _ (.inl ⟨hm,rfl⟩))
   | some l =>
    rw[hw]at hm
    simp only[List.nil_append]at hm ⊢
    have h:=CN s hr t hc (by omega) rs hok hfl l 0 [] (by rw[hm]at hb;exact hb) hm _ (.inr ⟨rfl,rfl⟩)
    unfold zM at h
    by_cases hh:s.holds l=true∧s.textL l=bytes t
    ·rw[if_pos hh]at h ⊢
     cases l with
     | nil=>exact h.wk (Wk.tuple (.cons (Wk.nil 3) (WkL.refl _)))
     | cons y l=>exact h
    ·rw[if_neg hh]at h ⊢
     exact ri h
 ·rw[if_pos hc]
  exact ri (I8 s hr t hc)
theorem fi{s:Bill}(hg:s.Good){c:List Ent}(h:s.holds c=true):bZ s c=0:=by
 unfold bZ
 rw[if_neg (by rw[hg.check];simp),if_pos h]
theorem zP(s:Bill)(hr:s.small)(c:List Ent):PureA Tryz.prog 33 [aI s,aJ c] (.tuple [aG (aH (s.writeR c).1),aj (s.writeR c).2]):=by
 have hk:=iL s hr c
 unfold Bill.writeR
 obtain⟨e,he⟩:∃e,bZ s c=e:=⟨_,rfl⟩
 rw[he]at hk ⊢
 unfold aI at hk
 by_cases h0:e=0
 ·rw[if_neg (fun h=>h h0)]
  subst h0
  obtain⟨hg,hok,h6⟩:=bQ he
  have hp:=ub s hg c hok h6
  unfold aI at hp
  generalize s.textL c=R at *
  clear hg hok
  refine ag ao { l:=0,f:=33} mixed A0 Tryz.func33 (by kernel_rfl) ?_
  conv=>whnf
  repeat(any_goals(first|exact ab|(refine ap ?_ ?_<;>intro _<;>first|exact aq|conv=>whnf)|((first|refine aa hk ?_|refine af hk rfl ?_|refine aa hp ?_|refine af hp rfl ?_|refine ac ?_|refine bi ?_ ?_|intro _)<;>conv=>whnf)))
  (refine⟨⟨?_⟩,trivial⟩;rfl)
 ·rw[if_pos h0]
  have hn:(aH [])=⟨#[]⟩:=rfl
  simp only[hn]
  refine ag ao { l:=0,f:=33} mixed A0 Tryz.func33 (by kernel_rfl) ?_
  conv=>whnf
  repeat(any_goals(first|exact ab|(refine ap ?_ ?_<;>intro _<;>first|exact aq|conv=>whnf)|((first|refine aa hk ?_|refine af hk rfl ?_|refine ac ?_|refine bi ?_ ?_|intro _)<;>conv=>whnf)))
  (refine⟨⟨?_⟩,trivial⟩;rfl)
def rdV:Option (List Ent)→AV
 | none=> .tuple [lE,aj 6]
 | some c=> .tuple [aJ c,aj 0]
theorem lU(s:Bill)(t:ByteArray)(e:Int)(h0:e≠0)(h:PureA Tryz.prog 35 [aI s,aG t] (.tuple [lE,aj e])):PureA Tryz.prog 35 [aI s,aG t] (.tuple [aJ [],aj e]) :=
 h.wk (Wk.tuple (.cons (Wk.nil 3) (WkL.refl _)))
set_option maxHeartbeats 2000000 in
theorem CQ(s:Bill)(hr:s.small)(t:ByteArray):PureA Tryz.prog 35 [aI s,aG t] (.tuple [aJ (s.readR t).1,aj (s.readR t).2]):=by
 have hk:=lT s hr
 unfold Bill.readR
 unfold D8 at hk
 obtain⟨⟨p,a,e⟩,hck⟩:∃v,s.check=v:=⟨_,rfl⟩
 rw[hck]at hk ⊢
 simp only at hk ⊢
 unfold aI at hk
 by_cases h0:e=0
 ·rw[if_neg (fun h=>h h0)]
  have hg:s.Good:=Bill.good (by rw[hck];exact h0)
  subst h0
  by_cases h8:800<t.size
  ·rw[if_pos h8]
   refine lU s t 3 (by omega) ?_
   clear hg
   refine ag ao { l:=0,f:=35} mixed uV Tryz.func35 (by kernel_rfl) ?_
   conv=>whnf
   repeat(any_goals(first|exact ab|(refine ap ?_ ?_<;>intro _<;>first|exact aq|conv=>whnf)|((first|refine aa hk ?_|refine af hk rfl ?_|refine ac ?_|refine bi ?_ ?_|intro _)<;>conv=>whnf)))
   (refine⟨⟨?_⟩,trivial⟩;rfl)
  ·rw[if_neg h8]
   have hre:=Ja hg (bytes t)
   rw[hre]
   unfold Bill.refRead
   have hcats:=t6 s hg
   have htx:=fun c (h:c∈s.cats)=>ub s hg c (bQ (fi hg ((iu hg c).1 h))).2.1 (bQ (fi hg ((iu hg c).1 h))).2.2
   have hln:s.cats.length≤34012224:=by
    have:=lF s hg.len s.figs.length [] 0
    have h2:s.onN s.figs.length [] 0=s.cats:=Cj hg
    rw[h2]at this
    exact Nat.le_trans this (IZ _ hg.len)
   obtain⟨R,hR⟩:∃R,(s.cats.find? fun c=>decide (s.textL c=bytes t))=R:=⟨_,rfl⟩
   rw[hR]
   generalize s.cats=D at *
   have hDl:(D.map aJ).length=D.length:=List.length_map ..
   have hcons:∀(x:List Ent) (l:List (List Ent)),((x::l).find? fun c=>decide (s.textL c=bytes t))=if s.textL x=bytes t then some x else l.find? fun c=>decide (s.textL c=bytes t):=by
    intro x l
    rw[List.find?_cons]
    by_cases q:s.textL x=bytes t
    ·rw[decide_eq_true q,if_pos q]
    ·rw[decide_eq_false q,if_neg q]
   unfold aI at hcats htx
   suffices hV:PureA Tryz.prog 35 [aI s,aG t] (rdV R) by
    cases R with
    | none=>exact lU s t 6 (by omega) hV
    | some c=>exact hV
   clear hg hre
   refine ag ao { l:=0,f:=35} mixed uV Tryz.func35 (by kernel_rfl) ?_
   conv=>whnf
   repeat(any_goals(first|exact ab|(refine ap ?_ ?_<;>intro _<;>first|exact aq|conv=>whnf)|((first|refine aa hk ?_|refine af hk rfl ?_|refine aa hcats ?_|refine af hcats rfl ?_|refine ac ?_|refine bi ?_ ?_|intro _)<;>conv=>whnf)))
   refine aO ao { l:=0,f:=35} mixed (fun i:Nat=>[(10,aj i)]) (fun _=>[]) (fun _=>[]) (fun i=>i≤D.length∧R=(D.drop i).find? fun c=>decide (s.textL c=bytes t)) (fun i=>D.length-i) 0 (by kernel_rfl)
    ⟨Nat.zero_le _,hR.symm⟩ ?_
   conv=>whnf
   refine⟨⟨ai rfl trivial,trivial,trivial⟩,?_⟩
   clear hR
   rintro i ⟨hi,H⟩
   by_cases hlt:i<D.length
   ·obtain⟨x,hx,hd⟩:=ay (l:=D) (i:=i) hlt
    rw[hd,hcons]at H
    have hx1:=htx x (List.mem_of_getElem? hx)
    by_cases q:s.textL x=bytes t
    ·rw[if_pos q]at H
     subst H
     have hst:aH (s.textL x)=t:=aR q
     rw[hst]at hx1
     conv=>whnf
     repeat(any_goals(first|exact ab|(refine ap ?_ ?_<;>intro _<;>first|exact aq|conv=>whnf)|((first|refine ae hx rfl ?_|refine aa hx1 ?_|refine af hx1 rfl ?_|refine ac ?_|refine bi ?_ ?_|intro _)<;>conv=>whnf)))
     all_goals(try(exact absurd rfl (by assumption)))
     (refine⟨⟨?_⟩,trivial⟩;rfl)
    ·rw[if_neg q]at H
     have hst:¬aH (s.textL x)=t:=fun h=>q (by rw[←h];rfl)
     generalize aH (s.textL x)=X at *
     conv=>whnf
     repeat(any_goals(first|exact ab|(refine ap ?_ ?_<;>intro _<;>first|exact aq|conv=>whnf)|((first|refine ae hx rfl ?_|refine aa hx1 ?_|refine af hx1 rfl ?_|refine ac ?_|refine bi ?_ ?_|intro _)<;>conv=>whnf)))
     all_goals(try(exact absurd (by assumption) hst))
     (refine⟨i+1,⟨by omega,H⟩,(by omega),?_⟩;(conv=>whnf);refine⟨?_,?_,?_⟩<;>repeat(first|exact trivial|refine sc rfl ?_|refine kn ?_|refine kc rfl ?_|refine sc (by rfl) ?_|refine kc (by rfl) ?_))
   ·have hin:i=D.length:=by omega
    subst hin
    rw[List.drop_length]at H
    have H:R=none:=H
    subst H
    conv=>whnf
    repeat(any_goals(first|exact ab|(refine ap ?_ ?_<;>intro _<;>first|exact aq|conv=>whnf)|((first|refine ac ?_|refine bi ?_ ?_|intro _)<;>conv=>whnf)))
    (refine⟨⟨?_⟩,trivial⟩;rfl)
 ·rw[if_pos h0]
  refine lU s t e h0 ?_
  refine ag ao { l:=0,f:=35} mixed uV Tryz.func35 (by kernel_rfl) ?_
  conv=>whnf
  repeat(any_goals(first|exact ab|(refine ap ?_ ?_<;>intro _<;>first|exact aq|conv=>whnf)|((first|refine aa hk ?_|refine af hk rfl ?_|refine ac ?_|refine bi ?_ ?_|intro _)<;>conv=>whnf)))
  (refine⟨⟨?_⟩,trivial⟩;rfl)
theorem C9(t:ByteArray):aH (bytes t)=t:=aR rfl
def cR(n:Int):Bill:=⟨n,[⟨⟨#[97,100,97]⟩,⟨#[113,117,101,101,110]⟩,0,5⟩,
 ⟨⟨#[98,101,110]⟩,⟨#[107,105,110,103]⟩,0,4⟩,
 ⟨⟨#[99,121]⟩,⟨#[99,108,111,119,110]⟩,0,3⟩,
 ⟨⟨#[100,111,116]⟩,⟨#[106,117,100,103,101]⟩,1,6⟩,
 ⟨⟨#[101,108,105]⟩,⟨#[110,117,110]⟩,1,2⟩],[11,29,7]⟩
def li:List Ent:=[⟨0,0,0⟩,⟨1,1,2⟩,⟨2,3,0⟩,⟨2,4,0⟩]
def Jz:ByteArray:=⟨#[112,97,103,101,32,49,10,114,111,111,109,32,48,10,49,32,105,115,32,97,100,97,32,97,115,32,113,117,101,101,110,10,50,32,105,115,32,98,101,110,32,97,115,32,107,105,110,103,32,111,114,32,99,121,32,97,115,32,99,108,111,119,110,10,112,97,103,101,32,50,10,114,111,111,109,32,49,10,51,32,109,97,121,32,98,101,32,100,111,116,32,97,115,32,106,117,100,103,101,10,52,32,109,97,121,32,98,101,32,101,108,105,32,97,115,32,110,117,110,10]⟩
theorem E1(n r:ByteArray)(rm h:Int):PureA Tryz.prog 98 [aG n,aG r,aj rm,aj h] (dS ⟨n,r,rm,h⟩):=by
 refine ag ao { l:=0,f:=98} mixed Ie Tryz.func98 (by kernel_rfl) ?_
 conv=>whnf
 repeat(any_goals(first|exact ab|(refine ap ?_ ?_<;>intro _<;>first|exact aq|conv=>whnf)|((first|refine ac ?_|refine bi ?_ ?_|intro _)<;>conv=>whnf)))
 (refine⟨⟨?_⟩,trivial⟩;rfl)
theorem J4(n:Int):PureA Tryz.prog 67 [aj n] (aI (cR n)):=by
 refine ag ao { l:=0,f:=67} mixed HS Tryz.func67 (by kernel_rfl) ?_
 conv=>whnf
 repeat(any_goals(first|exact ab|(refine ap ?_ ?_<;>intro _<;>first|exact aq|conv=>whnf)|((first|refine aa (E1 _ _ _ _) ?_|refine ac ?_|refine bi ?_ ?_|intro _)<;>conv=>whnf)))
 (refine⟨⟨?_⟩,trivial⟩;rfl)
theorem uJ:PureA Tryz.prog 68 [] (aJ li):=by
 refine ag ao { l:=0,f:=68} mixed HT Tryz.func68 (by kernel_rfl) ?_
 conv=>whnf
 repeat(any_goals(first|exact ab|(refine ap ?_ ?_<;>intro _<;>first|exact aq|conv=>whnf)|((first|refine ac ?_|refine bi ?_ ?_|intro _)<;>conv=>whnf)))
 (refine⟨⟨?_⟩,trivial⟩;rfl)
theorem wY(n:Int):(cR n).small:=by
 refine⟨by simp[cR],by simp[cR],?_⟩
 intro f hf
 simp only[cR,List.mem_cons,List.not_mem_nil,or_false]at hf
 rcases hf with rfl|rfl|rfl|rfl|rfl<;>exact⟨by decide,by decide⟩
theorem yK:(cR 14).surelyR 6=(true,0):=by decide +kernel
theorem vi:(cR 14).surelyR 24=(false,0):=by decide +kernel
theorem Iu:(cR 14).trueR li=(true,0):=by decide +kernel
theorem EX:(cR 14).trueR (li.take 3)=(false,0):=by decide +kernel
theorem Iq:(cR 14).bestR=(li,2,0):=by decide +kernel
theorem Ir:(cR 14).fitsR li [0,1,2]=(85,0):=by decide +kernel
theorem EW:(cR 14).fitsR li [0,3]=(0,7):=by decide +kernel
theorem Bm:((cR 14).setR li).1.pages=[0,2]∧((cR 14).setR li).1.white=0∧((cR 14).setR li).2=0:=by decide +kernel
theorem vh:((cR 14).setR (li.take 3)).1.pages=[]∧((cR 14).setR (li.take 3)).1.white=0∧((cR 14).setR (li.take 3)).2=9:=by decide +kernel
theorem Kt:(cR 14).fewR li=(2,0):=by decide +kernel
theorem EY:(cR 14).writeR li=(bytes Jz,0):=by decide +kernel
theorem Is:(cR 14).readR Jz=(li,0):=by decide +kernel
theorem It:(cR 14).slipR li 1=([3],[1,3],0):=by decide +kernel
set_option maxHeartbeats 4000000 in
set_option maxRecDepth 100000 in
theorem uF:PureA Tryz.prog 21 [] (aB true):=by
 have hs:=wY 14
 have s1:=o8 (cR 14) hs 6
 rw[yK]at s1
 have s2:=o8 (cR 14) hs 24
 rw[vi]at s2
 have t1:=uz (cR 14) hs li (by decide)
 rw[Iu]at t1
 have t2:=uz (cR 14) hs (li.take 3) (by decide)
 rw[EX]at t2
 have b1:=AI (cR 14) hs
 rw[Iq]at b1
 have f1:=gP (cR 14) hs li (by decide) [0,1,2] (by decide)
 rw[Ir]at f1
 have f2:=gP (cR 14) hs li (by decide) [0,3] (by decide)
 rw[EW]at f2
 have p1:=kR (cR 14) hs li (by decide)
 unfold G1 at p1
 rw[Bm.1,Bm.2.1,Bm.2.2]at p1
 have p2:=kR (cR 14) hs (li.take 3) (by decide)
 unfold G1 at p2
 rw[vh.1,vh.2.1,vh.2.2]at p2
 have m1:=m7 (cR 14) hs li (by decide)
 rw[Kt]at m1
 have w1:=qA (cR 14) hs li (by decide)
 rw[EY]at w1
 simp only[C9]at w1
 have r1:=tY (cR 14) hs Jz
 rw[Is]at r1
 have l1:=CW (cR 14) hs li (by decide) 1
 rw[It]at l1
 have c1:=ua li li (by decide) (by decide)
 have i1:=kO [0,2] [0,2] (by decide) (by decide)
 have i2:=kO [3] [3] (by decide) (by decide)
 have i3:=kO [1,3] [1,3] (by decide) (by decide)
 have sh:=J4 14
 have ca:=uJ
 rw[decide_eq_true rfl]at c1 i1 i2 i3
 unfold FK Hf at *
 clear hs
 refine ag ao { l:=0,f:=21} mixed Ho Tryz.func21 (by kernel_rfl) ?_
 conv=>whnf
 repeat(any_goals(first|exact ab|(refine ap ?_ ?_<;>intro _<;>first|exact aq|conv=>whnf)|((first|refine aa sh ?_|refine aa ca ?_|refine aa s1 ?_|refine aa s2 ?_|refine aa t1 ?_|refine aa t2 ?_|refine aa b1 ?_|refine aa f1 ?_|refine aa f2 ?_|refine aa p1 ?_|refine aa p2 ?_|refine aa m1 ?_|refine aa w1 ?_|refine aa r1 ?_|refine aa l1 ?_|refine aa c1 ?_|refine aa i1 ?_|refine aa i2 ?_|refine aa i3 ?_|refine And.intro (by decide) ?_|refine ac ?_|refine bi ?_ ?_|intro _)<;>conv=>whnf)))
 (refine⟨⟨?_⟩,trivial⟩;rfl)
theorem ug{P:Program}{f:FuncId}{α:Type}[DecidableEq α]{args:List AV}{a:α}(h:PureA P f args (aB (decide (a=a)))):PureA P f args (aB true):=by rwa [decide_eq_true rfl]at h
theorem tR{s:Bill}{c:List Ent}:(s.setR c).1.pages.length≤1048576:=by
 unfold Bill.setR
 split
 ·simp
 ·rename_i h0
  obtain⟨hg,hok,h6⟩:=bQ (Decidable.not_not.1 h0)
  have:=(oA hg hok h6 (Nat.zero_le _)).1
  simp only
  omega
set_option maxHeartbeats 4000000 in
set_option maxRecDepth 100000 in
theorem uG(s:Bill)(c:List Ent)(p:List Int)(hr:s.small)(hl:c.length≤1048576)(hp:p.length≤1048576):PureA Tryz.prog 5 [aI s,aJ c,aD p] (aB true):=by
 have a1:=gP s hr c hl p hp
 have a2:=CP s hr c hl p hp
 have b1:=kR s hr c hl
 have b2:=FE s hr c
 have d1:=m7 s hr c hl
 have d2:=wR s hr c
 have aw:=uF
 have sm:=ug (kO (s.setR c).1.pages (s.setR c).1.pages tR tR)
 unfold G1 at b1 b2
 generalize s.fitsR c p=x at *
 generalize s.setR c=y at *
 generalize s.fewR c=z at *
 obtain⟨x1,x2⟩:=x
 obtain⟨⟨y1,y2⟩,y3⟩:=y
 obtain⟨z1,z2⟩:=z
 simp only at a1 a2 b1 b2 d1 d2 sm
 unfold aI at a1 a2 b1 b2 d1 d2
 refine ag ao { l:=0,f:=5} mixed Kb Tryz.func5 (by kernel_rfl) ?_
 conv=>whnf
 repeat(any_goals(first|exact ab|(refine ap ?_ ?_<;>intro _<;>first|exact aq|conv=>whnf)|((first|refine aa a1 ?_|refine aa a2 ?_|refine aa b1 ?_|refine aa b2 ?_|refine aa d1 ?_|refine aa d2 ?_|refine af a1 rfl ?_|refine af a2 rfl ?_|refine af b1 rfl ?_|refine af b2 rfl ?_|refine af d1 rfl ?_|refine af d2 rfl ?_|refine aa sm ?_|refine af sm rfl ?_|refine aa aw ?_|refine ac ?_|refine bi ?_ ?_|intro _)<;>conv=>whnf)))
 (refine⟨⟨?_⟩,trivial⟩;rfl)
set_option maxHeartbeats 4000000 in
set_option maxRecDepth 100000 in
theorem uH(s:Bill)(c:List Ent)(t:ByteArray)(hr:s.small)(hl:c.length≤1048576):PureA Tryz.prog 6 [aI s,aJ c,aG t] (aB true):=by
 have a1:=qA s hr c hl
 have a2:=zP s hr c
 have b1:=tY s hr t
 have b2:=CQ s hr t
 have aw:=uF
 have hlen:(s.readR t).1.length≤1048576:=by
  unfold Bill.readR
  split
  ·simp
  ·rename_i h0
   have hg:=Bill.good (Decidable.not_not.1 h0)
   split
   ·simp
   ·split
    ·simp
    ·split
     ·rename_i hh
      have:=(bQ (fi hg hh.1)).2.2
      simp only
      omega
     ·simp
 have sm:=ug (ua (s.readR t).1 (s.readR t).1 hlen hlen)
 generalize s.writeR c=x at *
 generalize s.readR t=y at *
 obtain⟨x1,x2⟩:=x
 obtain⟨y1,y2⟩:=y
 simp only at a1 a2 b1 b2 sm
 generalize aH x1=X at *
 unfold aI at a1 a2 b1 b2
 refine ag ao { l:=0,f:=6} mixed Kc Tryz.func6 (by kernel_rfl) ?_
 conv=>whnf
 repeat(any_goals(first|exact ab|(refine ap ?_ ?_<;>intro _<;>first|exact aq|conv=>whnf)|((first|refine aa a1 ?_|refine aa a2 ?_|refine aa b1 ?_|refine aa b2 ?_|refine af a1 rfl ?_|refine af a2 rfl ?_|refine af b1 rfl ?_|refine af b2 rfl ?_|refine aa sm ?_|refine af sm rfl ?_|refine aa aw ?_|refine ac ?_|refine bi ?_ ?_|intro _)<;>conv=>whnf)))
 all_goals(try(exact absurd rfl (by assumption)))
 (refine⟨⟨?_⟩,trivial⟩;rfl)
theorem BA{s:Bill}(hg:s.Good){c:List Ent}(h:s.holds c=true):c.length≤6:=(bQ (fi hg h)).2.2
theorem DF{s:Bill}(hr:s.small)(h:s.check.2.2≠0):PureA Tryz.prog 38 [aI s] (aB false):=by
 have:=DG s hr
 rwa [decide_eq_false h]at this
theorem Af{s:Bill}(hr:s.small)(hg:s.Good):PureA Tryz.prog 38 [aI s] (aB true):=by
 have:=DG s hr
 rwa [decide_eq_true (by rw[hg.check])]at this
theorem AG{c:List Ent}:∀{l:List Nat} {i:Nat} {q:Option Int},bK c i l→(∀y,q=some y→y<i)→nu c.length q (bz l)=false
 | [],_,_,_,_=>rfl
 | j::l,i,q,⟨h1,h2,h3⟩,hq=>by
  have hle:=h3.le
  show((tm (j:Int) q||decide ((c.length:Int)≤(j:Int)))||nu c.length (some (j:Int)) (bz l))=false
  rw[AG h3 (q:=some (j:Int)) (fun y hy=>by cases hy;omega)]
  have hn:tm (j:Int) q=false:=by
   cases q with
   | none=>rfl
   | some y=>have:=hq y rfl;exact decide_eq_false (by omega)
  rw[hn,decide_eq_false (by omega)]
  rfl
theorem zl{c:List Ent}{l:List Nat}(h:bK c 0 l):dG c.length (bz l)=false:=by
 have hb:=AG (q:=none) h (fun y hy=>by cases hy)
 unfold dG
 rw[hb]
 cases l with
 | nil =>
  have:0=c.length:=h
  rw[←this];rfl
 | cons j l =>
  obtain⟨h1,h2,h3⟩:=h
  have:=h3.le
  subst h1
  rw[decide_eq_false (show¬c.length=0 by omega)]
  rfl
theorem pF{s:Bill}(hg:s.Good){c:List Ent}(hh:s.holds c=true){l:List Nat}(h:bK c 0 l):s.fitsR c (bz l)=dN 0 (s.whiteL c l):=by
 unfold Bill.fitsR
 rw[if_neg (fun k=>k (fi hg hh)),zl h,if_neg (by simp)]
 unfold Bill.whiteI
 rw[ed]
theorem r8{c:List Ent}:∀(l:List Nat) (i:Nat),(i::l).Pairwise (· < ·)→(∀x∈i::l,x<c.length)→bK c i (i::l)
 | [],i,_,h=>⟨rfl,h i (by simp),rfl⟩
 | j::l,i,hp,h=>by
  rw[List.pairwise_cons]at hp
  exact⟨rfl,hp.1 j (by simp),r8 l j hp.2 fun x hx=>h x (by simp[hx])⟩
theorem rG(c:List Ent)(y:List Int):∃l:List Nat,fF y c.length=bz l∧bK c 0 l:=by
 refine⟨(List.range c.length).filter fun i=>decide (i=0)||decide ((mW y i).tmod 2=1),rfl,?_⟩
 cases hn:c.length with
 | zero=>exact hn.symm
 | succ m =>
  rw[List.range_succ_eq_map,List.filter_cons,if_pos (by simp)]
  have hs:(0::(List.filter (fun i=>decide (i=0)||decide ((mW y i).tmod 2=1)) ((List.range m).map Nat.succ))).Sublist (List.range (m+1)):=by
   rw[List.range_succ_eq_map]
   exact List.Sublist.cons_cons _ (List.filter_sublist ..)
  refine r8 _ 0 ((List.pairwise_lt_range (n:=m+1)).sublist hs) fun x hx=>?_
  have:=List.mem_range.1 (hs.subset hx)
  omega
set_option maxHeartbeats 8000000 in
set_option maxRecDepth 100000 in
theorem Gp(s:Bill)(x:Int)(y:List Int)(h8:0≤x∧x≤255)(hy:y.length≤1048576)(c:List Ent)(p o:List Int)(w n h:Int)(f f2':Nat)(fe:Bool)(hc:c.length≤6)(hp6:p.length≤6)(ho6:o.length≤6)
  (hl:14≤s.lines∧s.lines≤30) (aw:PureA Tryz.prog 21 [] (aB true))
  (hv:PureA Tryz.prog 38 [.agg [aj s.lines,dW s.figs,aD s.truths]] (aB true))
  (ha:PureA Tryz.prog 42 [.agg [aj s.lines,dW s.figs,aD s.truths],u8A x] (aJ c))
  (p1:PureA Tryz.prog 27 [.agg [aj s.lines,dW s.figs,aD s.truths],aJ c] (.tuple [aD p,aj w,aj 0]))
  (f1:PureA Tryz.prog 25 [.agg [aj s.lines,dW s.figs,aD s.truths],aJ c,aD p] (.tuple [aj w,aj 0]))
  (m1:PureA Tryz.prog 30 [.agg [aj s.lines,dW s.figs,aD s.truths],aJ c] (.tuple [aj f,aj 0]))
  (pg:PureA Tryz.prog 45 [aJ c,La y] (aD o))
  (f2:PureA Tryz.prog 25 [.agg [aj s.lines,dW s.figs,aD s.truths],aJ c,aD o] (.tuple [aj n,aj h]))
  (fw:PureA Tryz.prog 46 [aD o,aD p] (aB fe))
  (m2:s.lines<30→PureA Tryz.prog 30 [.agg [aj (s.lines+1),dW s.figs,aD s.truths],aJ c] (.tuple [aj f2',aj 0]))
  (hw:0≤w) (hpc:p.length≤c.length) (hfp:f≤p.length) (hf0:f=0↔c.length=0) (hno:(h=7∧n=0)∨(h=0∧w≤n∧(n=w→fe=false)∧f≤o.length)) (hff:f2'≤f) :
  PureA Tryz.prog 10 [aI s,u8A x,La y] (aB true):=by
 have hcl:(c.map bB).length=c.length:=List.length_map ..
 have hpl:(p.map aj).length=p.length:=List.length_map ..
 have hol:(o.map aj).length=o.length:=List.length_map ..
 have hz:(decide ((f:Int)=0) != decide (((c.map bB).length:Int)=0))=false:=by
  rw[hcl]
  by_cases q:c.length=0
  ·rw[decide_eq_true (show(f:Int)=0 by have:=hf0.2 q;omega),decide_eq_true (show(c.length:Int)=0 by omega)];rfl
  ·rw[decide_eq_false (show¬(f:Int)=0 by have:=fun k=>q (hf0.1 k);omega),decide_eq_false (show¬(c.length:Int)=0 by omega)];rfl
 by_cases h30:s.lines=30
 ·clear m2
  have m2:=aw
  rcases hno with⟨rfl,rfl⟩|⟨rfl,h1,h2,h3⟩
  ·refine ag ao { l:=0,f:=10} mixed jg Tryz.func10 (by kernel_rfl) ?_
   conv=>whnf
   repeat(any_goals(first|exact ab|(refine ap ?_ ?_<;>intro _<;>first|exact aq|conv=>whnf)|((first|refine aa hv ?_|refine aa ha ?_|refine aa p1 ?_|refine aa f1 ?_|refine aa m1 ?_|refine aa pg ?_|refine aa f2 ?_|refine aa fw ?_|refine aa m2 ?_|refine⟨.bool false,n8 _ _ hz,?_⟩|refine aa aw ?_|refine ac ?_|refine bi ?_ ?_|intro _)<;>conv=>whnf)))
   (refine⟨⟨?_⟩,trivial⟩;rfl)
  ·by_cases q:n=w
   ·obtain rfl:=h2 q
    subst q
    refine ag ao { l:=0,f:=10} mixed jg Tryz.func10 (by kernel_rfl) ?_
    conv=>whnf
    repeat(any_goals(first|exact ab|(refine ap ?_ ?_<;>intro _<;>first|exact aq|conv=>whnf)|((first|refine aa hv ?_|refine aa ha ?_|refine aa p1 ?_|refine aa f1 ?_|refine aa m1 ?_|refine aa pg ?_|refine aa f2 ?_|refine aa fw ?_|refine aa m2 ?_|refine⟨.bool false,n8 _ _ hz,?_⟩|refine aa aw ?_|refine ac ?_|refine bi ?_ ?_|intro _)<;>conv=>whnf)))
    (refine⟨⟨?_⟩,trivial⟩;rfl)
   ·refine ag ao { l:=0,f:=10} mixed jg Tryz.func10 (by kernel_rfl) ?_
    conv=>whnf
    repeat(any_goals(first|exact ab|(refine ap ?_ ?_<;>intro _<;>first|exact aq|conv=>whnf)|((first|refine aa hv ?_|refine aa ha ?_|refine aa p1 ?_|refine aa f1 ?_|refine aa m1 ?_|refine aa pg ?_|refine aa f2 ?_|refine aa fw ?_|refine aa m2 ?_|refine⟨.bool false,n8 _ _ hz,?_⟩|refine aa aw ?_|refine ac ?_|refine bi ?_ ?_|intro _)<;>conv=>whnf)))
    (refine⟨⟨?_⟩,trivial⟩;rfl)
 ·have m2:=m2 (by omega)
  rcases hno with⟨rfl,rfl⟩|⟨rfl,h1,h2,h3⟩
  ·refine ag ao { l:=0,f:=10} mixed jg Tryz.func10 (by kernel_rfl) ?_
   conv=>whnf
   repeat(any_goals(first|exact ab|(refine ap ?_ ?_<;>intro _<;>first|exact aq|conv=>whnf)|((first|refine aa hv ?_|refine aa ha ?_|refine aa p1 ?_|refine aa f1 ?_|refine aa m1 ?_|refine aa pg ?_|refine aa f2 ?_|refine aa fw ?_|refine aa m2 ?_|refine⟨.bool false,n8 _ _ hz,?_⟩|refine aa aw ?_|refine ac ?_|refine bi ?_ ?_|intro _)<;>conv=>whnf)))
   (refine⟨⟨?_⟩,trivial⟩;rfl)
  ·by_cases q:n=w
   ·obtain rfl:=h2 q
    subst q
    refine ag ao { l:=0,f:=10} mixed jg Tryz.func10 (by kernel_rfl) ?_
    conv=>whnf
    repeat(any_goals(first|exact ab|(refine ap ?_ ?_<;>intro _<;>first|exact aq|conv=>whnf)|((first|refine aa hv ?_|refine aa ha ?_|refine aa p1 ?_|refine aa f1 ?_|refine aa m1 ?_|refine aa pg ?_|refine aa f2 ?_|refine aa fw ?_|refine aa m2 ?_|refine⟨.bool false,n8 _ _ hz,?_⟩|refine aa aw ?_|refine ac ?_|refine bi ?_ ?_|intro _)<;>conv=>whnf)))
    (refine⟨⟨?_⟩,trivial⟩;rfl)
   ·refine ag ao { l:=0,f:=10} mixed jg Tryz.func10 (by kernel_rfl) ?_
    conv=>whnf
    repeat(any_goals(first|exact ab|(refine ap ?_ ?_<;>intro _<;>first|exact aq|conv=>whnf)|((first|refine aa hv ?_|refine aa ha ?_|refine aa p1 ?_|refine aa f1 ?_|refine aa m1 ?_|refine aa pg ?_|refine aa f2 ?_|refine aa fw ?_|refine aa m2 ?_|refine⟨.bool false,n8 _ _ hz,?_⟩|refine aa aw ?_|refine ac ?_|refine bi ?_ ?_|intro _)<;>conv=>whnf)))
    (refine⟨⟨?_⟩,trivial⟩;rfl)
set_option maxHeartbeats 4000000 in
set_option maxRecDepth 100000 in
theorem uI(s:Bill)(x:Int)(y:List Int)(hr:s.small)(h8:0≤x∧x≤255)(hy:y.length≤1048576)(hy8:∀z∈y,0≤z∧z≤255):PureA Tryz.prog 10 [aI s,u8A x,La y] (aB true):=by
 have aw:=uF
 by_cases h0:s.check.2.2=0
 ·have hg:=Bill.good h0
  have hv:=Af hr hg
  have ha:=Lu s hg x h8
  have hah:=AC hg (x:=x) h8.1
  have ha6:=BA hg hah
  generalize s.anyC x=c at *
  have hok:=(bQ (fi hg hah)).2.1
  have hk:=fi hg hah
  have p1:=kR s hr c (by omega)
  have hset:s.setR c=(s.press c 0,0):=by unfold Bill.setR;rw[if_neg (fun k=>k hk)]
  rw[hset]at p1
  have hbp:=kK hg hok
  obtain⟨l,w,e,hl,hw⟩:=hbp.is
  have hle:=hbp.le
  rw[e]at p1 hle
  have p1:PureA Tryz.prog 27 [aI s,aJ c] (.tuple [aD (bz l),aj w,aj 0]):=p1
  have hll:=cG hl
  have hcl:(bz l).length=l.length:=List.length_map ..
  have f1:=gP s hr c (by omega) (bz l) (by omega)
  rw[pF hg hah hl,hw]at f1
  have f1:PureA Tryz.prog 25 [aI s,aJ c,aD (bz l)] (.tuple [aj (0+w),aj 0]):=f1
  rw[Int.zero_add]at f1
  have m1:=m7 s hr c (by omega)
  have hfew:s.fewR c=((s.few c:Int),0):=by unfold Bill.fewR;rw[if_neg (fun k=>k hk)]
  rw[hfew]at m1
  obtain⟨⟨l0,w0,k1,k2,k3⟩,k4⟩:=m8 hg hok
  obtain⟨o,ho,hop⟩:=rG c y
  have hol:=cG hop
  have hocl:(bz o).length=o.length:=List.length_map ..
  have pg:=yX c (by omega) y hy hy8
  rw[ho]at pg
  have f2:=gP s hr c (by omega) (bz o) (by omega)
  rw[pF hg hah hop]at f2
  have fw:=Bo (bz o) (bz l) (by omega) (by omega)
  have m2:s.lines<30→PureA Tryz.prog 30 [aI s.more,aJ c] (.tuple [aj (s.more.few c),aj 0])∧s.more.few c≤s.few c:=fun hlt=>by
   have hgm:=td hg hlt
   have:=m7 s.more hr c (by omega)
   have hkm:bZ s.more c=0:=fi hgm (by rw[(pX s).holds];exact hah)
   have hfm:s.more.fewR c=((s.more.few c:Int),0):=by unfold Bill.fewR;rw[if_neg (fun k=>k hkm)]
   rw[hfm]at this
   exact⟨this,EZ hg hlt hok⟩
  have hf0:s.few c=0↔c.length=0:=by
   rw[←k3]
   constructor
   ·intro h
    have:l0=[]:=List.length_eq_zero_iff.1 h
    subst this
    exact(show 0=c.length from k1).symm
   ·intro h
    have:=cG k1
    omega
  have hpos:=kX l w hw
  have hno:∀v,s.whiteL c o=v→((dN 0 v).2=7∧(dN 0 v).1=0)∨((dN 0 v).2=0∧w≤(dN 0 v).1∧((dN 0 v).1=w→ex (bz o) (bz l)=false)∧s.few c≤(bz o).length):=by
   intro v hv
   cases v with
   | none=>exact .inl ⟨rfl,rfl⟩
   | some u =>
    right
    have hb:=hle o u hop hv
    unfold LeP bq fH at hb
    have e0:(dN 0 (some u)).1=u:=by show 0+u=u;omega
    rw[e0]
    refine⟨rfl,?_,fun hu=>?_,by rw[hocl];exact k4 o u hop hv⟩
    ·by_cases q:u=w
     ·omega
     ·simp only[ne_eq]at hb
      rw[if_pos (by simpa using q),decide_eq_false_iff_not]at hb
      omega
    ·subst hu
     simp only[ne_eq,not_true_eq_false,if_false]at hb
     exact hb
  have hno:=hno _ rfl
  generalize dN 0 (s.whiteL c o)=W at *
  refine Gp s x y h8 hy c (bz l) (bz o) w W.1 W.2 (s.few c) (if s.lines<30 then s.more.few c else 0) (ex (bz o) (bz l)) ha6 (by omega) (by omega) hg.lines aw hv ha p1 f1 m1 pg f2 fw (fun hlt=>?_) hpos (by omega) (by rw[hcl];exact k4 l w hl hw) hf0 hno ?_
  ·rw[if_pos hlt];exact(m2 hlt).1
  ·split
   ·rename_i hlt;exact(m2 hlt).2
   ·exact Nat.zero_le _
 ·have hv:=DF hr h0
  have p1:=kR s hr [] (by simp)
  have:s.setR []=(⟨[],0⟩,s.check.2.2):=by
   have hk:bZ s []=s.check.2.2:=by unfold bZ;rw[if_pos h0]
   unfold Bill.setR
   rw[hk,if_pos h0]
  rw[this]at p1
  have p1:=p1.args (.cons (Wk.refl _) (.cons (Wk.nil 3) (WkL.refl _)))
  unfold G1 at p1
  simp only at p1
  unfold aI at hv p1
  generalize s.check.2.2=e at *
  refine ag ao { l:=0,f:=10} mixed jg Tryz.func10 (by kernel_rfl) ?_
  conv=>whnf
  repeat(any_goals(first|exact ab|(refine ap ?_ ?_<;>intro _<;>first|exact aq|conv=>whnf)|((first|refine aa hv ?_|refine aa p1 ?_|refine aa aw ?_|refine ac ?_|refine bi ?_ ?_|intro _)<;>conv=>whnf)))
  (refine⟨⟨?_⟩,trivial⟩;rfl)
end Go.Proofs.YtgncapdjheghfaaGreatDoor
