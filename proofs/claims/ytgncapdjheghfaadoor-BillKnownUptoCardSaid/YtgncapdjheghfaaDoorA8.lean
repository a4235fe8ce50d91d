/- Part 8 of the texts that the last one stands on. -/
import Derived.Test.YtgncapdjheghfaaDoorA7
set_option linter.unusedVariables false
set_option linter.unusedSimpArgs false
namespace Go.Proofs.YtgncapdjheghfaaDoor
open Go.Am Go.Proofs Go
def cI(s:Bill)(r:Rec)(t:Bs)(u:RS):List bV:=(kLn,1,1,[aI (aC t)])::Dr s r u
def Fp(s:Bill)(r:Rec)(t:Bs)(l:List Ent):List (Key×Option gT) :=
 o7 ((kLn,1,1,[aI (aC t)])::un s r false (ED l) 0)++[(kRl,some (lstS l)),(kRx,some (curS ⟨l,0⟩))]
theorem vR(s:Bill)(r:Rec)(t:Bs)(l:List Ent)(k:Key):b8 (cI s r t ⟨l,0⟩) k=match aU (Fp s r t l) k with
  | some (some c)=>c
  | _=>(0,none):=by
 rw[jf]
 cases l with
 | nil=>exact((eH kRx k _).trans (eH kRl k (o7 (cI s r t ⟨[],0⟩)))).symm
 | cons x l=>rfl
theorem io(s:Bill)(l:List Ent)(r:Bs):s.stepM l r=⟨l,1⟩∨s.stepM l r=⟨l,0⟩∨s.stepM l r=⟨l,2⟩∨∃x,s.stepM l r=⟨l++[x],0⟩:=by
 unfold Bill.stepM
 split
 ·exact .inl rfl
 ·split
  ·exact .inr (.inl rfl)
  ·split
   ·exact .inr (.inr (.inl rfl))
   ·exact .inr (.inr (.inr ⟨_,rfl⟩))
theorem jW(s:Bill)(r:Bs)(rs:List Bs)(l:List Ent):s.readM (r::rs) l=if(s.stepM l r).st=0 then s.readM rs (s.stepM l r).l else(s.stepM l r,rs):=rfl
theorem xL(s:Bill)(l:List Ent):s.readM [] l=(⟨l,0⟩,[]):=rfl
structure LnSt where
 rs:List Bs
 l:List Ent
set_option maxHeartbeats 8000000 in
theorem w5(s:Bill)(r:Rec)(hl:∀(t:Bs) (u:RS),eP (aB (cI s r t u)) r.l=r.l)
  (hy:∀(t:Bs) (l:List Ent) (row:Bs),row.length≤800→l.length≤800→BoxA Tryd.prog (.yld kLr r.g) (cI s r t ⟨l,0⟩) [aI (aC row)] (aH (decide ((s.stepM l row).st=0))) (cI s r t (s.stepM l row)))
  (rs:List Bs) (hok:RowsOk rs) (hsz:rs.flatten.length≤800) :
  BoxA Tryd.prog (.fn 62) (cI s r rs.flatten ⟨[],0⟩) [.yld kLr r.g,.ptr kLn 1 1 0 0] (.tuple []) (cI s r (s.readM rs []).2.flatten (s.readM rs []).1):=by
 obtain⟨Z,hZ⟩:∃Z,s.readM rs []=Z:=⟨_,rfl⟩
 rw[hZ]
 obtain⟨rg,ra,rb,rl⟩:=r
 simp only at hl hy
 refine vS (bov:=Fp s ⟨rg,ra,rb,rl⟩ rs.flatten []) ax { l:=0,f:=62} mixed (vR s _ _ []) Cl Tryd.func62 (by kernel_rfl) ?_
 conv=>whnf
 refine bS ax { l:=0,f:=62} mixed (fun _:LnSt=>[]) (fun u=>Fp s ⟨rg,ra,rb,rl⟩ u.rs.flatten u.l) (fun _=>[]) (fun u=>RowsOk u.rs∧u.l.length+u.rs.flatten.length≤800∧s.readM u.rs u.l=Z) (fun u=>u.rs.length) (⟨rs,[]⟩:LnSt) (by kernel_rfl)
  ⟨hok,by show 0+rs.flatten.length≤800;omega,hZ⟩ ?_
 conv=>whnf
 refine⟨⟨trivial,?_,trivial⟩,?_⟩
 ·repeat(first|exact trivial|refine kc rfl ?_|refine bC rfl ?_)
 clear hok hsz hZ
 rintro⟨rs,l⟩ ⟨hok,hsz,HZ⟩
 simp only at hok hsz HZ
 cases hok with
 | nil =>
  rw[xL]at HZ
  subst HZ
  clear hy
  cases l with
  | nil =>
   conv=>whnf
   repeat(any_goals(first|exact ac|(refine ao ?_ ?_<;>intro _<;>first|exact ap|conv=>whnf)|((first|refine ae ?_|refine bi ?_ ?_|intro _)<;>conv=>whnf)))
   refine And.intro ?_ ?_
   ·conv=>whnf
    refine⟨⟨?_⟩,trivial⟩
    rfl
   ·repeat(first|exact trivial|refine And.intro rfl ?_|refine And.intro (by first|exact(congrArg (fun z=>some (some (rg,some (0,[AV.lp .ready none #[26] ra rb z])))) (hl _ _))|rfl) ?_)
  | cons y l =>
   conv=>whnf
   repeat(any_goals(first|exact ac|(refine ao ?_ ?_<;>intro _<;>first|exact ap|conv=>whnf)|((first|refine ae ?_|refine bi ?_ ?_|intro _)<;>conv=>whnf)))
   refine And.intro ?_ ?_
   ·conv=>whnf
    refine⟨⟨?_⟩,trivial⟩
    rfl
   ·repeat(first|exact trivial|refine And.intro rfl ?_|refine And.intro (by first|exact(congrArg (fun z=>some (some (rg,some (0,[AV.lp .ready none #[26] ra rb z])))) (hl _ _))|rfl) ?_)
 | row w rs h10 hrs =>
  obtain⟨T,hT0⟩:∃T,((w++[10])::rs).flatten=T:=⟨_,rfl⟩
  rw[hT0]at hsz ⊢
  have hT:T=w++10::rs.flatten:=by rw[←hT0];simp
  have hTl:T.length=w.length+1+rs.flatten.length:=by rw[hT];simp;omega
  have hidx:=wO (aC T) 10
  rw[show Lib.indexByte (aC T).data.toList ((10:Nat):Int).toNat.toUInt8=(w.length:Int) by show Lib.indexByte T 10=_;rw[hT];exact pP w _ h10]at hidx
  have hs1:=Ae T (w.length+1) (by omega)
  rw[show T.take (w.length+1)=w++[10] by rw[hT,show w++10::rs.flatten=(w++[10])++rs.flatten by simp];exact List.take_left' (by simp)]at hs1
  have hs2:=Ad T (w.length+1) (by omega)
  rw[show T.drop (w.length+1)=rs.flatten by rw[hT,show w++10::rs.flatten=(w++[10])++rs.flatten by simp];exact List.drop_left' (by simp)]at hs2
  rw[show((w.length+1:Nat):Int)=(w.length:Int)+1 by omega]at hs1 hs2
  have hTs:(aC T).size=T.length:=rfl
  have h256:(aC T).size=w.length+1+rs.flatten.length:=hTl
  have hy:=hy (rs.flatten) (l) (w++[10]) (by(try simp only[List.length_append,List.length_cons,List.length_nil]);omega) (by omega)
  have hY:BoxA Tryd.prog (.yld kLr rg) (cI s ⟨rg,ra,rb,eP (aB (cI s ⟨rg,ra,rb,rl⟩ (rs.flatten) ⟨l,0⟩)) rl⟩ (rs.flatten) ⟨l,0⟩) [aI (aC (w++[10]))] (aH (decide ((s.stepM (l) (w++[10])).st=0))) (cI s ⟨rg,ra,rb,rl⟩ (rs.flatten) (s.stepM (l) (w++[10]))):=by
   have e:=hl (rs.flatten) ⟨l,0⟩
   rw[e];exact hy
  clear hy
  rw[jW]at HZ
  obtain⟨R0,hR0⟩:∃R0,w++[10]=R0:=⟨_,rfl⟩
  rw[hR0]at hY HZ hs1
  clear hT hT0 h10
  rcases io s l R0 with e|e|e|⟨x,e⟩
  ·rw[e]at hY HZ
   rw[if_neg (by simp)]at HZ
   subst HZ
   cases l with
   | nil =>
    conv=>whnf
    repeat(any_goals(first|exact ac|(refine ao ?_ ?_<;>intro _<;>first|exact ap|conv=>whnf)|((first|refine aa hidx ?_|refine ah hidx rfl ?_|refine ae ?_|refine bi ?_ ?_|intro _)<;>conv=>whnf)))
    refine⟨_,hs1,?_⟩
    conv=>whnf
    repeat(any_goals(first|exact ac|(refine ao ?_ ?_<;>intro _<;>first|exact ap|conv=>whnf)|((first|refine aa hidx ?_|refine ah hidx rfl ?_|refine ae ?_|refine bi ?_ ?_|intro _)<;>conv=>whnf)))
    refine⟨_,hs2,?_⟩
    conv=>whnf
    repeat(any_goals(first|exact ac|(refine ao ?_ ?_<;>intro _<;>first|exact ap|conv=>whnf)|((first|refine aa hidx ?_|refine ah hidx rfl ?_|refine ae ?_|refine bi ?_ ?_|intro _)<;>conv=>whnf)))
    refine⟨aB (cI s ⟨rg,ra,rb,rl⟩ (rs.flatten) ⟨[],0⟩),?_⟩
    conv=>whnf
    repeat(refine ab (ay _ _) ?_<;>(conv=>whnf))
    refine⟨_,_,hY,?_⟩
    conv=>whnf
    repeat(refine ab (ay _ _) ?_<;>(conv=>whnf))
    repeat(any_goals(first|exact ac|(refine ao ?_ ?_<;>intro _<;>first|exact ap|conv=>whnf)|((first|refine aa hidx ?_|refine ah hidx rfl ?_|refine ae ?_|refine bi ?_ ?_|intro _)<;>conv=>whnf)))
    refine And.intro ?_ ?_
    ·conv=>whnf
     exact⟨⟨rfl⟩,trivial⟩
    ·rw[bH]
     repeat(first|exact trivial|refine kc rfl ?_|refine kc (congrArg (fun z=>some (some (rg,some (0,[AV.lp .done (some .ret) #[26] ra rb z])))) (hl _ _)) ?_)
   | cons y l =>
    conv=>whnf
    repeat(any_goals(first|exact ac|(refine ao ?_ ?_<;>intro _<;>first|exact ap|conv=>whnf)|((first|refine aa hidx ?_|refine ah hidx rfl ?_|refine ae ?_|refine bi ?_ ?_|intro _)<;>conv=>whnf)))
    refine⟨_,hs1,?_⟩
    conv=>whnf
    repeat(any_goals(first|exact ac|(refine ao ?_ ?_<;>intro _<;>first|exact ap|conv=>whnf)|((first|refine aa hidx ?_|refine ah hidx rfl ?_|refine ae ?_|refine bi ?_ ?_|intro _)<;>conv=>whnf)))
    refine⟨_,hs2,?_⟩
    conv=>whnf
    repeat(any_goals(first|exact ac|(refine ao ?_ ?_<;>intro _<;>first|exact ap|conv=>whnf)|((first|refine aa hidx ?_|refine ah hidx rfl ?_|refine ae ?_|refine bi ?_ ?_|intro _)<;>conv=>whnf)))
    refine⟨aB (cI s ⟨rg,ra,rb,rl⟩ (rs.flatten) ⟨(y::l),0⟩),?_⟩
    conv=>whnf
    repeat(refine ab (ay _ _) ?_<;>(conv=>whnf))
    refine⟨_,_,hY,?_⟩
    conv=>whnf
    repeat(refine ab (ay _ _) ?_<;>(conv=>whnf))
    repeat(any_goals(first|exact ac|(refine ao ?_ ?_<;>intro _<;>first|exact ap|conv=>whnf)|((first|refine aa hidx ?_|refine ah hidx rfl ?_|refine ae ?_|refine bi ?_ ?_|intro _)<;>conv=>whnf)))
    refine And.intro ?_ ?_
    ·conv=>whnf
     exact⟨⟨rfl⟩,trivial⟩
    ·rw[bH]
     repeat(first|exact trivial|refine kc rfl ?_|refine kc (congrArg (fun z=>some (some (rg,some (0,[AV.lp .done (some .ret) #[26] ra rb z])))) (hl _ _)) ?_)
  ·rw[e]at hY HZ
   rw[if_pos rfl]at HZ
   cases l with
   | nil =>
    conv=>whnf
    repeat(any_goals(first|exact ac|(refine ao ?_ ?_<;>intro _<;>first|exact ap|conv=>whnf)|((first|refine aa hidx ?_|refine ah hidx rfl ?_|refine ae ?_|refine bi ?_ ?_|intro _)<;>conv=>whnf)))
    refine⟨_,hs1,?_⟩
    conv=>whnf
    repeat(any_goals(first|exact ac|(refine ao ?_ ?_<;>intro _<;>first|exact ap|conv=>whnf)|((first|refine aa hidx ?_|refine ah hidx rfl ?_|refine ae ?_|refine bi ?_ ?_|intro _)<;>conv=>whnf)))
    refine⟨_,hs2,?_⟩
    conv=>whnf
    repeat(any_goals(first|exact ac|(refine ao ?_ ?_<;>intro _<;>first|exact ap|conv=>whnf)|((first|refine aa hidx ?_|refine ah hidx rfl ?_|refine ae ?_|refine bi ?_ ?_|intro _)<;>conv=>whnf)))
    refine⟨aB (cI s ⟨rg,ra,rb,rl⟩ (rs.flatten) ⟨[],0⟩),?_⟩
    conv=>whnf
    repeat(refine ab (ay _ _) ?_<;>(conv=>whnf))
    refine⟨_,_,hY,?_⟩
    conv=>whnf
    repeat(refine ab (ay _ _) ?_<;>(conv=>whnf))
    repeat(any_goals(first|exact ac|(refine ao ?_ ?_<;>intro _<;>first|exact ap|conv=>whnf)|((first|refine aa hidx ?_|refine ah hidx rfl ?_|refine ae ?_|refine bi ?_ ?_|intro _)<;>conv=>whnf)))
    (refine⟨⟨rs,[]⟩,⟨hrs,by show List.length ([])+(rs).flatten.length≤800;(try simp only[List.length_append,List.length_cons,List.length_nil]at hsz ⊢);omega,HZ⟩,(by show(rs).length<_;simp),?_⟩;(conv=>whnf);refine⟨?_,?_,?_⟩<;>repeat(first|exact trivial|refine sc rfl ?_|refine kn ?_|refine kc rfl ?_|refine sc (by first|exact(congrArg (fun z=>some (some (rg,some (0,[AV.lp .ready none #[26] ra rb z])))) (hl _ _))|rfl) ?_|refine kc (by first|exact(congrArg (fun z=>some (some (rg,some (0,[AV.lp .ready none #[26] ra rb z])))) (hl _ _))|rfl) ?_))
   | cons y l =>
    conv=>whnf
    repeat(any_goals(first|exact ac|(refine ao ?_ ?_<;>intro _<;>first|exact ap|conv=>whnf)|((first|refine aa hidx ?_|refine ah hidx rfl ?_|refine ae ?_|refine bi ?_ ?_|intro _)<;>conv=>whnf)))
    refine⟨_,hs1,?_⟩
    conv=>whnf
    repeat(any_goals(first|exact ac|(refine ao ?_ ?_<;>intro _<;>first|exact ap|conv=>whnf)|((first|refine aa hidx ?_|refine ah hidx rfl ?_|refine ae ?_|refine bi ?_ ?_|intro _)<;>conv=>whnf)))
    refine⟨_,hs2,?_⟩
    conv=>whnf
    repeat(any_goals(first|exact ac|(refine ao ?_ ?_<;>intro _<;>first|exact ap|conv=>whnf)|((first|refine aa hidx ?_|refine ah hidx rfl ?_|refine ae ?_|refine bi ?_ ?_|intro _)<;>conv=>whnf)))
    refine⟨aB (cI s ⟨rg,ra,rb,rl⟩ (rs.flatten) ⟨(y::l),0⟩),?_⟩
    conv=>whnf
    repeat(refine ab (ay _ _) ?_<;>(conv=>whnf))
    refine⟨_,_,hY,?_⟩
    conv=>whnf
    repeat(refine ab (ay _ _) ?_<;>(conv=>whnf))
    repeat(any_goals(first|exact ac|(refine ao ?_ ?_<;>intro _<;>first|exact ap|conv=>whnf)|((first|refine aa hidx ?_|refine ah hidx rfl ?_|refine ae ?_|refine bi ?_ ?_|intro _)<;>conv=>whnf)))
    (refine⟨⟨rs,(y::l)⟩,⟨hrs,by show List.length ((y::l))+(rs).flatten.length≤800;(try simp only[List.length_append,List.length_cons,List.length_nil]at hsz ⊢);omega,HZ⟩,(by show(rs).length<_;simp),?_⟩;(conv=>whnf);refine⟨?_,?_,?_⟩<;>repeat(first|exact trivial|refine sc rfl ?_|refine kn ?_|refine kc rfl ?_|refine sc (by first|exact(congrArg (fun z=>some (some (rg,some (0,[AV.lp .ready none #[26] ra rb z])))) (hl _ _))|rfl) ?_|refine kc (by first|exact(congrArg (fun z=>some (some (rg,some (0,[AV.lp .ready none #[26] ra rb z])))) (hl _ _))|rfl) ?_))
  ·rw[e]at hY HZ
   rw[if_neg (by simp)]at HZ
   subst HZ
   cases l with
   | nil =>
    conv=>whnf
    repeat(any_goals(first|exact ac|(refine ao ?_ ?_<;>intro _<;>first|exact ap|conv=>whnf)|((first|refine aa hidx ?_|refine ah hidx rfl ?_|refine ae ?_|refine bi ?_ ?_|intro _)<;>conv=>whnf)))
    refine⟨_,hs1,?_⟩
    conv=>whnf
    repeat(any_goals(first|exact ac|(refine ao ?_ ?_<;>intro _<;>first|exact ap|conv=>whnf)|((first|refine aa hidx ?_|refine ah hidx rfl ?_|refine ae ?_|refine bi ?_ ?_|intro _)<;>conv=>whnf)))
    refine⟨_,hs2,?_⟩
    conv=>whnf
    repeat(any_goals(first|exact ac|(refine ao ?_ ?_<;>intro _<;>first|exact ap|conv=>whnf)|((first|refine aa hidx ?_|refine ah hidx rfl ?_|refine ae ?_|refine bi ?_ ?_|intro _)<;>conv=>whnf)))
    refine⟨aB (cI s ⟨rg,ra,rb,rl⟩ (rs.flatten) ⟨[],0⟩),?_⟩
    conv=>whnf
    repeat(refine ab (ay _ _) ?_<;>(conv=>whnf))
    refine⟨_,_,hY,?_⟩
    conv=>whnf
    repeat(refine ab (ay _ _) ?_<;>(conv=>whnf))
    repeat(any_goals(first|exact ac|(refine ao ?_ ?_<;>intro _<;>first|exact ap|conv=>whnf)|((first|refine aa hidx ?_|refine ah hidx rfl ?_|refine ae ?_|refine bi ?_ ?_|intro _)<;>conv=>whnf)))
    refine And.intro ?_ ?_
    ·conv=>whnf
     exact⟨⟨rfl⟩,trivial⟩
    ·rw[bH]
     repeat(first|exact trivial|refine kc rfl ?_|refine kc (congrArg (fun z=>some (some (rg,some (0,[AV.lp .done (some .ret) #[26] ra rb z])))) (hl _ _)) ?_)
   | cons y l =>
    conv=>whnf
    repeat(any_goals(first|exact ac|(refine ao ?_ ?_<;>intro _<;>first|exact ap|conv=>whnf)|((first|refine aa hidx ?_|refine ah hidx rfl ?_|refine ae ?_|refine bi ?_ ?_|intro _)<;>conv=>whnf)))
    refine⟨_,hs1,?_⟩
    conv=>whnf
    repeat(any_goals(first|exact ac|(refine ao ?_ ?_<;>intro _<;>first|exact ap|conv=>whnf)|((first|refine aa hidx ?_|refine ah hidx rfl ?_|refine ae ?_|refine bi ?_ ?_|intro _)<;>conv=>whnf)))
    refine⟨_,hs2,?_⟩
    conv=>whnf
    repeat(any_goals(first|exact ac|(refine ao ?_ ?_<;>intro _<;>first|exact ap|conv=>whnf)|((first|refine aa hidx ?_|refine ah hidx rfl ?_|refine ae ?_|refine bi ?_ ?_|intro _)<;>conv=>whnf)))
    refine⟨aB (cI s ⟨rg,ra,rb,rl⟩ (rs.flatten) ⟨(y::l),0⟩),?_⟩
    conv=>whnf
    repeat(refine ab (ay _ _) ?_<;>(conv=>whnf))
    refine⟨_,_,hY,?_⟩
    conv=>whnf
    repeat(refine ab (ay _ _) ?_<;>(conv=>whnf))
    repeat(any_goals(first|exact ac|(refine ao ?_ ?_<;>intro _<;>first|exact ap|conv=>whnf)|((first|refine aa hidx ?_|refine ah hidx rfl ?_|refine ae ?_|refine bi ?_ ?_|intro _)<;>conv=>whnf)))
    refine And.intro ?_ ?_
    ·conv=>whnf
     exact⟨⟨rfl⟩,trivial⟩
    ·rw[bH]
     repeat(first|exact trivial|refine kc rfl ?_|refine kc (congrArg (fun z=>some (some (rg,some (0,[AV.lp .done (some .ret) #[26] ra rb z])))) (hl _ _)) ?_)
  ·rw[e]at hY HZ
   rw[if_pos rfl]at HZ
   cases l with
   | nil =>
    conv=>whnf
    repeat(any_goals(first|exact ac|(refine ao ?_ ?_<;>intro _<;>first|exact ap|conv=>whnf)|((first|refine aa hidx ?_|refine ah hidx rfl ?_|refine ae ?_|refine bi ?_ ?_|intro _)<;>conv=>whnf)))
    refine⟨_,hs1,?_⟩
    conv=>whnf
    repeat(any_goals(first|exact ac|(refine ao ?_ ?_<;>intro _<;>first|exact ap|conv=>whnf)|((first|refine aa hidx ?_|refine ah hidx rfl ?_|refine ae ?_|refine bi ?_ ?_|intro _)<;>conv=>whnf)))
    refine⟨_,hs2,?_⟩
    conv=>whnf
    repeat(any_goals(first|exact ac|(refine ao ?_ ?_<;>intro _<;>first|exact ap|conv=>whnf)|((first|refine aa hidx ?_|refine ah hidx rfl ?_|refine ae ?_|refine bi ?_ ?_|intro _)<;>conv=>whnf)))
    refine⟨aB (cI s ⟨rg,ra,rb,rl⟩ (rs.flatten) ⟨[],0⟩),?_⟩
    conv=>whnf
    repeat(refine ab (ay _ _) ?_<;>(conv=>whnf))
    refine⟨_,_,hY,?_⟩
    conv=>whnf
    repeat(refine ab (ay _ _) ?_<;>(conv=>whnf))
    repeat(any_goals(first|exact ac|(refine ao ?_ ?_<;>intro _<;>first|exact ap|conv=>whnf)|((first|refine aa hidx ?_|refine ah hidx rfl ?_|refine ae ?_|refine bi ?_ ?_|intro _)<;>conv=>whnf)))
    (refine⟨⟨rs,([]++[x])⟩,⟨hrs,by show List.length (([]++[x]))+(rs).flatten.length≤800;(try simp only[List.length_append,List.length_cons,List.length_nil]at hsz ⊢);omega,HZ⟩,(by show(rs).length<_;simp),?_⟩;(conv=>whnf);refine⟨?_,?_,?_⟩<;>repeat(first|exact trivial|refine sc rfl ?_|refine kn ?_|refine kc rfl ?_|refine sc (by first|exact(congrArg (fun z=>some (some (rg,some (0,[AV.lp .ready none #[26] ra rb z])))) (hl _ _))|rfl) ?_|refine kc (by first|exact(congrArg (fun z=>some (some (rg,some (0,[AV.lp .ready none #[26] ra rb z])))) (hl _ _))|rfl) ?_))
   | cons y l =>
    conv=>whnf
    repeat(any_goals(first|exact ac|(refine ao ?_ ?_<;>intro _<;>first|exact ap|conv=>whnf)|((first|refine aa hidx ?_|refine ah hidx rfl ?_|refine ae ?_|refine bi ?_ ?_|intro _)<;>conv=>whnf)))
    refine⟨_,hs1,?_⟩
    conv=>whnf
    repeat(any_goals(first|exact ac|(refine ao ?_ ?_<;>intro _<;>first|exact ap|conv=>whnf)|((first|refine aa hidx ?_|refine ah hidx rfl ?_|refine ae ?_|refine bi ?_ ?_|intro _)<;>conv=>whnf)))
    refine⟨_,hs2,?_⟩
    conv=>whnf
    repeat(any_goals(first|exact ac|(refine ao ?_ ?_<;>intro _<;>first|exact ap|conv=>whnf)|((first|refine aa hidx ?_|refine ah hidx rfl ?_|refine ae ?_|refine bi ?_ ?_|intro _)<;>conv=>whnf)))
    refine⟨aB (cI s ⟨rg,ra,rb,rl⟩ (rs.flatten) ⟨(y::l),0⟩),?_⟩
    conv=>whnf
    repeat(refine ab (ay _ _) ?_<;>(conv=>whnf))
    refine⟨_,_,hY,?_⟩
    conv=>whnf
    repeat(refine ab (ay _ _) ?_<;>(conv=>whnf))
    repeat(any_goals(first|exact ac|(refine ao ?_ ?_<;>intro _<;>first|exact ap|conv=>whnf)|((first|refine aa hidx ?_|refine ah hidx rfl ?_|refine ae ?_|refine bi ?_ ?_|intro _)<;>conv=>whnf)))
    (refine⟨⟨rs,((y::l)++[x])⟩,⟨hrs,by show List.length (((y::l)++[x]))+(rs).flatten.length≤800;(try simp only[List.length_append,List.length_cons,List.length_nil]at hsz ⊢);omega,HZ⟩,(by show(rs).length<_;simp),?_⟩;(conv=>whnf);refine⟨?_,?_,?_⟩<;>repeat(first|exact trivial|refine sc rfl ?_|refine kn ?_|refine kc rfl ?_|refine sc (by first|exact(congrArg (fun z=>some (some (rg,some (0,[AV.lp .ready none #[26] ra rb z])))) (hl _ _))|rfl) ?_|refine kc (by first|exact(congrArg (fun z=>some (some (rg,some (0,[AV.lp .ready none #[26] ra rb z])))) (hl _ _))|rfl) ?_))
 | last w h10 h0 =>
  obtain⟨T,hT0⟩:∃T,([w]:List Bs).flatten=T:=⟨_,rfl⟩
  rw[hT0]at hsz ⊢
  have hT:w=T:=by rw[←hT0];simp
  subst hT
  have hidx:=wO (aC w) 10
  rw[show Lib.indexByte (aC w).data.toList ((10:Nat):Int).toNat.toUInt8 = -1 from nl w h10]at hidx
  have hTs:(aC w).size=w.length:=rfl
  have hpos:0<w.length:=List.length_pos_iff.2 h0
  have hrs:RowsOk []:= .nil
  have hfl:([]:List Bs).flatten.length=0:=rfl
  have hy:=hy ([]) (l) (w) (by(try simp only[List.length_append,List.length_cons,List.length_nil]);omega) (by omega)
  have hY:BoxA Tryd.prog (.yld kLr rg) (cI s ⟨rg,ra,rb,eP (aB (cI s ⟨rg,ra,rb,rl⟩ ([]) ⟨l,0⟩)) rl⟩ ([]) ⟨l,0⟩) [aI (aC (w))] (aH (decide ((s.stepM (l) (w)).st=0))) (cI s ⟨rg,ra,rb,rl⟩ ([]) (s.stepM (l) (w))):=by
   have e:=hl ([]) ⟨l,0⟩
   rw[e];exact hy
  clear hy
  rw[jW]at HZ
  obtain⟨R0,hR0⟩:∃R0,w=R0:=⟨_,rfl⟩
  subst hR0
  clear hT0 h10
  rcases io s l w with e|e|e|⟨x,e⟩
  ·rw[e]at hY HZ
   rw[if_neg (by simp)]at HZ
   subst HZ
   cases l with
   | nil =>
    conv=>whnf
    repeat(any_goals(first|exact ac|(refine ao ?_ ?_<;>intro _<;>first|exact ap|conv=>whnf)|((first|refine aa hidx ?_|refine ah hidx rfl ?_|refine ae ?_|refine bi ?_ ?_|intro _)<;>conv=>whnf)))
    refine⟨aB (cI s ⟨rg,ra,rb,rl⟩ ([]) ⟨[],0⟩),?_⟩
    conv=>whnf
    repeat(refine ab (ay _ _) ?_<;>(conv=>whnf))
    refine⟨_,_,hY,?_⟩
    conv=>whnf
    repeat(refine ab (ay _ _) ?_<;>(conv=>whnf))
    repeat(any_goals(first|exact ac|(refine ao ?_ ?_<;>intro _<;>first|exact ap|conv=>whnf)|((first|refine aa hidx ?_|refine ah hidx rfl ?_|refine ae ?_|refine bi ?_ ?_|intro _)<;>conv=>whnf)))
    refine And.intro ?_ ?_
    ·conv=>whnf
     exact⟨⟨rfl⟩,trivial⟩
    ·rw[bH]
     repeat(first|exact trivial|refine kc rfl ?_|refine kc (congrArg (fun z=>some (some (rg,some (0,[AV.lp .done (some .ret) #[26] ra rb z])))) (hl _ _)) ?_)
   | cons y l =>
    conv=>whnf
    repeat(any_goals(first|exact ac|(refine ao ?_ ?_<;>intro _<;>first|exact ap|conv=>whnf)|((first|refine aa hidx ?_|refine ah hidx rfl ?_|refine ae ?_|refine bi ?_ ?_|intro _)<;>conv=>whnf)))
    refine⟨aB (cI s ⟨rg,ra,rb,rl⟩ ([]) ⟨(y::l),0⟩),?_⟩
    conv=>whnf
    repeat(refine ab (ay _ _) ?_<;>(conv=>whnf))
    refine⟨_,_,hY,?_⟩
    conv=>whnf
    repeat(refine ab (ay _ _) ?_<;>(conv=>whnf))
    repeat(any_goals(first|exact ac|(refine ao ?_ ?_<;>intro _<;>first|exact ap|conv=>whnf)|((first|refine aa hidx ?_|refine ah hidx rfl ?_|refine ae ?_|refine bi ?_ ?_|intro _)<;>conv=>whnf)))
    refine And.intro ?_ ?_
    ·conv=>whnf
     exact⟨⟨rfl⟩,trivial⟩
    ·rw[bH]
     repeat(first|exact trivial|refine kc rfl ?_|refine kc (congrArg (fun z=>some (some (rg,some (0,[AV.lp .done (some .ret) #[26] ra rb z])))) (hl _ _)) ?_)
  ·rw[e]at hY HZ
   rw[if_pos rfl]at HZ
   cases l with
   | nil =>
    conv=>whnf
    repeat(any_goals(first|exact ac|(refine ao ?_ ?_<;>intro _<;>first|exact ap|conv=>whnf)|((first|refine aa hidx ?_|refine ah hidx rfl ?_|refine ae ?_|refine bi ?_ ?_|intro _)<;>conv=>whnf)))
    refine⟨aB (cI s ⟨rg,ra,rb,rl⟩ ([]) ⟨[],0⟩),?_⟩
    conv=>whnf
    repeat(refine ab (ay _ _) ?_<;>(conv=>whnf))
    refine⟨_,_,hY,?_⟩
    conv=>whnf
    repeat(refine ab (ay _ _) ?_<;>(conv=>whnf))
    repeat(any_goals(first|exact ac|(refine ao ?_ ?_<;>intro _<;>first|exact ap|conv=>whnf)|((first|refine aa hidx ?_|refine ah hidx rfl ?_|refine ae ?_|refine bi ?_ ?_|intro _)<;>conv=>whnf)))
    (refine⟨⟨[],[]⟩,⟨hrs,by show List.length ([])+([]).flatten.length≤800;(try simp only[List.length_append,List.length_cons,List.length_nil]at hsz ⊢);omega,HZ⟩,(by show([]).length<_;simp),?_⟩;(conv=>whnf);refine⟨?_,?_,?_⟩<;>repeat(first|exact trivial|refine sc rfl ?_|refine kn ?_|refine kc rfl ?_|refine sc (by first|exact(congrArg (fun z=>some (some (rg,some (0,[AV.lp .ready none #[26] ra rb z])))) (hl _ _))|rfl) ?_|refine kc (by first|exact(congrArg (fun z=>some (some (rg,some (0,[AV.lp .ready none #[26] ra rb z])))) (hl _ _))|rfl) ?_))
   | cons y l =>
    conv=>whnf
    repeat(any_goals(first|exact ac|(refine ao ?_ ?_<;>intro _<;>first|exact ap|conv=>whnf)|((first|refine aa hidx ?_|refine ah hidx rfl ?_|refine ae ?_|refine bi ?_ ?_|intro _)<;>conv=>whnf)))
    refine⟨aB (cI s ⟨rg,ra,rb,rl⟩ ([]) ⟨(y::l),0⟩),?_⟩
    conv=>whnf
    repeat(refine ab (ay _ _) ?_<;>(conv=>whnf))
    refine⟨_,_,hY,?_⟩
    conv=>whnf
    repeat(refine ab (ay _ _) ?_<;>(conv=>whnf))
    repeat(any_goals(first|exact ac|(refine ao ?_ ?_<;>intro _<;>first|exact ap|conv=>whnf)|((first|refine aa hidx ?_|refine ah hidx rfl ?_|refine ae ?_|refine bi ?_ ?_|intro _)<;>conv=>whnf)))
    (refine⟨⟨[],(y::l)⟩,⟨hrs,by show List.length ((y::l))+([]).flatten.length≤800;(try simp only[List.length_append,List.length_cons,List.length_nil]at hsz ⊢);omega,HZ⟩,(by show([]).length<_;simp),?_⟩;(conv=>whnf);refine⟨?_,?_,?_⟩<;>repeat(first|exact trivial|refine sc rfl ?_|refine kn ?_|refine kc rfl ?_|refine sc (by first|exact(congrArg (fun z=>some (some (rg,some (0,[AV.lp .ready none #[26] ra rb z])))) (hl _ _))|rfl) ?_|refine kc (by first|exact(congrArg (fun z=>some (some (rg,some (0,[AV.lp .ready none #[26] ra rb z])))) (hl _ _))|rfl) ?_))
  ·rw[e]at hY HZ
   rw[if_neg (by simp)]at HZ
   subst HZ
   cases l with
   | nil =>
    conv=>whnf
    repeat(any_goals(first|exact ac|(refine ao ?_ ?_<;>intro _<;>first|exact ap|conv=>whnf)|((first|refine aa hidx ?_|refine ah hidx rfl ?_|refine ae ?_|refine bi ?_ ?_|intro _)<;>conv=>whnf)))
    refine⟨aB (cI s ⟨rg,ra,rb,rl⟩ ([]) ⟨[],0⟩),?_⟩
    conv=>whnf
    repeat(refine ab (ay _ _) ?_<;>(conv=>whnf))
    refine⟨_,_,hY,?_⟩
    conv=>whnf
    repeat(refine ab (ay _ _) ?_<;>(conv=>whnf))
    repeat(any_goals(first|exact ac|(refine ao ?_ ?_<;>intro _<;>first|exact ap|conv=>whnf)|((first|refine aa hidx ?_|refine ah hidx rfl ?_|refine ae ?_|refine bi ?_ ?_|intro _)<;>conv=>whnf)))
    refine And.intro ?_ ?_
    ·conv=>whnf
     exact⟨⟨rfl⟩,trivial⟩
    ·rw[bH]
     repeat(first|exact trivial|refine kc rfl ?_|refine kc (congrArg (fun z=>some (some (rg,some (0,[AV.lp .done (some .ret) #[26] ra rb z])))) (hl _ _)) ?_)
   | cons y l =>
    conv=>whnf
    repeat(any_goals(first|exact ac|(refine ao ?_ ?_<;>intro _<;>first|exact ap|conv=>whnf)|((first|refine aa hidx ?_|refine ah hidx rfl ?_|refine ae ?_|refine bi ?_ ?_|intro _)<;>conv=>whnf)))
    refine⟨aB (cI s ⟨rg,ra,rb,rl⟩ ([]) ⟨(y::l),0⟩),?_⟩
    conv=>whnf
    repeat(refine ab (ay _ _) ?_<;>(conv=>whnf))
    refine⟨_,_,hY,?_⟩
    conv=>whnf
    repeat(refine ab (ay _ _) ?_<;>(conv=>whnf))
    repeat(any_goals(first|exact ac|(refine ao ?_ ?_<;>intro _<;>first|exact ap|conv=>whnf)|((first|refine aa hidx ?_|refine ah hidx rfl ?_|refine ae ?_|refine bi ?_ ?_|intro _)<;>conv=>whnf)))
    refine And.intro ?_ ?_
    ·conv=>whnf
     exact⟨⟨rfl⟩,trivial⟩
    ·rw[bH]
     repeat(first|exact trivial|refine kc rfl ?_|refine kc (congrArg (fun z=>some (some (rg,some (0,[AV.lp .done (some .ret) #[26] ra rb z])))) (hl _ _)) ?_)
  ·rw[e]at hY HZ
   rw[if_pos rfl]at HZ
   cases l with
   | nil =>
    conv=>whnf
    repeat(any_goals(first|exact ac|(refine ao ?_ ?_<;>intro _<;>first|exact ap|conv=>whnf)|((first|refine aa hidx ?_|refine ah hidx rfl ?_|refine ae ?_|refine bi ?_ ?_|intro _)<;>conv=>whnf)))
    refine⟨aB (cI s ⟨rg,ra,rb,rl⟩ ([]) ⟨[],0⟩),?_⟩
    conv=>whnf
    repeat(refine ab (ay _ _) ?_<;>(conv=>whnf))
    refine⟨_,_,hY,?_⟩
    conv=>whnf
    repeat(refine ab (ay _ _) ?_<;>(conv=>whnf))
    repeat(any_goals(first|exact ac|(refine ao ?_ ?_<;>intro _<;>first|exact ap|conv=>whnf)|((first|refine aa hidx ?_|refine ah hidx rfl ?_|refine ae ?_|refine bi ?_ ?_|intro _)<;>conv=>whnf)))
    (refine⟨⟨[],([]++[x])⟩,⟨hrs,by show List.length (([]++[x]))+([]).flatten.length≤800;(try simp only[List.length_append,List.length_cons,List.length_nil]at hsz ⊢);omega,HZ⟩,(by show([]).length<_;simp),?_⟩;(conv=>whnf);refine⟨?_,?_,?_⟩<;>repeat(first|exact trivial|refine sc rfl ?_|refine kn ?_|refine kc rfl ?_|refine sc (by first|exact(congrArg (fun z=>some (some (rg,some (0,[AV.lp .ready none #[26] ra rb z])))) (hl _ _))|rfl) ?_|refine kc (by first|exact(congrArg (fun z=>some (some (rg,some (0,[AV.lp .ready none #[26] ra rb z])))) (hl _ _))|rfl) ?_))
   | cons y l =>
    conv=>whnf
    repeat(any_goals(first|exact ac|(refine ao ?_ ?_<;>intro _<;>first|exact ap|conv=>whnf)|((first|refine aa hidx ?_|refine ah hidx rfl ?_|refine ae ?_|refine bi ?_ ?_|intro _)<;>conv=>whnf)))
    refine⟨aB (cI s ⟨rg,ra,rb,rl⟩ ([]) ⟨(y::l),0⟩),?_⟩
    conv=>whnf
    repeat(refine ab (ay _ _) ?_<;>(conv=>whnf))
    refine⟨_,_,hY,?_⟩
    conv=>whnf
    repeat(refine ab (ay _ _) ?_<;>(conv=>whnf))
    repeat(any_goals(first|exact ac|(refine ao ?_ ?_<;>intro _<;>first|exact ap|conv=>whnf)|((first|refine aa hidx ?_|refine ah hidx rfl ?_|refine ae ?_|refine bi ?_ ?_|intro _)<;>conv=>whnf)))
    (refine⟨⟨[],((y::l)++[x])⟩,⟨hrs,by show List.length (((y::l)++[x]))+([]).flatten.length≤800;(try simp only[List.length_append,List.length_cons,List.length_nil]at hsz ⊢);omega,HZ⟩,(by show([]).length<_;simp),?_⟩;(conv=>whnf);refine⟨?_,?_,?_⟩<;>repeat(first|exact trivial|refine sc rfl ?_|refine kn ?_|refine kc rfl ?_|refine sc (by first|exact(congrArg (fun z=>some (some (rg,some (0,[AV.lp .ready none #[26] ra rb z])))) (hl _ _))|rfl) ?_|refine kc (by first|exact(congrArg (fun z=>some (some (rg,some (0,[AV.lp .ready none #[26] ra rb z])))) (hl _ _))|rfl) ?_))
end Go.Proofs.YtgncapdjheghfaaDoor
namespace Go.Proofs.YtgncapdjheghfaaDoor
open Go.Am Go.Proofs Go
def zB:List Key:=[kLn,kLr,kRt,kRe,kRs,b6]
theorem zZ{s:Bill}{r:Rec}(h:eP zB r.l=r.l)(t:Bs)(u:RS):eP (aB (cI s r t u)) r.l=r.l:=by
 rw[←h]
 refine jp (fun k hk=>?_) _
 unfold cI Dr un
 obtain⟨l,st⟩:=u
 cases st with
 | zero=>exact fR (aB (Fu l++Fq ⟨l,0⟩)) zB k hk
 | succ n=>exact fR (aB (Fu l++Fq ⟨l,n+1⟩)) zB k hk
def p6(e:Int):AV:= .tuple [nw,ak e]
theorem Dg(s:Bill)(hr:s.small)(t:ByteArray)(hc:s.check.2.2≠0):PureA Tryd.prog 24 [ci s,aI t] (p6 s.check.2.2):=by
 have hlk:=pV s hr _ rfl hc
 unfold p6
 generalize s.check.2.2=e at *
 refine ag ax { l:=0,f:=24,mat:=[14,36,62],ow:=[56]} mixed re Tryd.func24 (by kernel_rfl) ?_
 conv=>whnf
 repeat(any_goals(first|exact ac|(refine ao ?_ ?_<;>intro _<;>first|exact ap|conv=>whnf)|((first|refine ae ?_|refine bi ?_ ?_|intro _)<;>conv=>whnf)))
 refine⟨[],?_⟩
 conv=>whnf
 refine⟨_,_,hlk,?_⟩
 conv=>whnf
 repeat(any_goals(first|exact ac|(refine ao ?_ ?_<;>intro _<;>first|exact ap|conv=>whnf)|((first|refine ae ?_|refine bi ?_ ?_|intro _)<;>conv=>whnf)))
 (refine⟨⟨?_⟩,trivial⟩;rfl)
theorem Dh(s:Bill)(hr:s.small)(t:ByteArray)(hc:s.check.2.2=0)(hz:800<t.size):PureA Tryd.prog 24 [ci s,aI t] (p6 3):=by
 have hlk:=g6 s hr hc
 unfold p6
 unfold co at hlk
 refine ag ax { l:=0,f:=24,mat:=[14,36,62],ow:=[56]} mixed re Tryd.func24 (by kernel_rfl) ?_
 conv=>whnf
 repeat(any_goals(first|exact ac|(refine ao ?_ ?_<;>intro _<;>first|exact ap|conv=>whnf)|((first|refine ae ?_|refine bi ?_ ?_|intro _)<;>conv=>whnf)))
 refine⟨[],?_⟩
 conv=>whnf
 refine⟨_,_,hlk,?_⟩
 conv=>whnf
 repeat(any_goals(first|exact ac|(refine ao ?_ ?_<;>intro _<;>first|exact ap|conv=>whnf)|((first|refine ae ?_|refine bi ?_ ?_|intro _)<;>conv=>whnf)))
 (refine⟨⟨?_⟩,trivial⟩;rfl)
theorem yh(r:Bs):(eQ r).length≤r.length:=by
 unfold eQ Lib.trimSuffix
 split
 ·rw[List.length_take];omega
 ·exact Nat.le_refl _
theorem nr:∀(l:List Ent) (y x:Ent),ut y (l++[x])=x
 | [],_,_=>rfl
 | z::l,y,x=>nr l z x
theorem xR(s:Bill)(r:Rec)(y:Ent)(l:List Ent)(x:Ent):Dr s r ⟨(y::l)++[x],0⟩ =
  (un s r false (.own kRl (l.length+1+1) 3 (l.length+1+1) 0) 0++([(kRl,l.length+1+1,3,((y::l).map bK).take (l.length+1)++[bK x])]++[(kRx,l.length+1+1,3,[bK x])])):=by
 have h1:(l++[x]).length=l.length+1:=by simp
 have h2:ut y (l++[x])=x:=nr l y x
 have h3:(y::(l++[x])).map bK=((y::l).map bK).take (l.length+1)++[bK x]:=by rw[List.take_of_length_le (by simp)];simp
 show(un s r false (.own kRl ((l++[x]).length+1) 3 ((l++[x]).length+1) 0) 0++([(kRl,(l++[x]).length+1,3,(y::(l++[x])).map bK)]++[(kRx,(l++[x]).length+1,3,[bK (ut y (l++[x]))])]))=_
 rw[h1,h2,h3]
def vm(s:Bill)(t:ByteArray)(l:List Ent):AV:=if s.holds l=true∧s.textL l=bytes t then .tuple [(match l with|[]=>nw|_::_=>bg l),ak 0]else p6 6
set_option maxHeartbeats 8000000 in
theorem xM(s:Bill)(hr:s.small)(t:ByteArray)(hc:s.check.2.2=0)(hz:t.size≤800)(rs:List Bs)(hok:RowsOk rs)(hfl:rs.flatten=bytes t)(l0:List Ent)(st:Nat)(rest:List Bs)(hl0:l0.length≤1048576)(hZ:s.readM rs []=(⟨l0,st⟩,rest))(R:AV)(hR:((st=1∨st=2)∧R=p6 6)∨(st=0∧R=vm s t l0)):PureA Tryd.prog 24 [ci s,aI t] R:=by
 have hg:=Bill.good hc
 have hlk:=g6 s hr hc
 have hln:=uv t
 have hit:=fun r hl hy=>w5 s r hl hy rs hok (by rw[hfl];exact hz)
 have ht:aC rs.flatten=t:=by rw[hfl];rfl
 unfold cI at hit
 rw[ht,hZ]at hit
 simp only at hit
 unfold co at hlk
 refine ag ax { l:=0,f:=24,mat:=[14,36,62],ow:=[56]} mixed re Tryd.func24 (by kernel_rfl) ?_
 conv=>whnf
 repeat(any_goals(first|exact ac|(refine ao ?_ ?_<;>intro _<;>first|exact ap|conv=>whnf)|((first|refine ae ?_|refine bi ?_ ?_|intro _)<;>conv=>whnf)))
 refine⟨[],?_⟩
 conv=>whnf
 refine⟨_,_,hlk,?_⟩
 conv=>whnf
 repeat(any_goals(first|exact ac|(refine ao ?_ ?_<;>intro _<;>first|exact ap|conv=>whnf)|((first|refine ae ?_|refine bi ?_ ?_|intro _)<;>conv=>whnf)))
 refine⟨[],?_⟩
 conv=>whnf
 refine⟨_,_,hln,?_⟩
 conv=>whnf
 repeat(any_goals(first|exact ac|(refine ao ?_ ?_<;>intro _<;>first|exact ap|conv=>whnf)|((first|refine ae ?_|refine bi ?_ ?_|intro _)<;>conv=>whnf)))
 refine⟨zB,?_⟩
 conv=>whnf
 refine⟨_,_,hit ⟨_,_,_,_⟩ ?_ ?_,?_⟩
 ·exact zZ (by first|exact qO _ _|rfl)
 ·intro t' l row hrow hll
  clear hit
  have htr:PureA Tryd.prog 38 [aI (aC row),aI ⟨#[10]⟩] (aI (aC (eQ row))):=E2 (aC row) ⟨#[10]⟩ (by show row.length≤_;omega)
  have htl:=yh row
  have hsp:=Dy (aC (eQ row)) (by show(eQ row).length≤_;omega)
  rw[dP]at hsp
  obtain⟨v,hv⟩:∃v,s.stepM l row=v:=⟨_,rfl⟩
  rw[hv]
  unfold Bill.stepM at hv
  generalize eQ row=W at *
  cases hS:ce [] W with
  | none =>
   rw[hS]at hsp hv
   unfold xY at hsp
   simp only at hv
   subst hv
   cases l with
   | nil =>
    refine aZ ax { l:=0,f:=24,rd:=true,ow:=[56]} mixed rfl rfl rfl (by kernel_rfl) ?_
    conv=>whnf
    refine And.intro rfl ?_
    conv=>whnf
    repeat(any_goals(first|exact ac|(refine ao ?_ ?_<;>intro _<;>first|exact ap|conv=>whnf)|((first|refine aa htr ?_|refine ah htr rfl ?_|refine aa hsp ?_|refine ah hsp rfl ?_|refine aa hrd ?_|refine ah hrd rfl ?_|refine ae ?_|refine bi ?_ ?_|intro _)<;>conv=>whnf)))
    repeat(first|exact trivial|refine And.intro rfl ?_|refine kc rfl ?_)
   | cons y l =>
    refine aZ ax { l:=0,f:=24,rd:=true,ow:=[56]} mixed rfl rfl rfl (by kernel_rfl) ?_
    conv=>whnf
    refine And.intro rfl ?_
    conv=>whnf
    repeat(any_goals(first|exact ac|(refine ao ?_ ?_<;>intro _<;>first|exact ap|conv=>whnf)|((first|refine aa htr ?_|refine ah htr rfl ?_|refine aa hsp ?_|refine ah hsp rfl ?_|refine aa hrd ?_|refine ah hrd rfl ?_|refine ae ?_|refine bi ?_ ?_|intro _)<;>conv=>whnf)))
    repeat(first|exact trivial|refine And.intro rfl ?_|refine kc rfl ?_)
  | some ws =>
   rw[hS]at hsp hv
   unfold xY at hsp
   simp only at hv
   have hne:=qG hS
   have hwl:=j2 hS
   cases ws with
   | nil=>exact absurd rfl hne
   | cons w0 ws =>
    have hrd:=EO s hg.len (w0::ws) (by omega)
    clear hS hne
    by_cases hp:w0=cB
    ·subst hp
     rw[if_pos (show j0 (cB::ws)=true by unfold j0;simp)]at hv
     subst hv
     have hc1:aC cB=(⟨#[112,97,103,101]⟩:ByteArray):=rfl
     clear hrd
     cases l with
     | nil =>
      refine aZ ax { l:=0,f:=24,rd:=true,ow:=[56]} mixed rfl rfl rfl (by kernel_rfl) ?_
      conv=>whnf
      refine And.intro rfl ?_
      conv=>whnf
      repeat(any_goals(first|exact ac|(refine ao ?_ ?_<;>intro _<;>first|exact ap|conv=>whnf)|((first|refine aa htr ?_|refine ah htr rfl ?_|refine aa hsp ?_|refine ah hsp rfl ?_|refine aa hrd ?_|refine ah hrd rfl ?_|refine ae ?_|refine bi ?_ ?_|intro _)<;>conv=>whnf)))
      all_goals(try(exact absurd hc1 (by assumption)))
      all_goals repeat(first|exact trivial|refine And.intro rfl ?_|refine kc rfl ?_)
     | cons y l =>
      refine aZ ax { l:=0,f:=24,rd:=true,ow:=[56]} mixed rfl rfl rfl (by kernel_rfl) ?_
      conv=>whnf
      refine And.intro rfl ?_
      conv=>whnf
      repeat(any_goals(first|exact ac|(refine ao ?_ ?_<;>intro _<;>first|exact ap|conv=>whnf)|((first|refine aa htr ?_|refine ah htr rfl ?_|refine aa hsp ?_|refine ah hsp rfl ?_|refine aa hrd ?_|refine ah hrd rfl ?_|refine ae ?_|refine bi ?_ ?_|intro _)<;>conv=>whnf)))
      all_goals(try(exact absurd hc1 (by assumption)))
      all_goals repeat(first|exact trivial|refine And.intro rfl ?_|refine kc rfl ?_)
    ·have hp':¬aC w0=(⟨#[112,97,103,101]⟩:ByteArray):=fun e=>hp (by rw[←dP w0,e];rfl)
     by_cases hq:w0=bI
     ·subst hq
      rw[if_pos (show j0 (bI::ws)=true by unfold j0;simp)]at hv
      subst hv
      have hc1:aC bI=(⟨#[114,111,111,109]⟩:ByteArray):=rfl
      clear hrd
      cases l with
      | nil =>
       refine aZ ax { l:=0,f:=24,rd:=true,ow:=[56]} mixed rfl rfl rfl (by kernel_rfl) ?_
       conv=>whnf
       refine And.intro rfl ?_
       conv=>whnf
       repeat(any_goals(first|exact ac|(refine ao ?_ ?_<;>intro _<;>first|exact ap|conv=>whnf)|((first|refine aa htr ?_|refine ah htr rfl ?_|refine aa hsp ?_|refine ah hsp rfl ?_|refine aa hrd ?_|refine ah hrd rfl ?_|refine ae ?_|refine bi ?_ ?_|intro _)<;>conv=>whnf)))
       all_goals(try(first|exact absurd hc1 (by assumption)|exact absurd (by assumption) hp'))
       all_goals repeat(first|exact trivial|refine And.intro rfl ?_|refine kc rfl ?_)
      | cons y l =>
       refine aZ ax { l:=0,f:=24,rd:=true,ow:=[56]} mixed rfl rfl rfl (by kernel_rfl) ?_
       conv=>whnf
       refine And.intro rfl ?_
       conv=>whnf
       repeat(any_goals(first|exact ac|(refine ao ?_ ?_<;>intro _<;>first|exact ap|conv=>whnf)|((first|refine aa htr ?_|refine ah htr rfl ?_|refine aa hsp ?_|refine ah hsp rfl ?_|refine aa hrd ?_|refine ah hrd rfl ?_|refine ae ?_|refine bi ?_ ?_|intro _)<;>conv=>whnf)))
       all_goals(try(first|exact absurd hc1 (by assumption)|exact absurd (by assumption) hp'))
       all_goals repeat(first|exact trivial|refine And.intro rfl ?_|refine kc rfl ?_)
     ·have hq':¬aC w0=(⟨#[114,111,111,109]⟩:ByteArray):=fun e=>hq (by rw[←dP w0,e];rfl)
      rw[if_neg (show¬j0 (w0::ws)=true by unfold j0;simp[hp,hq])]at hv
      cases hE:s.readE (w0::ws)with
      | none =>
       rw[hE]at hrd hv
       unfold Df at hrd
       simp only at hv
       subst hv
       cases l with
       | nil =>
        refine aZ ax { l:=0,f:=24,rd:=true,ow:=[56]} mixed rfl rfl rfl (by kernel_rfl) ?_
        conv=>whnf
        refine And.intro rfl ?_
        conv=>whnf
        repeat(any_goals(first|exact ac|(refine ao ?_ ?_<;>intro _<;>first|exact ap|conv=>whnf)|((first|refine aa htr ?_|refine ah htr rfl ?_|refine aa hsp ?_|refine ah hsp rfl ?_|refine aa hrd ?_|refine ah hrd rfl ?_|refine ae ?_|refine bi ?_ ?_|intro _)<;>conv=>whnf)))
        all_goals(try(first|exact absurd (by assumption) hp'|exact absurd (by assumption) hq'))
        all_goals repeat(first|exact trivial|refine And.intro rfl ?_|refine kc rfl ?_)
       | cons y l =>
        refine aZ ax { l:=0,f:=24,rd:=true,ow:=[56]} mixed rfl rfl rfl (by kernel_rfl) ?_
        conv=>whnf
        refine And.intro rfl ?_
        conv=>whnf
        repeat(any_goals(first|exact ac|(refine ao ?_ ?_<;>intro _<;>first|exact ap|conv=>whnf)|((first|refine aa htr ?_|refine ah htr rfl ?_|refine aa hsp ?_|refine ah hsp rfl ?_|refine aa hrd ?_|refine ah hrd rfl ?_|refine ae ?_|refine bi ?_ ?_|intro _)<;>conv=>whnf)))
        all_goals(try(first|exact absurd (by assumption) hp'|exact absurd (by assumption) hq'))
        all_goals repeat(first|exact trivial|refine And.intro rfl ?_|refine kc rfl ?_)
      | some x =>
       rw[hE]at hrd hv
       unfold Df at hrd
       simp only at hv
       subst hv
       cases l with
       | nil =>
        refine aZ ax { l:=0,f:=24,rd:=true,ow:=[56]} mixed rfl rfl rfl (by kernel_rfl) ?_
        conv=>whnf
        refine And.intro rfl ?_
        conv=>whnf
        repeat(any_goals(first|exact ac|(refine ao ?_ ?_<;>intro _<;>first|exact ap|conv=>whnf)|((first|refine aa htr ?_|refine ah htr rfl ?_|refine aa hsp ?_|refine ah hsp rfl ?_|refine aa hrd ?_|refine ah hrd rfl ?_|refine ae ?_|refine bi ?_ ?_|intro _)<;>conv=>whnf)))
        all_goals(try(first|exact absurd (by assumption) hp'|exact absurd (by assumption) hq'))
        all_goals repeat(first|exact trivial|refine And.intro rfl ?_|refine kc rfl ?_)
       | cons y l =>
        rw[xR]
        simp only[List.length_cons]at hll
        have hel:((y::l).map bK).length=l.length+1:=by simp
        refine aZ ax { l:=0,f:=24,rd:=true,ow:=[56]} mixed rfl rfl rfl (by kernel_rfl) ?_
        conv=>whnf
        refine And.intro rfl ?_
        conv=>whnf
        repeat(any_goals(first|exact ac|(refine ao ?_ ?_<;>intro _<;>first|exact ap|conv=>whnf)|((first|refine aa htr ?_|refine ah htr rfl ?_|refine aa hsp ?_|refine ah hsp rfl ?_|refine aa hrd ?_|refine ah hrd rfl ?_|refine ae ?_|refine bi ?_ ?_|intro _)<;>conv=>whnf)))
        all_goals(try(first|exact absurd (by assumption) hp'|exact absurd (by assumption) hq'))
        all_goals repeat(first|exact trivial|refine And.intro rfl ?_|refine kc rfl ?_)
 ·clear hit hln hlk
  rcases hR with⟨rfl|rfl,rfl⟩|⟨rfl,rfl⟩
  ·unfold p6
   cases l0 with
   | nil =>
    conv=>whnf
    repeat(refine ab (ay _ _) ?_<;>(conv=>whnf))
    repeat(any_goals(first|exact ac|(refine ao ?_ ?_<;>intro _<;>first|exact ap|conv=>whnf)|((first|refine ae ?_|refine bi ?_ ?_|intro _)<;>conv=>whnf)))
    (refine⟨⟨?_⟩,trivial⟩;rfl)
   | cons y l =>
    conv=>whnf
    repeat(refine ab (ay _ _) ?_<;>(conv=>whnf))
    repeat(any_goals(first|exact ac|(refine ao ?_ ?_<;>intro _<;>first|exact ap|conv=>whnf)|((first|refine ae ?_|refine bi ?_ ?_|intro _)<;>conv=>whnf)))
    (refine⟨⟨?_⟩,trivial⟩;rfl)
  ·unfold p6
   cases l0 with
   | nil =>
    conv=>whnf
    repeat(refine ab (ay _ _) ?_<;>(conv=>whnf))
    repeat(any_goals(first|exact ac|(refine ao ?_ ?_<;>intro _<;>first|exact ap|conv=>whnf)|((first|refine ae ?_|refine bi ?_ ?_|intro _)<;>conv=>whnf)))
    (refine⟨⟨?_⟩,trivial⟩;rfl)
   | cons y l =>
    conv=>whnf
    repeat(refine ab (ay _ _) ?_<;>(conv=>whnf))
    repeat(any_goals(first|exact ac|(refine ao ?_ ?_<;>intro _<;>first|exact ap|conv=>whnf)|((first|refine ae ?_|refine bi ?_ ?_|intro _)<;>conv=>whnf)))
    (refine⟨⟨?_⟩,trivial⟩;rfl)
  ·have hho:=oA s hg l0 hl0
   cases l0 with
   | nil =>
    have hho:=hho.args (args:=[cL s,nw]) (WkL.cons (Wk.refl _) (WkL.cons (Wk.nil 3) trivial))
    by_cases hh:s.holds []=true
    ·rw[hh]at hho
     have htx:=ya s hg [] (oB hh) (Nat.le_trans (lJ hg hh) hg.len)
     have htx:=htx.args (args:=[cL s,nw]) (WkL.cons (Wk.refl _) (WkL.cons (Wk.nil 3) trivial))
     unfold vm
     by_cases ht2:s.textL []=bytes t
     ·rw[if_pos ⟨hh,ht2⟩]
      have hd:aC (s.textL [])=t:=by rw[ht2];rfl
      clear hh ht2
      generalize s.textL []=T at *
      conv=>whnf
      repeat(refine ab (ay _ _) ?_<;>(conv=>whnf))
      repeat(first|(refine ab (bf (y::l) (l.length+1) (by simp)) ?_<;>(conv=>whnf))|(any_goals(first|exact ac|((first|refine bd ?_ ?_|refine bn ?_ ?_)<;>intro _<;>first|(exfalso;omega)|conv=>whnf)|((first|refine ah hho rfl ?_|refine ah htx rfl ?_|refine ab (bf (y::l) (l.length+1) (by simp)) ?_|refine dI ?_|refine okI ?_|refine bt ?_|refine bi (fun _=>?_) (fun _=>?_)|refine BJ ?_|intro _)<;>conv=>whnf))))
      all_goals(try(exact absurd hd (by assumption)))
      all_goals(refine⟨⟨?_⟩,trivial⟩;rfl)
     ·rw[if_neg (fun h=>ht2 h.2)]
      have hd:¬aC (s.textL [])=t:=fun e=>ht2 (by rw[←e];rfl)
      clear hh ht2
      generalize s.textL []=T at *
      unfold p6
      conv=>whnf
      repeat(refine ab (ay _ _) ?_<;>(conv=>whnf))
      repeat(first|(refine ab (bf (y::l) (l.length+1) (by simp)) ?_<;>(conv=>whnf))|(any_goals(first|exact ac|((first|refine bd ?_ ?_|refine bn ?_ ?_)<;>intro _<;>first|(exfalso;omega)|conv=>whnf)|((first|refine ah hho rfl ?_|refine ah htx rfl ?_|refine ab (bf (y::l) (l.length+1) (by simp)) ?_|refine dI ?_|refine okI ?_|refine bt ?_|refine bi (fun _=>?_) (fun _=>?_)|refine BJ ?_|intro _)<;>conv=>whnf))))
      all_goals(try(exact absurd (by assumption) hd))
      all_goals(refine⟨⟨?_⟩,trivial⟩;rfl)
    ·unfold vm
     rw[if_neg (fun h=>hh h.1)]
     rw[Bool.eq_false_iff.2 hh]at hho
     unfold p6
     conv=>whnf
     repeat(refine ab (ay _ _) ?_<;>(conv=>whnf))
     repeat(first|(refine ab (bf (y::l) (l.length+1) (by simp)) ?_<;>(conv=>whnf))|(any_goals(first|exact ac|((first|refine bd ?_ ?_|refine bn ?_ ?_)<;>intro _<;>first|(exfalso;omega)|conv=>whnf)|((first|refine ah hho rfl ?_|refine ah htx rfl ?_|refine ab (bf (y::l) (l.length+1) (by simp)) ?_|refine dI ?_|refine okI ?_|refine bt ?_|refine bi (fun _=>?_) (fun _=>?_)|refine BJ ?_|intro _)<;>conv=>whnf))))
     all_goals(refine⟨⟨?_⟩,trivial⟩;rfl)
   | cons y l =>
    have hel:((y::l).map bK).length=l.length+1:=by simp
    by_cases hh:s.holds (y::l)=true
    ·rw[hh]at hho
     have htx:=ya s hg (y::l) (oB hh) (Nat.le_trans (lJ hg hh) hg.len)
     unfold vm
     by_cases ht2:s.textL (y::l)=bytes t
     ·rw[if_pos ⟨hh,ht2⟩]
      have hd:aC (s.textL (y::l))=t:=by rw[ht2];rfl
      clear hh ht2
      generalize s.textL (y::l)=T at *
      conv=>whnf
      repeat(refine ab (ay _ _) ?_<;>(conv=>whnf))
      repeat(first|(refine ab (bf (y::l) (l.length+1) (by simp)) ?_<;>(conv=>whnf))|(any_goals(first|exact ac|((first|refine bd ?_ ?_|refine bn ?_ ?_)<;>intro _<;>first|(exfalso;omega)|conv=>whnf)|((first|refine ah hho rfl ?_|refine ah htx rfl ?_|refine ab (bf (y::l) (l.length+1) (by simp)) ?_|refine dI ?_|refine okI ?_|refine bt ?_|refine bi (fun _=>?_) (fun _=>?_)|refine BJ ?_|intro _)<;>conv=>whnf))))
      all_goals(try(exact absurd hd (by assumption)))
      all_goals(refine⟨⟨?_⟩,trivial⟩;rfl)
     ·rw[if_neg (fun h=>ht2 h.2)]
      have hd:¬aC (s.textL (y::l))=t:=fun e=>ht2 (by rw[←e];rfl)
      clear hh ht2
      generalize s.textL (y::l)=T at *
      unfold p6
      conv=>whnf
      repeat(refine ab (ay _ _) ?_<;>(conv=>whnf))
      repeat(first|(refine ab (bf (y::l) (l.length+1) (by simp)) ?_<;>(conv=>whnf))|(any_goals(first|exact ac|((first|refine bd ?_ ?_|refine bn ?_ ?_)<;>intro _<;>first|(exfalso;omega)|conv=>whnf)|((first|refine ah hho rfl ?_|refine ah htx rfl ?_|refine ab (bf (y::l) (l.length+1) (by simp)) ?_|refine dI ?_|refine okI ?_|refine bt ?_|refine bi (fun _=>?_) (fun _=>?_)|refine BJ ?_|intro _)<;>conv=>whnf))))
      all_goals(try(exact absurd (by assumption) hd))
      all_goals(refine⟨⟨?_⟩,trivial⟩;rfl)
    ·unfold vm
     rw[if_neg (fun h=>hh h.1)]
     rw[Bool.eq_false_iff.2 hh]at hho
     unfold p6
     conv=>whnf
     repeat(refine ab (ay _ _) ?_<;>(conv=>whnf))
     repeat(first|(refine ab (bf (y::l) (l.length+1) (by simp)) ?_<;>(conv=>whnf))|(any_goals(first|exact ac|((first|refine bd ?_ ?_|refine bn ?_ ?_)<;>intro _<;>first|(exfalso;omega)|conv=>whnf)|((first|refine ah hho rfl ?_|refine ah htx rfl ?_|refine ab (bf (y::l) (l.length+1) (by simp)) ?_|refine dI ?_|refine okI ?_|refine bt ?_|refine bi (fun _=>?_) (fun _=>?_)|refine BJ ?_|intro _)<;>conv=>whnf))))
     all_goals(refine⟨⟨?_⟩,trivial⟩;rfl)
end Go.Proofs.YtgncapdjheghfaaDoor
namespace Go.Proofs.YtgncapdjheghfaaDoor
open Go.Am Go.Proofs Go
theorem qx(s:Bill):∀(rs:List Bs) (l:List Ent),(s.readM rs l).1.l.length≤l.length+rs.length
 | [],l=>Nat.le_refl _
 | r::rs,l=>by
  rw[jW]
  have h:(s.stepM l r).l.length≤l.length+1:=by
   rcases io s l r with e|e|e|⟨x,e⟩<;>rw[e]<;>simp
  split
  ·have:=qx s rs (s.stepM l r).l
   simp only[List.length_cons];omega
  ·simp only[List.length_cons];omega
theorem tE:∀{rs:List Bs},RowsOk rs→rs.length≤rs.flatten.length
 | _,.nil=>Nat.le_refl _
 | _,.row w rs _ k=>by have:=tE k;simp only[List.length_cons,List.flatten_cons,List.length_append,List.length_nil];omega
 | _,.last w _ h0=>by have:=List.length_pos_iff.2 h0;simp only[List.length_cons,List.flatten_cons,List.flatten_nil,List.append_nil,List.length_nil];omega
theorem oI{P:Program}{f:FuncId}{args:List AV}{e:Int}(h:PureA P f args (p6 e)):PureA P f args (.tuple [bg [],ak e]) :=
 h.wk (Wk.tuple (.cons (Wk.nil 3) (WkL.refl _)))
theorem xN(s:Bill)(hr:s.small)(t:ByteArray):PureA Tryd.prog 24 [ci s,aI t] (.tuple [bg (s.readR t).1,ak (s.readR t).2]):=by
 unfold Bill.readR
 by_cases hc:s.check.2.2=0
 ·rw[if_neg (fun h=>h hc)]
  by_cases hz:800<t.size
  ·rw[if_pos hz]
   exact oI (Dh s hr t hc hz)
  ·rw[if_neg hz]
   obtain⟨rs,hok,hfl⟩:=xQ (bytes t).length (bytes t) (Nat.le_refl _)
   have hp:s.parse (bytes t)=s.parseW (rs.map eQ):=by unfold Bill.parse;rw[←hfl,nI hok]
   rw[hp]
   have hm:=hQ s rs []
   have hlen:=qx s rs []
   have hrl:=tE hok
   have hts:rs.flatten.length=t.size:=by rw[hfl];rfl
   have hb:(s.readM rs []).1.l.length≤1048576:=by simp only[List.length_nil]at hlen;omega
   cases hw:s.parseW (rs.map eQ)with
   | none =>
    rw[hw]at hm
    simp only at hm ⊢
    exact oI (xM s hr t hc (by omega) rs hok hfl _ _ _ hb rfl _ (.inl ⟨hm,rfl⟩))
   | some l =>
    rw[hw]at hm
    simp only[List.nil_append]at hm ⊢
    have h:=xM s hr t hc (by omega) rs hok hfl l 0 [] (by rw[hm]at hb;exact hb) hm _ (.inr ⟨rfl,rfl⟩)
    unfold vm at h
    by_cases hh:s.holds l=true∧s.textL l=bytes t
    ·rw[if_pos hh]at h ⊢
     cases l with
     | nil=>exact h.wk (Wk.tuple (.cons (Wk.nil 3) (WkL.refl _)))
     | cons y l=>exact h
    ·rw[if_neg hh]at h ⊢
     exact oI h
 ·rw[if_pos hc]
  exact oI (Dg s hr t hc)
end Go.Proofs.YtgncapdjheghfaaDoor
namespace Go.Proofs.YtgncapdjheghfaaDoor
open Go.Am Go.Proofs Go
end Go.Proofs.YtgncapdjheghfaaDoor
namespace Go.Proofs.YtgncapdjheghfaaDoor
open Go.Am Go.Proofs Go
end Go.Proofs.YtgncapdjheghfaaDoor
namespace Go.Proofs.YtgncapdjheghfaaDoor
open Go.Am Go.Proofs Go
theorem x7(t:ByteArray):aC (bytes t)=t:=iB rfl
def bz(n:Int):Bill:=⟨n,[⟨⟨#[97,100,97]⟩,⟨#[113,117,101,101,110]⟩,0,5⟩,
 ⟨⟨#[98,101,110]⟩,⟨#[107,105,110,103]⟩,0,4⟩,
 ⟨⟨#[99,121]⟩,⟨#[99,108,111,119,110]⟩,0,3⟩,
 ⟨⟨#[100,111,116]⟩,⟨#[106,117,100,103,101]⟩,1,6⟩,
 ⟨⟨#[101,108,105]⟩,⟨#[110,117,110]⟩,1,2⟩],[11,29,7]⟩
def eU:List Ent:=[⟨0,0,0⟩,⟨1,1,2⟩,⟨2,3,0⟩,⟨2,4,0⟩]
def DD:ByteArray:=⟨#[112,97,103,101,32,49,10,114,111,111,109,32,48,10,49,32,105,115,32,97,100,97,32,97,115,32,113,117,101,101,110,10,50,32,105,115,32,98,101,110,32,97,115,32,107,105,110,103,32,111,114,32,99,121,32,97,115,32,99,108,111,119,110,10,112,97,103,101,32,50,10,114,111,111,109,32,49,10,51,32,109,97,121,32,98,101,32,100,111,116,32,97,115,32,106,117,100,103,101,10,52,32,109,97,121,32,98,101,32,101,108,105,32,97,115,32,110,117,110,10]⟩
theorem zr(n r:ByteArray)(rm h:Int):PureA Tryd.prog 13 [aI n,aI r,ak rm,ak h] (eR ⟨n,r,rm,h⟩):=by
 refine ag ax { l:=0,f:=13} mixed BO Tryd.func13 (by kernel_rfl) ?_
 conv=>whnf
 repeat(any_goals(first|exact ac|(refine ao ?_ ?_<;>intro _<;>first|exact ap|conv=>whnf)|((first|refine ae ?_|refine bi ?_ ?_|intro _)<;>conv=>whnf)))
 (refine⟨⟨?_⟩,trivial⟩;rfl)
theorem sZ(n:Int):PureA Tryd.prog 4 [ak n] (ci (bz n)):=by
 refine ag ax { l:=0,f:=4} mixed Ed Tryd.func4 (by kernel_rfl) ?_
 conv=>whnf
 repeat(any_goals(first|exact ac|(refine ao ?_ ?_<;>intro _<;>first|exact ap|conv=>whnf)|((first|refine aa (zr _ _ _ _) ?_|refine ae ?_|refine bi ?_ ?_|intro _)<;>conv=>whnf)))
 (refine⟨⟨?_⟩,trivial⟩;rfl)
theorem ll:PureA Tryd.prog 5 [] (bg eU):=by
 refine ag ax { l:=0,f:=5} mixed Ee Tryd.func5 (by kernel_rfl) ?_
 conv=>whnf
 repeat(any_goals(first|exact ac|(refine ao ?_ ?_<;>intro _<;>first|exact ap|conv=>whnf)|((first|refine ae ?_|refine bi ?_ ?_|intro _)<;>conv=>whnf)))
 (refine⟨⟨?_⟩,trivial⟩;rfl)
theorem fe(n:Int):(bz n).small:=by
 refine⟨by simp[bz],by simp[bz],?_⟩
 intro f hf
 simp only[bz,List.mem_cons,List.not_mem_nil,or_false]at hf
 rcases hf with rfl|rfl|rfl|rfl|rfl<;>exact⟨by decide,by decide⟩
theorem uf:(bz 14).surelyR 6=(true,0):=by decide +kernel
theorem ru:(bz 14).surelyR 24=(false,0):=by decide +kernel
theorem CF:(bz 14).trueR eU=(true,0):=by decide +kernel
theorem zo:(bz 14).trueR (eU.take 3)=(false,0):=by decide +kernel
theorem CB:(bz 14).bestR=(eU,2,0):=by decide +kernel
theorem CC:(bz 14).fitsR eU [0,1,2]=(85,0):=by decide +kernel
theorem zn:(bz 14).fitsR eU [0,3]=(0,7):=by decide +kernel
theorem wE:((bz 14).setR eU).1.pages=[0,2]∧((bz 14).setR eU).1.white=0∧((bz 14).setR eU).2=0:=by decide +kernel
theorem rt:((bz 14).setR (eU.take 3)).1.pages=[]∧((bz 14).setR (eU.take 3)).1.white=0∧((bz 14).setR (eU.take 3)).2=9:=by decide +kernel
theorem Et:(bz 14).fewR eU=(2,0):=by decide +kernel
theorem zp:(bz 14).writeR eU=(bytes DD,0):=by decide +kernel
theorem CD:(bz 14).readR DD=(eU,0):=by decide +kernel
theorem CE:(bz 14).slipR eU 1=([3],[1,3],0):=by decide +kernel
set_option maxHeartbeats 4000000 in
set_option maxRecDepth 100000 in
theorem Bx:PureA Tryd.prog 12 [] (aH true):=by
 have hs:=fe 14
 have s1:=fh (bz 14) hs 6
 rw[uf]at s1
 have s2:=fh (bz 14) hs 24
 rw[ru]at s2
 have t1:=qR (bz 14) hs eU (by decide)
 rw[CF]at t1
 have t2:=qR (bz 14) hs (eU.take 3) (by decide)
 rw[zo]at t2
 have b1:=vP (bz 14) hs
 rw[CB]at b1
 have f1:=lE (bz 14) hs eU (by decide) [0,1,2] (by decide)
 rw[CC]at f1
 have f2:=lE (bz 14) hs eU (by decide) [0,3] (by decide)
 rw[zn]at f2
 have p1:=pd (bz 14) hs eU (by decide)
 unfold EL at p1
 rw[wE.1,wE.2.1,wE.2.2]at p1
 have p2:=pd (bz 14) hs (eU.take 3) (by decide)
 unfold EL at p2
 rw[rt.1,rt.2.1,rt.2.2]at p2
 have m1:=th (bz 14) hs eU (by decide)
 rw[Et]at m1
 have w1:=vD (bz 14) hs eU (by decide)
 rw[zp]at w1
 simp only[x7]at w1
 have r1:=xN (bz 14) hs DD
 rw[CD]at r1
 have l1:=mw (bz 14) hs eU (by decide) 1
 rw[CE]at l1
 have c1:=xO eU eU (by decide) (by decide)
 have i1:=f9 [0,2] [0,2] (by decide) (by decide)
 have i2:=f9 [3] [3] (by decide) (by decide)
 have i3:=f9 [1,3] [1,3] (by decide) (by decide)
 have sh:=sZ 14
 have ca:=ll
 rw[decide_eq_true rfl]at c1 i1 i2 i3
 unfold xV BD at *
 clear hs
 refine ag ax { l:=0,f:=12} mixed BN Tryd.func12 (by kernel_rfl) ?_
 conv=>whnf
 repeat(any_goals(first|exact ac|(refine ao ?_ ?_<;>intro _<;>first|exact ap|conv=>whnf)|((first|refine aa sh ?_|refine aa ca ?_|refine aa s1 ?_|refine aa s2 ?_|refine aa t1 ?_|refine aa t2 ?_|refine aa b1 ?_|refine aa f1 ?_|refine aa f2 ?_|refine aa p1 ?_|refine aa p2 ?_|refine aa m1 ?_|refine aa w1 ?_|refine aa r1 ?_|refine aa l1 ?_|refine aa c1 ?_|refine aa i1 ?_|refine aa i2 ?_|refine aa i3 ?_|refine And.intro (by decide) ?_|refine ae ?_|refine bi ?_ ?_|intro _)<;>conv=>whnf)))
 (refine⟨⟨?_⟩,trivial⟩;rfl)
end Go.Proofs.YtgncapdjheghfaaDoor
namespace Go.Proofs.YtgncapdjheghfaaDoor
open Go.Am Go.Proofs Go
theorem uc:(bz 14).surelyR 1=(true,0):=by decide +kernel
theorem ud:(bz 14).surelyR 2=(false,0):=by decide +kernel
theorem Cw:(bz 14).fitsR eU [0,2]=(0,0):=by decide +kernel
theorem wz:((bz 15).setR eU).1.pages=[0,2]∧((bz 15).setR eU).1.white=1∧((bz 15).setR eU).2=0:=by decide +kernel
theorem Ep:(bz 30).fewR eU=(1,0):=by decide +kernel
theorem zi:(bz 14).slipR eU 3=([],[3],0):=by decide +kernel
theorem zj:(bz 14).slipR eU 7=([],[],0):=by decide +kernel
set_option maxHeartbeats 4000000 in
set_option maxRecDepth 100000 in
theorem qW:PureA Tryd.prog 3 [] (aH true):=by
 have aw:=Bx
 have hs:=fe 14
 have s1:=fh (bz 14) hs 1
 rw[uc]at s1
 have s2:=fh (bz 14) hs 2
 rw[ud]at s2
 have f1:=lE (bz 14) hs eU (by decide) [0,2] (by decide)
 rw[Cw]at f1
 have p1:=pd (bz 15) (fe 15) eU (by decide)
 unfold EL at p1
 rw[wz.1,wz.2.1,wz.2.2]at p1
 have m1:=th (bz 30) (fe 30) eU (by decide)
 rw[Ep]at m1
 have l1:=mw (bz 14) hs eU (by decide) 3
 rw[zi]at l1
 have l2:=mw (bz 14) hs eU (by decide) 7
 rw[zj]at l2
 have i1:=f9 [0,2] [0,2] (by decide) (by decide)
 have i2:=f9 [3] [3] (by decide) (by decide)
 have sh:=sZ 14
 have sh2:=sZ 15
 have sh3:=sZ 30
 have ca:=ll
 rw[decide_eq_true rfl]at i1 i2
 unfold xV at *
 clear hs
 refine ag ax { l:=0,f:=3} mixed Ec Tryd.func3 (by kernel_rfl) ?_
 conv=>whnf
 repeat(any_goals(first|exact ac|(refine ao ?_ ?_<;>intro _<;>first|exact ap|conv=>whnf)|((first|refine aa sh ?_|refine aa sh2 ?_|refine aa sh3 ?_|refine aa ca ?_|refine aa s1 ?_|refine aa s2 ?_|refine aa f1 ?_|refine aa p1 ?_|refine aa m1 ?_|refine aa l1 ?_|refine aa l2 ?_|refine aa i1 ?_|refine aa i2 ?_|refine aa aw ?_|refine ae ?_|refine bi ?_ ?_|intro _)<;>conv=>whnf)))
 (refine⟨⟨?_⟩,trivial⟩;rfl)
end Go.Proofs.YtgncapdjheghfaaDoor
