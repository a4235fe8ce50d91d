/- Part 7 of the texts that the last one stands on. -/
import Derived.Test.YtgncapdjheghfaaGreatDoorB6
set_option linter.unusedVariables false
set_option linter.unusedSimpArgs false
namespace Go.Proofs.YtgncapdjheghfaaGreatDoor
open Go.Am Go.Proofs Go
set_option maxHeartbeats 8000000 in
theorem FX(s:Bill)(hg:s.Good)(r:Rec)(f a left:Nat)(Z t:NSt)(ha:a<6)(h64:left<64)(hal:a<s.figs.length)(hgd:t.good a)(hl:∀t,fW (aK (ba s r t)) r.l=r.l)
  (ih:∀x,s.fitsIn left x=true→x.a=a→0≤x.b→∀u:NSt,u.good (a+1)→BoxA Tryz.prog (.fn 100) (ba s r u) [aj ((a+1:Nat):Int),aj (bc left x.named:Nat),.ptr kY 1 1 0 0,.ptr kCc 1 1 0 0,.ptr kN 1 1 0 0,.ptr kA 1 6 0 0,.ptr kT 1 1 0 0] (aB true) (ba s r (s.nextM f (a+1) (bc left x.named) u)))
  (hZ:Z=(s.rowsE a 1).foldl (s.takeM f a left) t):Ax s r f a left 1 Z t:=by
 rw[lW s a 1 (by omega),List.foldl_append]at hZ
 have hfl:(s.figs.map dS).length=s.figs.length:=List.length_map ..
 have h6:=hg.len
 have hS1:∀b:Nat,b<s.figs.length→PureA Tryz.prog 125 [dp s,bB ⟨(1:Nat),a,b⟩] (aB (s.so ⟨(1:Nat),a,b⟩)):=fun b hb=>pD s hg ⟨(1:Nat),a,b⟩ (by simp only;omega) (by simp only;omega)
 obtain⟨rg,ra,rb,rl⟩:=r
 intro Q
 conv=>whnf
 repeat(any_goals(first|exact ab|(refine ap ?_ ?_<;>intro _<;>first|exact aq|conv=>whnf)|((first|refine ac ?_|refine bi ?_ ?_|intro _)<;>conv=>whnf)))
 refine aO ao { l:=0,f:=100,mat:=[100],ow:=[63]} mixed (fun u:LSt=>[(40,aj u.i)]) (fun u=>GM s ⟨rg,ra,rb,rl⟩ u.t) (fun _=>[]) (fun u=>u.i≤s.figs.length∧u.t.good a∧Z=(s.rowsE a (1+1)).foldl (s.takeM f a left) (((s.rowE a 1).drop u.i).foldl (s.takeM f a left) u.t)) (fun u=>s.figs.length-u.i) (⟨0,t⟩:LSt) (by kernel_rfl)
  ⟨Nat.zero_le _,hgd,hZ⟩ ?_
 conv=>whnf
 refine⟨⟨ai rfl trivial,?_,trivial⟩,?_⟩
 ·repeat(first|exact trivial|refine kc rfl ?_|refine bW rfl ?_)
 clear hZ hgd
 rintro u ⟨hbi,hgd,hZ⟩
 generalize u.i=b at *
 generalize u.t=t at *
 clear u
 by_cases hbl:b<s.figs.length
 ·rw[oM s a 1 b hbl,List.foldl_cons]at hZ
  have hso:=hS1 b hbl
  have hn:=n7 ⟨(1:Nat),a,b⟩ (by simp only;omega) (by simp only;omega)
  have hn64:=ka ⟨(1:Nat),a,b⟩ (by simp only;omega) (by simp only;omega)
  have hz:=je (Ent.named ⟨(1:Nat),a,b⟩) left hn64 h64
  have hm:bP left (Ent.named ⟨(1:Nat),a,b⟩)=(bc left (Ent.named ⟨(1:Nat),a,b⟩):Nat):=eS _ _ h64 hn64
  have hih:=ih ⟨(1:Nat),a,b⟩
  rw[←hm]at hih
  have hfit:s.fitsIn left ⟨(1:Nat),a,b⟩=(s.so ⟨(1:Nat),a,b⟩&&decide (bP (Ent.named ⟨(1:Nat),a,b⟩) left=0)):=by rw[hz];rfl
  obtain⟨nm,hnm⟩:∃nm,Ent.named ⟨(1:Nat),a,b⟩=nm:=⟨_,rfl⟩
  rw[hnm]at hn hn64 hz hm hih hfit
  cases hS:s.so ⟨(1:Nat),a,b⟩with
  | false =>
   rw[hS,Bool.false_and]at hfit
   rw[iO hfit]at hZ
   rw[hS]at hso
   clear hih ih
   conv=>whnf
   repeat(any_goals(first|exact ab|(refine ap ?_ ?_<;>intro _<;>first|exact aq|conv=>whnf)|((first|refine af hso rfl ?_|refine aa hn ?_|refine af hn rfl ?_|refine ac ?_|refine bi ?_ ?_|intro _)<;>conv=>whnf)))
   all_goals(refine⟨⟨b+1,t⟩,⟨by show b+1≤_;omega,hgd,hZ⟩,(by show _-(b+1)<_-b;omega),?_⟩;(conv=>whnf);refine⟨?_,?_,?_⟩<;>repeat(first|exact trivial|refine sc rfl ?_|refine kn ?_|refine kc rfl ?_|refine sc (by exact(congrArg (fun z=>some (some (rg,some (0,[AV.lp .ready none #[20] ra rb z])))) (hl _))) ?_|refine kc (by exact(congrArg (fun z=>some (some (rg,some (0,[AV.lp .ready none #[20] ra rb z])))) (hl _))) ?_))
  | true =>
   rw[hS,Bool.true_and]at hfit
   rw[hS]at hso
   by_cases hq:bP nm left=0
   ·have hq0:=hq
    rw[decide_eq_true hq]at hfit
    rw[o9 hfit,hnm]at hZ
    unfold bP at hq
    have hih:=hih hfit rfl (by simp only;omega)
    obtain⟨c,G,o⟩:=t
    obtain⟨hck,hno,hQs⟩:=hgd
    simp only at hck hno hQs
    cases c with
    | nil =>
     cases hno rfl
     obtain⟨g2,ee2,e2,hn2,_⟩:=dD s f (a+1) (bc left nm) 1 ⟨CSt.nil.push ⟨(1:Nat),a,b⟩,G,none⟩ ⟨1,[⟨(1:Nat),a,b⟩],rfl,by simp⟩
     have hih:=hih ⟨CSt.nil.push ⟨(1:Nat),a,b⟩,G,none⟩ ⟨⟨by simp,by omega⟩,(fun h=>by cases h),hQs⟩
     have hkp:=ek s f (a+1) (bc left nm) ⟨CSt.nil.push ⟨(1:Nat),a,b⟩,G,none⟩ hQs
     have hgr:=(dA s f (a+1) (bc left nm) ⟨CSt.nil.push ⟨(1:Nat),a,b⟩,G,none⟩).2
     generalize s.nextM f (a+1) (bc left nm) ⟨CSt.nil.push ⟨(1:Nat),a,b⟩,G,none⟩=u at *
     have hih:BoxA Tryz.prog (.fn 100) (ba s ⟨rg,ra,rb,fW (aK (ba s ⟨rg,ra,rb,rl⟩ ⟨CSt.nil.push ⟨(1:Nat),a,b⟩,G,none⟩)) rl⟩ ⟨CSt.nil.push ⟨(1:Nat),a,b⟩,G,none⟩) [aj ((a:Int)+1),aj (bP left nm),.ptr kY 1 1 0 0,.ptr kCc 1 1 0 0,.ptr kN 1 1 0 0,.ptr kA 1 6 0 0,.ptr kT 1 1 0 0] (aB true) (ba s ⟨rg,ra,rb,rl⟩ u):=by
      rw[hl];exact hih
     have hl2:=hl u
     obtain⟨cu,G2,o2⟩:=u
     simp only at e2 hgr hkp
     subst e2
     have hto:(((0+1:Nat):Int)-1).toNat=0:=by omega
     clear ih
     cases o2
     all_goals
       conv=>whnf
       repeat(any_goals(first|exact ab|(refine ap ?_ ?_<;>intro _<;>first|exact aq|conv=>whnf)|((first|refine af hso rfl ?_|refine aa hn ?_|refine af hn rfl ?_|refine ac ?_|refine bi ?_ ?_|intro _)<;>conv=>whnf)))
       try(refine And.intro ⟨by rw[List.length_map];omega,by simp only[List.length_cons,List.length_nil];omega,by simp only[List.length_cons,List.length_nil,maxLen];omega⟩ ?_;(conv=>whnf))
       repeat(any_goals(first|exact ab|(refine ap ?_ ?_<;>intro _<;>first|exact aq|conv=>whnf)|((first|refine aa hn ?_|refine af hn rfl ?_|refine ac ?_|refine bi ?_ ?_|intro _)<;>conv=>whnf)))
       refine⟨aK (ba s ⟨rg,ra,rb,rl⟩ ⟨CSt.nil.push ⟨(1:Nat),a,b⟩,G,none⟩),?_⟩
       conv=>whnf
       repeat((first|refine ah (htk _) ?_|refine ah (az _ [_]) ?_|refine ah (az _ _) ?_)<;>(conv=>whnf))
       refine⟨_,_,hih,?_⟩
       conv=>whnf
       repeat(refine ah (az _ _) ?_<;>(conv=>whnf))
       repeat(any_goals(first|exact ab|(refine ap ?_ ?_<;>intro _<;>first|exact aq|conv=>whnf)|((first|refine ac ?_|refine bi ?_ ?_|intro _)<;>conv=>whnf)))
       (refine⟨⟨b+1,⟨.own g2 ee2 0,G2,_⟩⟩,⟨by show b+1≤_;omega,⟨⟨by omega,by omega⟩,(fun h=>by cases h),hkp⟩,hZ⟩,(by show _-(b+1)<_-b;omega),?_⟩;(conv=>whnf);refine⟨?_,?_,?_⟩<;>repeat(first|exact trivial|refine sc rfl ?_|refine kn ?_|refine kc rfl ?_|refine sc (by first|exact(congrArg (fun z=>some (some (rg,some (0,[AV.lp .ready none #[20] ra rb z])))) hl2)|(show some (some (1,some (1,[AV.own kC g2 3 (((0+1:Nat):Int)-1).toNat 0])))=_;rw[hto];rfl)) ?_|refine kc (by first|exact(congrArg (fun z=>some (some (rg,some (0,[AV.lp .ready none #[20] ra rb z])))) hl2)|(show some (some (1,some (1,[AV.own kC g2 3 (((0+1:Nat):Int)-1).toNat 0])))=_;rw[hto];rfl)) ?_))
    | own g ee n =>
     obtain⟨hn1,hna⟩:=hck
     have hel:(ee.map bB).length=ee.length:=List.length_map ..
     have htk:=fun ks=>Di ks ee n ⟨(1:Nat),a,b⟩
     obtain⟨g2,ee2,e2,hn2,_⟩:=dD s f (a+1) (bc left nm) (n+1) ⟨(CSt.own g ee n).push ⟨(1:Nat),a,b⟩,G,o⟩ ⟨g+1,ee.take n++[⟨(1:Nat),a,b⟩],rfl,by simp;omega⟩
     have hih:=hih ⟨(CSt.own g ee n).push ⟨(1:Nat),a,b⟩,G,o⟩ ⟨⟨by simp;omega,by omega⟩,(fun h=>by cases h),hQs⟩
     have hkp:=ek s f (a+1) (bc left nm) ⟨(CSt.own g ee n).push ⟨(1:Nat),a,b⟩,G,o⟩ hQs
     have hgr:=(dA s f (a+1) (bc left nm) ⟨(CSt.own g ee n).push ⟨(1:Nat),a,b⟩,G,o⟩).2
     generalize s.nextM f (a+1) (bc left nm) ⟨(CSt.own g ee n).push ⟨(1:Nat),a,b⟩,G,o⟩=u at *
     have hih:BoxA Tryz.prog (.fn 100) (ba s ⟨rg,ra,rb,fW (aK (ba s ⟨rg,ra,rb,rl⟩ ⟨(CSt.own g ee n).push ⟨(1:Nat),a,b⟩,G,o⟩)) rl⟩ ⟨(CSt.own g ee n).push ⟨(1:Nat),a,b⟩,G,o⟩) [aj ((a:Int)+1),aj (bP left nm),.ptr kY 1 1 0 0,.ptr kCc 1 1 0 0,.ptr kN 1 1 0 0,.ptr kA 1 6 0 0,.ptr kT 1 1 0 0] (aB true) (ba s ⟨rg,ra,rb,rl⟩ u):=by
      rw[hl];exact hih
     have hl2:=hl u
     obtain⟨cu,G2,o2⟩:=u
     simp only at e2 hgr hkp
     subst e2
     have hto:(((n+1:Nat):Int)-1).toNat=n:=by omega
     clear ih
     cases o with
     | none =>
      cases o2
      all_goals
        conv=>whnf
        repeat(any_goals(first|exact ab|(refine ap ?_ ?_<;>intro _<;>first|exact aq|conv=>whnf)|((first|refine af hso rfl ?_|refine aa hn ?_|refine af hn rfl ?_|refine ac ?_|refine bi ?_ ?_|intro _)<;>conv=>whnf)))
        try(refine And.intro ⟨by rw[List.length_map];omega,by simp only[List.length_cons,List.length_nil];omega,by simp only[List.length_cons,List.length_nil,maxLen];omega⟩ ?_;(conv=>whnf))
        repeat(any_goals(first|exact ab|(refine ap ?_ ?_<;>intro _<;>first|exact aq|conv=>whnf)|((first|refine aa hn ?_|refine af hn rfl ?_|refine ac ?_|refine bi ?_ ?_|intro _)<;>conv=>whnf)))
        refine⟨aK (ba s ⟨rg,ra,rb,rl⟩ ⟨(CSt.own g ee n).push ⟨(1:Nat),a,b⟩,G,none⟩),?_⟩
        conv=>whnf
        repeat((first|refine ah (htk _) ?_|refine ah (az _ [_]) ?_|refine ah (az _ _) ?_)<;>(conv=>whnf))
        refine⟨_,_,hih,?_⟩
        conv=>whnf
        repeat(refine ah (az _ _) ?_<;>(conv=>whnf))
        repeat(any_goals(first|exact ab|(refine ap ?_ ?_<;>intro _<;>first|exact aq|conv=>whnf)|((first|refine ac ?_|refine bi ?_ ?_|intro _)<;>conv=>whnf)))
        (refine⟨⟨b+1,⟨.own g2 ee2 n,G2,_⟩⟩,⟨by show b+1≤_;omega,⟨⟨by omega,by omega⟩,(fun h=>by cases h),hkp⟩,hZ⟩,(by show _-(b+1)<_-b;omega),?_⟩;(conv=>whnf);refine⟨?_,?_,?_⟩<;>repeat(first|exact trivial|refine sc rfl ?_|refine kn ?_|refine kc rfl ?_|refine sc (by first|exact(congrArg (fun z=>some (some (rg,some (0,[AV.lp .ready none #[20] ra rb z])))) hl2)|(show some (some (1,some (1,[AV.own kC g2 3 (((n+1:Nat):Int)-1).toNat 0])))=_;rw[hto];rfl)) ?_|refine kc (by first|exact(congrArg (fun z=>some (some (rg,some (0,[AV.lp .ready none #[20] ra rb z])))) hl2)|(show some (some (1,some (1,[AV.own kC g2 3 (((n+1:Nat):Int)-1).toNat 0])))=_;rw[hto];rfl)) ?_))
     | some w =>
      obtain⟨w2,rfl⟩:=hgr w rfl
      conv=>whnf
      repeat(any_goals(first|exact ab|(refine ap ?_ ?_<;>intro _<;>first|exact aq|conv=>whnf)|((first|refine af hso rfl ?_|refine aa hn ?_|refine af hn rfl ?_|refine ac ?_|refine bi ?_ ?_|intro _)<;>conv=>whnf)))
      try(refine And.intro ⟨by rw[List.length_map];omega,by simp only[List.length_cons,List.length_nil];omega,by simp only[List.length_cons,List.length_nil,maxLen];omega⟩ ?_;(conv=>whnf))
      repeat(any_goals(first|exact ab|(refine ap ?_ ?_<;>intro _<;>first|exact aq|conv=>whnf)|((first|refine aa hn ?_|refine af hn rfl ?_|refine ac ?_|refine bi ?_ ?_|intro _)<;>conv=>whnf)))
      refine⟨aK (ba s ⟨rg,ra,rb,rl⟩ ⟨(CSt.own g ee n).push ⟨(1:Nat),a,b⟩,G,some w⟩),?_⟩
      conv=>whnf
      repeat((first|refine ah (htk _) ?_|refine ah (az _ [_]) ?_|refine ah (az _ _) ?_)<;>(conv=>whnf))
      refine⟨_,_,hih,?_⟩
      conv=>whnf
      repeat(refine ah (az _ _) ?_<;>(conv=>whnf))
      repeat(any_goals(first|exact ab|(refine ap ?_ ?_<;>intro _<;>first|exact aq|conv=>whnf)|((first|refine ac ?_|refine bi ?_ ?_|intro _)<;>conv=>whnf)))
      (refine⟨⟨b+1,⟨.own g2 ee2 n,G2,_⟩⟩,⟨by show b+1≤_;omega,⟨⟨by omega,by omega⟩,(fun h=>by cases h),hkp⟩,hZ⟩,(by show _-(b+1)<_-b;omega),?_⟩;(conv=>whnf);refine⟨?_,?_,?_⟩<;>repeat(first|exact trivial|refine sc rfl ?_|refine kn ?_|refine kc rfl ?_|refine sc (by first|exact(congrArg (fun z=>some (some (rg,some (0,[AV.lp .ready none #[20] ra rb z])))) hl2)|(show some (some (1,some (1,[AV.own kC g2 3 (((n+1:Nat):Int)-1).toNat 0])))=_;rw[hto];rfl)) ?_|refine kc (by first|exact(congrArg (fun z=>some (some (rg,some (0,[AV.lp .ready none #[20] ra rb z])))) hl2)|(show some (some (1,some (1,[AV.own kC g2 3 (((n+1:Nat):Int)-1).toNat 0])))=_;rw[hto];rfl)) ?_))
   ·rw[decide_eq_false hq]at hfit
    rw[iO hfit]at hZ
    unfold bP at hq
    clear hih ih
    conv=>whnf
    repeat(any_goals(first|exact ab|(refine ap ?_ ?_<;>intro _<;>first|exact aq|conv=>whnf)|((first|refine af hso rfl ?_|refine aa hn ?_|refine af hn rfl ?_|refine ac ?_|refine bi ?_ ?_|intro _)<;>conv=>whnf)))
    all_goals(refine⟨⟨b+1,t⟩,⟨by show b+1≤_;omega,hgd,hZ⟩,(by show _-(b+1)<_-b;omega),?_⟩;(conv=>whnf);refine⟨?_,?_,?_⟩<;>repeat(first|exact trivial|refine sc rfl ?_|refine kn ?_|refine kc rfl ?_|refine sc (by exact(congrArg (fun z=>some (some (rg,some (0,[AV.lp .ready none #[20] ra rb z])))) (hl _))) ?_|refine kc (by exact(congrArg (fun z=>some (some (rg,some (0,[AV.lp .ready none #[20] ra rb z])))) (hl _))) ?_))
 ·have hbn:b=s.figs.length:=by omega
  rw[List.drop_of_length_le (by rw[rM];omega),List.foldl_nil]at hZ
  clear ih hbl
  conv=>whnf
  repeat(any_goals(first|exact ab|(refine ap ?_ ?_<;>intro _<;>first|exact aq|conv=>whnf)|((first|refine ac ?_|refine bi ?_ ?_|intro _)<;>conv=>whnf)))
  all_goals(refine⟨⟨1+1,t⟩,⟨by show 1+1≤3;omega,hgd,hZ⟩,(by show 3-(1+1)<3-1;omega),?_⟩;(conv=>whnf);refine⟨?_,?_,?_⟩<;>repeat(first|exact trivial|refine sc rfl ?_|refine kn ?_|refine kc rfl ?_|refine sc (by exact(congrArg (fun z=>some (some (rg,some (0,[AV.lp .ready none #[20] ra rb z])))) (hl _))) ?_|refine kc (by exact(congrArg (fun z=>some (some (rg,some (0,[AV.lp .ready none #[20] ra rb z])))) (hl _))) ?_))
end Go.Proofs.YtgncapdjheghfaaGreatDoor
namespace Go.Proofs.YtgncapdjheghfaaGreatDoor
open Go.Am Go.Proofs Go
set_option maxHeartbeats 8000000 in
theorem FY(s:Bill)(hg:s.Good)(r:Rec)(f a left:Nat)(Z t:NSt)(ha:a<6)(h64:left<64)(hal:a<s.figs.length)(hgd:t.good a)(hl:∀t,fW (aK (ba s r t)) r.l=r.l)
  (ih:∀x,s.fitsIn left x=true→x.a=a→0≤x.b→∀u:NSt,u.good (a+1)→BoxA Tryz.prog (.fn 100) (ba s r u) [aj ((a+1:Nat):Int),aj (bc left x.named:Nat),.ptr kY 1 1 0 0,.ptr kCc 1 1 0 0,.ptr kN 1 1 0 0,.ptr kA 1 6 0 0,.ptr kT 1 1 0 0] (aB true) (ba s r (s.nextM f (a+1) (bc left x.named) u)))
  (hZ:Z=(s.rowsE a 2).foldl (s.takeM f a left) t):Ax s r f a left 2 Z t:=by
 rw[lW s a 2 (by omega),List.foldl_append]at hZ
 have hfl:(s.figs.map dS).length=s.figs.length:=List.length_map ..
 have h6:=hg.len
 have hS2:∀b:Nat,b<s.figs.length→PureA Tryz.prog 126 [dp s,bB ⟨(2:Nat),a,b⟩] (aB (s.so ⟨(2:Nat),a,b⟩)):=fun b hb=>B7 s hg ⟨(2:Nat),a,b⟩ (by simp only;omega)
 obtain⟨rg,ra,rb,rl⟩:=r
 intro Q
 conv=>whnf
 repeat(any_goals(first|exact ab|(refine ap ?_ ?_<;>intro _<;>first|exact aq|conv=>whnf)|((first|refine ac ?_|refine bi ?_ ?_|intro _)<;>conv=>whnf)))
 refine aO ao { l:=0,f:=100,mat:=[100],ow:=[63]} mixed (fun u:LSt=>[(40,aj u.i)]) (fun u=>GM s ⟨rg,ra,rb,rl⟩ u.t) (fun _=>[]) (fun u=>u.i≤s.figs.length∧u.t.good a∧Z=(s.rowsE a (2+1)).foldl (s.takeM f a left) (((s.rowE a 2).drop u.i).foldl (s.takeM f a left) u.t)) (fun u=>s.figs.length-u.i) (⟨0,t⟩:LSt) (by kernel_rfl)
  ⟨Nat.zero_le _,hgd,hZ⟩ ?_
 conv=>whnf
 refine⟨⟨ai rfl trivial,?_,trivial⟩,?_⟩
 ·repeat(first|exact trivial|refine kc rfl ?_|refine bW rfl ?_)
 clear hZ hgd
 rintro u ⟨hbi,hgd,hZ⟩
 generalize u.i=b at *
 generalize u.t=t at *
 clear u
 by_cases hbl:b<s.figs.length
 ·rw[oM s a 2 b hbl,List.foldl_cons]at hZ
  have hso:=hS2 b hbl
  have hn:=n7 ⟨(2:Nat),a,b⟩ (by simp only;omega) (by simp only;omega)
  have hn64:=ka ⟨(2:Nat),a,b⟩ (by simp only;omega) (by simp only;omega)
  have hz:=je (Ent.named ⟨(2:Nat),a,b⟩) left hn64 h64
  have hm:bP left (Ent.named ⟨(2:Nat),a,b⟩)=(bc left (Ent.named ⟨(2:Nat),a,b⟩):Nat):=eS _ _ h64 hn64
  have hih:=ih ⟨(2:Nat),a,b⟩
  rw[←hm]at hih
  have hfit:s.fitsIn left ⟨(2:Nat),a,b⟩=(s.so ⟨(2:Nat),a,b⟩&&decide (bP (Ent.named ⟨(2:Nat),a,b⟩) left=0)):=by rw[hz];rfl
  obtain⟨nm,hnm⟩:∃nm,Ent.named ⟨(2:Nat),a,b⟩=nm:=⟨_,rfl⟩
  rw[hnm]at hn hn64 hz hm hih hfit
  cases hS:s.so ⟨(2:Nat),a,b⟩with
  | false =>
   rw[hS,Bool.false_and]at hfit
   rw[iO hfit]at hZ
   rw[hS]at hso
   clear hih ih
   conv=>whnf
   repeat(any_goals(first|exact ab|(refine ap ?_ ?_<;>intro _<;>first|exact aq|conv=>whnf)|((first|refine af hso rfl ?_|refine aa hn ?_|refine af hn rfl ?_|refine ac ?_|refine bi ?_ ?_|intro _)<;>conv=>whnf)))
   all_goals(refine⟨⟨b+1,t⟩,⟨by show b+1≤_;omega,hgd,hZ⟩,(by show _-(b+1)<_-b;omega),?_⟩;(conv=>whnf);refine⟨?_,?_,?_⟩<;>repeat(first|exact trivial|refine sc rfl ?_|refine kn ?_|refine kc rfl ?_|refine sc (by exact(congrArg (fun z=>some (some (rg,some (0,[AV.lp .ready none #[20] ra rb z])))) (hl _))) ?_|refine kc (by exact(congrArg (fun z=>some (some (rg,some (0,[AV.lp .ready none #[20] ra rb z])))) (hl _))) ?_))
  | true =>
   rw[hS,Bool.true_and]at hfit
   rw[hS]at hso
   by_cases hq:bP nm left=0
   ·have hq0:=hq
    rw[decide_eq_true hq]at hfit
    rw[o9 hfit,hnm]at hZ
    unfold bP at hq
    have hih:=hih hfit rfl (by simp only;omega)
    obtain⟨c,G,o⟩:=t
    obtain⟨hck,hno,hQs⟩:=hgd
    simp only at hck hno hQs
    cases c with
    | nil =>
     cases hno rfl
     obtain⟨g2,ee2,e2,hn2,_⟩:=dD s f (a+1) (bc left nm) 1 ⟨CSt.nil.push ⟨(2:Nat),a,b⟩,G,none⟩ ⟨1,[⟨(2:Nat),a,b⟩],rfl,by simp⟩
     have hih:=hih ⟨CSt.nil.push ⟨(2:Nat),a,b⟩,G,none⟩ ⟨⟨by simp,by omega⟩,(fun h=>by cases h),hQs⟩
     have hkp:=ek s f (a+1) (bc left nm) ⟨CSt.nil.push ⟨(2:Nat),a,b⟩,G,none⟩ hQs
     have hgr:=(dA s f (a+1) (bc left nm) ⟨CSt.nil.push ⟨(2:Nat),a,b⟩,G,none⟩).2
     generalize s.nextM f (a+1) (bc left nm) ⟨CSt.nil.push ⟨(2:Nat),a,b⟩,G,none⟩=u at *
     have hih:BoxA Tryz.prog (.fn 100) (ba s ⟨rg,ra,rb,fW (aK (ba s ⟨rg,ra,rb,rl⟩ ⟨CSt.nil.push ⟨(2:Nat),a,b⟩,G,none⟩)) rl⟩ ⟨CSt.nil.push ⟨(2:Nat),a,b⟩,G,none⟩) [aj ((a:Int)+1),aj (bP left nm),.ptr kY 1 1 0 0,.ptr kCc 1 1 0 0,.ptr kN 1 1 0 0,.ptr kA 1 6 0 0,.ptr kT 1 1 0 0] (aB true) (ba s ⟨rg,ra,rb,rl⟩ u):=by
      rw[hl];exact hih
     have hl2:=hl u
     obtain⟨cu,G2,o2⟩:=u
     simp only at e2 hgr hkp
     subst e2
     have hto:(((0+1:Nat):Int)-1).toNat=0:=by omega
     clear ih
     cases o2
     all_goals
       conv=>whnf
       repeat(any_goals(first|exact ab|(refine ap ?_ ?_<;>intro _<;>first|exact aq|conv=>whnf)|((first|refine af hso rfl ?_|refine aa hn ?_|refine af hn rfl ?_|refine ac ?_|refine bi ?_ ?_|intro _)<;>conv=>whnf)))
       try(refine And.intro ⟨by rw[List.length_map];omega,by simp only[List.length_cons,List.length_nil];omega,by simp only[List.length_cons,List.length_nil,maxLen];omega⟩ ?_;(conv=>whnf))
       repeat(any_goals(first|exact ab|(refine ap ?_ ?_<;>intro _<;>first|exact aq|conv=>whnf)|((first|refine aa hn ?_|refine af hn rfl ?_|refine ac ?_|refine bi ?_ ?_|intro _)<;>conv=>whnf)))
       refine⟨aK (ba s ⟨rg,ra,rb,rl⟩ ⟨CSt.nil.push ⟨(2:Nat),a,b⟩,G,none⟩),?_⟩
       conv=>whnf
       repeat((first|refine ah (htk _) ?_|refine ah (az _ [_]) ?_|refine ah (az _ _) ?_)<;>(conv=>whnf))
       refine⟨_,_,hih,?_⟩
       conv=>whnf
       repeat(refine ah (az _ _) ?_<;>(conv=>whnf))
       repeat(any_goals(first|exact ab|(refine ap ?_ ?_<;>intro _<;>first|exact aq|conv=>whnf)|((first|refine ac ?_|refine bi ?_ ?_|intro _)<;>conv=>whnf)))
       (refine⟨⟨b+1,⟨.own g2 ee2 0,G2,_⟩⟩,⟨by show b+1≤_;omega,⟨⟨by omega,by omega⟩,(fun h=>by cases h),hkp⟩,hZ⟩,(by show _-(b+1)<_-b;omega),?_⟩;(conv=>whnf);refine⟨?_,?_,?_⟩<;>repeat(first|exact trivial|refine sc rfl ?_|refine kn ?_|refine kc rfl ?_|refine sc (by first|exact(congrArg (fun z=>some (some (rg,some (0,[AV.lp .ready none #[20] ra rb z])))) hl2)|(show some (some (1,some (1,[AV.own kC g2 3 (((0+1:Nat):Int)-1).toNat 0])))=_;rw[hto];rfl)) ?_|refine kc (by first|exact(congrArg (fun z=>some (some (rg,some (0,[AV.lp .ready none #[20] ra rb z])))) hl2)|(show some (some (1,some (1,[AV.own kC g2 3 (((0+1:Nat):Int)-1).toNat 0])))=_;rw[hto];rfl)) ?_))
    | own g ee n =>
     obtain⟨hn1,hna⟩:=hck
     have hel:(ee.map bB).length=ee.length:=List.length_map ..
     have htk:=fun ks=>Di ks ee n ⟨(2:Nat),a,b⟩
     obtain⟨g2,ee2,e2,hn2,_⟩:=dD s f (a+1) (bc left nm) (n+1) ⟨(CSt.own g ee n).push ⟨(2:Nat),a,b⟩,G,o⟩ ⟨g+1,ee.take n++[⟨(2:Nat),a,b⟩],rfl,by simp;omega⟩
     have hih:=hih ⟨(CSt.own g ee n).push ⟨(2:Nat),a,b⟩,G,o⟩ ⟨⟨by simp;omega,by omega⟩,(fun h=>by cases h),hQs⟩
     have hkp:=ek s f (a+1) (bc left nm) ⟨(CSt.own g ee n).push ⟨(2:Nat),a,b⟩,G,o⟩ hQs
     have hgr:=(dA s f (a+1) (bc left nm) ⟨(CSt.own g ee n).push ⟨(2:Nat),a,b⟩,G,o⟩).2
     generalize s.nextM f (a+1) (bc left nm) ⟨(CSt.own g ee n).push ⟨(2:Nat),a,b⟩,G,o⟩=u at *
     have hih:BoxA Tryz.prog (.fn 100) (ba s ⟨rg,ra,rb,fW (aK (ba s ⟨rg,ra,rb,rl⟩ ⟨(CSt.own g ee n).push ⟨(2:Nat),a,b⟩,G,o⟩)) rl⟩ ⟨(CSt.own g ee n).push ⟨(2:Nat),a,b⟩,G,o⟩) [aj ((a:Int)+1),aj (bP left nm),.ptr kY 1 1 0 0,.ptr kCc 1 1 0 0,.ptr kN 1 1 0 0,.ptr kA 1 6 0 0,.ptr kT 1 1 0 0] (aB true) (ba s ⟨rg,ra,rb,rl⟩ u):=by
      rw[hl];exact hih
     have hl2:=hl u
     obtain⟨cu,G2,o2⟩:=u
     simp only at e2 hgr hkp
     subst e2
     have hto:(((n+1:Nat):Int)-1).toNat=n:=by omega
     clear ih
     cases o with
     | none =>
      cases o2
      all_goals
        conv=>whnf
        repeat(any_goals(first|exact ab|(refine ap ?_ ?_<;>intro _<;>first|exact aq|conv=>whnf)|((first|refine af hso rfl ?_|refine aa hn ?_|refine af hn rfl ?_|refine ac ?_|refine bi ?_ ?_|intro _)<;>conv=>whnf)))
        try(refine And.intro ⟨by rw[List.length_map];omega,by simp only[List.length_cons,List.length_nil];omega,by simp only[List.length_cons,List.length_nil,maxLen];omega⟩ ?_;(conv=>whnf))
        repeat(any_goals(first|exact ab|(refine ap ?_ ?_<;>intro _<;>first|exact aq|conv=>whnf)|((first|refine aa hn ?_|refine af hn rfl ?_|refine ac ?_|refine bi ?_ ?_|intro _)<;>conv=>whnf)))
        refine⟨aK (ba s ⟨rg,ra,rb,rl⟩ ⟨(CSt.own g ee n).push ⟨(2:Nat),a,b⟩,G,none⟩),?_⟩
        conv=>whnf
        repeat((first|refine ah (htk _) ?_|refine ah (az _ [_]) ?_|refine ah (az _ _) ?_)<;>(conv=>whnf))
        refine⟨_,_,hih,?_⟩
        conv=>whnf
        repeat(refine ah (az _ _) ?_<;>(conv=>whnf))
        repeat(any_goals(first|exact ab|(refine ap ?_ ?_<;>intro _<;>first|exact aq|conv=>whnf)|((first|refine ac ?_|refine bi ?_ ?_|intro _)<;>conv=>whnf)))
        (refine⟨⟨b+1,⟨.own g2 ee2 n,G2,_⟩⟩,⟨by show b+1≤_;omega,⟨⟨by omega,by omega⟩,(fun h=>by cases h),hkp⟩,hZ⟩,(by show _-(b+1)<_-b;omega),?_⟩;(conv=>whnf);refine⟨?_,?_,?_⟩<;>repeat(first|exact trivial|refine sc rfl ?_|refine kn ?_|refine kc rfl ?_|refine sc (by first|exact(congrArg (fun z=>some (some (rg,some (0,[AV.lp .ready none #[20] ra rb z])))) hl2)|(show some (some (1,some (1,[AV.own kC g2 3 (((n+1:Nat):Int)-1).toNat 0])))=_;rw[hto];rfl)) ?_|refine kc (by first|exact(congrArg (fun z=>some (some (rg,some (0,[AV.lp .ready none #[20] ra rb z])))) hl2)|(show some (some (1,some (1,[AV.own kC g2 3 (((n+1:Nat):Int)-1).toNat 0])))=_;rw[hto];rfl)) ?_))
     | some w =>
      obtain⟨w2,rfl⟩:=hgr w rfl
      conv=>whnf
      repeat(any_goals(first|exact ab|(refine ap ?_ ?_<;>intro _<;>first|exact aq|conv=>whnf)|((first|refine af hso rfl ?_|refine aa hn ?_|refine af hn rfl ?_|refine ac ?_|refine bi ?_ ?_|intro _)<;>conv=>whnf)))
      try(refine And.intro ⟨by rw[List.length_map];omega,by simp only[List.length_cons,List.length_nil];omega,by simp only[List.length_cons,List.length_nil,maxLen];omega⟩ ?_;(conv=>whnf))
      repeat(any_goals(first|exact ab|(refine ap ?_ ?_<;>intro _<;>first|exact aq|conv=>whnf)|((first|refine aa hn ?_|refine af hn rfl ?_|refine ac ?_|refine bi ?_ ?_|intro _)<;>conv=>whnf)))
      refine⟨aK (ba s ⟨rg,ra,rb,rl⟩ ⟨(CSt.own g ee n).push ⟨(2:Nat),a,b⟩,G,some w⟩),?_⟩
      conv=>whnf
      repeat((first|refine ah (htk _) ?_|refine ah (az _ [_]) ?_|refine ah (az _ _) ?_)<;>(conv=>whnf))
      refine⟨_,_,hih,?_⟩
      conv=>whnf
      repeat(refine ah (az _ _) ?_<;>(conv=>whnf))
      repeat(any_goals(first|exact ab|(refine ap ?_ ?_<;>intro _<;>first|exact aq|conv=>whnf)|((first|refine ac ?_|refine bi ?_ ?_|intro _)<;>conv=>whnf)))
      (refine⟨⟨b+1,⟨.own g2 ee2 n,G2,_⟩⟩,⟨by show b+1≤_;omega,⟨⟨by omega,by omega⟩,(fun h=>by cases h),hkp⟩,hZ⟩,(by show _-(b+1)<_-b;omega),?_⟩;(conv=>whnf);refine⟨?_,?_,?_⟩<;>repeat(first|exact trivial|refine sc rfl ?_|refine kn ?_|refine kc rfl ?_|refine sc (by first|exact(congrArg (fun z=>some (some (rg,some (0,[AV.lp .ready none #[20] ra rb z])))) hl2)|(show some (some (1,some (1,[AV.own kC g2 3 (((n+1:Nat):Int)-1).toNat 0])))=_;rw[hto];rfl)) ?_|refine kc (by first|exact(congrArg (fun z=>some (some (rg,some (0,[AV.lp .ready none #[20] ra rb z])))) hl2)|(show some (some (1,some (1,[AV.own kC g2 3 (((n+1:Nat):Int)-1).toNat 0])))=_;rw[hto];rfl)) ?_))
   ·rw[decide_eq_false hq]at hfit
    rw[iO hfit]at hZ
    unfold bP at hq
    clear hih ih
    conv=>whnf
    repeat(any_goals(first|exact ab|(refine ap ?_ ?_<;>intro _<;>first|exact aq|conv=>whnf)|((first|refine af hso rfl ?_|refine aa hn ?_|refine af hn rfl ?_|refine ac ?_|refine bi ?_ ?_|intro _)<;>conv=>whnf)))
    all_goals(refine⟨⟨b+1,t⟩,⟨by show b+1≤_;omega,hgd,hZ⟩,(by show _-(b+1)<_-b;omega),?_⟩;(conv=>whnf);refine⟨?_,?_,?_⟩<;>repeat(first|exact trivial|refine sc rfl ?_|refine kn ?_|refine kc rfl ?_|refine sc (by exact(congrArg (fun z=>some (some (rg,some (0,[AV.lp .ready none #[20] ra rb z])))) (hl _))) ?_|refine kc (by exact(congrArg (fun z=>some (some (rg,some (0,[AV.lp .ready none #[20] ra rb z])))) (hl _))) ?_))
 ·have hbn:b=s.figs.length:=by omega
  rw[List.drop_of_length_le (by rw[rM];omega),List.foldl_nil]at hZ
  clear ih hbl
  conv=>whnf
  repeat(any_goals(first|exact ab|(refine ap ?_ ?_<;>intro _<;>first|exact aq|conv=>whnf)|((first|refine ac ?_|refine bi ?_ ?_|intro _)<;>conv=>whnf)))
  all_goals(refine⟨⟨2+1,t⟩,⟨by show 2+1≤3;omega,hgd,hZ⟩,(by show 3-(2+1)<3-2;omega),?_⟩;(conv=>whnf);refine⟨?_,?_,?_⟩<;>repeat(first|exact trivial|refine sc rfl ?_|refine kn ?_|refine kc rfl ?_|refine sc (by exact(congrArg (fun z=>some (some (rg,some (0,[AV.lp .ready none #[20] ra rb z])))) (hl _))) ?_|refine kc (by exact(congrArg (fun z=>some (some (rg,some (0,[AV.lp .ready none #[20] ra rb z])))) (hl _))) ?_))
end Go.Proofs.YtgncapdjheghfaaGreatDoor
namespace Go.Proofs.YtgncapdjheghfaaGreatDoor
open Go.Am Go.Proofs Go
set_option maxHeartbeats 8000000 in
theorem IP(s:Bill)(hg:s.Good)(r:Rec)(f a left:Nat)(t:NSt)(ha:a<6)(h0:left≠0)(h64:left<64)(hb:left.testBit a=true)(hal:a<s.figs.length)(hgd:t.good a)(hl:∀t,fW (aK (ba s r t)) r.l=r.l)
  (ih:∀x,s.fitsIn left x=true→x.a=a→0≤x.b→∀u:NSt,u.good (a+1)→BoxA Tryz.prog (.fn 100) (ba s r u) [aj ((a+1:Nat):Int),aj (bc left x.named:Nat),.ptr kY 1 1 0 0,.ptr kCc 1 1 0 0,.ptr kN 1 1 0 0,.ptr kA 1 6 0 0,.ptr kT 1 1 0 0] (aB true) (ba s r (s.nextM f (a+1) (bc left x.named) u))) :
  BoxA Tryz.prog (.fn 100) (ba s r t) [aj a,aj left,.ptr kY 1 1 0 0,.ptr kCc 1 1 0 0,.ptr kN 1 1 0 0,.ptr kA 1 6 0 0,.ptr kT 1 1 0 0] (aB true) (ba s r ((s.tries a).foldl (s.takeM f a left) t)):=by
 have hZ:(s.tries a).foldl (s.takeM f a left) t=(s.rowsE a 0).foldl (s.takeM f a left) t:=by rw[zZ]
 generalize (s.tries a).foldl (s.takeM f a left) t=Z at *
 have hbit:=Hj left a (e7 h64) (by omega)
 rw[hb,decide_eq_true_eq]at hbit
 have hfl:(s.figs.map dS).length=s.figs.length:=List.length_map ..
 have h6:=hg.len
 obtain⟨rg,ra,rb,rl⟩:=r
 unfold fb k8 at hbit
 refine Er ao { l:=0,f:=100,mat:=[100],ow:=[63]} mixed ff Tryz.func100 (by kernel_rfl) ?_
 conv=>whnf
 repeat(any_goals(first|exact ab|(refine ap ?_ ?_<;>intro _<;>first|exact aq|conv=>whnf)|((first|refine ac ?_|refine bi ?_ ?_|intro _)<;>conv=>whnf)))
 refine aO ao { l:=0,f:=100,mat:=[100],ow:=[63]} mixed (fun u:LSt=>[(30,aj u.i)]) (fun u=>GM s ⟨rg,ra,rb,rl⟩ u.t) (fun _=>[]) (fun u=>u.i≤3∧u.t.good a∧Z=(s.rowsE a u.i).foldl (s.takeM f a left) u.t) (fun u=>3-u.i) (⟨0,t⟩:LSt) (by kernel_rfl)
  ⟨by show 0≤3;omega,hgd,hZ⟩ ?_
 conv=>whnf
 refine⟨⟨ai rfl trivial,?_,trivial⟩,?_⟩
 ·repeat(first|exact trivial|refine kc rfl ?_|refine bW rfl ?_)
 clear hZ hgd
 rintro u ⟨hi,hgd,hZ⟩
 by_cases hi3:u.i<3
 ·obtain⟨i,t⟩:=u
  simp only at hi hgd hZ hi3
  rcases(by omega:i=0∨i=1∨i=2)with rfl|rfl|rfl
  ·exact FW s hg ⟨rg,ra,rb,rl⟩ f a left Z t ha h64 hal hgd hl ih hZ _
  ·exact FX s hg ⟨rg,ra,rb,rl⟩ f a left Z t ha h64 hal hgd hl ih hZ _
  ·exact FY s hg ⟨rg,ra,rb,rl⟩ f a left Z t ha h64 hal hgd hl ih hZ _
 ·generalize u.i=i at *
  generalize u.t=t at *
  clear u
  have hi3':i=3:=by omega
  subst hi3'
  have:s.rowsE a 3=[]:=rfl
  rw[this,List.foldl_nil]at hZ
  subst hZ
  clear ih
  have hl2:=hl Z
  obtain⟨c,G,o⟩:=Z
  obtain⟨hck,hno,_⟩:=hgd
  cases c with
  | nil =>
   cases hno rfl
   conv=>whnf
   repeat(any_goals(first|exact ab|(refine ap ?_ ?_<;>intro _<;>first|exact aq|conv=>whnf)|((first|refine ac ?_|refine bi ?_ ?_|intro _)<;>conv=>whnf)))
   refine And.intro ?_ ?_
   ·conv=>whnf
    refine⟨⟨?_⟩,trivial⟩
    rfl
   ·repeat(first|exact trivial|refine And.intro rfl ?_|refine And.intro (by skip) ?_)
  | own g ee n =>
   cases o
   all_goals conv=>whnf
   all_goals repeat(any_goals(first|exact ab|(refine ap ?_ ?_<;>intro _<;>first|exact aq|conv=>whnf)|((first|refine ac ?_|refine bi ?_ ?_|intro _)<;>conv=>whnf)))
   all_goals
     refine And.intro ?_ ?_
     ·conv=>whnf
      refine⟨⟨?_⟩,trivial⟩
      rfl
     ·repeat(first|exact trivial|refine And.intro rfl ?_|refine And.intro (by skip) ?_)
end Go.Proofs.YtgncapdjheghfaaGreatDoor
namespace Go.Proofs.YtgncapdjheghfaaGreatDoor
open Go.Am Go.Proofs Go
theorem nq{f g:AV→Option AV}(hf:∀{x y:AV},f x=some y→g y=some y):∀{xs l:List AV},tkL f xs=some l→tkL g l=some l
 | [],l,h=>by simp only[tkL,Option.some.injEq]at h;subst h;rfl
 | x::xs,l,h=>by
  simp only[tkL]at h
  split at h
  ·rename_i y ys h1 h2
   simp only[Option.some.injEq]at h;subst h
   simp only[tkL,hf h1,nq hf h2]
  ·simp at h
theorem rZ{ks ks':List Key}(hs:∀k,dC k ks=true→dC k ks'=true){x y:AV}(h:tk0 ks x=some y):tk0 ks' y=some y:=by
 have hk:∀{k:Key} {v z:AV},D6 ks k v=some z→z=v∧D6 ks' k v=some v:=by
  intro k v z h
  obtain⟨h1,h2⟩:=eZ h
  refine⟨h2,?_⟩
  unfold D6
  rw[hs k h1]
 cases x<;>simp only[tk0]at h<;>try(simp at h;done)
 case slice sz es tok =>
  have e:=Option.some.inj h;subst e
  simp only[tk0]
  cases tok<;>cases es<;>rfl
 all_goals first
  | (have e:=Option.some.inj h;subst e;rfl)
  | (obtain⟨e,h'⟩:=hk h;subst e;exact h')
theorem yi{ks ks':List Key}(hs:∀k,dC k ks=true→dC k ks'=true){x y:AV}(h:tk1 ks x=some y):tk1 ks' y=some y:=by
 have one:∀{x y},tk0 ks x=some y→tk1 ks' y=some y:=by
  intro x y h
  have:=rZ hs h
  cases y<;>first|exact this|(simp[tk0]at this)
 cases x with
 | func fn fs cs =>
  simp only[tk1]at h
  split at h
  ·rename_i a b h1 h2
   simp only[Option.some.injEq]at h;subst h
   simp only[tk1,nq (rZ hs) h1,nq (rZ hs) h2]
  ·simp at h
 | _=>exact one (by simpa only[tk1]using h)
theorem FV{ks ks':List Key}(hs:∀k,dC k ks=true→dC k ks'=true){x y:AV}(h:tk2 ks x=some y):tk2 ks' y=some y:=by
 have one:∀{x y},tk1 ks x=some y→tk2 ks' y=some y:=by
  intro x y h
  have:=yi hs h
  cases y<;>first|exact this|(simp[tk1,tk0]at this)
 cases x with
 | agg cs =>
  simp only[tk2]at h
  split at h
  ·rename_i a h1
   simp only[Option.some.injEq]at h;subst h
   simp only[tk2,nq (yi hs) h1]
  ·simp at h
 | _=>exact one (by simpa only[tk2]using h)
theorem kV{ks ks':List Key}(hs:∀k,dC k ks=true→dC k ks'=true):∀l:List AV,fW ks' (fW ks l)=fW ks l
 | []=>rfl
 | x::l=>by
  simp only[fW,kV hs l]
  congr 1
  cases h:tk2 ks x with
  | none=>rfl
  | some y=>simp only[FV hs h]
theorem uw(ks:List Key)(l:List AV):fW ks (fW ks l)=fW ks l:=kV (fun _ h=>h) l
def By:List Key:=[kLb,kB1,kB2,kB3,cz,kT]
theorem gW(ks:List Key):∀(l:List Key) (k:Key),dC k l=true→dC k (l++ks)=true
 | [],k,h=>by cases h
 | x::l,k,h=>by
  simp only[List.cons_append,dC]at h ⊢
  cases hx:k.beq x with
  | true=>rfl
  | false=>rw[hx]at h;exact gW ks l k h
theorem gU:∀(l m:List cr),aK (l++m)=aK l++aK m
 | [],m=>rfl
 | (k,_)::l,m=>by simp only[List.cons_append,aK,gU l m]
theorem np{s:Bill}{r:Rec}(h:fW By r.l=r.l)(t:NSt):fW (aK (ba s r t)) r.l=r.l:=by
 rw[←h]
 refine kV (fun k hk=>?_) _
 unfold ba
 rw[gU]
 exact gW _ _ k hk
theorem tZ{s:Bill}{r:Rec}(h:fW By r.l=r.l)(t:NSt):fW (aK (eC s r t)) r.l=r.l:=by
 rw[←h]
 refine kV (fun k hk=>?_) _
 unfold eC
 rw[gU]
 exact gW _ _ k hk
theorem KH(s:Bill)(hg:s.Good)(r:Rec)(hl:fW By r.l=r.l)
  (hy:∀t:NSt,t.good 6→BoxA Tryz.prog (.yld kLb r.g) (eC s r t) [t.c.av] (aB true) (eC s r t.yieldM)) :
  ∀(f a left:Nat) (t:NSt),6≤a+f→a≤6→xh a left→left<64→(∀i,left.testBit i=true→i<s.figs.length)→t.good a →
  BoxA Tryz.prog (.fn 100) (ba s r t) [aj a,aj left,.ptr kY 1 1 0 0,.ptr kCc 1 1 0 0,.ptr kN 1 1 0 0,.ptr kA 1 6 0 0,.ptr kT 1 1 0 0] (aB true) (ba s r (s.nextM f a left t)):=by
 have up:∀{t:NSt} {a b:Nat},t.good a→a≤b→t.good b:=by
  intro t a b h hab
  refine⟨?_,h.2⟩
  have:=h.1
  revert this
  cases t.c with
  | nil=>exact id
  | own g ee n=>intro⟨h1,h2⟩;exact⟨h1,by omega⟩
 intro f
 induction f with
 | zero =>
  intro a left t h6 ha hF hlt hsub ht
  have:left=0:=hF.zero hlt (by omega)
  subst this
  exact Cb s r a t (tZ hl) (hy t (up ht ha))
 | succ f ih =>
  intro a left t h6 ha hF hlt hsub ht
  rw[fP]
  by_cases h0:left=0
  ·subst h0
   rw[if_pos rfl]
   exact Cb s r a t (tZ hl) (hy t (up ht ha))
  ·rw[if_neg h0]
   have ha6:a<6:=by
    rcases Nat.lt_or_ge a 6 with h|h
    ·exact h
    ·exact absurd (hF.zero hlt h) h0
   by_cases hb:left.testBit a=false
   ·rw[if_pos hb]
    exact IN s r a left t _ ha6 h0 hlt hb (dA ..) ht.2.1 (np hl) (ih (a+1) left t (by omega) (by omega) (hF.next hb) hlt hsub (up ht (Nat.le_succ a)))
   ·rw[if_neg hb]
    rw[Bool.not_eq_false]at hb
    refine IP s hg r f a left t ha6 h0 hlt hb (hsub a hb) ht (np hl) ?_
    intro x hfit hxa hxb u hu
    refine ih (a+1) (bc left x.named) u (by omega) (by omega) ?_ (iF hlt) ?_ hu
    ·intro i hi
     rw[cH _ _ _ hlt,Bool.and_eq_true]at hi
     have h1:=hF i hi.1
     rcases Nat.lt_or_ge a i with h|h
     ·exact h
     ·have:i=a:=by omega
      subst this
      have h2:x.named.testBit i=true:=by
       rw[bp,decide_eq_true_eq]
       omega
      rw[h2]at hi;simp at hi
    ·intro i hi
     rw[cH _ _ _ hlt,Bool.and_eq_true]at hi
     exact hsub i hi.1
def kU:NSt:=⟨.nil,0,none⟩
def Bill.endM(s:Bill):NSt:=s.nextM 6 0 s.someN kU
theorem zV:kU.good 0:=⟨trivial,fun _=>rfl,fun _=>rfl,fun b m h=>by cases h⟩
def Kx(s:Bill)(r:Rec)(t:NSt):List cr:=yR s r t++B8 t.G t.o
theorem su(s:Bill)(hg:s.Good):∃c,s.endM.o=some (c,(dZ c:Int))∧dg none s.cats=some (c,(dZ c:Int)):=by
 obtain⟨c,h1,_⟩:=r9 hg
 refine⟨c,?_,h1⟩
 have h64:=ft hg
 have:=(lD s 6 0 s.someN 0 kU trivial (fun h=>by omega) (fun _ _=>trivial) ⟨by omega,fun i _=>Nat.zero_le i,h64⟩).1
 have e:s.endM.o=dg none ((s.catsN 6 0 s.someN).map ([]++ ·)):=this
 rw[e]
 have e2:(s.catsN 6 0 s.someN).map ([]++ ·)=s.cats:=by unfold Bill.cats;simp
 rw[e2]
 exact h1
set_option maxHeartbeats 4000000 in
theorem Ig(s:Bill)(hg:s.Good)(r:Rec)(hl:fW By r.l=r.l)
  (hy:∀t:NSt,t.good 6→BoxA Tryz.prog (.yld kLb r.g) (eC s r t) [t.c.av] (aB true) (eC s r t.yieldM)) :
  BoxA Tryz.prog (.fn 99) (yR s r kU) [.yld kLb r.g,.ptr kT 1 1 0 0] (.tuple []) (Kx s r s.endM):=by
 have h64:=ft hg
 have hn:=KH s hg r hl hy 6 0 s.someN kU (by omega) (by omega) (fun i _=>Nat.zero_le i) h64 (fun i hi=>eX hg (by rw[←dm];exact hi)) zV
 obtain⟨w,hw,_⟩:=su s hg
 have hl0:=np (s:=s) hl kU
 have hl2:=np (s:=s) hl s.endM
 change BoxA _ _ _ _ _ (ba s r s.endM)at hn
 generalize s.endM=u at *
 obtain⟨rg,ra,rb,rl⟩:=r
 have hn:BoxA Tryz.prog (.fn 100) (ba s ⟨rg,ra,rb,fW (aK (ba s ⟨rg,ra,rb,rl⟩ kU)) rl⟩ kU) [aj 0,aj s.someN,.ptr kY 1 1 0 0,.ptr kCc 1 1 0 0,.ptr kN 1 1 0 0,.ptr kA 1 6 0 0,.ptr kT 1 1 0 0] (aB true) (ba s ⟨rg,ra,rb,rl⟩ u):=by
  rw[hl0];exact hn
 obtain⟨c,G,o⟩:=u
 simp only at hw
 subst hw
 clear hy
 cases c
 all_goals
   refine aN ao { l:=0,f:=99,mat:=[100]} mixed If Tryz.func99 (by kernel_rfl) ?_
   conv=>whnf
 all_goals repeat(any_goals(first|exact ab|(refine ap ?_ ?_<;>intro _<;>first|exact aq|conv=>whnf)|((first|refine aa fU ?_|refine ac ?_|refine bi ?_ ?_|intro _)<;>conv=>whnf)))
 all_goals
   refine⟨aK (ba s ⟨rg,ra,rb,rl⟩ kU),?_⟩
   conv=>whnf
 all_goals
   refine⟨_,_,hn,?_⟩
   conv=>whnf
 all_goals repeat(refine ah (az _ _) ?_<;>(conv=>whnf))
 all_goals repeat(any_goals(first|exact ab|(refine ap ?_ ?_<;>intro _<;>first|exact aq|conv=>whnf)|((first|refine ac ?_|refine bi ?_ ?_|intro _)<;>conv=>whnf)))
 all_goals
   refine And.intro ?_ ?_
   ·conv=>whnf
    exact⟨⟨rfl⟩,trivial⟩
   ·rw[cb]
    refine kc ?_ ?_
    ·exact(congrArg (fun z=>some (some (rg,some (0,[AV.lp .ready none #[20] ra rb z])))) hl2)
    ·repeat(first|exact trivial|refine kc rfl ?_)
theorem Kh(s:Bill):BoxA Tryz.prog (.fn 69) [cQ s] [.ptr cz 1 5 0 0] (.func (.func 99) [] [.ptr kT 1 1 0 0]) [cQ s,(kT,1,1,[.ptr cz 1 5 0 0])]:=by
 unfold cQ
 refine aN ao { l:=0,f:=69} mixed HV Tryz.func69 (by kernel_rfl) ?_
 conv=>whnf
 repeat(any_goals(first|exact ab|(refine ap ?_ ?_<;>intro _<;>first|exact aq|conv=>whnf)|((first|refine ac ?_|refine bi ?_ ?_|intro _)<;>conv=>whnf)))
 refine And.intro ?_ ?_
 ·conv=>whnf
  refine⟨⟨?_⟩,trivial⟩
  rfl
 ·repeat(first|exact trivial|refine And.intro rfl ?_|refine And.intro (by skip) ?_)
end Go.Proofs.YtgncapdjheghfaaGreatDoor
namespace Go.Proofs.YtgncapdjheghfaaGreatDoor
open Go.Am Go.Proofs Go
structure MSt where
 i:Nat
 m:Nat
theorem Ko(ee:List Ent)(n:Nat)(h:n≤ee.length):((ee.map bB).take n).take (min ((ee.map bB).take n).length n)++(List.replicate n (bB ⟨0,0,0⟩)).drop (min ((ee.map bB).take n).length n)=(ee.take n).map bB:=by
 have e:((ee.map bB).take n).length=n:=by rw[List.length_take,List.length_map];omega
 rw[e,Nat.min_self,List.take_of_length_le (by omega),List.drop_of_length_le (by rw[List.length_replicate];omega),List.append_nil,List.map_take]
theorem nX(x:Ent)(l:List Ent):dZ (x::l)=dZ l+if x.says=2 then 1 else 0:=by
 unfold dZ
 rw[List.countP_cons]
 simp only[decide_eq_true_eq]
theorem mh{t:NSt}(h:Fl t.o t.c.list=true):t.yieldM=⟨t.c,t.G+1,some (t.c.list,(dZ t.c.list:Int))⟩:=by
 unfold NSt.yieldM
 rw[if_pos h]
 congr 1
 unfold jF
 unfold Fl at h
 split at h
 ·rfl
 ·rw[if_pos (of_decide_eq_true h)]
theorem DJ{t:NSt}{b:List Ent}{m:Int}(ho:t.o=some (b,m))(h:¬(dZ t.c.list:Int)<m):t.yieldM=t:=by
 obtain⟨c,G,o⟩:=t
 simp only at ho h
 subst ho
 unfold NSt.yieldM Fl jF
 simp only[decide_eq_false h,if_neg h,Bool.false_eq_true,if_false]
theorem bL(l:List Ent)(n:Nat)(h:n=l.length):eA ((l.map bB).take n)=some (l.map bB):=by
 rw[List.take_of_length_le (by rw[List.length_map];omega)]
 clear h
 induction l with
 | nil=>rfl
 | cons x l ih=>simp only[List.map_cons,eA,ih,show wN (bB x)=some (bB x)from rfl]
def Hf(x:List Ent×Int×Int):AV:= .tuple [aJ x.1,aj x.2.1,aj x.2.2]
theorem Hg(s:Bill)(hr:s.small)(e:Int)(he:s.check.2.2=e)(h0:e≠0):PureA Tryz.prog 22 [aI s] (.tuple [lE,aj 0,aj e]):=by
 have hlk:=s7 s hr e he h0
 refine ag ao { l:=0,f:=22,mat:=[63,69]} mixed AU Tryz.func22 (by kernel_rfl) ?_
 conv=>whnf
 repeat(any_goals(first|exact ab|(refine ap ?_ ?_<;>intro _<;>first|exact aq|conv=>whnf)|((first|refine ac ?_|refine bi ?_ ?_|intro _)<;>conv=>whnf)))
 refine⟨[],?_⟩
 conv=>whnf
 refine⟨_,_,hlk,?_⟩
 conv=>whnf
 repeat(any_goals(first|exact ab|(refine ap ?_ ?_<;>intro _<;>first|exact aq|conv=>whnf)|((first|refine ac ?_|refine bi ?_ ?_|intro _)<;>conv=>whnf)))
 (refine⟨⟨?_⟩,trivial⟩;rfl)
set_option maxHeartbeats 8000000 in
theorem Hh(s:Bill)(hr:s.small)(hc:s.check.2.2=0)(b:List Ent)(hb:dg none s.cats=some (b,(dZ b:Int))):PureA Tryz.prog 22 [aI s] (.tuple [aJ b,aj (dZ b),aj 0]):=by
 have hg:=Bill.good hc
 have hlk:=jq s hr hc
 have hca:=Kh s
 obtain⟨c,hu,hcb⟩:=su s hg
 rw[hb]at hcb
 cases hcb
 have hit:=fun r hl hy=>Ig s hg r hl hy
 generalize s.endM=u at *
 obtain⟨cu,G,o⟩:=u
 simp only at hu
 subst hu
 unfold cQ at hlk hca
 refine ag ao { l:=0,f:=22,mat:=[63,69]} mixed AU Tryz.func22 (by kernel_rfl) ?_
 conv=>whnf
 repeat(any_goals(first|exact ab|(refine ap ?_ ?_<;>intro _<;>first|exact aq|conv=>whnf)|((first|refine ac ?_|refine bi ?_ ?_|intro _)<;>conv=>whnf)))
 refine⟨[],?_⟩
 conv=>whnf
 refine⟨_,_,hlk,?_⟩
 conv=>whnf
 repeat(any_goals(first|exact ab|(refine ap ?_ ?_<;>intro _<;>first|exact aq|conv=>whnf)|((first|refine ac ?_|refine bi ?_ ?_|intro _)<;>conv=>whnf)))
 refine⟨[cz],?_⟩
 conv=>whnf
 refine⟨_,_,hca,?_⟩
 conv=>whnf
 repeat(any_goals(first|exact ab|(refine ap ?_ ?_<;>intro _<;>first|exact aq|conv=>whnf)|((first|refine ac ?_|refine bi ?_ ?_|intro _)<;>conv=>whnf)))
 refine⟨By,?_⟩
 conv=>whnf
 refine⟨_,_,hit ⟨_,_,_,_⟩ ?_ ?_,?_⟩
 ·first|exact uw _ _|rfl
 ·rintro⟨c,G,o⟩ ⟨hok,hno,hQ1,hQ2⟩
  simp only at hok hno hQ1 hQ2
  cases c with
  | nil =>
   cases hno rfl
   cases hQ1 rfl
   rw[mh (t:=⟨.nil,0,none⟩) rfl]
   refine bv ao { l:=0,f:=22,rd:=true} mixed rfl rfl rfl (by kernel_rfl) ?_
   conv=>whnf
   refine And.intro rfl ?_
   conv=>whnf
   repeat(any_goals(first|exact ab|(refine ap ?_ ?_<;>intro _<;>first|exact aq|conv=>whnf)|((first|refine ac ?_|refine bi ?_ ?_|intro _)<;>conv=>whnf)))
   refine aO ao { l:=0,f:=22,rd:=true} mixed (fun i:Nat=>[(23,aj i),(7,aj 0)]) (fun _=>[]) (fun _=>[]) (fun i=>i=0) (fun i=>i) 0 (by kernel_rfl)
    rfl ?_
   conv=>whnf
   refine⟨⟨ai rfl (ai rfl trivial),trivial,trivial⟩,?_⟩
   intro i hi
   subst hi
   conv=>whnf
   repeat(any_goals(first|exact ab|(refine ap ?_ ?_<;>intro _<;>first|exact aq|conv=>whnf)|((first|refine ac ?_|refine bi ?_ ?_|intro _)<;>conv=>whnf)))
   repeat(first|exact trivial|refine And.intro rfl ?_|refine kc rfl ?_|refine kc (by rfl) ?_)
  | own g ee n =>
   obtain⟨hn,hn6⟩:=hok
   have hlen:(ee.take n).length=n:=by rw[List.length_take];omega
   have hel:(ee.map bB).length=ee.length:=List.length_map ..
   cases o with
   | none =>
    cases hQ1 rfl
    rw[mh (t:=⟨.own g ee n,0,none⟩) rfl]
    refine bv ao { l:=0,f:=22,rd:=true} mixed rfl rfl rfl (by kernel_rfl) ?_
    conv=>whnf
    refine And.intro rfl ?_
    conv=>whnf
    repeat(any_goals(first|exact ab|(refine ap ?_ ?_<;>intro _<;>first|exact aq|conv=>whnf)|((first|refine ac ?_|refine bi ?_ ?_|intro _)<;>conv=>whnf)))
    refine aO ao { l:=0,f:=22,rd:=true} mixed (fun u:MSt=>[(23,aj u.i),(7,aj u.m)]) (fun _=>[]) (fun _=>[]) (fun u=>u.i≤n∧dZ (ee.take n)=u.m+dZ ((ee.take n).drop u.i)∧u.m≤u.i) (fun u=>n-u.i) (⟨0,0⟩:MSt) (by kernel_rfl)
     ⟨Nat.zero_le _,(Nat.zero_add _).symm,Nat.le_refl _⟩ ?_
    conv=>whnf
    refine⟨⟨ai rfl (ai rfl trivial),trivial,trivial⟩,?_⟩
    rintro u ⟨hi,H,hm⟩
    generalize u.i=i at *
    generalize u.m=m at *
    clear u
    by_cases hil:i<n
    ·obtain⟨x,hx,hd⟩:=ay (l:=ee.take n) (i:=i) (by omega)
     have hx':ee[i]?=some x:=by rw[List.getElem?_take,if_pos hil]at hx;exact hx
     rw[hd,nX]at H
     by_cases q:x.says=2
     ·rw[if_pos q]at H
      conv=>whnf
      repeat(any_goals(first|exact ab|(refine ap ?_ ?_<;>intro _<;>first|exact aq|conv=>whnf)|((first|refine ae hx' rfl ?_|refine ac ?_|refine bi ?_ ?_|intro _)<;>conv=>whnf)))
      (refine⟨⟨i+1,m+1⟩,⟨by show i+1≤_;omega,by show dZ _=m+1+dZ ((ee.take n).drop (i+1));omega,by show m+1≤i+1;omega⟩,(by show _-(i+1)<_-i;omega),?_⟩;(conv=>whnf);refine⟨?_,?_,?_⟩<;>repeat(first|exact trivial|refine sc rfl ?_|refine kn ?_|refine kc rfl ?_|refine sc (by rfl) ?_|refine kc (by rfl) ?_))
     ·rw[if_neg q]at H
      conv=>whnf
      repeat(any_goals(first|exact ab|(refine ap ?_ ?_<;>intro _<;>first|exact aq|conv=>whnf)|((first|refine ae hx' rfl ?_|refine ac ?_|refine bi ?_ ?_|intro _)<;>conv=>whnf)))
      (refine⟨⟨i+1,m⟩,⟨by show i+1≤_;omega,by show dZ _=m+dZ ((ee.take n).drop (i+1));omega,by show m≤i+1;omega⟩,(by show _-(i+1)<_-i;omega),?_⟩;(conv=>whnf);refine⟨?_,?_,?_⟩<;>repeat(first|exact trivial|refine sc rfl ?_|refine kn ?_|refine kc rfl ?_|refine sc (by rfl) ?_|refine kc (by rfl) ?_))
    ·have hin:i=n:=by omega
     subst hin
     rw[List.drop_of_length_le (by omega),show dZ []=0 from rfl,Nat.add_zero]at H
     conv=>whnf
     repeat(any_goals(first|exact ab|(refine ap ?_ ?_<;>intro _<;>first|exact aq|conv=>whnf)|((first|refine ac ?_|refine bi ?_ ?_|intro _)<;>conv=>whnf)))
     repeat(first|exact trivial|refine And.intro rfl ?_|refine kc rfl ?_|refine kc (by first|(exact congrArg (fun z=>some (some (0+1,some (3,z)))) (Ko ee i hn))|(exact congrArg (fun z=>some (some (1,some (1,[AV.own kMk (0+1) 3 z 0])))) hlen.symm)|(show _=some (some (1,some (1,[aj (dZ (ee.take i):Nat)])));rw[H];rfl)) ?_)
   | some q =>
    obtain⟨b,m0⟩:=q
    have hm0:=hQ2 b m0 rfl
    by_cases hlt:(dZ (ee.take n):Int)<m0
    ·rw[mh (t:=⟨.own g ee n,G,some (b,m0)⟩) (decide_eq_true hlt)]
     refine bv ao { l:=0,f:=22,rd:=true} mixed rfl rfl rfl (by kernel_rfl) ?_
     conv=>whnf
     refine And.intro rfl ?_
     conv=>whnf
     repeat(any_goals(first|exact ab|(refine ap ?_ ?_<;>intro _<;>first|exact aq|conv=>whnf)|((first|refine ac ?_|refine bi ?_ ?_|intro _)<;>conv=>whnf)))
     refine aO ao { l:=0,f:=22,rd:=true} mixed (fun u:MSt=>[(23,aj u.i),(7,aj u.m)]) (fun _=>[]) (fun _=>[]) (fun u=>u.i≤n∧dZ (ee.take n)=u.m+dZ ((ee.take n).drop u.i)∧u.m≤u.i) (fun u=>n-u.i) (⟨0,0⟩:MSt) (by kernel_rfl)
      ⟨Nat.zero_le _,(Nat.zero_add _).symm,Nat.le_refl _⟩ ?_
     conv=>whnf
     refine⟨⟨ai rfl (ai rfl trivial),trivial,trivial⟩,?_⟩
     rintro u ⟨hi,H,hm⟩
     generalize u.i=i at *
     generalize u.m=m at *
     clear u
     by_cases hil:i<n
     ·obtain⟨x,hx,hd⟩:=ay (l:=ee.take n) (i:=i) (by omega)
      have hx':ee[i]?=some x:=by rw[List.getElem?_take,if_pos hil]at hx;exact hx
      rw[hd,nX]at H
      by_cases q:x.says=2
      ·rw[if_pos q]at H
       conv=>whnf
       repeat(any_goals(first|exact ab|(refine ap ?_ ?_<;>intro _<;>first|exact aq|conv=>whnf)|((first|refine ae hx' rfl ?_|refine ac ?_|refine bi ?_ ?_|intro _)<;>conv=>whnf)))
       (refine⟨⟨i+1,m+1⟩,⟨by show i+1≤_;omega,by show dZ _=m+1+dZ ((ee.take n).drop (i+1));omega,by show m+1≤i+1;omega⟩,(by show _-(i+1)<_-i;omega),?_⟩;(conv=>whnf);refine⟨?_,?_,?_⟩<;>repeat(first|exact trivial|refine sc rfl ?_|refine kn ?_|refine kc rfl ?_|refine sc (by rfl) ?_|refine kc (by rfl) ?_))
      ·rw[if_neg q]at H
       conv=>whnf
       repeat(any_goals(first|exact ab|(refine ap ?_ ?_<;>intro _<;>first|exact aq|conv=>whnf)|((first|refine ae hx' rfl ?_|refine ac ?_|refine bi ?_ ?_|intro _)<;>conv=>whnf)))
       (refine⟨⟨i+1,m⟩,⟨by show i+1≤_;omega,by show dZ _=m+dZ ((ee.take n).drop (i+1));omega,by show m≤i+1;omega⟩,(by show _-(i+1)<_-i;omega),?_⟩;(conv=>whnf);refine⟨?_,?_,?_⟩<;>repeat(first|exact trivial|refine sc rfl ?_|refine kn ?_|refine kc rfl ?_|refine sc (by rfl) ?_|refine kc (by rfl) ?_))
     ·have hin:i=n:=by omega
      subst hin
      rw[List.drop_of_length_le (by omega),show dZ []=0 from rfl,Nat.add_zero]at H
      rw[H]at hlt
      conv=>whnf
      repeat(any_goals(first|exact ab|(refine ap ?_ ?_<;>intro _<;>first|exact aq|conv=>whnf)|((first|refine ac ?_|refine bi ?_ ?_|intro _)<;>conv=>whnf)))
      all_goals(try(exfalso;rename_i h;first|exact h hlt|exact hlt h|exact absurd (show m0<0 from h) (by omega)))
      all_goals repeat(first|exact trivial|refine And.intro rfl ?_|refine kc rfl ?_|refine kc (by first|(exact congrArg (fun z=>some (some (G+1,some (3,z)))) (Ko ee i hn))|(exact congrArg (fun z=>some (some (1,some (1,[AV.own kMk (G+1) 3 z 0])))) hlen.symm)|(show _=some (some (1,some (1,[aj (dZ (ee.take i):Nat)])));rw[H];rfl)) ?_)
    ·rw[DJ (t:=⟨.own g ee n,G,some (b,m0)⟩) rfl hlt]
     refine bv ao { l:=0,f:=22,rd:=true} mixed rfl rfl rfl (by kernel_rfl) ?_
     conv=>whnf
     refine And.intro rfl ?_
     conv=>whnf
     repeat(any_goals(first|exact ab|(refine ap ?_ ?_<;>intro _<;>first|exact aq|conv=>whnf)|((first|refine ac ?_|refine bi ?_ ?_|intro _)<;>conv=>whnf)))
     refine aO ao { l:=0,f:=22,rd:=true} mixed (fun u:MSt=>[(23,aj u.i),(7,aj u.m)]) (fun _=>[]) (fun _=>[]) (fun u=>u.i≤n∧dZ (ee.take n)=u.m+dZ ((ee.take n).drop u.i)∧u.m≤u.i) (fun u=>n-u.i) (⟨0,0⟩:MSt) (by kernel_rfl)
      ⟨Nat.zero_le _,(Nat.zero_add _).symm,Nat.le_refl _⟩ ?_
     conv=>whnf
     refine⟨⟨ai rfl (ai rfl trivial),trivial,trivial⟩,?_⟩
     rintro u ⟨hi,H,hm⟩
     generalize u.i=i at *
     generalize u.m=m at *
     clear u
     by_cases hil:i<n
     ·obtain⟨x,hx,hd⟩:=ay (l:=ee.take n) (i:=i) (by omega)
      have hx':ee[i]?=some x:=by rw[List.getElem?_take,if_pos hil]at hx;exact hx
      rw[hd,nX]at H
      by_cases q:x.says=2
      ·rw[if_pos q]at H
       conv=>whnf
       repeat(any_goals(first|exact ab|(refine ap ?_ ?_<;>intro _<;>first|exact aq|conv=>whnf)|((first|refine ae hx' rfl ?_|refine ac ?_|refine bi ?_ ?_|intro _)<;>conv=>whnf)))
       (refine⟨⟨i+1,m+1⟩,⟨by show i+1≤_;omega,by show dZ _=m+1+dZ ((ee.take n).drop (i+1));omega,by show m+1≤i+1;omega⟩,(by show _-(i+1)<_-i;omega),?_⟩;(conv=>whnf);refine⟨?_,?_,?_⟩<;>repeat(first|exact trivial|refine sc rfl ?_|refine kn ?_|refine kc rfl ?_|refine sc (by rfl) ?_|refine kc (by rfl) ?_))
      ·rw[if_neg q]at H
       conv=>whnf
       repeat(any_goals(first|exact ab|(refine ap ?_ ?_<;>intro _<;>first|exact aq|conv=>whnf)|((first|refine ae hx' rfl ?_|refine ac ?_|refine bi ?_ ?_|intro _)<;>conv=>whnf)))
       (refine⟨⟨i+1,m⟩,⟨by show i+1≤_;omega,by show dZ _=m+dZ ((ee.take n).drop (i+1));omega,by show m≤i+1;omega⟩,(by show _-(i+1)<_-i;omega),?_⟩;(conv=>whnf);refine⟨?_,?_,?_⟩<;>repeat(first|exact trivial|refine sc rfl ?_|refine kn ?_|refine kc rfl ?_|refine sc (by rfl) ?_|refine kc (by rfl) ?_))
     ·have hin:i=n:=by omega
      subst hin
      rw[List.drop_of_length_le (by omega),show dZ []=0 from rfl,Nat.add_zero]at H
      rw[H]at hlt
      conv=>whnf
      repeat(any_goals(first|exact ab|(refine ap ?_ ?_<;>intro _<;>first|exact aq|conv=>whnf)|((first|refine ac ?_|refine bi ?_ ?_|intro _)<;>conv=>whnf)))
      all_goals(try(exfalso;rename_i h;first|exact h hlt|exact hlt h|exact absurd (show m0<0 from h) (by omega)))
      all_goals repeat(first|exact trivial|refine And.intro rfl ?_|refine kc rfl ?_|refine kc (by rfl) ?_)
 ·conv=>whnf
  repeat(refine ah (az _ _) ?_<;>(conv=>whnf))
  repeat(any_goals(first|exact ab|(refine ap ?_ ?_<;>intro _<;>first|exact aq|conv=>whnf)|((first|refine ac ?_|refine bi ?_ ?_|intro _)<;>conv=>whnf)))
  refine ah (bL b b.length rfl) ?_
  conv=>whnf
  (refine⟨⟨?_⟩,trivial⟩;rfl)
theorem AI(s:Bill)(hr:s.small):PureA Tryz.prog 22 [aI s] (Hf s.bestR):=by
 unfold Bill.bestR Hf
 by_cases hc:s.check.2.2=0
 ·rw[if_neg (fun h=>h hc)]
  obtain⟨b,hb,_⟩:=r9 (Bill.good hc)
  rw[hb]
  exact Hh s hr hc b hb
 ·rw[if_pos hc]
  exact(Hg s hr _ rfl hc).wk (Wk.tuple (.cons (Wk.nil 3) (WkL.refl _)))
end Go.Proofs.YtgncapdjheghfaaGreatDoor
namespace Go.Proofs.YtgncapdjheghfaaGreatDoor
open Go.Am Go.Proofs Go
theorem Li(s:Bill)(hg:s.Good)(c:List Ent)(hc:∀x∈c,s.OkE x)(h6:c.length≤6)(i j:Nat)(hij:i≤j)(hj:j≤c.length) :
  PureA Tryz.prog 104 [aI s,aJ c,aj i,aj j] (aj (s.linesOn c i (j-i))):=by
 have hcl:(c.map bB).length=c.length:=List.length_map ..
 have hr:∀n:Nat,i+n≤c.length→0≤s.linesOn c i n∧s.linesOn c i n≤14 * (n:Int):=by
  intro n
  induction n with
  | zero=>intro _;exact⟨Int.le_refl _,by simp[Bill.linesOn]⟩
  | succ n ih =>
   intro h
   have:=ih (by omega)
   have:=dq hg hc (i:=i+n) (by omega) (n==0)
   simp only[Bill.linesOn]
   omega
 have hs:∀n x,c[i+n]?=some x→s.linesOn c i (n+1)=s.linesOn c i n+s.heading c (i+n) (n==0)+s.height x:=by
  intro n x hx
  simp only[Bill.linesOn,Bill.lineOf,hx]
  omega
 have hh:=fun k (hk:k<c.length) t=>mE s c (fun x hx=>(hc x hx).inn) h6 k hk t
 have hhr:=eE s c
 have hht:=fun x (hx:x∈c)=>wS s hg x (hc x hx).inn
 have hhtr:=fun x (hx:x∈c)=>lv hg (hc x hx)
 have h0:s.linesOn c i 0=0:=rfl
 generalize s.linesOn c i=F at *
 generalize s.heading c=H at *
 generalize s.height=T at *
 unfold aI at hh hht
 clear hg hc
 refine ag ao { l:=0,f:=104} mixed Ey Tryz.func104 (by kernel_rfl) ?_
 conv=>whnf
 refine aO ao { l:=0,f:=104} mixed (fun n:Nat=>[(10,aj ((i+n:Nat):Int)),(9,aj (F n))]) (fun _=>[]) (fun _=>[]) (fun n=>i+n≤j) (fun n=>j-(i+n)) 0 (by kernel_rfl)
  (by omega) ?_
 conv=>whnf
 refine⟨⟨ai rfl (ai (by rw[h0];rfl) trivial),trivial,trivial⟩,?_⟩
 intro n hn
 by_cases hlt:i+n<j
 ·obtain⟨x,hx,_⟩:=ay (l:=c) (i:=i+n) (by omega)
  have hsn:=hs n x hx
  obtain⟨f1,f2⟩:=hr n (by omega)
  obtain⟨g1,g2⟩:=hhr (i+n) (n==0)
  obtain⟨k1,k2⟩:=hhtr x (List.mem_of_getElem? hx)
  have h1:=hh (i+n) (by omega) (n==0)
  have h2:=hht x (List.mem_of_getElem? hx)
  have e1:(n==0)=decide (((i+n:Nat):Int)=(i:Int)):=by rw[Bool.eq_iff_iff];simp;omega
  rw[e1]at h1 g1 g2 hsn
  generalize H (i+n) (decide (((i+n:Nat):Int)=(i:Int)))=hv at *
  conv=>whnf
  repeat(any_goals(first|exact ab|(refine ap ?_ ?_<;>intro _<;>first|exact aq|conv=>whnf)|((first|refine aa h1 ?_|refine af h1 rfl ?_|refine aa h2 ?_|refine af h2 rfl ?_|refine ae hx rfl ?_|refine ac ?_|refine bi ?_ ?_|intro _)<;>conv=>whnf)))
  (refine⟨n+1,(by omega),(by omega),?_⟩;(conv=>whnf);refine⟨?_,?_,?_⟩<;>repeat(first|exact trivial|refine sc rfl ?_|refine kn ?_|refine kc rfl ?_|refine sc (by first|rfl|(rw[hsn];rfl)) ?_|refine kc (by first|rfl|(rw[hsn];rfl)) ?_))
 ·have hin:n=j-i:=by omega
  subst hin
  conv=>whnf
  repeat(any_goals(first|exact ab|(refine ap ?_ ?_<;>intro _<;>first|exact aq|conv=>whnf)|((first|refine ac ?_|refine bi ?_ ?_|intro _)<;>conv=>whnf)))
  (refine⟨⟨?_⟩,trivial⟩;rfl)
theorem Kq(c:List Ent)(p:List Int)(i:Nat)(hl:p.length≤1048576)(hi:i<p.length):PureA Tryz.prog 105 [aJ c,aD p,aj i] (aj (match p[i+1]? with|none=>(c.length:Int)|some y=>y)):=by
 have hpl:(p.map aj).length=p.length:=List.length_map ..
 cases hy:p[i+1]? with
 | none =>
  have:=List.getElem?_eq_none_iff.1 hy
  refine ag ao { l:=0,f:=105} mixed xp Tryz.func105 (by kernel_rfl) ?_
  conv=>whnf
  repeat(any_goals(first|exact ab|(refine ap ?_ ?_<;>intro _<;>first|exact aq|conv=>whnf)|((first|refine ac ?_|refine bi ?_ ?_|intro _)<;>conv=>whnf)))
  (refine⟨⟨?_⟩,trivial⟩;exact congrArg (fun n:Nat=>aj n) (List.length_map ..).symm)
 | some y =>
  have:=(List.getElem?_eq_some_iff.1 hy).1
  refine ag ao { l:=0,f:=105} mixed xp Tryz.func105 (by kernel_rfl) ?_
  conv=>whnf
  repeat(any_goals(first|exact ab|(refine ap ?_ ?_<;>intro _<;>first|exact aq|conv=>whnf)|((first|refine ae hy (by omega) ?_|refine ac ?_|refine bi ?_ ?_|intro _)<;>conv=>whnf)))
  (refine⟨⟨?_⟩,trivial⟩;rfl)
end Go.Proofs.YtgncapdjheghfaaGreatDoor
namespace Go.Proofs.YtgncapdjheghfaaGreatDoor
open Go.Am Go.Proofs Go
structure PgOk (n:Nat) (p:List Int):Prop where
 at':∀(i:Nat) x,p[i]?=some x→0≤x∧x<n
 up:∀(i:Nat) x y,p[i]?=some x→p[i+1]?=some y→x<y
def ja(acc:Int):Option Int→Int×Bool
 | none=>(0,false)
 | some w=>(acc+w,true)
theorem pf{acc a:Int}{o:Option Int}:ja acc (match o with|none=>none|some w=>some (a+w))=ja (acc+a) o:=by
 cases o with
 | none=>rfl
 | some w=>simp only[ja,Int.add_assoc]
set_option maxHeartbeats 4000000 in
theorem xg(s:Bill)(hg:s.Good)(c:List Ent)(hok:∀x∈c,s.OkE x)(h6:c.length≤6)(p:List Int)(hp:p.length≤1048576)(hpg:PgOk c.length p) :
  PureA Tryz.prog 75 [aI s,aJ c,aD p] (.tuple [aj (ja 0 (s.whiteI c p)).1,aB (ja 0 (s.whiteI c p)).2]):=by
 have hus:=fun i j hij hj=>Li s hg c hok h6 i j hij hj
 have hen:=fun i hi=>Kq c p i hp hi
 have hle:=fun i j (hij:i≤j) (hj:j≤c.length)=>nT hg hok hij hj
 have hge:=fun i n (h:i+n≤c.length)=>BN hg hok n h
 have hld:∀i j,s.left c i j=s.lines-s.linesOn c i (j-i):=fun i j=>rfl
 have hcl:(c.map bB).length=c.length:=List.length_map ..
 have hpl:(p.map aj).length=p.length:=List.length_map ..
 have hwc:=fun x l m hm=>ph (s:=s) (c:=c) (x:=x) (l:=l) (m:=m) hm
 have hH:ja 0 (s.whiteI c p)=ja 0 (s.whiteI c (p.drop 0)):=rfl
 have hw0:s.whiteI c []=some 0:=rfl
 have hln:=hg.lines
 generalize ja 0 (s.whiteI c p)=R at *
 generalize s.whiteI c=W at *
 generalize s.left c=L at *
 generalize s.linesOn c=U at *
 unfold aI at hus
 clear hok hg
 refine ag ao { l:=0,f:=75} mixed HY Tryz.func75 (by kernel_rfl) ?_
 conv=>whnf
 refine aO ao { l:=0,f:=75} mixed (fun u:FState=>[(9,aj u.i),(8,aj u.acc)]) (fun _=>[]) (fun _=>[]) (fun u=>u.i≤p.length∧(0≤u.acc∧u.acc≤900 * (u.i:Int))∧R=ja u.acc (W (p.drop u.i))) (fun u=>p.length-u.i) (⟨0,0⟩:FState) (by kernel_rfl)
  ⟨Nat.zero_le _,⟨by decide,by decide⟩,hH⟩ ?_
 conv=>whnf
 refine⟨⟨ai rfl (ai rfl trivial),trivial,trivial⟩,?_⟩
 clear hH
 rintro u ⟨hi,⟨ha1,ha2⟩,H⟩
 generalize u.i=i at *
 generalize u.acc=acc at *
 clear u
 by_cases hlt:i<p.length
 ·obtain⟨x,hx,hd⟩:=ay (l:=p) (i:=i) hlt
  rw[hd]at H
  obtain⟨hx0,hxl⟩:=hpg.at' i x hx
  obtain⟨n,rfl⟩:=Int.eq_ofNat_of_zero_le hx0
  have hen':=hen i hlt
  by_cases hlast:i+1<p.length
  ·obtain⟨y2,hy2⟩:∃y,p[i+1]?=some y:=⟨_,List.getElem?_eq_getElem hlast⟩
   obtain⟨hy0,hyl⟩:=hpg.at' (i+1) y2 hy2
   have hyu:=hpg.up i _ y2 hx hy2
   rw[hy2]at hen'
   simp only at hen'
   obtain⟨m,rfl⟩:=Int.eq_ofNat_of_zero_le hy0
   have hem:bV c ((p.drop (i+1)).map Int.toNat)=m:=by
    obtain⟨z,hz1,hz2⟩:=ay (l:=p) (i:=i+1) hlast
    rw[hy2]at hz1;cases hz1
    rw[hz2];rfl
   rw[hwc _ _ m hem,Int.toNat_natCast,if_pos (show m<c.length by omega)]at H
   have hus':=hus n m (by omega) (by omega)
   have hle':=hle n m (by omega) (by omega)
   have hge':=hge n (m-n) (by omega)
   rw[show n+(m-n)=m by omega]at hge'
   have hld':=hld n m
   generalize U n (m-n)=us at *
   generalize L n m=x0 at *
   clear hus hle hge hld hwc hem hd hpg hen
   by_cases q:x0<0
   ·rw[if_pos q]at H
    conv=>whnf
    repeat(any_goals(first|exact ab|(refine ap ?_ ?_<;>intro _<;>first|exact aq|conv=>whnf)|((first|refine ae hx rfl ?_|refine aa hen' ?_|refine af hen' rfl ?_|refine aa hus' ?_|refine af hus' rfl ?_|refine ac ?_|refine bi ?_ ?_|intro _)<;>conv=>whnf)))
    (refine⟨⟨?_⟩,trivial⟩;rw[H];rfl)
   ·rw[if_neg q]at H
    have H:=H.trans (pf (acc:=acc) (a:=x0 * x0) (o:=W (p.drop (i+1))))
    have hq:=KY (by omega:0≤x0) hle'
    rw[hld']at H hq q hle'
    conv=>whnf
    repeat(any_goals(first|exact ab|(refine ap ?_ ?_<;>intro _<;>first|exact aq|conv=>whnf)|((first|refine ae hx rfl ?_|refine aa hen' ?_|refine af hen' rfl ?_|refine aa hus' ?_|refine af hus' rfl ?_|refine ac ?_|refine bi ?_ ?_|intro _)<;>conv=>whnf)))
    all_goals(refine⟨⟨i+1,acc+(s.lines-us) * (s.lines-us)⟩,⟨by show i+1≤_;omega,⟨by show 0≤acc+(s.lines-us) * (s.lines-us);omega,by show acc+(s.lines-us) * (s.lines-us)≤900 * ((i+1:Nat):Int);omega⟩,H⟩,(by show _-(i+1)<_-i;omega),?_⟩;(conv=>whnf);refine⟨?_,?_,?_⟩<;>repeat(first|exact trivial|refine sc rfl ?_|refine kn ?_|refine kc rfl ?_))
  ·have hil:i+1=p.length:=by omega
   have hem:bV c ((p.drop (i+1)).map Int.toNat)=c.length:=by rw[hil,List.drop_length];rfl
   rw[hwc _ _ c.length hem,Int.toNat_natCast,if_neg (Nat.lt_irrefl c.length)]at H
   rw[List.getElem?_eq_none (by omega)]at hen'
   simp only at hen'
   have hus':=hus n c.length (by omega) (Nat.le_refl _)
   have hle':=hle n c.length (by omega) (Nat.le_refl _)
   have hge':=hge n (c.length-n) (by omega)
   rw[show n+(c.length-n)=c.length by omega]at hge'
   have hld':=hld n c.length
   generalize U n (c.length-n)=us at *
   generalize L n c.length=x0 at *
   clear hus hle hge hld hwc hem hd hpg hen
   by_cases q:x0<0
   ·rw[if_pos q]at H
    conv=>whnf
    repeat(any_goals(first|exact ab|(refine ap ?_ ?_<;>intro _<;>first|exact aq|conv=>whnf)|((first|refine ae hx rfl ?_|refine aa hen' ?_|refine af hen' rfl ?_|refine aa hus' ?_|refine af hus' rfl ?_|refine ac ?_|refine bi ?_ ?_|intro _)<;>conv=>whnf)))
    (refine⟨⟨?_⟩,trivial⟩;rw[H];rfl)
   ·rw[if_neg q]at H
    have H:=H.trans (pf (acc:=acc) (a:=0) (o:=W (p.drop (i+1))))
    rw[Int.add_zero]at H
    conv=>whnf
    repeat(any_goals(first|exact ab|(refine ap ?_ ?_<;>intro _<;>first|exact aq|conv=>whnf)|((first|refine ae hx rfl ?_|refine aa hen' ?_|refine af hen' rfl ?_|refine aa hus' ?_|refine af hus' rfl ?_|refine ac ?_|refine bi ?_ ?_|intro _)<;>conv=>whnf)))
    all_goals(refine⟨⟨i+1,acc⟩,⟨by show i+1≤_;omega,⟨ha1,by show acc≤900 * ((i+1:Nat):Int);omega⟩,H⟩,(by show _-(i+1)<_-i;omega),?_⟩;(conv=>whnf);refine⟨?_,?_,?_⟩<;>repeat(first|exact trivial|refine sc rfl ?_|refine kn ?_|refine kc rfl ?_))
 ·have hin:i=p.length:=by omega
  subst hin
  rw[List.drop_length,hw0]at H
  simp only[ja,Int.add_zero]at H
  conv=>whnf
  repeat(any_goals(first|exact ab|(refine ap ?_ ?_<;>intro _<;>first|exact aq|conv=>whnf)|((first|refine ac ?_|refine bi ?_ ?_|intro _)<;>conv=>whnf)))
  (refine⟨⟨?_⟩,trivial⟩;rw[H];rfl)
def ic(n:Nat):Option Int→List Int→Bool
 | _,[]=>false
 | none,x::l=>(!bU x 0 ((n:Int)-1)||decide (x≠0))||ic n (some x) l
 | some y,x::l=>(!bU x 0 ((n:Int)-1)||decide (x≤y))||ic n (some x) l
theorem oI{n:Nat}:∀{l:List Int} {y:Int},0≤y→ic n (some y) l=nu n (some y) l
 | [],y,_=>rfl
 | x::l,y,hy=>by
  unfold ic nu tm bU
  by_cases q:x≤y
  ·simp[q]
  ·rw[oI (by omega)]
   congr 1
   rw[Bool.eq_iff_iff]
   simp
   omega
theorem wP(n:Nat)(l:List Int):ic n none l=(fQ l||nu n none l):=by
 cases l with
 | nil=>rfl
 | cons x l =>
  unfold ic nu tm fQ bU
  by_cases q:x=0
  ·subst q
   rw[oI (Int.le_refl _)]
   simp
   congr 1
   rw[Bool.eq_iff_iff]
   simp
   omega
  ·simp[q]
theorem zN(c:List Ent)(hc:c.length≤1048576)(p:List Int)(hp:p.length≤1048576):PureA Tryz.prog 74 [aJ c,aD p] (aB (!dG c.length p)):=by
 have hcl:(c.map bB).length=c.length:=List.length_map ..
 have hpl:(p.map aj).length=p.length:=List.length_map ..
 obtain⟨R,hR⟩:∃R,(!dG c.length p)=R:=⟨_,rfl⟩
 rw[hR]
 unfold dG at hR
 rw[←wP]at hR
 by_cases q:c.length=0∨p.length=0
 ·have hE:R=decide (((c.map bB).length:Int)=((p.map aj).length:Int)):=by
   rw[hcl,hpl, ←hR]
   rcases q with q|q
   ·by_cases q2:p.length=0
    ·have:p=[]:=List.length_eq_zero_iff.1 q2
     subst this
     simp[q,ic]
    ·rw[decide_eq_true q,decide_eq_false q2,decide_eq_false (by omega)];simp
   ·have:p=[]:=List.length_eq_zero_iff.1 q
    subst this
    by_cases q2:c.length=0
    ·simp[q2,ic]
    ·rw[decide_eq_false q2,show decide ((c.length:Int)=(([]:List Int).length:Int))=false from decide_eq_false (by rw[List.length_nil];omega)]
     have e:ic c.length none []=false:=rfl
     rw[e]
     rfl
  subst hE
  by_cases q2:c.length=0
  ·refine ag ao { l:=0,f:=74} mixed uZ Tryz.func74 (by kernel_rfl) ?_
   conv=>whnf
   repeat(any_goals(first|exact ab|(refine ap ?_ ?_<;>intro _<;>first|exact aq|conv=>whnf)|((first|refine ac ?_|refine bi ?_ ?_|intro _)<;>conv=>whnf)))
   (refine⟨⟨?_⟩,trivial⟩;rfl)
  ·have q:p.length=0:=q.resolve_left q2
   refine ag ao { l:=0,f:=74} mixed uZ Tryz.func74 (by kernel_rfl) ?_
   conv=>whnf
   repeat(any_goals(first|exact ab|(refine ap ?_ ?_<;>intro _<;>first|exact aq|conv=>whnf)|((first|refine ac ?_|refine bi ?_ ?_|intro _)<;>conv=>whnf)))
   (refine⟨⟨?_⟩,trivial⟩;rfl)
 ·rw[decide_eq_false (fun h=>q (.inl h)),decide_eq_false (fun h=>q (.inr h))]at hR
  have hR:(!ic c.length none p)=R:=hR
  have hw:=fun x=>eu x 0 ((c.length:Int)-1)
  rw[←hcl]at hw
  rw[←hcl]at hR
  generalize hF:ic (c.map bB).length=F at *
  have hF0:∀o,F o []=false:=by intro o;rw[←hF];cases o<;>rfl
  have hFn:∀x l,F none (x::l)=((!bU x 0 (((c.map bB).length:Int)-1)||decide (x≠0))||F (some x) l):=by intro x l;rw[←hF];rfl
  have hFs:∀x y l,F (some y) (x::l)=((!bU x 0 (((c.map bB).length:Int)-1)||decide (x≤y))||F (some x) l):=by intro x y l;rw[←hF];rfl
  clear hF
  refine ag ao { l:=0,f:=74} mixed uZ Tryz.func74 (by kernel_rfl) ?_
  conv=>whnf
  repeat(any_goals(first|exact ab|(refine ap ?_ ?_<;>intro _<;>first|exact aq|conv=>whnf)|((first|refine ac ?_|refine bi ?_ ?_|intro _)<;>conv=>whnf)))
  refine aO ao { l:=0,f:=74} mixed (fun i:Nat=>[(5,aj i)]) (fun _=>[]) (fun _=>[]) (fun i=>i≤p.length∧R = !F (mB p i) (p.drop i)) (fun i=>p.length-i) 0 (by kernel_rfl)
   ⟨Nat.zero_le _,hR.symm⟩ ?_
  conv=>whnf
  refine⟨⟨ai rfl trivial,trivial,trivial⟩,?_⟩
  clear hR
  intro i ⟨hi,H⟩
  by_cases hlt:i<p.length
  ·obtain⟨x,hx,hd⟩:=ay (l:=p) (i:=i) hlt
   rw[hd]at H
   have hwx:=hw x
   have hpn:mB p (i+1)=some x:=hx
   cases i with
   | zero =>
    have H:R = !F none (x::p.drop (0+1)):=H
    rw[hFn]at H
    cases hv:bU x 0 (((c.map bB).length:Int)-1)with
    | false =>
     rw[hv]at hwx H
     simp only[Bool.not_false,Bool.true_or,Bool.not_true]at H
     subst H
     conv=>whnf
     repeat(any_goals(first|exact ab|(refine ap ?_ ?_<;>intro _<;>first|exact aq|conv=>whnf)|((first|refine ae hx rfl ?_|refine aa hwx ?_|refine af hwx rfl ?_|refine ac ?_|refine bi ?_ ?_|intro _)<;>conv=>whnf)))
     all_goals(refine⟨⟨?_⟩,trivial⟩;rfl)
    | true =>
     rw[hv]at hwx H
     rw[Bool.not_true,Bool.false_or]at H
     by_cases q2:x=0
     ·rw[decide_eq_false (by simpa using q2),Bool.false_or, ←hpn]at H
      conv=>whnf
      repeat(any_goals(first|exact ab|(refine ap ?_ ?_<;>intro _<;>first|exact aq|conv=>whnf)|((first|refine ae hx rfl ?_|refine aa hwx ?_|refine af hwx rfl ?_|refine ac ?_|refine bi ?_ ?_|intro _)<;>conv=>whnf)))
      all_goals(refine⟨0+1,⟨by omega,H⟩,by omega,?_⟩;(conv=>whnf);refine⟨?_,?_,?_⟩<;>repeat(first|exact trivial|refine sc rfl ?_|refine kn ?_|refine kc rfl ?_))
     ·rw[decide_eq_true q2,Bool.true_or]at H
      have H:R=false:=H
      subst H
      conv=>whnf
      repeat(any_goals(first|exact ab|(refine ap ?_ ?_<;>intro _<;>first|exact aq|conv=>whnf)|((first|refine ae hx rfl ?_|refine aa hwx ?_|refine af hwx rfl ?_|refine ac ?_|refine bi ?_ ?_|intro _)<;>conv=>whnf)))
      all_goals(refine⟨⟨?_⟩,trivial⟩;rfl)
   | succ k =>
    obtain⟨y,hy⟩:∃y,p[k]?=some y:=⟨_,List.getElem?_eq_getElem (by omega)⟩
    have e1:mB p (k+1)=some y:=hy
    rw[e1,hFs]at H
    cases hv:bU x 0 (((c.map bB).length:Int)-1)with
    | false =>
     rw[hv]at hwx H
     simp only[Bool.not_false,Bool.true_or,Bool.not_true]at H
     subst H
     conv=>whnf
     repeat(any_goals(first|exact ab|(refine ap ?_ ?_<;>intro _<;>first|exact aq|conv=>whnf)|((first|refine ae hx rfl ?_|refine aa hwx ?_|refine af hwx rfl ?_|refine ac ?_|refine bi ?_ ?_|intro _)<;>conv=>whnf)))
     all_goals(refine⟨⟨?_⟩,trivial⟩;rfl)
    | true =>
     rw[hv]at hwx H
     rw[Bool.not_true,Bool.false_or]at H
     by_cases q2:x≤y
     ·rw[decide_eq_true q2,Bool.true_or]at H
      have H:R=false:=H
      subst H
      conv=>whnf
      repeat(any_goals(first|exact ab|(refine ap ?_ ?_<;>intro _<;>first|exact aq|conv=>whnf)|((first|refine ae hx rfl ?_|refine ae hy (by omega) ?_|refine aa hwx ?_|refine af hwx rfl ?_|refine ac ?_|refine bi ?_ ?_|intro _)<;>conv=>whnf)))
      all_goals(refine⟨⟨?_⟩,trivial⟩;rfl)
     ·rw[decide_eq_false q2,Bool.false_or, ←hpn]at H
      conv=>whnf
      repeat(any_goals(first|exact ab|(refine ap ?_ ?_<;>intro _<;>first|exact aq|conv=>whnf)|((first|refine ae hx rfl ?_|refine ae hy (by omega) ?_|refine aa hwx ?_|refine af hwx rfl ?_|refine ac ?_|refine bi ?_ ?_|intro _)<;>conv=>whnf)))
      all_goals(refine⟨k+1+1,⟨by omega,H⟩,by omega,?_⟩;(conv=>whnf);refine⟨?_,?_,?_⟩<;>repeat(first|exact trivial|refine sc rfl ?_|refine kn ?_|refine kc rfl ?_))
  ·have hin:i=p.length:=by omega
   subst hin
   rw[List.drop_length,hF0]at H
   have H:R=true:=H
   subst H
   conv=>whnf
   repeat(any_goals(first|exact ab|(refine ap ?_ ?_<;>intro _<;>first|exact aq|conv=>whnf)|((first|refine ac ?_|refine bi ?_ ?_|intro _)<;>conv=>whnf)))
   (refine⟨⟨?_⟩,trivial⟩;rfl)
theorem vY{n:Nat}{p:List Int}(h:dG n p=false):PgOk n p:=by
 unfold dG at h
 simp only[Bool.or_eq_false_iff]at h
 obtain⟨_,h2,h3⟩:=h
 exact⟨fun i x hx=>⟨qH h3 h2 i x hx,uN h3 i x hx⟩,fun i x y hx hy=>qI h3 i x y hx hy⟩
theorem CP(s:Bill)(hr:s.small)(c:List Ent)(hl:c.length≤1048576)(p:List Int)(hp:p.length≤1048576) :
  PureA Tryz.prog 26 [aI s,aJ c,aD p] (.tuple [aj (s.fitsR c p).1,aj (s.fitsR c p).2]):=by
 have hk:=iL s hr c
 have hpg:=zN c hl p hp
 unfold Bill.fitsR
 obtain⟨e,he⟩:∃e,bZ s c=e:=⟨_,rfl⟩
 rw[he]at hk ⊢
 unfold aI at hk
 by_cases h0:e=0
 ·rw[if_neg (fun h=>h h0)]
  subst h0
  cases hb:dG c.length p with
  | true =>
   rw[hb]at hpg
   rw[if_pos rfl]
   refine ag ao { l:=0,f:=26} mixed qR Tryz.func26 (by kernel_rfl) ?_
   conv=>whnf
   repeat(any_goals(first|exact ab|(refine ap ?_ ?_<;>intro _<;>first|exact aq|conv=>whnf)|((first|refine aa hk ?_|refine af hk rfl ?_|refine aa hpg ?_|refine af hpg rfl ?_|refine ac ?_|refine bi ?_ ?_|intro _)<;>conv=>whnf)))
   (refine⟨⟨?_⟩,trivial⟩;rfl)
  | false =>
   rw[hb]at hpg
   rw[if_neg (by simp)]
   obtain⟨hg,hok,h6⟩:=bQ he
   have hw:=xg s hg c hok h6 p hp (vY hb)
   unfold aI at hw
   have hW:s.whiteL c (p.map Int.toNat)=s.whiteI c p:=rfl
   clear hg hok
   cases hv:s.whiteI c p with
   | none =>
    rw[hv]at hw
    have hw:PureA Tryz.prog 75 _ (.tuple [aj 0,aB false]):=hw
    refine ag ao { l:=0,f:=26} mixed qR Tryz.func26 (by kernel_rfl) ?_
    conv=>whnf
    repeat(any_goals(first|exact ab|(refine ap ?_ ?_<;>intro _<;>first|exact aq|conv=>whnf)|((first|refine aa hk ?_|refine af hk rfl ?_|refine aa hpg ?_|refine af hpg rfl ?_|refine aa hw ?_|refine af hw rfl ?_|refine ac ?_|refine bi ?_ ?_|intro _)<;>conv=>whnf)))
    (refine⟨⟨?_⟩,trivial⟩;rfl)
   | some w =>
    rw[hv]at hw
    have hw:PureA Tryz.prog 75 _ (.tuple [aj (0+w),aB true]):=hw
    refine ag ao { l:=0,f:=26} mixed qR Tryz.func26 (by kernel_rfl) ?_
    conv=>whnf
    repeat(any_goals(first|exact ab|(refine ap ?_ ?_<;>intro _<;>first|exact aq|conv=>whnf)|((first|refine aa hk ?_|refine af hk rfl ?_|refine aa hpg ?_|refine af hpg rfl ?_|refine aa hw ?_|refine af hw rfl ?_|refine ac ?_|refine bi ?_ ?_|intro _)<;>conv=>whnf)))
    (refine⟨⟨?_⟩,trivial⟩;rfl)
 ·rw[if_pos h0]
  refine ag ao { l:=0,f:=26} mixed qR Tryz.func26 (by kernel_rfl) ?_
  conv=>whnf
  repeat(any_goals(first|exact ab|(refine ap ?_ ?_<;>intro _<;>first|exact aq|conv=>whnf)|((first|refine aa hk ?_|refine af hk rfl ?_|refine ac ?_|refine bi ?_ ?_|intro _)<;>conv=>whnf)))
  (refine⟨⟨?_⟩,trivial⟩;rfl)
end Go.Proofs.YtgncapdjheghfaaGreatDoor
namespace Go.Proofs.YtgncapdjheghfaaGreatDoor
open Go.Am Go.Proofs Go
def mm(l:List (List Ent)):AV:= .slice 1 (l.map aJ) .no
def pd(n a k b:Nat):List Ent:=((List.range k).flatMap fun(k:Nat)=>(List.range n).map fun(b:Nat)=>(⟨(k:Int),(a:Int),(b:Int)⟩:Ent))++(List.range b).map fun(b:Nat)=>⟨(k:Int),(a:Int),(b:Int)⟩
def mT(p:Ent→Bool)(g:Ent→List (List Ent))(n a k b:Nat):List (List Ent):=((pd n a k b).filter p).flatMap g
theorem zk(p:Ent→Bool)(g:Ent→List (List Ent))(n a k b:Nat):mT p g n a k (b+1)=if p ⟨k,a,b⟩=true then mT p g n a k b++g ⟨k,a,b⟩else mT p g n a k b:=by
 unfold mT pd
 rw[List.range_succ (n:=b),List.map_append, ←List.append_assoc,List.filter_append,List.flatMap_append]
 by_cases h:p ⟨k,a,b⟩=true
 ·rw[if_pos h];simp[h]
 ·rw[if_neg h];simp[h]
theorem Ct(p:Ent→Bool)(g:Ent→List (List Ent))(n a k:Nat):mT p g n a k n=mT p g n a (k+1) 0:=by
 unfold mT pd
 congr 2
 rw[List.range_succ,List.flatMap_append]
 simp
theorem tF(s:Bill)(p:Ent→Bool)(g:Ent→List (List Ent))(a:Nat):mT p g s.figs.length a 3 0=((s.tries a).filter p).flatMap g:=by
 unfold mT pd Bill.tries
 simp
theorem tG(p:Ent→Bool)(g:Ent→List (List Ent))(n a:Nat)(B:Nat)(hB:∀x,p x=true→(g x).length≤B)(k b:Nat):(mT p g n a k b).length≤(k * n+b) * B:=by
 unfold mT
 have key:∀l:List Ent,((l.filter p).flatMap g).length≤l.length * B:=by
  intro l
  induction l with
  | nil=>simp
  | cons x l ih =>
   rw[List.filter_cons,List.length_cons,Nat.succ_mul]
   split
   ·rename_i h
    have:=hB x h
    rw[List.flatMap_cons,List.length_append]
    omega
   ·omega
 refine Nat.le_trans (key _) (Nat.mul_le_mul_right _ ?_)
 unfold pd
 rw[List.length_append,List.length_map,List.length_range]
 have:((List.range k).flatMap fun(k:Nat)=>(List.range n).map fun(b:Nat)=>(⟨(k:Int),(a:Int),(b:Int)⟩:Ent)).length=k * n:=by
  induction k with
  | zero=>simp
  | succ k ih=>rw[List.range_succ,List.flatMap_append,List.length_append,ih,Nat.succ_mul];simp
 omega
theorem lF(s:Bill)(h6:s.figs.length≤6):∀(f:Nat) (c:List Ent) (a:Nat),(s.onN f c a).length≤18^f
 | 0,c,a=>by simp[Bill.onN]
 | f+1,c,a=>by
  unfold Bill.onN
  split
  ·have:=lF s h6 f c (a+1)
   rw[Nat.pow_succ]
   omega
  ·rw[←tF]
   have:=tG (s.onE c) (fun x=>s.onN f (c++[x]) (a+1)) s.figs.length a (18^f) (fun x _=>lF s h6 f _ _) 3 0
   refine Nat.le_trans this ?_
   rw[Nat.pow_succ,Nat.mul_comm]
   exact Nat.mul_le_mul_left _ (by omega)
theorem IZ:∀f,f≤6→18^f≤34012224:=by decide +kernel
set_option maxHeartbeats 4000000 in
theorem IU(s:Bill)(h6:s.figs.length≤6)(a:Nat)(c:List Ent)(ha:a<s.figs.length)(hc:c.length≤a)(L:List Int)(En:Ent→Bool)(H:Int→Bool)(N:Ent→List (List Ent))(O:Nat→Nat→List (List Ent))
  (hnm:PureA Tryz.prog 40 [aJ c] (aD L)) (hh1:PureA Tryz.prog 41 [aD L,aj a] (aB false)) (hso:PureA Tryz.prog 49 [.agg [aj s.lines,dW s.figs,aD s.truths],aD [(a:Int)]] (aB true))
  (hen:∀x,PureA Tryz.prog 97 [.agg [aj s.lines,dW s.figs,aD s.truths],bB x] (aB (En x))) (hh2:∀x,PureA Tryz.prog 41 [aD L,aj x] (aB (H x)))
  (hix:∀x,PureA Tryz.prog 101 [.agg [aj s.lines,dW s.figs,aD s.truths],.slice 3 ([]++c.map bB++[bB x]) .no,aj ((a:Int)+1)] (mm (N x)))
  (hgl:∀x,(N x).length≤34012224) (hOl:∀k b,k≤3→b≤6→(O k b).length≤816293376) (hO0:O 0 0=[]) (hOr:∀k,O k s.figs.length=O (k+1) 0)
  (hOs:∀k b:Nat,O k (b+1)=if(En ⟨k,a,b⟩&&(decide ((k:Int)≠1)|| !H (b:Int)))=true then O k b++N ⟨k,a,b⟩else O k b) :
  PureA Tryz.prog 101 [aI s,aJ c,aj a] (mm (O 3 0)):=by
 have hfl:(s.figs.map dS).length=s.figs.length:=List.length_map ..
 have hcl:(c.map bB).length=c.length:=List.length_map ..
 refine ag ao { l:=0,f:=101} mixed jQ Tryz.func101 (by kernel_rfl) ?_
 conv=>whnf
 repeat(any_goals(first|exact ab|(refine ap ?_ ?_<;>intro _<;>first|exact aq|conv=>whnf)|((first|refine aa hnm ?_|refine af hnm rfl ?_|refine aa hh1 ?_|refine af hh1 rfl ?_|refine aa hso ?_|refine af hso rfl ?_|refine ac ?_|refine bi ?_ ?_|intro _)<;>conv=>whnf)))
 refine fC 7 1 ⟨0,101,74⟩ ?_
 conv=>whnf
 refine aO ao { l:=0,f:=101} mixed (fun k:Nat=>[(8,aj k),(7,.slice 1 ((O k 0).map aJ) (.own ⟨0,101,74⟩ 1))]) (fun _=>[]) (fun k=>[(⟨0,101,74⟩,some (1,(O k 0).length))]) (fun k=>k≤3) (fun k=>3-k) 0 (by kernel_rfl)
  (Nat.zero_le _) ?_
 conv=>whnf
 refine⟨⟨ai rfl (ai (by rw[hO0];rfl) trivial),trivial,aL (by rw[hO0];rfl) trivial⟩,?_⟩
 intro k hk
 by_cases hk3:k<3
 ·conv=>whnf
  repeat(any_goals(first|exact ab|(refine ap ?_ ?_<;>intro _<;>first|exact aq|conv=>whnf)|((first|refine ac ?_|refine bi ?_ ?_|intro _)<;>conv=>whnf)))
  refine aO ao { l:=0,f:=101} mixed (fun b:Nat=>[(9,aj b),(7,.slice 1 ((O k b).map aJ) (.own ⟨0,101,74⟩ 1))]) (fun _=>[]) (fun b=>[(⟨0,101,74⟩,some (1,(O k b).length))]) (fun b=>b≤s.figs.length) (fun b=>s.figs.length-b) 0 (by kernel_rfl)
   (Nat.zero_le _) ?_
  conv=>whnf
  refine⟨⟨ai rfl (ai rfl trivial),trivial,aL rfl trivial⟩,?_⟩
  intro b hb
  have hol1:=hOl k b hk (by omega)
  have hml:((O k b).map aJ).length=(O k b).length:=List.length_map ..
  by_cases hlt:b<s.figs.length
  ·have hOb:=hOs k b
   have he:=hen ⟨k,a,b⟩
   have hx:=hix ⟨k,a,b⟩
   have hg1:=hgl ⟨k,a,b⟩
   have hh:=hh2 b
   generalize N ⟨k,a,b⟩=Nx at *
   have hnx:(Nx.map aJ).length=Nx.length:=List.length_map ..
   cases hv:En ⟨k,a,b⟩with
   | false =>
    rw[hv]at he hOb
    rw[Bool.false_and,if_neg (by simp)]at hOb
    conv=>whnf
    repeat(any_goals(first|exact ab|(refine ap ?_ ?_<;>intro _<;>first|exact aq|conv=>whnf)|((first|refine aa he ?_|refine af he rfl ?_|refine ac ?_|refine bi ?_ ?_|intro _)<;>conv=>whnf)))
    (refine⟨b+1,(by omega),(by omega),?_⟩;(conv=>whnf);refine⟨?_,?_,?_⟩<;>repeat(first|exact trivial|refine sc rfl ?_|refine kn ?_|refine kc rfl ?_|refine sc (by first|rfl|(rw[hOb];rfl)) ?_|refine kc (by first|rfl|(rw[hOb];rfl)) ?_))
   | true =>
    rw[hv]at he hOb
    rw[Bool.true_and]at hOb
    by_cases q1:(k:Int)=1
    ·rw[decide_eq_false (fun h=>h q1),Bool.false_or]at hOb
     cases hw:H b with
     | true =>
      rw[hw]at hh hOb
      rw[Bool.not_true,if_neg (by simp)]at hOb
      conv=>whnf
      repeat(any_goals(first|exact ab|(refine ap ?_ ?_<;>intro _<;>first|exact aq|conv=>whnf)|((first|refine aa he ?_|refine af he rfl ?_|refine aa hnm ?_|refine af hnm rfl ?_|refine aa hh ?_|refine af hh rfl ?_|refine ac ?_|refine bi ?_ ?_|intro _)<;>conv=>whnf)))
      (refine⟨b+1,(by omega),(by omega),?_⟩;(conv=>whnf);refine⟨?_,?_,?_⟩<;>repeat(first|exact trivial|refine sc rfl ?_|refine kn ?_|refine kc rfl ?_|refine sc (by first|rfl|(rw[hOb];rfl)) ?_|refine kc (by first|rfl|(rw[hOb];rfl)) ?_))
     | false =>
      rw[hw]at hh hOb
      rw[Bool.not_false,if_pos rfl]at hOb
      have hT:(O k (b+1)).length=(List.map aJ (O k b)).length+(List.map aJ Nx).length:=by rw[hOb,List.length_append,hml,hnx]
      conv=>whnf
      repeat(any_goals(first|exact ab|(refine ap ?_ ?_<;>intro _<;>first|exact aq|conv=>whnf)|((first|refine aa he ?_|refine af he rfl ?_|refine aa hnm ?_|refine af hnm rfl ?_|refine aa hh ?_|refine af hh rfl ?_|refine aa hx ?_|refine af hx rfl ?_|refine ac ?_|refine bi ?_ ?_|intro _)<;>conv=>whnf)))
      (refine⟨b+1,(by omega),(by omega),?_⟩;(conv=>whnf);refine⟨?_,?_,?_⟩<;>repeat(first|exact trivial|refine sc rfl ?_|refine kn ?_|refine kc rfl ?_|refine sc (by first|rfl|(rw[hOb,List.map_append];rfl)|(rw[hT];rfl)) ?_|refine kc (by first|rfl|(rw[hOb,List.map_append];rfl)|(rw[hT];rfl)) ?_))
    ·rw[decide_eq_true q1,Bool.true_or,if_pos rfl]at hOb
     have hT:(O k (b+1)).length=(List.map aJ (O k b)).length+(List.map aJ Nx).length:=by rw[hOb,List.length_append,hml,hnx]
     conv=>whnf
     repeat(any_goals(first|exact ab|(refine ap ?_ ?_<;>intro _<;>first|exact aq|conv=>whnf)|((first|refine aa he ?_|refine af he rfl ?_|refine aa hx ?_|refine af hx rfl ?_|refine ac ?_|refine bi ?_ ?_|intro _)<;>conv=>whnf)))
     (refine⟨b+1,(by omega),(by omega),?_⟩;(conv=>whnf);refine⟨?_,?_,?_⟩<;>repeat(first|exact trivial|refine sc rfl ?_|refine kn ?_|refine kc rfl ?_|refine sc (by first|rfl|(rw[hOb,List.map_append];rfl)|(rw[hT];rfl)) ?_|refine kc (by first|rfl|(rw[hOb,List.map_append];rfl)|(rw[hT];rfl)) ?_))
  ·have hbn:b=s.figs.length:=by omega
   have hOb:O (k+1) 0=O k b:=by rw[hbn];exact(hOr k).symm
   conv=>whnf
   repeat(any_goals(first|exact ab|(refine ap ?_ ?_<;>intro _<;>first|exact aq|conv=>whnf)|((first|refine ac ?_|refine bi ?_ ?_|intro _)<;>conv=>whnf)))
   (refine⟨k+1,(by omega),(by omega),?_⟩;(conv=>whnf);refine⟨?_,?_,?_⟩<;>repeat(first|exact trivial|refine sc rfl ?_|refine kn ?_|refine kc rfl ?_|refine sc (by first|rfl|(rw[hOb];rfl)) ?_|refine kc (by first|rfl|(rw[hOb];rfl)) ?_))
 ·have hk3:k=3:=by omega
  subst hk3
  conv=>whnf
  repeat(any_goals(first|exact ab|(refine ap ?_ ?_<;>intro _<;>first|exact aq|conv=>whnf)|((first|refine ac ?_|refine bi ?_ ?_|intro _)<;>conv=>whnf)))
  (refine⟨⟨?_⟩,trivial⟩;rfl)
set_option maxHeartbeats 4000000 in
theorem IT(s:Bill)(hg:s.Good)(f:Nat)(a:Nat)(c:List Ent)(ha:a+(f+1)=s.figs.length)(hc:c.length≤a)
  (ih:∀c:List Ent,c.length≤a+1→PureA Tryz.prog 101 [aI s,aJ c,aj ((a+1:Nat):Int)] (mm (s.onN f c (a+1)))) :
  PureA Tryz.prog 101 [aI s,aJ c,aj a] (mm (s.onN (f+1) c a)):=by
 have h6:=hg.len
 have hT:=hg.lenT
 have ht:∀t∈s.truths,0≤t:=fun t h=>(hg.lt h).1
 have hfl:(s.figs.map dS).length=s.figs.length:=List.length_map ..
 have hcl:(c.map bB).length=c.length:=List.length_map ..
 have hnm:=qf c (by omega)
 have hnl:=lC c
 have hso:=CZ s (by omega) ht [(a:Int)] (by simp) (by intro x hx;simp at hx;omega)
 rw[rU,Int.toNat_natCast]at hso
 have hen:=fun x=>Bi s hg x
 have hhas:=fun x:Int=>xL (bC c) x (by omega)
 have hh1:PureA Tryz.prog 41 [aD (bC c),aj a] (aB (k7 (a:Int) (bC c))):=hhas a
 have hh2:∀x,PureA Tryz.prog 41 [aD (bC c),aj x] (aB (k7 x (bC c))):=hhas
 unfold Bill.onN
 have ih1:=ih c (by omega)
 unfold aI at hso hen ih1 ih
 by_cases q:(k7 (a:Int) (bC c)|| !s.inSome a)=true
 ·rw[if_pos q]
  clear ih hen hhas hh2 hg ht
  generalize s.onN f c (a+1)=R at *
  generalize k7 (a:Int) (bC c)=H at *
  generalize s.inSome a=I at *
  generalize bC c=L at *
  have ih1:PureA Tryz.prog 101 [.agg [aj s.lines,dW s.figs,aD s.truths],aJ c,aj ((a:Int)+1)] (mm R):=ih1
  cases H<;>cases I
  ·refine ag ao { l:=0,f:=101} mixed jQ Tryz.func101 (by kernel_rfl) ?_
   conv=>whnf
   repeat(any_goals(first|exact ab|(refine ap ?_ ?_<;>intro _<;>first|exact aq|conv=>whnf)|((first|refine aa hnm ?_|refine af hnm rfl ?_|refine aa hh1 ?_|refine af hh1 rfl ?_|refine aa hso ?_|refine af hso rfl ?_|refine aa ih1 ?_|refine af ih1 rfl ?_|refine ac ?_|refine bi ?_ ?_|intro _)<;>conv=>whnf)))
   (refine⟨⟨?_⟩,trivial⟩;rfl)
  ·simp at q
  ·refine ag ao { l:=0,f:=101} mixed jQ Tryz.func101 (by kernel_rfl) ?_
   conv=>whnf
   repeat(any_goals(first|exact ab|(refine ap ?_ ?_<;>intro _<;>first|exact aq|conv=>whnf)|((first|refine aa hnm ?_|refine af hnm rfl ?_|refine aa hh1 ?_|refine af hh1 rfl ?_|refine aa hso ?_|refine af hso rfl ?_|refine aa ih1 ?_|refine af ih1 rfl ?_|refine ac ?_|refine bi ?_ ?_|intro _)<;>conv=>whnf)))
   (refine⟨⟨?_⟩,trivial⟩;rfl)
  ·refine ag ao { l:=0,f:=101} mixed jQ Tryz.func101 (by kernel_rfl) ?_
   conv=>whnf
   repeat(any_goals(first|exact ab|(refine ap ?_ ?_<;>intro _<;>first|exact aq|conv=>whnf)|((first|refine aa hnm ?_|refine af hnm rfl ?_|refine aa hh1 ?_|refine af hh1 rfl ?_|refine aa hso ?_|refine af hso rfl ?_|refine aa ih1 ?_|refine af ih1 rfl ?_|refine ac ?_|refine bi ?_ ?_|intro _)<;>conv=>whnf)))
   (refine⟨⟨?_⟩,trivial⟩;rfl)
 ·rw[if_neg q]
  rw[Bool.not_eq_true,Bool.or_eq_false_iff,Bool.not_eq_false']at q
  rw[q.1]at hh1
  rw[q.2]at hso
  rw[←tF]
  have hB:=fun x (_:s.onE c x=true)=>lF s h6 f (c++[x]) (a+1)
  have hP:=IZ f (by omega)
  have hlen:=tG (s.onE c) (fun x=>s.onN f (c++[x]) (a+1)) s.figs.length a (18^f) hB
  have hgl:∀x,(s.onN f (c++[x]) (a+1)).length≤34012224:=fun x=>Nat.le_trans (lF s h6 f _ _) hP
  refine IU s h6 a c (by omega) hc (bC c) s.entry (fun x=>k7 x (bC c)) (fun x=>s.onN f (c++[x]) (a+1)) (mT (s.onE c) (fun x=>s.onN f (c++[x]) (a+1)) s.figs.length a) hnm hh1 hso hen hh2 ?_ hgl ?_ rfl
   (Ct (s.onE c) (fun x=>s.onN f (c++[x]) (a+1)) s.figs.length a) (zk (s.onE c) (fun x=>s.onN f (c++[x]) (a+1)) s.figs.length a)
  ·intro x
   have:=ih (c++[x]) (by rw[List.length_append];simp;omega)
   unfold aJ at this
   rw[List.map_append]at this
   exact this
  ·intro k b hk hb
   refine Nat.le_trans (hlen k b) ?_
   have h1:k * s.figs.length+b≤3 * 6+6:=Nat.add_le_add (Nat.mul_le_mul hk h6) hb
   exact Nat.le_trans (Nat.mul_le_mul h1 hP) (by decide)
theorem LX(s:Bill)(hg:s.Good):∀(f a:Nat) (c:List Ent),a+f=s.figs.length→c.length≤a→PureA Tryz.prog 101 [aI s,aJ c,aj a] (mm (s.onN f c a))
 | 0,a,c,ha,hc=>by
  have hfl:(s.figs.map dS).length=s.figs.length:=List.length_map ..
  have h6:=hg.len
  clear hg
  refine ag ao { l:=0,f:=101} mixed jQ Tryz.func101 (by kernel_rfl) ?_
  conv=>whnf
  repeat(any_goals(first|exact ab|(refine ap ?_ ?_<;>intro _<;>first|exact aq|conv=>whnf)|((first|refine ac ?_|refine bi ?_ ?_|intro _)<;>conv=>whnf)))
  (refine⟨⟨?_⟩,trivial⟩;rfl)
 | f+1,a,c,ha,hc=>IT s hg f a c ha hc fun c hc=>LX s hg f (a+1) c (by omega) hc
theorem t6(s:Bill)(hg:s.Good):PureA Tryz.prog 70 [aI s] (mm s.cats):=by
 have h:=LX s hg s.figs.length 0 [] (by omega) (Nat.le_refl _)
 have e:s.onN s.figs.length [] 0=s.cats:=Cj hg
 rw[e]at h
 generalize s.cats=C at *
 have h:PureA Tryz.prog 101 [.agg [aj s.lines,dW s.figs,aD s.truths],lE,aj 0] (mm C):=h.args (args:=[.agg [aj s.lines,dW s.figs,aD s.truths],lE,aj 0]) (.cons (Wk.refl _) (.cons (Wk.nil 3) (.cons (Wk.refl _) trivial)))
 clear hg
 refine ag ao { l:=0,f:=70} mixed HW Tryz.func70 (by kernel_rfl) ?_
 conv=>whnf
 repeat(any_goals(first|exact ab|(refine ap ?_ ?_<;>intro _<;>first|exact aq|conv=>whnf)|((first|refine aa h ?_|refine af h rfl ?_|refine ac ?_|refine bi ?_ ?_|intro _)<;>conv=>whnf)))
 (refine⟨⟨?_⟩,trivial⟩;rfl)
end Go.Proofs.YtgncapdjheghfaaGreatDoor
namespace Go.Proofs.YtgncapdjheghfaaGreatDoor
open Go.Am Go.Proofs Go
def eqE(x y:Ent):Bool:=decide (x=y)
theorem GO(x y:Ent):eqL [.int .i64 x.says,.int .i64 x.a,.int .i64 x.b] [.int .i64 y.says,.int .i64 y.a,.int .i64 y.b]=eqE x y:=by
 obtain⟨x1,x2,x3⟩:=x
 obtain⟨y1,y2,y3⟩:=y
 unfold eqE
 simp only[Ent.mk.injEq]
 have e:∀a b:Int,eqC (.int .i64 a) (.int .i64 b)=decide (a=b):=by
  intro a b
  rw[Bool.eq_iff_iff]
  simp[eqC]
 simp only[eqL,e,Bool.and_true]
 rw[Bool.eq_iff_iff]
 simp
theorem Jm(a b:List Ent)(ha:a.length≤1048576)(hb:b.length≤1048576):PureA Tryz.prog 24 [aJ a,aJ b] (aB (ew eqE a b)):=by
 have hlen:decide ((a.length:Int)=b.length)=true→a.length=b.length:=by simp;omega
 obtain⟨R,hRe⟩:∃R,R=ew eqE a b:=⟨_,rfl⟩
 rw[←hRe]
 have hR:R=(decide ((a.length:Int)=b.length)&&ew eqE a b):=by rw[hRe];exact sA eqE a b
 clear hRe
 refine ag ao { l:=0,f:=24} mixed Hp Tryz.func24 (by kernel_rfl) ?_
 conv=>whnf
 refine aO ao { l:=0,f:=24} mixed (fun x:Nat×Bool=>[(6,aj x.1),(5,aB x.2)]) (fun _=>[]) (fun _=>[]) (fun x=>x.1≤a.length∧(x.2=true→a.length=b.length)∧R=(x.2&&ew eqE (a.drop x.1) (b.drop x.1))) (fun x=>a.length-x.1) (0,decide ((a.length:Int)=b.length)) (by kernel_rfl)
  ⟨Nat.zero_le _,hlen,hR⟩ ?_
 conv=>whnf
 refine⟨⟨ai rfl (ai (by
    conv=>lhs;whnf
    simp[aB]) trivial),trivial,trivial⟩,?_⟩
 intro⟨i,same⟩ ⟨hi,hs,H⟩
 simp only at hi hs H
 cases same
 ·conv=>whnf
  repeat(any_goals(first|exact ab|(refine ap ?_ ?_<;>intro _<;>first|exact aq|conv=>whnf)|((first|refine ac ?_|refine bi ?_ ?_|intro _)<;>conv=>whnf)))
  (refine⟨⟨?_⟩,trivial⟩;rw[H];rfl)
 ·have hs:=hs rfl
  rw[Bool.true_and]at H
  conv=>whnf
  refine bH (fun h1=>?_) (fun h1=>?_)
  ·simp only[List.length_map]at h1
   obtain⟨x,hx,hd⟩:=ay (l:=a) (i:=i) (by omega)
   obtain⟨y,hy,he⟩:=ay (l:=b) (i:=i) (by omega)
   rw[hd,he]at H
   simp only[ew]at H
   skip
   conv=>whnf
   repeat(any_goals(first|exact ab|(refine ap ?_ ?_<;>intro _<;>first|exact aq|conv=>whnf)|((first|refine ae hx rfl ?_|refine ae hy rfl ?_|refine ac ?_|refine bi ?_ ?_|intro _)<;>conv=>whnf)))
   (refine⟨(i+1,eqE x y),⟨by simp only;omega,fun _=>hs,H⟩,(by simp only;omega),?_⟩;(conv=>whnf);refine⟨?_,?_,?_⟩<;>repeat(first|exact trivial|refine sc rfl ?_|refine kn ?_|refine kc rfl ?_|refine sc (by first|rfl|exact congrArg (fun b=>some (aB b)) (GO x y)) ?_|refine kc (by first|rfl|exact congrArg (fun b=>some (aB b)) (GO x y)) ?_))
  ·conv=>whnf
   simp only[List.length_map]at h1
   have:i=a.length:=by omega
   subst this
   rw[hs,List.drop_length, ←hs,List.drop_length]at H
   (refine⟨⟨?_⟩,trivial⟩;rw[H];rfl)
theorem Bj:∀a b:List Ent,ew eqE a b=decide (a=b)
 | [],[]=>by simp[ew]
 | [],y::b=>by simp[ew]
 | x::a,[]=>by simp[ew]
 | x::a,y::b=>by
  simp only[ew,Bj a b,eqE]
  rw[Bool.eq_iff_iff]
  simp
theorem ua(a b:List Ent)(ha:a.length≤1048576)(hb:b.length≤1048576):PureA Tryz.prog 24 [aJ a,aJ b] (aB (decide (a=b))):=by
 have:=Jm a b ha hb
 rwa [Bj]at this
theorem Bk:∀a b:List Int,ew (fun x y:Int=>decide (x=y)) a b=decide (a=b)
 | [],[]=>by simp[ew]
 | [],y::b=>by simp[ew]
 | x::a,[]=>by simp[ew]
 | x::a,y::b=>by
  simp only[ew,Bk a b]
  rw[Bool.eq_iff_iff]
  simp
theorem kO(a b:List Int)(ha:a.length≤1048576)(hb:b.length≤1048576):PureA Tryz.prog 29 [aD a,aD b] (aB (decide (a=b))):=by
 have:=Ky a b ha hb
 rwa [Bk]at this
theorem DG(s:Bill)(hr:s.small):PureA Tryz.prog 38 [aI s] (aB (decide (s.check.2.2=0))):=by
 have hk:=lT s hr
 unfold D8 at hk
 generalize s.check=c at *
 obtain⟨c1,c2,c3⟩:=c
 refine ag ao { l:=0,f:=38} mixed Hr Tryz.func38 (by kernel_rfl) ?_
 conv=>whnf
 repeat(any_goals(first|exact ab|(refine ap ?_ ?_<;>intro _<;>first|exact aq|conv=>whnf)|((first|refine aa hk ?_|refine ac ?_|refine bi ?_ ?_|intro _)<;>conv=>whnf)))
 (refine⟨⟨?_⟩,trivial⟩;rfl)
def u8A(n:Int):AV:= .v (.int .u8 n)
def La(l:List Int):AV:= .slice 1 (l.map u8A) .no
def mW(l:List Int)(n:Nat):Int:=if l.length=0 then 0 else l.getD (n%l.length) 0
theorem K6(l:List Int)(n:Nat)(hl:l.length≤1048576)(hn:n≤1048576)(h8:∀x∈l,0≤x∧x≤255):PureA Tryz.prog 87 [La l,aj n] (aj (mW l n)):=by
 have hll:(l.map u8A).length=l.length:=List.length_map ..
 unfold mW
 by_cases q:l.length=0
 ·rw[if_pos q]
  refine ag ao { l:=0,f:=87} mixed A6 Tryz.func87 (by kernel_rfl) ?_
  conv=>whnf
  repeat(any_goals(first|exact ab|(refine ap ?_ ?_<;>intro _<;>first|exact aq|conv=>whnf)|((first|refine ac ?_|refine bi ?_ ?_|intro _)<;>conv=>whnf)))
  (refine⟨⟨?_⟩,trivial⟩;rfl)
 ·rw[if_neg q]
  have hm:n%l.length<l.length:=Nat.mod_lt _ (by omega)
  obtain⟨x,hx,_⟩:=ay (l:=l) (i:=n%l.length) hm
  rw[List.getD_eq_getElem?_getD,hx,Option.getD_some]
  have ht:((n:Int)).tmod ((l.map u8A).length:Int)=((n%l.length:Nat):Int):=by rw[hll,Int.ofNat_tmod]
  obtain⟨x0,x1⟩:=h8 x (List.mem_of_getElem? hx)
  refine ag ao { l:=0,f:=87} mixed A6 Tryz.func87 (by kernel_rfl) ?_
  conv=>whnf
  repeat(any_goals(first|exact ab|(refine ap ?_ ?_<;>intro _<;>first|exact aq|conv=>whnf)|((first|refine ae hx (by rw[ht]) ?_|refine And.intro (by omega) ?_|refine ac ?_|refine bi ?_ ?_|intro _)<;>conv=>whnf)))
  (refine⟨⟨?_⟩,trivial⟩;rfl)
def Bill.anyC(s:Bill)(x:Int):List Ent:=s.cats.getD (x.tmod s.cats.length).toNat []
theorem Hd{s:Bill}(hg:s.Good){x:Int}(h8:0≤x):s.anyC x∈s.cats:=by
 have h0:=u4 hg
 have hl:0<s.cats.length:=List.length_pos_iff.2 h0
 unfold Bill.anyC
 obtain⟨n,rfl⟩:=Int.eq_ofNat_of_zero_le h8
 have ht:((n:Int)).tmod (s.cats.length:Int)=((n%s.cats.length:Nat):Int):=by rw[Int.ofNat_tmod]
 rw[ht,Int.toNat_natCast]
 have hm:n%s.cats.length<s.cats.length:=Nat.mod_lt _ hl
 rw[List.getD_eq_getElem?_getD,List.getElem?_eq_getElem hm,Option.getD_some]
 exact List.getElem_mem hm
theorem AC{s:Bill}(hg:s.Good){x:Int}(h8:0≤x):s.holds (s.anyC x)=true:=(iu hg _).1 (Hd hg h8)
theorem Lu(s:Bill)(hg:s.Good)(x:Int)(h8:0≤x∧x≤255):PureA Tryz.prog 42 [aI s,u8A x] (aJ (s.anyC x)):=by
 have hk:=t6 s hg
 have hl:0<s.cats.length:=List.length_pos_iff.2 (u4 hg)
 have hln:s.cats.length≤34012224:=by
  have:=lF s hg.len s.figs.length [] 0
  have h2:s.onN s.figs.length [] 0=s.cats:=Cj hg
  rw[h2]at this
  exact Nat.le_trans this (IZ _ hg.len)
 unfold Bill.anyC
 generalize s.cats=C at *
 have hcl:(C.map aJ).length=C.length:=List.length_map ..
 obtain⟨n,rfl⟩:=Int.eq_ofNat_of_zero_le h8.1
 have ht:((n:Int)).tmod (C.length:Int)=((n%C.length:Nat):Int):=by rw[Int.ofNat_tmod]
 have hm:n%C.length<C.length:=Nat.mod_lt _ hl
 rw[ht,Int.toNat_natCast]
 obtain⟨c,hc,_⟩:=ay (l:=C) (i:=n%C.length) hm
 rw[List.getD_eq_getElem?_getD,hc,Option.getD_some]
 rw[←hcl]at ht
 unfold aI at hk
 clear hg
 refine ag ao { l:=0,f:=42} mixed Hv Tryz.func42 (by kernel_rfl) ?_
 conv=>whnf
 repeat(any_goals(first|exact ab|(refine ap ?_ ?_<;>intro _<;>first|exact aq|conv=>whnf)|((first|refine aa hk ?_|refine af hk rfl ?_|refine ae hc (by rw[ht,hcl]) ?_|refine And.intro (by omega) ?_|refine ac ?_|refine bi ?_ ?_|intro _)<;>conv=>whnf)))
 (refine⟨⟨?_⟩,trivial⟩;rfl)
end Go.Proofs.YtgncapdjheghfaaGreatDoor
namespace Go.Proofs.YtgncapdjheghfaaGreatDoor
open Go.Am Go.Proofs Go
def fF(x:List Int)(n:Nat):List Int:=((List.range n).filter fun i=>decide (i=0)||decide ((mW x i).tmod 2=1)).map fun(i:Nat)=>(i:Int)
theorem tH(x:List Int)(n:Nat):fF x (n+1)=if(decide (n=0)||decide ((mW x n).tmod 2=1))=true then fF x n++[(n:Int)]else fF x n:=by
 unfold fF
 rw[List.range_succ,List.filter_append,List.map_append]
 by_cases h:(decide (n=0)||decide ((mW x n).tmod 2=1))=true
 ·rw[if_pos h];simp only[List.filter_cons,h,if_true,List.filter_nil,List.map_cons,List.map_nil]
 ·rw[if_neg h];rw[Bool.not_eq_true]at h;simp only[List.filter_cons,h,Bool.false_eq_true,if_false,List.filter_nil,List.map_nil,List.append_nil]
theorem vZ(x:List Int)(n:Nat):(fF x n).length≤n:=by
 unfold fF
 rw[List.length_map]
 have:=List.length_filter_le (fun i=>decide (i=0)||decide ((mW x i).tmod 2=1)) (List.range n)
 rwa [List.length_range]at this
theorem yX(c:List Ent)(hc:c.length≤1000)(x:List Int)(hl:x.length≤1048576)(h8:∀y∈x,0≤y∧y≤255):PureA Tryz.prog 45 [aJ c,La x] (aD (fF x c.length)):=by
 have hcl:(c.map bB).length=c.length:=List.length_map ..
 have htu:=fun(i:Nat) hi=>K6 x i hl hi h8
 have hMs:=tH x
 have hMl:=vZ x
 have hM0:fF x 0=[]:=rfl
 have hti:∀i,inI ((mW x i).tmod 2):=by
  intro i
  have h1:=Int.tmod_lt_of_pos (mW x i) (show(0:Int)<2 by decide)
  have h2:=Int.lt_tmod_of_pos (mW x i) (show(0:Int)<2 by decide)
  unfold inI
  omega
 generalize fF x=M at *
 generalize mW x=T at *
 refine ag ao { l:=0,f:=45} mixed Hw Tryz.func45 (by kernel_rfl) ?_
 conv=>whnf
 refine fC 5 1 ⟨0,45,25⟩ ?_
 conv=>whnf
 refine aO ao { l:=0,f:=45} mixed (fun i:Nat=>[(6,aj i),(5,.slice 1 ((M i).map aj) (.own ⟨0,45,25⟩ 1))]) (fun _=>[]) (fun i=>[(⟨0,45,25⟩,some (1,(M i).length))]) (fun i=>i≤c.length) (fun i=>c.length-i) 0 (by kernel_rfl)
  (Nat.zero_le _) ?_
 conv=>whnf
 refine⟨⟨ai rfl (ai (by rw[hM0];rfl) trivial),trivial,aL (by rw[hM0];rfl) trivial⟩,?_⟩
 intro i hi
 have hl1:=hMl i
 have hMi:=hMs i
 have hml:((M i).map aj).length=(M i).length:=List.length_map ..
 by_cases hlt:i<c.length
 ·have ht:=htu i (by omega)
  have hin:=hti i
  by_cases q0:i=0
  ·rw[decide_eq_true q0,Bool.true_or,if_pos rfl]at hMi
   have hT:(M (i+1)).length=(List.map aj (M i)).length+1:=by rw[hMi,List.length_append,hml];rfl
   conv=>whnf
   repeat(any_goals(first|exact ab|(refine ap ?_ ?_<;>intro _<;>first|exact aq|conv=>whnf)|((first|refine aa ht ?_|refine af ht rfl ?_|refine ac ?_|refine bi ?_ ?_|intro _)<;>conv=>whnf)))
   (refine⟨i+1,(by omega),(by omega),?_⟩;(conv=>whnf);refine⟨?_,?_,?_⟩<;>repeat(first|exact trivial|refine sc rfl ?_|refine kn ?_|refine kc rfl ?_|refine sc (by first|rfl|(rw[hMi,List.map_append];rfl)|(rw[hT];rfl)) ?_|refine kc (by first|rfl|(rw[hMi,List.map_append];rfl)|(rw[hT];rfl)) ?_))
  ·rw[decide_eq_false q0,Bool.false_or]at hMi
   by_cases q1:(T i).tmod 2=1
   ·rw[decide_eq_true q1,if_pos rfl]at hMi
    have hT:(M (i+1)).length=(List.map aj (M i)).length+1:=by rw[hMi,List.length_append,hml];rfl
    conv=>whnf
    repeat(any_goals(first|exact ab|(refine ap ?_ ?_<;>intro _<;>first|exact aq|conv=>whnf)|((first|refine aa ht ?_|refine af ht rfl ?_|refine And.intro (by omega) ?_|refine ac ?_|refine bi ?_ ?_|intro _)<;>conv=>whnf)))
    (refine⟨i+1,(by omega),(by omega),?_⟩;(conv=>whnf);refine⟨?_,?_,?_⟩<;>repeat(first|exact trivial|refine sc rfl ?_|refine kn ?_|refine kc rfl ?_|refine sc (by first|rfl|(rw[hMi,List.map_append];rfl)|(rw[hT];rfl)) ?_|refine kc (by first|rfl|(rw[hMi,List.map_append];rfl)|(rw[hT];rfl)) ?_))
   ·rw[decide_eq_false q1,if_neg (by simp)]at hMi
    conv=>whnf
    repeat(any_goals(first|exact ab|(refine ap ?_ ?_<;>intro _<;>first|exact aq|conv=>whnf)|((first|refine aa ht ?_|refine af ht rfl ?_|refine And.intro (by omega) ?_|refine ac ?_|refine bi ?_ ?_|intro _)<;>conv=>whnf)))
    (refine⟨i+1,(by omega),(by omega),?_⟩;(conv=>whnf);refine⟨?_,?_,?_⟩<;>repeat(first|exact trivial|refine sc rfl ?_|refine kn ?_|refine kc rfl ?_|refine sc (by first|rfl|(rw[hMi];rfl)) ?_|refine kc (by first|rfl|(rw[hMi];rfl)) ?_))
 ·have hin:i=c.length:=by omega
  subst hin
  conv=>whnf
  repeat(any_goals(first|exact ab|(refine ap ?_ ?_<;>intro _<;>first|exact aq|conv=>whnf)|((first|refine ac ?_|refine bi ?_ ?_|intro _)<;>conv=>whnf)))
  (refine⟨⟨?_⟩,trivial⟩;rfl)
end Go.Proofs.YtgncapdjheghfaaGreatDoor
namespace Go.Am
open Go
theorem Wk.slice1{l l':List AV}{tok:Tok}(h:WkL l l')(h1:∀x∈l,x.cells=[x])(h2:∀x∈l',x.cells=[x]):Wk (.slice 1 l tok) (.slice 1 l' tok):=fun w imm y hy=>by
 obtain⟨hl,hg⟩:=h.get
 have one:∀{e x:AV} {c:Nat},e∈l'→e.cells[c]?=some x→c=0∧e=x:=by
  intro e x c he hx
  rw[h2 e he]at hx
  match c with
  | 0=>exact⟨rfl,by simpa using hx⟩
  | c+1=>simp at hx
 cases hy with
 | nil _ _ ht =>
  cases l' with
  | nil=>exact .nil 1 _ ht
  | cons x l'=>simp at hl
 | slice ys hcap ht hm hsz hc hp =>
  rw[hl]
  refine .slice ys (by omega) (by rw[←hl];exact ht) hm (fun i e he=>by rw[h2 e (List.mem_of_getElem? he)];rfl) ?_ ?_
  ·intro i e c x he hx
   obtain⟨u,hu,hw⟩:=hg i e he
   obtain⟨rfl,rfl⟩:=one (List.mem_of_getElem? he) hx
   exact hc i u 0 u hu (by rw[h1 u (List.mem_of_getElem? hu)];rfl)
  ·intro i e c x he hx
   obtain⟨u,hu,hw⟩:=hg i e he
   obtain⟨rfl,rfl⟩:=one (List.mem_of_getElem? he) hx
   exact hw _ _ _ (hp i u 0 u hu (by rw[h1 u (List.mem_of_getElem? hu)];rfl))
end Go.Am
namespace Go.Proofs.YtgncapdjheghfaaGreatDoor
open Go.Am Go.Proofs Go
def fG(b:Int)(l:List (List Int))(i:Nat):List (List Int):=(l.take i).flatMap (ke b)
def cf(l:List Int)(j:Nat):List (List Int):=(List.range j).map fun j:Nat=>l++[cA l+1+(j:Int)]
theorem tL{b:Int}{l:List (List Int)}{i:Nat}{x:List Int}(h:l[i]?=some x):fG b l (i+1)=fG b l i++ke b x:=by
 unfold fG
 rw[List.take_add_one,h,List.flatMap_append]
 simp
theorem wy(b:Int)(l:List (List Int)):fG b l l.length=l.flatMap (ke b):=by unfold fG;rw[List.take_length]
theorem ti(l:List Int)(j:Nat):cf l (j+1)=cf l j++[l++[cA l+1+(j:Int)]]:=by
 unfold cf
 rw[List.range_succ,List.map_append]
 rfl
def CA(b:Nat):Bool:=(List.range 8).all fun n=>(dU b n).all fun l=>decide (l.length≤7)&&decide (-1≤cA l)&&decide (cA l<(b:Int))&&decide (cA l=if l.length=0 then -1 else l.getD (l.length-1) 0)
def p8(b:Nat):Bool:=(List.range 8).all fun n=>decide ((dU b n).length≤64)
theorem Fu:∀b,b<7→CA b=true:=by decide +kernel
theorem wA:∀b,b<7→p8 b=true:=by decide +kernel
theorem g8{b n:Nat}(hb:b≤6)(hn:n≤7):(dU b n).length≤64:=by
 have:=wA b (by omega)
 unfold p8 at this
 rw[List.all_eq_true]at this
 exact of_decide_eq_true (this n (List.mem_range.2 (by omega)))
theorem x8{b n:Nat}(hb:b≤6)(hn:n≤7){l:List Int}(hl:l∈dU b n):l.length≤7∧ -1≤cA l∧cA l<b∧cA l=if l.length=0 then -1 else l.getD (l.length-1) 0:=by
 have:=Fu b (by omega)
 unfold CA at this
 rw[List.all_eq_true]at this
 have:=this n (List.mem_range.2 (by omega))
 rw[List.all_eq_true]at this
 have:=this l hl
 simp only[Bool.and_eq_true,decide_eq_true_eq]at this
 exact⟨this.1.1.1,this.1.1.2,this.1.2,this.2⟩
theorem Fr(b:Int):PureA Tryz.prog 108 [aj b,aj 0] (j0 (dU b 0)):=by
 have h:PureA Tryz.prog 108 [aj b,aj 0] (.slice 1 [lE] .no):=by
  refine ag ao { l:=0,f:=108} mixed xr Tryz.func108 (by kernel_rfl) ?_
  conv=>whnf
  repeat(any_goals(first|exact ab|(refine ap ?_ ?_<;>intro _<;>first|exact aq|conv=>whnf)|((first|refine ac ?_|refine bi ?_ ?_|intro _)<;>conv=>whnf)))
  (refine⟨⟨?_⟩,trivial⟩;rfl)
 exact h.wk (Wk.slice1 (.cons (Wk.nil 1) trivial) (by intro x hx;rcases List.mem_singleton.1 hx with rfl;rfl) (by intro x hx;rcases List.mem_singleton.1 hx with rfl;rfl))
set_option maxHeartbeats 2000000 in
theorem Fs(b n:Nat)(S:List (List Int))(hb:b≤6)(hn:n≤6)(hS:S.length≤64)(hat:∀l∈S,l.length≤7∧ -1≤cA l∧cA l<(b:Int)∧cA l=if l.length=0 then -1 else l.getD (l.length-1) 0)
  (hlen:∀i,(fG b S i).length≤448) (h:PureA Tryz.prog 108 [aj b,aj n] (j0 S)):PureA Tryz.prog 108 [aj b,aj ((n:Int)+1)] (j0 (S.flatMap (ke b))):=by
 rw[←wy]
 have hn1:((n:Int)+1)-1=n:=by omega
 have h:PureA Tryz.prog 108 [aj b,aj ((n:Int)+1-1)] (j0 S):=by rw[hn1];exact h
 have hSl:(S.map aD).length=S.length:=List.length_map ..
 have hM0:fG b S 0=[]:=rfl
 have hMs:=fun i x (hx:S[i]?=some x)=>tL (b:=(b:Int)) hx
 generalize fG b S=M at *
 refine ag ao { l:=0,f:=108} mixed xr Tryz.func108 (by kernel_rfl) ?_
 conv=>whnf
 repeat(any_goals(first|exact ab|(refine ap ?_ ?_<;>intro _<;>first|exact aq|conv=>whnf)|((first|refine aa h ?_|refine ac ?_|refine bi ?_ ?_|intro _)<;>conv=>whnf)))
 refine fC 5 1 ⟨0,108,59⟩ ?_
 conv=>whnf
 refine aO ao { l:=0,f:=108} mixed (fun i:Nat=>[(7,aj i),(5,.slice 1 ((M i).map aD) (.own ⟨0,108,59⟩ 1))]) (fun _=>[]) (fun i=>[(⟨0,108,59⟩,some (1,(M i).length))]) (fun i=>i≤S.length) (fun i=>S.length-i) 0 (by kernel_rfl)
  (Nat.zero_le _) ?_
 conv=>whnf
 refine⟨⟨ai rfl (ai (by rw[hM0];rfl) trivial),trivial,aL (by rw[hM0];rfl) trivial⟩,?_⟩
 intro i hi
 by_cases hlt:i<S.length
 ·obtain⟨x,hx,_⟩:=ay (l:=S) (i:=i) hlt
  have hMi:=hMs i x hx
  obtain⟨x1,x2,x3,x4⟩:=hat x (List.mem_of_getElem? hx)
  have hl1:=hlen i
  have hl2:=hlen (i+1)
  have hxl:(x.map aj).length=x.length:=List.length_map ..
  have hnx:ke b x=cf x ((b:Int)-(cA x+1)).toNat:=rfl
  have hns:=ti x
  have hnl:∀j,(cf x j).length=j:=by intro j;unfold cf;simp
  by_cases hx0:x.length=0
  ·have:x=[]:=List.length_eq_zero_iff.1 hx0
   subst this
   conv=>whnf
   repeat(any_goals(first|exact ab|(refine ap ?_ ?_<;>intro _<;>first|exact aq|conv=>whnf)|((first|refine ae hx rfl ?_|refine ac ?_|refine bi ?_ ?_|intro _)<;>conv=>whnf)))
   refine aO ao { l:=0,f:=108} mixed (fun j:Nat=>[(9,aj (cA []+1+(j:Int))),(5,.slice 1 ((M i++cf [] j).map aD) (.own ⟨0,108,59⟩ 1))]) (fun _=>[]) (fun j=>[(⟨0,108,59⟩,some (1,(M i++cf [] j).length))]) (fun j=>j≤((b:Int)-(cA []+1)).toNat) (fun j=>((b:Int)-(cA []+1)).toNat-j) 0 (by kernel_rfl)
    (Nat.zero_le _) ?_
   conv=>whnf
   refine⟨⟨ai (by rfl) (ai (by show _=some (AV.slice 1 ((M i++[]).map aD) _);rw[List.append_nil];rfl) trivial),trivial,aL (by show _=some (some (1,(M i++[]).length));rw[show M i++[]=M i from List.append_nil _];rfl) trivial⟩,?_⟩
   intro j hj
   have hnj:=hns j
   by_cases hlt2:j<((b:Int)-(cA []+1)).toNat
   ·have hE:(M i++cf [] (j+1)).map aD=(M i++cf [] j).map aD++[.slice 1 ([]++([]:List Int).map aj++[aj (cA []+1+(j:Int))]) .no]:=by rw[hnj, ←List.append_assoc,List.map_append];simp[aD]
    have hJ:cA []+1+(j:Int)+1=cA []+1+((j+1:Nat):Int):=by omega
    have hml:(List.map aD (M i++cf [] j)).length=(M i).length+j:=by rw[List.length_map,List.length_append,hnl]
    have hT:(M i++cf [] (j+1)).length=(List.map aD (M i++cf [] j)).length+1:=by rw[hml,List.length_append,hnl];omega
    conv=>whnf
    repeat(any_goals(first|exact ab|(refine ap ?_ ?_<;>intro _<;>first|exact aq|conv=>whnf)|((first|refine ae hx rfl ?_|refine ac ?_|refine bi ?_ ?_|intro _)<;>conv=>whnf)))
    (refine⟨j+1,(by omega),(by omega),?_⟩;(conv=>whnf);refine⟨?_,?_,?_⟩<;>repeat(first|exact trivial|refine sc rfl ?_|refine kn ?_|refine kc rfl ?_|refine sc (by first|rfl|(show some (aj (cA []+1+(j:Int)+1))=some (aj (cA []+1+((j+1:Nat):Int)));rw[hJ])|(rw[hE];rfl)|(rw[hT];rfl)) ?_|refine kc (by first|rfl|(show some (aj (cA []+1+(j:Int)+1))=some (aj (cA []+1+((j+1:Nat):Int)));rw[hJ])|(rw[hE];rfl)|(rw[hT];rfl)) ?_))
   ·have:j=((b:Int)-(cA []+1)).toNat:=by omega
    have hfin:M (i+1)=M i++cf [] j:=by rw[hMi,hnx,this]
    conv=>whnf
    repeat(any_goals(first|exact ab|(refine ap ?_ ?_<;>intro _<;>first|exact aq|conv=>whnf)|((first|refine ac ?_|refine bi ?_ ?_|intro _)<;>conv=>whnf)))
    (refine⟨i+1,(by omega),(by omega),?_⟩;(conv=>whnf);refine⟨?_,?_,?_⟩<;>repeat(first|exact trivial|refine sc rfl ?_|refine kn ?_|refine kc rfl ?_|refine sc (by first|rfl|(rw[hfin];rfl)) ?_|refine kc (by first|rfl|(rw[hfin];rfl)) ?_))
  ·obtain⟨z,hz,_⟩:=ay (l:=x) (i:=x.length-1) (by omega)
   rw[if_neg hx0,List.getD_eq_getElem?_getD,hz,Option.getD_some]at x4
   conv=>whnf
   repeat(any_goals(first|exact ab|(refine ap ?_ ?_<;>intro _<;>first|exact aq|conv=>whnf)|((first|refine ae hx rfl ?_|refine ae hz (by omega) ?_|refine ac ?_|refine bi ?_ ?_|intro _)<;>conv=>whnf)))
   refine aO ao { l:=0,f:=108} mixed (fun j:Nat=>[(9,aj (cA x+1+(j:Int))),(5,.slice 1 ((M i++cf x j).map aD) (.own ⟨0,108,59⟩ 1))]) (fun _=>[]) (fun j=>[(⟨0,108,59⟩,some (1,(M i++cf x j).length))]) (fun j=>j≤((b:Int)-(cA x+1)).toNat) (fun j=>((b:Int)-(cA x+1)).toNat-j) 0 (by kernel_rfl)
    (Nat.zero_le _) ?_
   conv=>whnf
   refine⟨⟨ai (by rw[x4,Int.natCast_zero,Int.add_zero];rfl) (ai (by show _=some (AV.slice 1 ((M i++[]).map aD) _);rw[List.append_nil];rfl) trivial),trivial,aL (by show _=some (some (1,(M i++[]).length));rw[show M i++[]=M i from List.append_nil _];rfl) trivial⟩,?_⟩
   intro j hj
   have hnj:=hns j
   by_cases hlt2:j<((b:Int)-(cA x+1)).toNat
   ·have hE:(M i++cf x (j+1)).map aD=(M i++cf x j).map aD++[.slice 1 ([]++(x:List Int).map aj++[aj (cA x+1+(j:Int))]) .no]:=by rw[hnj, ←List.append_assoc,List.map_append];simp[aD]
    have hJ:cA x+1+(j:Int)+1=cA x+1+((j+1:Nat):Int):=by omega
    have hml:(List.map aD (M i++cf x j)).length=(M i).length+j:=by rw[List.length_map,List.length_append,hnl]
    have hT:(M i++cf x (j+1)).length=(List.map aD (M i++cf x j)).length+1:=by rw[hml,List.length_append,hnl];omega
    conv=>whnf
    repeat(any_goals(first|exact ab|(refine ap ?_ ?_<;>intro _<;>first|exact aq|conv=>whnf)|((first|refine ae hx rfl ?_|refine ac ?_|refine bi ?_ ?_|intro _)<;>conv=>whnf)))
    (refine⟨j+1,(by omega),(by omega),?_⟩;(conv=>whnf);refine⟨?_,?_,?_⟩<;>repeat(first|exact trivial|refine sc rfl ?_|refine kn ?_|refine kc rfl ?_|refine sc (by first|rfl|(show some (aj (cA x+1+(j:Int)+1))=some (aj (cA x+1+((j+1:Nat):Int)));rw[hJ])|(rw[hE];rfl)|(rw[hT];rfl)) ?_|refine kc (by first|rfl|(show some (aj (cA x+1+(j:Int)+1))=some (aj (cA x+1+((j+1:Nat):Int)));rw[hJ])|(rw[hE];rfl)|(rw[hT];rfl)) ?_))
   ·have:j=((b:Int)-(cA x+1)).toNat:=by omega
    have hfin:M (i+1)=M i++cf x j:=by rw[hMi,hnx,this]
    conv=>whnf
    repeat(any_goals(first|exact ab|(refine ap ?_ ?_<;>intro _<;>first|exact aq|conv=>whnf)|((first|refine ac ?_|refine bi ?_ ?_|intro _)<;>conv=>whnf)))
    (refine⟨i+1,(by omega),(by omega),?_⟩;(conv=>whnf);refine⟨?_,?_,?_⟩<;>repeat(first|exact trivial|refine sc rfl ?_|refine kn ?_|refine kc rfl ?_|refine sc (by first|rfl|(rw[hfin];rfl)) ?_|refine kc (by first|rfl|(rw[hfin];rfl)) ?_))
 ·have:i=S.length:=by omega
  subst this
  conv=>whnf
  repeat(any_goals(first|exact ab|(refine ap ?_ ?_<;>intro _<;>first|exact aq|conv=>whnf)|((first|refine ac ?_|refine bi ?_ ?_|intro _)<;>conv=>whnf)))
  (refine⟨⟨?_⟩,trivial⟩;rfl)
theorem Cc{b:Nat}(hb:b≤6){x:List Int}(hx : -1≤cA x):(ke (b:Int) x).length≤7:=by
 unfold ke
 rw[List.length_map,List.length_range]
 omega
theorem wz{b:Nat}(hb:b≤6){S:List (List Int)}(hS:S.length≤64)(hat:∀l∈S, -1≤cA l)(i:Nat):(fG b S i).length≤448:=by
 have key:∀l:List (List Int),(∀x∈l, -1≤cA x)→(l.flatMap (ke b)).length≤7 * l.length:=by
  intro l
  induction l with
  | nil=>intro _;simp
  | cons x l ih =>
   intro h
   have h1:=Cc hb (h x (List.mem_cons_self ..))
   have h2:=ih fun y hy=>h y (List.mem_cons_of_mem _ hy)
   rw[List.flatMap_cons,List.length_append,List.length_cons]
   omega
 unfold fG
 have:=key (S.take i) fun x hx=>hat x (List.mem_of_mem_take hx)
 have h2:(S.take i).length≤64:=by rw[List.length_take];omega
 omega
theorem CB(b:Nat)(hb:b≤6):∀n:Nat,n≤7→PureA Tryz.prog 108 [aj b,aj n] (j0 (dU b n))
 | 0,_=>Fr b
 | n+1,hn=>by
  have h:=CB b hb n (by omega)
  have hat:=fun l (hl:l∈dU b n)=>x8 hb (by omega) hl
  have:=Fs b n (dU b n) hb (by omega) (g8 hb (by omega)) hat (wz hb (g8 hb (by omega)) fun l hl=>(hat l hl).2.1) h
  rw[show((n+1:Nat):Int)=(n:Int)+1 by omega]
  exact this
def Cz(b:Nat):Bool:=(List.range 8).all fun n=>(dU b n).all fun l=>l.all fun x=>decide (0≤x)&&decide (x<(b:Int))
theorem Ft:∀b,b<7→Cz b=true:=by decide +kernel
theorem CC{b n:Nat}(hb:b≤6)(hn:n≤7){l:List Int}(hl:l∈dU b n){x:Int}(hx:x∈l):0≤x∧x<b:=by
 have:=Ft b (by omega)
 unfold Cz at this
 rw[List.all_eq_true]at this
 have:=this n (List.mem_range.2 (by omega))
 rw[List.all_eq_true]at this
 have:=this l hl
 rw[List.all_eq_true]at this
 have:=this x hx
 simpa using this
end Go.Proofs.YtgncapdjheghfaaGreatDoor
namespace Go.Proofs.YtgncapdjheghfaaGreatDoor
open Go.Am Go.Proofs Go
def bTo(n k i:Nat):List (List Int):=((List.range k).flatMap fun k:Nat=>(dU ((n:Int)-1) k).map iX)++((dU ((n:Int)-1) k).take i).map iX
theorem Ei{n k i:Nat}{x:List Int}(h:(dU ((n:Int)-1) k)[i]?=some x):bTo n k (i+1)=bTo n k i++[iX x]:=by
 unfold bTo
 rw[List.take_add_one,h,List.map_append,List.append_assoc]
 rfl
theorem He(n k:Nat):bTo n k (dU ((n:Int)-1) k).length=bTo n (k+1) 0:=by
 unfold bTo
 rw[List.take_length,List.range_succ,List.flatMap_append]
 simp
theorem AE{n:Nat}(h:n≠0):bTo n n 0=b7 n:=by
 unfold bTo b7
 rw[if_neg h]
 simp
theorem AF{n:Nat}(hn:n≤6)(h0:n≠0){k:Nat}(hk:k≤6)(i:Nat):(bTo n k i).length≤448:=by
 have hb:((n:Int)-1)=((n-1:Nat):Int):=by omega
 have key:∀m,m≤7→((List.range m).flatMap fun k:Nat=>(dU ((n:Int)-1) k).map iX).length≤64 * m:=by
  intro m
  induction m with
  | zero=>intro _;simp
  | succ m ih =>
   intro hm
   have h1:=ih (by omega)
   have h2:=g8 (b:=n-1) (n:=m) (by omega) (by omega)
   rw[←hb]at h2
   rw[List.range_succ,List.flatMap_append,List.length_append]
   simp only[List.flatMap_cons,List.flatMap_nil,List.append_nil,List.length_map]
   omega
 have h1:=key k (by omega)
 have h2:=g8 (b:=n-1) (n:=k) (by omega) (by omega)
 rw[←hb]at h2
 unfold bTo
 rw[List.length_append,List.length_map,List.length_take]
 omega
def Ej(x:List Int)(j:Nat):List Int:=0::(x.take j).map (· + 1)
theorem AK{x:List Int}{j:Nat}{z:Int}(h:x[j]?=some z):Ej x (j+1)=Ej x j++[z+1]:=by
 unfold Ej
 rw[List.take_add_one,h,List.map_append]
 rfl
theorem Ek(x:List Int):Ej x x.length=iX x:=by unfold Ej iX;rw[List.take_length]
theorem El{x:List Int}{j:Nat}(h:j≤x.length):(Ej x j).length=j+1:=by unfold Ej;rw[List.length_cons,List.length_map,List.length_take];omega
theorem AP:PureA Tryz.prog 78 [aj 0] (j0 (b7 0)):=by
 have h:PureA Tryz.prog 78 [aj 0] (.slice 1 [lE] .no):=by
  refine ag ao { l:=0,f:=78} mixed A4 Tryz.func78 (by kernel_rfl) ?_
  conv=>whnf
  repeat(any_goals(first|exact ab|(refine ap ?_ ?_<;>intro _<;>first|exact aq|conv=>whnf)|((first|refine ac ?_|refine bi ?_ ?_|intro _)<;>conv=>whnf)))
  (refine⟨⟨?_⟩,trivial⟩;rfl)
 exact h.wk (Wk.slice1 (.cons (Wk.nil 1) trivial) (by intro x hx;rcases List.mem_singleton.1 hx with rfl;rfl) (by intro x hx;rcases List.mem_singleton.1 hx with rfl;rfl))
set_option maxHeartbeats 2000000 in
theorem AQ(n:Nat)(h0:n≠0)(h6:n≤6)(P:Nat→List (List Int))(M:Nat→Nat→List (List Int))(hP:∀k:Nat,k≤7→PureA Tryz.prog 108 [aj ((n:Int)-1),aj (k:Int)] (j0 (P k)))
  (hl:∀k,k≤7→(P k).length≤64) (hat:∀k,k≤7→∀x∈P k,x.length≤7∧∀z∈x,0≤z∧z≤6) (hM0:M 0 0=[]) (hMs:∀k i x,(P k)[i]?=some x→M k (i+1)=M k i++[iX x])
  (hMr:∀k,M k (P k).length=M (k+1) 0) (hMl:∀k i,k≤6→(M k i).length≤448):PureA Tryz.prog 78 [aj n] (j0 (M n 0)):=by
 refine ag ao { l:=0,f:=78} mixed A4 Tryz.func78 (by kernel_rfl) ?_
 conv=>whnf
 refine bH (fun h=>?_) (fun h=>?_)
 ·exact absurd h (by omega)
 conv=>whnf
 refine fC 3 1 ⟨0,78,51⟩ ?_
 conv=>whnf
 refine aO ao { l:=0,f:=78} mixed (fun k:Nat=>[(4,aj k),(3,.slice 1 ((M k 0).map aD) (.own ⟨0,78,51⟩ 1))]) (fun _=>[]) (fun k=>[(⟨0,78,51⟩,some (1,(M k 0).length))]) (fun k=>k≤n) (fun k=>n-k) 0 (by kernel_rfl)
  (Nat.zero_le _) ?_
 conv=>whnf
 refine⟨⟨ai rfl (ai (by rw[hM0];rfl) trivial),trivial,aL (by rw[hM0];rfl) trivial⟩,?_⟩
 intro k hk
 by_cases hlt:k<n
 ·have hp:=hP k (by omega)
  have hPl:=hl k (by omega)
  have hPa:=hat k (by omega)
  have hMk:=hMs k
  have hMkr:=hMr k
  have hMkl:=fun i=>hMl k i (by omega)
  obtain⟨S,hS⟩:∃S,S=P k:=⟨_,rfl⟩
  rw[←hS]at hp hPl hPa hMkr
  have hMk:∀(i:Nat) (x:List Int),S[i]?=some x→M k (i+1)=M k i++[iX x]:=by rw[hS];exact hMk
  have hSl:(S.map aD).length=S.length:=List.length_map ..
  clear hS hP hl hat hMs hMr hM0
  conv=>whnf
  repeat(any_goals(first|exact ab|(refine ap ?_ ?_<;>intro _<;>first|exact aq|conv=>whnf)|((first|refine aa hp ?_|refine ac ?_|refine bi ?_ ?_|intro _)<;>conv=>whnf)))
  refine aO ao { l:=0,f:=78} mixed (fun i:Nat=>[(6,aj i),(3,.slice 1 ((M k i).map aD) (.own ⟨0,78,51⟩ 1))]) (fun _=>[]) (fun i=>[(⟨0,78,51⟩,some (1,(M k i).length))]) (fun i=>i≤S.length) (fun i=>S.length-i) 0 (by kernel_rfl)
   (Nat.zero_le _) ?_
  conv=>whnf
  refine⟨⟨ai rfl (ai rfl trivial),trivial,aL rfl trivial⟩,?_⟩
  intro i hi
  by_cases hlt2:i<S.length
  ·obtain⟨x,hx,_⟩:=ay (l:=S) (i:=i) hlt2
   obtain⟨x1,x2⟩:=hPa x (List.mem_of_getElem? hx)
   have hMi:=hMk i x hx
   have hl1:=hMkl i
   have hl2:=hMkl (i+1)
   have hml:((M k i).map aD).length=(M k i).length:=List.length_map ..
   have hxl:(x.map aj).length=x.length:=List.length_map ..
   have hbs:=fun(j:Nat) z (h:x[j]?=some z)=>AK h
   have hbl:=fun(j:Nat) (h:j≤x.length)=>El h
   have hba:=Ek x
   have hb0:Ej x 0=[0]:=rfl
   have hbh:(iX x).map aj = .v (.int .i64 0)::(x.map (· + 1)).map aj:=rfl
   generalize Ej x=B at *
   conv=>whnf
   repeat(any_goals(first|exact ab|(refine ap ?_ ?_<;>intro _<;>first|exact aq|conv=>whnf)|((first|refine ac ?_|refine bi ?_ ?_|intro _)<;>conv=>whnf)))
   refine fC 7 1 ⟨0,78,47⟩ ?_
   conv=>whnf
   intro g _
   conv=>whnf
   refine aO ao { l:=0,f:=78} mixed (fun j:Nat=>[(8,aj j),(7,.slice 1 ((B j).map aj) (.own ⟨0,78,47⟩ (g+1)))]) (fun _=>[]) (fun j=>[(⟨0,78,47⟩,some (g+1,(B j).length))]) (fun j=>j≤x.length) (fun j=>x.length-j) 0 (by kernel_rfl)
    (Nat.zero_le _) ?_
   conv=>whnf
   refine⟨⟨ai rfl (ai (by rw[hb0];rfl) trivial),trivial,aL (by rw[hb0];rfl) trivial⟩,?_⟩
   intro j hj
   by_cases hlt3:j<x.length
   ·obtain⟨z,hz,_⟩:=ay (l:=x) (i:=j) hlt3
    obtain⟨z1,z2⟩:=x2 z (List.mem_of_getElem? hz)
    have hBj:=hbs j z hz
    have hBl:=hbl j (by omega)
    have hBm:((B j).map aj).length=(B j).length:=List.length_map ..
    have hT:(B (j+1)).length=((B j).map aj).length+1:=by rw[hBj,List.length_append,hBm];rfl
    conv=>whnf
    repeat(any_goals(first|exact ab|(refine ap ?_ ?_<;>intro _<;>first|exact aq|conv=>whnf)|((first|refine ae hx rfl ?_|refine ae hz rfl ?_|refine ac ?_|refine bi ?_ ?_|intro _)<;>conv=>whnf)))
    (refine⟨j+1,(by omega),(by omega),?_⟩;(conv=>whnf);refine⟨?_,?_,?_⟩<;>repeat(first|exact trivial|refine sc rfl ?_|refine kn ?_|refine kc rfl ?_|refine sc (by first|rfl|(rw[hBj,List.map_append];rfl)|(rw[hT];rfl)) ?_|refine kc (by first|rfl|(rw[hBj,List.map_append];rfl)|(rw[hT];rfl)) ?_))
   ·have hjn:j=x.length:=by omega
    subst hjn
    have hE:(M k (i+1)).map aD=(M k i).map aD++[.slice 1 ((B x.length).map aj) .no]:=by rw[hMi,List.map_append,hba];rfl
    have hT:(M k (i+1)).length=((M k i).map aD).length+1:=by rw[hMi,List.length_append,hml];rfl
    conv=>whnf
    repeat(any_goals(first|exact ab|(refine ap ?_ ?_<;>intro _<;>first|exact aq|conv=>whnf)|((first|refine ae hx rfl ?_|refine ac ?_|refine bi ?_ ?_|intro _)<;>conv=>whnf)))
    (refine⟨i+1,(by omega),(by omega),?_⟩;(conv=>whnf);refine⟨?_,?_,?_⟩<;>repeat(first|exact trivial|refine sc rfl ?_|refine kn ?_|refine kc rfl ?_|refine sc (by first|rfl|(rw[hE];rfl)|(rw[hT];rfl)) ?_|refine kc (by first|rfl|(rw[hE];rfl)|(rw[hT];rfl)) ?_))
  ·have hin:i=S.length:=by omega
   subst hin
   rw[hMkr]
   conv=>whnf
   repeat(any_goals(first|exact ab|(refine ap ?_ ?_<;>intro _<;>first|exact aq|conv=>whnf)|((first|refine ac ?_|refine bi ?_ ?_|intro _)<;>conv=>whnf)))
   (refine⟨k+1,(by omega),(by omega),?_⟩;(conv=>whnf);refine⟨?_,?_,?_⟩<;>repeat(first|exact trivial|refine sc rfl ?_|refine kn ?_|refine kc rfl ?_|refine sc (by rfl) ?_|refine kc (by rfl) ?_))
 ·have hkn:k=n:=by omega
  subst hkn
  conv=>whnf
  repeat(any_goals(first|exact ab|(refine ap ?_ ?_<;>intro _<;>first|exact aq|conv=>whnf)|((first|refine ac ?_|refine bi ?_ ?_|intro _)<;>conv=>whnf)))
  (refine⟨⟨?_⟩,trivial⟩;rfl)
theorem xo(n:Nat)(h6:n≤6):PureA Tryz.prog 78 [aj n] (j0 (b7 n)):=by
 by_cases h0:n=0
 ·subst h0;exact AP
 ·rw[←AE h0]
  have hb:((n:Int)-1)=((n-1:Nat):Int):=by omega
  refine AQ n h0 h6 (fun k=>dU ((n:Int)-1) k) (bTo n) (fun k hk=>?_) (fun k hk=>?_) (fun k hk x hx=>?_) rfl (fun k i x hx=>Ei hx) (fun k=>He n k) (fun k i hk=>AF h6 h0 hk i)
  ·rw[hb];exact CB (n-1) (by omega) k hk
  ·rw[hb];exact g8 (by omega) hk
  ·rw[hb]at hx
   refine⟨(x8 (by omega) hk hx).1,fun z hz=>?_⟩
   have:=CC (b:=n-1) (n:=k) (by omega) hk hx hz
   omega
end Go.Proofs.YtgncapdjheghfaaGreatDoor
namespace Go.Proofs.YtgncapdjheghfaaGreatDoor
open Go.Am Go.Proofs Go
def Au(x y:Int):Int:=if x<y then -1 else if y<x then 1 else 0
theorem BF(x:Int):PureA Tryz.prog 142 [aj x] (aB false):=by
 refine ag ao { l:=0,f:=142} mixed EQ Tryz.func142 (by kernel_rfl) ?_
 conv=>whnf
 (refine⟨⟨?_⟩,trivial⟩;simp[oneOf,aB])
theorem Kl(x y:Int):PureA Tryz.prog 137 [aj x,aj y] (aj (Au x y)):=by
 have hx:=BF x
 have hy:=BF y
 unfold Au
 refine ag ao { l:=0,f:=137} mixed EP Tryz.func137 (by kernel_rfl) ?_
 conv=>whnf
 repeat(any_goals(first|exact ab|(refine ap ?_ ?_<;>intro _<;>first|exact aq|conv=>whnf)|((first|refine aa hx ?_|refine aa hy ?_|refine ac ?_|refine bi ?_ ?_|intro _)<;>conv=>whnf)))
 all_goals
  refine⟨⟨?_⟩,trivial⟩
  show aj (if x<y then -1 else if y<x then 1 else 0)=aj _
  congr 1
  split
  ·omega
  ·first|rfl|(split<;>omega)
def u7:List Int→List Int→Int
 | [],[]=>0
 | [],_::_=> -1
 | _::_,[]=>1
 | x::xs,y::ys=>if Au x y=0 then u7 xs ys else Au x y
theorem Km(a b:List Int)(ha:a.length≤1048576)(hb:b.length≤1048576):PureA Tryz.prog 131 [aD a,aD b] (aj (u7 a b)):=by
 have hbl:(b.map aj).length=b.length:=List.length_map ..
 refine ag ao { l:=0,f:=131} mixed EM Tryz.func131 (by kernel_rfl) ?_
 conv=>whnf
 refine aO ao { l:=0,f:=131} mixed (fun i:Nat=>[(11,aj i)]) (fun _=>[]) (fun _=>[]) (fun i=>i≤a.length∧i≤b.length∧u7 a b=u7 (a.drop i) (b.drop i)) (fun i=>a.length-i) 0 (by kernel_rfl)
  ⟨Nat.zero_le _,Nat.zero_le _,rfl⟩ ?_
 conv=>whnf
 refine⟨⟨ai rfl trivial,trivial,trivial⟩,?_⟩
 intro i ⟨hi,hj,H⟩
 generalize u7 a b=R at *
 conv=>whnf
 refine bH (fun h1=>?_) (fun h1=>?_)
 ·simp only[List.length_map]at h1
  obtain⟨x,hx,hd⟩:=ay (l:=a) (i:=i) (by omega)
  rw[hd]at H
  by_cases hib:i=b.length
  ·rw[hib,List.drop_length]at H
   simp only[u7]at H
   conv=>whnf
   repeat(any_goals(first|exact ab|(refine ap ?_ ?_<;>intro _<;>first|exact aq|conv=>whnf)|((first|refine ae hx rfl ?_|refine ac ?_|refine bi ?_ ?_|intro _)<;>conv=>whnf)))
   (refine⟨⟨?_⟩,trivial⟩;rw[H];rfl)
  ·obtain⟨y,hy,he⟩:=ay (l:=b) (i:=i) (by omega)
   rw[he]at H
   simp only[u7]at H
   have hc:=Kl x y
   generalize Au x y=c at *
   conv=>whnf
   repeat(any_goals(first|exact ab|(refine ap ?_ ?_<;>intro _<;>first|exact aq|conv=>whnf)|((first|refine ae hx rfl ?_|refine ae hy rfl ?_|refine aa hc ?_|refine ac ?_|refine bi ?_ ?_|intro _)<;>conv=>whnf)))
   ·rename_i h
    rw[if_pos h]at H
    (refine⟨i+1,⟨by omega,by omega,H⟩,by omega,?_⟩;(conv=>whnf);refine⟨?_,?_,?_⟩<;>repeat(first|exact trivial|refine sc rfl ?_|refine kn ?_|refine kc rfl ?_))
   ·rename_i h
    rw[if_neg h]at H
    (refine⟨⟨?_⟩,trivial⟩;rw[H];rfl)
 ·conv=>whnf
  simp only[List.length_map]at h1
  have:i=a.length:=by omega
  subst this
  rw[List.drop_length]at H
  repeat(any_goals(first|exact ab|(refine ap ?_ ?_<;>intro _<;>first|exact aq|conv=>whnf)|((first|refine ac ?_|refine bi ?_ ?_|intro _)<;>conv=>whnf)))
  ·rename_i h
   simp only[List.length_map]at h
   obtain⟨y,hy,he⟩:=ay (l:=b) (i:=a.length) (by omega)
   rw[he]at H
   (refine⟨⟨?_⟩,trivial⟩;rw[H];rfl)
  ·rename_i h
   simp only[List.length_map]at h
   rw[List.drop_of_length_le (by omega)]at H
   (refine⟨⟨?_⟩,trivial⟩;rw[H];rfl)
def orL:List Int→Int
 | []=>0
 | x::l=>if x≠0 then x else orL l
theorem or_c(l:List Int)(hl:l.length≤1048576):PureA Tryz.prog 130 [aD l] (aj (orL l)):=by
 obtain⟨R,hR⟩:∃R,R=orL l:=⟨_,rfl⟩
 rw[←hR]
 refine ag ao { l:=0,f:=130} mixed EL Tryz.func130 (by kernel_rfl) ?_
 conv=>whnf
 refine aO ao { l:=0,f:=130} mixed (fun i:Nat=>[(8,aj i)]) (fun _=>[]) (fun _=>[]) (fun i=>i≤l.length∧R=orL (l.drop i)) (fun i=>l.length-i) 0 (by kernel_rfl)
  ⟨Nat.zero_le _,hR⟩ ?_
 conv=>whnf
 refine⟨⟨ai rfl trivial,trivial,trivial⟩,?_⟩
 intro i ⟨hi,H⟩
 conv=>whnf
 refine bH (fun h1=>?_) (fun h1=>?_)
 ·simp only[List.length_map]at h1
  obtain⟨x,hx,hd⟩:=ay (l:=l) (i:=i) (by omega)
  rw[hd]at H
  simp only[orL]at H
  by_cases q:x=0
  ·rw[if_neg (by simpa using q)]at H
   conv=>whnf
   repeat(any_goals(first|exact ab|(refine ap ?_ ?_<;>intro _<;>first|exact aq|conv=>whnf)|((first|refine ae hx rfl ?_|refine ac ?_|refine bi ?_ ?_|intro _)<;>conv=>whnf)))
   (refine⟨i+1,⟨by omega,H⟩,(by omega),?_⟩;(conv=>whnf);refine⟨?_,?_,?_⟩<;>repeat(first|exact trivial|refine sc rfl ?_|refine kn ?_|refine kc rfl ?_))
  ·rw[if_pos q]at H
   conv=>whnf
   repeat(any_goals(first|exact ab|(refine ap ?_ ?_<;>intro _<;>first|exact aq|conv=>whnf)|((first|refine ae hx rfl ?_|refine ac ?_|refine bi ?_ ?_|intro _)<;>conv=>whnf)))
   (refine⟨⟨?_⟩,trivial⟩;rw[H];rfl)
 ·conv=>whnf
  simp only[List.length_map]at h1
  have:i=l.length:=by omega
  subst this
  simp only[List.drop_length,orL]at H
  (refine⟨⟨?_⟩,trivial⟩;rw[H];rfl)
theorem sk:∀a b:List Int,cB a b=decide (u7 a b<0)
 | [],[]=>rfl
 | [],_::_=>rfl
 | _::_,[]=>rfl
 | x::a,y::b=>by
  have hc:(x<y→Au x y = -1)∧(y<x→Au x y=1)∧(x=y→Au x y=0):=by
   unfold Au
   refine⟨fun h=>by rw[if_pos h],fun h=>by rw[if_neg (by omega),if_pos h],fun h=>by rw[if_neg (by omega),if_neg (by omega)]⟩
  obtain⟨c1,c2,c3⟩:=hc
  show(if x=y then cB a b else decide (x<y))=decide ((if Au x y=0 then u7 a b else Au x y)<0)
  generalize Au x y=c at *
  by_cases h:x=y
  ·rw[if_pos h,if_pos (c3 h)]
   exact sk a b
  ·rw[if_neg h]
   rcases(by omega:x<y∨y<x)with q|q
   ·have:=c1 q
    rw[if_neg (by omega),decide_eq_decide];omega
   ·have:=c2 q
    rw[if_neg (by omega),decide_eq_decide];omega
theorem AJ(p q:Press):bq p q=decide (orL [p.white-q.white,(p.pages.length:Int)-q.pages.length,u7 p.pages q.pages]<0):=by
 have e:∀a b c:Int,orL [a,b,c]=if a≠0 then a else if b≠0 then b else if c≠0 then c else 0:=fun _ _ _=>rfl
 have l:cB p.pages q.pages=decide (u7 p.pages q.pages<0):=sk _ _
 unfold bq ex
 rw[e,l]
 generalize u7 p.pages q.pages=c
 by_cases h1:p.white=q.white
 ·rw[if_neg (by simpa using h1),if_neg (show¬(p.white-q.white≠0) by omega)]
  by_cases h2:p.pages.length=q.pages.length
  ·rw[if_pos h2,if_neg (show¬((p.pages.length:Int)-q.pages.length≠0) by omega)]
   by_cases h3:c=0
   ·subst h3;rfl
   ·rw[if_pos h3]
  ·rw[if_neg h2,if_pos (show((p.pages.length:Int)-q.pages.length≠0) by omega),decide_eq_decide];omega
 ·rw[if_pos h1,if_pos (show(p.white-q.white≠0) by omega),decide_eq_decide];omega
def tP(p:Press):List AV:=[aD p.pages,aj p.white]
def gD(p:Press):AV:= .agg (tP p)
theorem mZ(p q:Press)(hp:p.pages.length≤1048576)(hq:q.pages.length≤1048576)(hw : -1000000≤p.white∧p.white≤1000000)(hv : -1000000≤q.white∧q.white≤1000000) :
  PureA Tryz.prog 107 [gD p,gD q] (aB (bq p q)):=by
 have h1:=Km p.pages q.pages hp hq
 have e1:(p.pages.map aj).length=p.pages.length:=List.length_map ..
 have e2:(q.pages.map aj).length=q.pages.length:=List.length_map ..
 have h2:=or_c [p.white-q.white,((p.pages.map aj).length:Int)-((q.pages.map aj).length:Int),u7 p.pages q.pages] (by simp)
 rw[AJ, ←e1, ←e2]
 generalize orL [p.white-q.white,((p.pages.map aj).length:Int)-((q.pages.map aj).length:Int),u7 p.pages q.pages]=v at *
 generalize u7 p.pages q.pages=c at *
 refine ag ao { l:=0,f:=107} mixed Ez Tryz.func107 (by kernel_rfl) ?_
 conv=>whnf
 repeat(any_goals(first|exact ab|(refine ap ?_ ?_<;>intro _<;>first|exact aq|conv=>whnf)|((first|refine aa h1 ?_|refine aa h2 ?_|refine ac ?_|refine bi ?_ ?_|intro _)<;>conv=>whnf)))
 (refine⟨⟨?_⟩,trivial⟩;rfl)
end Go.Proofs.YtgncapdjheghfaaGreatDoor
namespace Go.Proofs.YtgncapdjheghfaaGreatDoor
open Go.Am Go.Proofs Go
theorem kI{s:Bill}{c:List Ent}{p q:Nat→Press}{i:Nat}(h:∀k,i<k→k≤c.length→p k=q k):∀(f j:Nat) (best:Option Press),i<j→j+f=c.length+1→s.pressTo c p i f j best=s.pressTo c q i f j best
 | 0,_,_,_,_=>rfl
 | f+1,j,best,hij,hf=>by
  unfold Bill.pressTo
  split
  ·rfl
  ·rw[h j hij (by omega)]
   exact kI h f (j+1) _ (by omega) (by omega)
theorem tQ{s:Bill}(hg:s.Good){c:List Ent}(hc:∀x∈c,s.OkE x){f i:Nat}(hi:i≤c.length)(hf:c.length-i≤f):s.pressN c f i=s.press c i :=
 BestP.unique (fT hg hc f i hi hf) (fT hg hc _ i hi (Nat.le_refl _))
theorem kJ(s:Bill)(c:List Ent):s.press c c.length=⟨[],0⟩:=by
 unfold Bill.press;rw[Nat.sub_self];rfl
theorem qa{s:Bill}(hg:s.Good){c:List Ent}(hc:∀x∈c,s.OkE x){i:Nat}(hi:i<c.length):s.pressTo c (s.press c) i (c.length-i) (i+1) none=some (s.press c i):=by
 obtain⟨f,hf⟩:∃f,c.length-i=f+1:=⟨c.length-i-1,by omega⟩
 have h:s.press c i=s.pressN c (f+1) i:=(tQ hg hc (by omega) (by omega)).symm
 unfold Bill.pressN at h
 rw[if_neg (by omega)]at h
 have hs:=g9 hg hc (press:=s.pressN c f) (i:=i) (c.length-i) (i+1) none (by omega) (by omega)
 have e:=kI (s:=s) (c:=c) (p:=s.pressN c f) (q:=s.press c) (i:=i) (fun k h1 h2=>tQ hg hc h2 (by omega)) (c.length-i) (i+1) none (by omega) (by omega)
 rw[e]at h hs
 have h1:=q9 hg hc hi
 cases hr:s.pressTo c (s.press c) i (c.length-i) (i+1) none with
 | none=>rw[hr]at hs;rcases hs.2 with h|h<;>omega
 | some p=>rw[hr]at h;rw[h]
theorem ym{s:Bill}(hg:s.Good){c:List Ent}(hc:∀x∈c,s.OkE x):∀(l:List Nat) (i:Nat) (w:Int),bK c i l→s.whiteL c l=some w→w≤900 * (l.length:Int)
 | [],i,w,_,h=>by cases h;simp
 | j::l,i,w,⟨_,h2,h3⟩,h=>by
  obtain⟨h0,v,hv,rfl⟩:=cV.1 h
  have hle:=nT hg hc (i:=j) (j:=bV c l) (by omega) h3.le
  have:=ym hg hc l _ v h3 hv
  have hsq:s.left c j (bV c l) * s.left c j (bV c l)≤900:=by
   have:=Int.mul_le_mul hle hle h0 (by omega)
   omega
  simp only[List.length_cons]
  push_cast
  split<;>omega
theorem oA{s:Bill}(hg:s.Good){c:List Ent}(hc:∀x∈c,s.OkE x)(h6:c.length≤6){i:Nat}(hi:i≤c.length):(s.press c i).pages.length≤6∧0≤(s.press c i).white∧(s.press c i).white≤5400:=by
 obtain⟨⟨l,w,e,h1,h2⟩,_⟩:=fT hg hc (c.length-i) i hi (Nat.le_refl _)
 have hl:=cG h1
 have hw:=ym hg hc l i w h1 h2
 have hp:=kX l w h2
 have e:s.press c i=fH l w:=e
 rw[e]
 unfold fH
 simp only[List.length_map]
 omega
abbrev cj:=List (Int×Press)
def Bill.memoTo(s:Bill)(c:List Ent)(next:Nat→cj→cj)(i:Nat):Nat→Nat→cj→cj
 | 0,_,m=>m
 | f+1,j,m=>if s.left c i j<0 then m else s.memoTo c next i f (j+1) (next j m)
def Bill.memoN(s:Bill)(c:List Ent):Nat→Nat→cj→cj
 | 0,_,m=>m
 | f+1,i,m=>if(m.any fun e=>decide (e.1=(i:Int)))=true then m else if i=c.length then m
  else s.memoTo c (s.memoN c f) i (c.length-i) (i+1) m++[((i:Int),s.press c i)]
theorem iE(s:Bill)(c:List Ent)(f i:Nat)(m:cj):s.memoN c (f+1) i m=if(m.any fun e=>decide (e.1=(i:Int)))=true then m else if i=c.length then m
 else s.memoTo c (s.memoN c f) i (c.length-i) (i+1) m++[((i:Int),s.press c i)]:=rfl
theorem ge(s:Bill)(c:List Ent)(next:Nat→cj→cj)(i f j:Nat)(m:cj):s.memoTo c next i (f+1) j m=if s.left c i j<0 then m else s.memoTo c next i f (j+1) (next j m):=rfl
def dv(s:Bill)(c:List Ent)(m:cj):Prop:=∀e∈m,∃i:Nat,e.1=i∧i<c.length∧e.2=s.press c i
theorem tc{s:Bill}{c:List Ent}{next:Nat→cj→cj}(h:∀j m,j≤c.length→dv s c m→dv s c (next j m))(i:Nat):∀(f j:Nat) (m:cj),j+f=c.length+1→dv s c m→dv s c (s.memoTo c next i f j m)
 | 0,_,_,_,hm=>hm
 | f+1,j,m,hf,hm=>by
  rw[ge]
  split
  ·exact hm
  ·exact tc h i f (j+1) _ (by omega) (h j m (by omega) hm)
theorem re{s:Bill}{c:List Ent}:∀(f i:Nat) (m:cj),i≤c.length→dv s c m→dv s c (s.memoN c f i m)
 | 0,_,_,_,hm=>hm
 | f+1,i,m,hi,hm=>by
  rw[iE]
  split
  ·exact hm
  ·split
   ·exact hm
   ·rename_i hne
    intro e he
    rcases List.mem_append.1 he with he|he
    ·exact tc (fun j m hj hm=>re f j m hj hm) i _ _ m (by omega) hm e he
    ·simp only[List.mem_singleton]at he
     subst he
     exact⟨i,rfl,by omega,rfl⟩
theorem lB{s:Bill}{c:List Ent}{next:Nat→cj→cj}(h:∀j m,∀e∈next j m,e∈m∨(j:Int)≤e.1)(i:Nat):∀(f j:Nat) (m:cj),∀e∈s.memoTo c next i f j m,e∈m∨(j:Int)≤e.1
 | 0,_,_,e,he=> .inl he
 | f+1,j,m,e,he=>by
  rw[ge]at he
  split at he
  ·exact .inl he
  ·rcases lB h i f (j+1) _ e he with h1|h1
   ·exact h j m e h1
   ·right;omega
theorem tb{s:Bill}{c:List Ent}:∀(f i:Nat) (m:cj),∀e∈s.memoN c f i m,e∈m∨(i:Int)≤e.1
 | 0,_,_,e,he=> .inl he
 | f+1,i,m,e,he=>by
  rw[iE]at he
  split at he
  ·exact .inl he
  ·split at he
   ·exact .inl he
   ·rcases List.mem_append.1 he with he|he
    ·rcases lB (fun j m=>tb f j m) i _ _ m e he with h1|h1
     ·exact .inl h1
     ·right;omega
    ·simp only[List.mem_singleton]at he
     subst he
     exact .inr (Int.le_refl _)
theorem xQ{s:Bill}{c:List Ent}{f i g:Nat}{m:cj}(h:(m.any fun e=>decide (e.1=(i:Int)))=false):((s.memoTo c (s.memoN c f) i g (i+1) m).any fun e=>decide (e.1=(i:Int)))=false:=by
 rw[List.any_eq_false]at h ⊢
 intro e he
 rcases lB (fun j m=>tb f j m) i g (i+1) m e he with h1|h1
 ·exact h e h1
 ·simp only[decide_eq_true_eq];omega
def Kr(e:Int×Press):AV:= .tuple [aj e.1,gD e.2]
def lA(m:cj):List AV:= .v (.int .i64 0)::m.map Kr
theorem nJ:∀(m:cj) (a:Int) (p:Press) (n:Nat),(∀e∈m,e.1=a→e.2=p)→(m.any fun e=>decide (e.1=a))=true→∃i,bb (.one (.int .i64)) (m.map Kr) (.int .i64 a) n=some (some (i,gD p))
 | [],a,p,n,_,h=>by simp at h
 | e::m,a,p,n,hm,h=>by
  have ht:dR (aj e.1)=some (.int .i64 e.1):=rfl
  have hty:KK.typed (.one (.int .i64)) (.int .i64 e.1)=true:=rfl
  have heq:∀x y:Int,eqV (.int .i64 x) (.int .i64 y)=decide (x=y):=fun x y=>rfl
  simp only[List.map_cons,Kr,bb,ht,hty,if_true,heq]
  by_cases q:e.1=a
  ·refine⟨n,?_⟩
   rw[if_pos (by simp[q]),hm e (List.mem_cons_self ..) q]
  ·rw[if_neg (by simp only[decide_eq_true_eq];exact fun h=>q h.symm)]
   exact nJ m a p (n+1) (fun f hf=>hm f (List.mem_cons_of_mem _ hf)) (by simpa[q]using h)
theorem eV:∀(m:cj) (a:Int) (n:Nat),(m.any fun e=>decide (e.1=a))=false→bb (.one (.int .i64)) (m.map Kr) (.int .i64 a) n=some none
 | [],a,n,h=>rfl
 | e::m,a,n,h=>by
  have ht:dR (aj e.1)=some (.int .i64 e.1):=rfl
  have hty:KK.typed (.one (.int .i64)) (.int .i64 e.1)=true:=rfl
  have heq:∀x y:Int,eqV (.int .i64 x) (.int .i64 y)=decide (x=y):=fun x y=>rfl
  simp only[List.map_cons,Kr,bb,ht,hty,if_true,heq]
  by_cases q:e.1=a
  ·simp[q]at h
  ·rw[if_neg (by simp only[decide_eq_true_eq];exact fun h=>q h.symm)]
   exact eV m a (n+1) (by simpa[q]using h)
theorem pW{s:Bill}{c:List Ent}{m:cj}(h:dv s c m){i:Nat}:∀e∈m,e.1=(i:Int)→e.2=s.press c i:=by
 intro e he hi
 obtain⟨j,h1,_,h2⟩:=h e he
 have:j=i:=by omega
 rw[h2,this]
end Go.Proofs.YtgncapdjheghfaaGreatDoor
namespace Go.Proofs.YtgncapdjheghfaaGreatDoor
open Go.Am Go.Proofs Go
def kG:Key:=⟨0,129,22⟩
theorem GU(n:Nat)(h0:0<n)(hn:n≤1000):BoxA Tryz.prog (.fn 129) [] [.slice 0 [] .tight,aj n] (.own kG 1 1 0 0) [(kG,1,1,List.replicate n (aj 0))]:=by
 refine aN ao { l:=0,f:=129,ow:=[22]} mixed EK Tryz.func129 (by kernel_rfl) ?_
 conv=>whnf
 repeat(any_goals(first|exact ab|(refine ap ?_ ?_<;>intro _<;>first|exact aq|conv=>whnf)|((first|refine ac ?_|refine bi ?_ ?_|intro _)<;>conv=>whnf)))
 refine And.intro ?_ ?_
 ·conv=>whnf
  refine⟨⟨?_⟩,trivial⟩
  rfl
 ·repeat(first|exact trivial|refine And.intro rfl ?_|refine And.intro (by rfl) ?_)
theorem K3(ks:List Key)(n:Nat)(a:Int):tkL (tk2 ks) (List.replicate n (aj a))=some (List.replicate n (aj a)):=by
 induction n with
 | zero=>rfl
 | succ n ih=>simp only[List.replicate_succ,tkL,ih];rfl
def Kg(l:List Int):Nat→AV
 | 0=> .own kG 1 1 0 0
 | 1=> .own kG 2 1 1 0
 | _=> .own kG 3 1 (1+(l.map aj).length) 0
def GN(x:Int)(l:List Int):Nat→jd
 | 0=>(1,some (1,List.replicate (l.length+1) (aj 0)))
 | 1=>(2,some (1,[aj x]))
 | _=>(3,some (1,(x::l).map aj))
def iV(l:List Int):Nat→Nat
 | 0=>0
 | 1=>1
 | _=>l.length+1
theorem oC(l:List Int)(n:Nat)(h:n=l.length):eA ((l.map aj).take n)=some (l.map aj):=by
 rw[List.take_of_length_le (by rw[List.length_map];omega)]
 clear h
 induction l with
 | nil=>rfl
 | cons x l ih=>simp only[List.map_cons,eA,ih,show wN (aj x)=some (aj x)from rfl]
theorem xD(x:Int)(l:List Int)(hl:l.length≤6):PureA Tryz.prog 106 [.slice 1 [.slice 1 [aj x] .no,aD l] .no] (aD (x::l)):=by
 have hg:=GU (l.length+1) (by omega) (by omega)
 have hel:(l.map aj).length=l.length:=List.length_map ..
 have c0:iV l 0=0:=rfl
 have c1:iV l 1=1:=rfl
 have c2:iV l 2=l.length+1:=rfl
 have hx:(List.map aj [x]).length=1:=rfl
 refine ag ao { l:=0,f:=106,mat:=[129],ow:=[33]} mixed xq Tryz.func106 (by kernel_rfl) ?_
 conv=>whnf
 refine aO ao { l:=0,f:=106,mat:=[129],ow:=[33]} mixed (fun i:Nat=>[(11,aj i),(3,aj (iV l i))]) (fun _=>[]) (fun _=>[]) (fun i=>i≤2) (fun i=>2-i) 0 (by kernel_rfl)
  (Nat.zero_le _) ?_
 conv=>whnf
 refine⟨⟨ai rfl (ai rfl trivial),trivial,trivial⟩,?_⟩
 intro i hi
 rcases(by omega:i=0∨i=1∨i=2)with rfl|rfl|rfl
 ·conv=>whnf
  repeat(any_goals(first|exact ab|(refine ap ?_ ?_<;>intro _<;>first|exact aq|conv=>whnf)|((first|refine ac ?_|refine bi ?_ ?_|intro _)<;>conv=>whnf)))
  (refine⟨1,(by omega),(by omega),?_⟩;(conv=>whnf);refine⟨?_,?_,?_⟩<;>repeat(first|exact trivial|refine sc rfl ?_|refine kn ?_|refine kc rfl ?_|refine sc (by rfl) ?_|refine kc (by rfl) ?_))
 ·conv=>whnf
  repeat(any_goals(first|exact ab|(refine ap ?_ ?_<;>intro _<;>first|exact aq|conv=>whnf)|((first|refine ac ?_|refine bi ?_ ?_|intro _)<;>conv=>whnf)))
  (refine⟨2,(by omega),(by omega),?_⟩;(conv=>whnf);refine⟨?_,?_,?_⟩<;>repeat(first|exact trivial|refine sc rfl ?_|refine kn ?_|refine kc rfl ?_|refine sc (by exact congrArg (fun z=>some (aj z)) (show(iV l 1:Int)+((l.map aj).length:Int)=iV l 2 by omega)) ?_|refine kc (by exact congrArg (fun z=>some (aj z)) (show(iV l 1:Int)+((l.map aj).length:Int)=iV l 2 by omega)) ?_))
 ·conv=>whnf
  repeat(any_goals(first|exact ab|(refine ap ?_ ?_<;>intro _<;>first|exact aq|conv=>whnf)|((first|refine ac ?_|refine bi ?_ ?_|intro _)<;>conv=>whnf)))
  refine⟨[],?_⟩
  conv=>whnf
  refine⟨_,_,hg,?_⟩
  conv=>whnf
  refine ah (K3 _ _ _) ?_
  conv=>whnf
  repeat(any_goals(first|exact ab|(refine ap ?_ ?_<;>intro _<;>first|exact aq|conv=>whnf)|((first|refine ac ?_|refine bi ?_ ?_|intro _)<;>conv=>whnf)))
  refine aO ao { l:=0,f:=106,mat:=[129],ow:=[33]} mixed (fun i:Nat=>[(27,aj i),(6,Kg l i)]) (fun i=>[(kG,some (GN x l i))]) (fun _=>[]) (fun i=>i≤2) (fun i=>2-i) 0 (by kernel_rfl)
   (Nat.zero_le _) ?_
  conv=>whnf
  refine⟨⟨ai rfl (ai rfl trivial),aL rfl trivial,trivial⟩,?_⟩
  intro i hi
  rcases(by omega:i=0∨i=1∨i=2)with rfl|rfl|rfl
  ·conv=>whnf
   repeat(any_goals(first|exact ab|(refine ap ?_ ?_<;>intro _<;>first|exact aq|conv=>whnf)|((first|refine ac ?_|refine bi ?_ ?_|intro _)<;>conv=>whnf)))
   (refine⟨1,(by omega),(by omega),?_⟩;(conv=>whnf);refine⟨?_,?_,?_⟩<;>repeat(first|exact trivial|refine sc rfl ?_|refine kn ?_|refine kc rfl ?_|refine sc (by rfl) ?_|refine kc (by rfl) ?_))
  ·conv=>whnf
   repeat(any_goals(first|exact ab|(refine ap ?_ ?_<;>intro _<;>first|exact aq|conv=>whnf)|((first|refine ac ?_|refine bi ?_ ?_|intro _)<;>conv=>whnf)))
   (refine⟨2,(by omega),(by omega),?_⟩;(conv=>whnf);refine⟨?_,?_,?_⟩<;>repeat(first|exact trivial|refine sc rfl ?_|refine kn ?_|refine kc rfl ?_|refine sc (by rfl) ?_|refine kc (by rfl) ?_))
  ·conv=>whnf
   repeat(any_goals(first|exact ab|(refine ap ?_ ?_<;>intro _<;>first|exact aq|conv=>whnf)|((first|refine ac ?_|refine bi ?_ ?_|intro _)<;>conv=>whnf)))
   refine ah (oC (x::l) _ (by rw[hel];simp only[List.length_cons];omega)) ?_
   conv=>whnf
   (refine⟨⟨?_⟩,trivial⟩;rfl)
theorem sn(x:Int):PureA Tryz.prog 106 [.slice 1 [.slice 1 [aj x] .no,lE] .no] (aD [x]):=by
 have hg:=GU (([]:List Int).length+1) (by decide) (by decide)
 have hel:(([]:List Int).map aj).length=([]:List Int).length:=List.length_map ..
 have c0:iV ([]:List Int) 0=0:=rfl
 have c1:iV ([]:List Int) 1=1:=rfl
 have c2:iV ([]:List Int) 2=([]:List Int).length+1:=rfl
 have hx:(List.map aj [x]).length=1:=rfl
 have hn0:([]:List AV).length=0:=rfl
 unfold lE
 refine ag ao { l:=0,f:=106,mat:=[129],ow:=[33]} mixed xq Tryz.func106 (by kernel_rfl) ?_
 conv=>whnf
 refine aO ao { l:=0,f:=106,mat:=[129],ow:=[33]} mixed (fun i:Nat=>[(11,aj i),(3,aj (iV ([]:List Int) i))]) (fun _=>[]) (fun _=>[]) (fun i=>i≤2) (fun i=>2-i) 0 (by kernel_rfl)
  (Nat.zero_le _) ?_
 conv=>whnf
 refine⟨⟨ai rfl (ai rfl trivial),trivial,trivial⟩,?_⟩
 intro i hi
 rcases(by omega:i=0∨i=1∨i=2)with rfl|rfl|rfl
 ·conv=>whnf
  repeat(any_goals(first|exact ab|(refine ap ?_ ?_<;>intro _<;>first|exact aq|conv=>whnf)|((first|refine ac ?_|refine bi ?_ ?_|intro _)<;>conv=>whnf)))
  (refine⟨1,(by omega),(by omega),?_⟩;(conv=>whnf);refine⟨?_,?_,?_⟩<;>repeat(first|exact trivial|refine sc rfl ?_|refine kn ?_|refine kc rfl ?_|refine sc (by rfl) ?_|refine kc (by rfl) ?_))
 ·conv=>whnf
  repeat(any_goals(first|exact ab|(refine ap ?_ ?_<;>intro _<;>first|exact aq|conv=>whnf)|((first|refine ac ?_|refine bi ?_ ?_|intro _)<;>conv=>whnf)))
  (refine⟨2,(by omega),(by omega),?_⟩;(conv=>whnf);refine⟨?_,?_,?_⟩<;>repeat(first|exact trivial|refine sc rfl ?_|refine kn ?_|refine kc rfl ?_|refine sc (by exact congrArg (fun z=>some (aj z)) (show(iV ([]:List Int) 1:Int)+(([]:List AV).length:Int)=iV ([]:List Int) 2 by omega)) ?_|refine kc (by exact congrArg (fun z=>some (aj z)) (show(iV ([]:List Int) 1:Int)+(([]:List AV).length:Int)=iV ([]:List Int) 2 by omega)) ?_))
 ·conv=>whnf
  repeat(any_goals(first|exact ab|(refine ap ?_ ?_<;>intro _<;>first|exact aq|conv=>whnf)|((first|refine ac ?_|refine bi ?_ ?_|intro _)<;>conv=>whnf)))
  refine⟨[],?_⟩
  conv=>whnf
  refine⟨_,_,hg,?_⟩
  conv=>whnf
  repeat(any_goals(first|exact ab|(refine ap ?_ ?_<;>intro _<;>first|exact aq|conv=>whnf)|((first|refine ac ?_|refine bi ?_ ?_|intro _)<;>conv=>whnf)))
  refine aO ao { l:=0,f:=106,mat:=[129],ow:=[33]} mixed (fun i:Nat=>[(27,aj i),(6,Kg ([]:List Int) i)]) (fun i=>[(kG,some (GN x ([]:List Int) i))]) (fun _=>[]) (fun i=>i≤2) (fun i=>2-i) 0 (by kernel_rfl)
   (Nat.zero_le _) ?_
  conv=>whnf
  refine⟨⟨ai rfl (ai rfl trivial),aL rfl trivial,trivial⟩,?_⟩
  intro i hi
  rcases(by omega:i=0∨i=1∨i=2)with rfl|rfl|rfl
  ·conv=>whnf
   repeat(any_goals(first|exact ab|(refine ap ?_ ?_<;>intro _<;>first|exact aq|conv=>whnf)|((first|refine ac ?_|refine bi ?_ ?_|intro _)<;>conv=>whnf)))
   (refine⟨1,(by omega),(by omega),?_⟩;(conv=>whnf);refine⟨?_,?_,?_⟩<;>repeat(first|exact trivial|refine sc rfl ?_|refine kn ?_|refine kc rfl ?_|refine sc (by rfl) ?_|refine kc (by rfl) ?_))
  ·conv=>whnf
   repeat(any_goals(first|exact ab|(refine ap ?_ ?_<;>intro _<;>first|exact aq|conv=>whnf)|((first|refine ac ?_|refine bi ?_ ?_|intro _)<;>conv=>whnf)))
   (refine⟨2,(by omega),(by omega),?_⟩;(conv=>whnf);refine⟨?_,?_,?_⟩<;>repeat(first|exact trivial|refine sc rfl ?_|refine kn ?_|refine kc rfl ?_|refine sc (by rfl) ?_|refine kc (by rfl) ?_))
  ·conv=>whnf
   repeat(any_goals(first|exact ab|(refine ap ?_ ?_<;>intro _<;>first|exact aq|conv=>whnf)|((first|refine ac ?_|refine bi ?_ ?_|intro _)<;>conv=>whnf)))
   (refine⟨⟨?_⟩,trivial⟩;rfl)
end Go.Proofs.YtgncapdjheghfaaGreatDoor
namespace Go.Proofs.YtgncapdjheghfaaGreatDoor
open Go.Am Go.Proofs Go
def en(s:Bill)(c:List Ent)(i:Nat):AV:=if i=c.length then .agg [.slice 0 [] .tight,aj 0]else gD (s.press c i)
theorem eo(s:Bill){c:List Ent}{i:Nat}(h:i<c.length):en s c i=gD (s.press c i):=by unfold en;rw[if_neg (by omega)]
theorem eO(s:Bill)(c:List Ent):en s c c.length = .agg [.slice 0 [] .tight,aj 0]:=by unfold en;rw[if_pos rfl]
def ng:Key:=⟨0,27,20⟩
theorem I0(s:Bill)(c:List Ent)(h6:c.length≤6)(i:Nat)(hi:i≤c.length)(m:cj)(hm:dv s c m)(hmet:(m.any fun e=>decide (e.1=(i:Int)))=true) :
  BoxA Tryz.prog (.fn 76) [cQ s,(ng,1,0,lA m)] [.ptr cz 1 5 0 0,aJ c,aj i,.mp ng 1] (en s c i) [cQ s,(ng,1,0,lA m)]:=by
 obtain⟨n,hn⟩:=nJ m i (s.press c i) 0 (pW hm) hmet
 have hlt:i<c.length:=by
  rw[List.any_eq_true]at hmet
  obtain⟨e,he,h1⟩:=hmet
  obtain⟨j,h2,h3,_⟩:=hm e he
  have h1:=of_decide_eq_true h1
  omega
 rw[eo s hlt]
 generalize s.press c i=R at *
 unfold gD tP
 refine aN ao { l:=0,f:=76} mixed lh Tryz.func76 (by kernel_rfl) ?_
 conv=>whnf
 repeat(any_goals(first|exact ab|(refine ap ?_ ?_<;>intro _<;>first|exact aq|conv=>whnf)|((first|rw[hn]|refine ac ?_|refine bi ?_ ?_|intro _)<;>conv=>whnf)))
 refine And.intro ?_ ?_
 ·conv=>whnf
  refine⟨⟨?_⟩,trivial⟩
  rfl
 ·repeat(first|exact trivial|refine And.intro rfl ?_|refine And.intro (by skip) ?_)
theorem CE(s:Bill)(c:List Ent)(h6:c.length≤6)(m:cj)(hm:dv s c m) :
  BoxA Tryz.prog (.fn 76) [cQ s,(ng,1,0,lA m)] [.ptr cz 1 5 0 0,aJ c,aj c.length,.mp ng 1] (en s c c.length) [cQ s,(ng,1,0,lA m)]:=by
 have hcl:(c.map bB).length=c.length:=List.length_map ..
 have hn:=eV m c.length 0 (by
  rw[List.any_eq_false]
  intro e he
  obtain⟨j,h2,h3,_⟩:=hm e he
  simp only[decide_eq_true_eq]
  omega)
 rw[eO]
 refine aN ao { l:=0,f:=76} mixed lh Tryz.func76 (by kernel_rfl) ?_
 conv=>whnf
 repeat(any_goals(first|exact ab|(refine ap ?_ ?_<;>intro _<;>first|exact aq|conv=>whnf)|((first|rw[hn]|refine ac ?_|refine bi ?_ ?_|intro _)<;>conv=>whnf)))
 refine And.intro ?_ ?_
 ·conv=>whnf
  refine⟨⟨?_⟩,trivial⟩
  rfl
 ·repeat(first|exact trivial|refine And.intro rfl ?_|refine And.intro (by skip) ?_)
structure PrSt where
 j:Nat
 best:Option Press
 m:cj
def J8:Option Press→AV
 | none=> .agg [.slice 0 [] .tight,aj 0]
 | some p=>gD p
theorem sqP{x:Int}(h0:0≤x)(h:x≤30):0≤x * x∧x * x≤900:=by
 have h1:=Int.mul_nonneg h0 h0
 have h2:=Int.mul_le_mul h h h0 (by omega)
 omega
def D5(p:Press):Prop:=p.pages.length≤7∧0≤p.white∧p.white≤6300
set_option maxHeartbeats 8000000 in
theorem I1(s:Bill)(hg:s.Good)(c:List Ent)(hc:∀x∈c,s.OkE x)(h6:c.length≤6)(f i:Nat)(hi:i<c.length)(m:cj)(hm:dv s c m)(hmet:(m.any fun e=>decide (e.1=(i:Int)))=false)
  (ih:∀(j:Nat) (m':cj),i<j→j≤c.length→dv s c m'→BoxA Tryz.prog (.fn 76) [cQ s,(ng,1,0,lA m')] [.ptr cz 1 5 0 0,aJ c,aj j,.mp ng 1] (en s c j) [cQ s,(ng,1,0,lA (s.memoN c f j m'))]) :
  BoxA Tryz.prog (.fn 76) [cQ s,(ng,1,0,lA m)] [.ptr cz 1 5 0 0,aJ c,aj i,.mp ng 1] (en s c i) [cQ s,(ng,1,0,lA (s.memoTo c (s.memoN c f) i (c.length-i) (i+1) m++[((i:Int),s.press c i)]))]:=by
 rw[eo s hi]
 have hn0:=eV m i 0 hmet
 have hnot:=xQ (s:=s) (c:=c) (f:=f) (g:=c.length-i) hmet
 have hR:=qa hg hc hi
 have hlf:=fun j hij hj=>xM s hg c hc h6 i j hij hj
 have hfit:=fun j (hj:j≤c.length)=>oA hg hc h6 hj
 have hle:=fun j (h1:i≤j) (h2:j≤c.length)=>nT hg hc h1 h2
 have hmok:=fun j m' (hj:j≤c.length) hm'=>re (s:=s) (c:=c) f j m' hj hm'
 have hcl:(c.map bB).length=c.length:=List.length_map ..
 have hpt:∀n j b,s.pressTo c (s.press c) i (n+1) j b=if s.left c i j<0 then b else s.pressTo c (s.press c) i n (j+1) (some (db b (jR s c (s.press c) i j))):=fun _ _ _=>rfl
 have hpt0:∀j b,s.pressTo c (s.press c) i 0 j b=b:=fun _ _=>rfl
 have hmt:=ge s c (s.memoN c f) i
 have hmt0:∀j m',s.memoTo c (s.memoN c f) i 0 j m'=m':=fun _ _=>rfl
 obtain⟨M,hM⟩:∃M,s.memoTo c (s.memoN c f) i (c.length-i) (i+1) m=M:=⟨_,rfl⟩
 rw[hM]at hnot ⊢
 have hn1:=eV M i 0 hnot
 generalize s.memoN c f=N at *
 generalize s.memoTo c N i=MT at *
 generalize s.pressTo c (s.press c) i=PT at *
 unfold jR at hpt
 have hend:s.press c c.length=⟨[],0⟩:=kJ s c
 generalize hP:s.press c=P at *
 generalize s.left c i=L at *
 clear hg hc
 refine aN ao { l:=0,f:=76,mat:=[76]} mixed lh Tryz.func76 (by kernel_rfl) ?_
 conv=>whnf
 repeat(any_goals(first|exact ab|(refine ap ?_ ?_<;>intro _<;>first|exact aq|conv=>whnf)|((first|rw[hn0]|refine ac ?_|refine bi ?_ ?_|intro _)<;>conv=>whnf)))
 refine aO ao { l:=0,f:=76,mat:=[76]} mixed (fun u:PrSt=>[(11,aj u.j),(10,aB u.best.isSome)]) (fun u=>[(⟨0,76,8⟩,some (1,some (2,[J8 u.best]))),(ng,some (1,some (0,lA u.m)))]) (fun _=>[]) (fun u=>(i<u.j∧u.j≤c.length+1)∧(dv s c u.m∧∀p,u.best=some p→D5 p)∧some (P i)=PT (c.length+1-u.j) u.j u.best∧M=MT (c.length+1-u.j) u.j u.m) (fun u=>c.length+1-u.j) (⟨i+1,none,m⟩:PrSt) (by kernel_rfl)
  ⟨⟨Nat.lt_succ_self _,by show i+1≤_;omega⟩,⟨hm,fun p h=>by cases h⟩,by rw[show c.length+1-(i+1)=c.length-i by omega];exact hR.symm,by rw[show c.length+1-(i+1)=c.length-i by omega];exact hM.symm⟩ ?_
 conv=>whnf
 refine⟨⟨ai rfl (ai rfl trivial),aL rfl (aL rfl trivial),trivial⟩,?_⟩
 clear hR hM hm hmet hn0 hnot
 rintro u ⟨⟨hij,hj⟩,⟨hm,hbf⟩,HR,HM⟩
 generalize u.j=j at *
 generalize u.best=best at *
 generalize u.m=m at *
 clear u
 by_cases hjl:j≤c.length
 ·obtain⟨n,hn⟩:∃n,c.length+1-j=n+1:=⟨c.length-j,by omega⟩
  have hn2:c.length+1-(j+1)=n:=by omega
  rw[hn,hpt]at HR
  rw[hn,hmt]at HM
  have hlj:=hlf j (by omega) hjl
  have hL:=hle j (by omega) hjl
  by_cases q:L j<0
  ·rw[if_pos q]at HR HM
   subst HM
   subst HR
   clear hlf hle hpt hmt hpt0 hmt0 ih hmok hfit
   generalize L j=y at *
   conv=>whnf
   repeat(any_goals(first|exact ab|(refine ap ?_ ?_<;>intro _<;>first|exact aq|conv=>whnf)|((first|refine af hlj rfl ?_|refine aa hlj ?_|rw[hn1]|refine ac ?_|refine bi ?_ ?_|intro _)<;>conv=>whnf)))
   refine And.intro ?_ ?_
   ·conv=>whnf
    refine⟨⟨?_⟩,trivial⟩
    rfl
   ·repeat(first|exact trivial|refine And.intro rfl ?_|refine And.intro (by(simp only[lA,List.map_append];rfl)) ?_)
  ·rw[if_neg q]at HR HM
   have hih:=ih j m hij hjl hm
   have hmk:=hmok j m hjl hm
   have hf:=hfit j hjl
   clear hlf hle hpt hmt hpt0 hmt0 ih hmok hfit hn1 hm
   generalize N j m=m2 at *
   by_cases hjc:j<c.length
   ·rw[eo s hjc,hP]at hih
    rw[if_pos hjc]at HR
    generalize P j=pj at *
    obtain⟨ps,w⟩:=pj
    simp only at hf HR
    have hcat:=xD (i:Int) ps (by omega)
    have hsq:0≤L j * L j∧L j * L j≤900:=sqP (by omega) hL
    generalize L j=y at *
    cases best with
    | none =>
     rw[show db none ⟨(i:Int)::ps,w+y * y⟩=⟨(i:Int)::ps,w+y * y⟩from rfl]at HR
     have hbn:∀p,some (⟨(i:Int)::ps,w+y * y⟩:Press)=some p→D5 p:=fun p hp=>by cases hp;exact⟨by simp only[List.length_cons];omega,by simp only;omega⟩
     conv=>whnf
     repeat(any_goals(first|exact ab|(refine ap ?_ ?_<;>intro _<;>first|exact aq|conv=>whnf)|((first|refine af hlj rfl ?_|refine aa hlj ?_|refine ac ?_|refine bi ?_ ?_|intro _)<;>conv=>whnf)))
     refine⟨[cz,ng],?_⟩
     conv=>whnf
     refine⟨_,_,hih,?_⟩
     conv=>whnf
     repeat(any_goals(first|exact ab|(refine ap ?_ ?_<;>intro _<;>first|exact aq|conv=>whnf)|((first|refine aa hcat ?_|fail|refine ac ?_|refine bi ?_ ?_|intro _)<;>conv=>whnf)))
     (refine⟨⟨j+1,some ⟨(i:Int)::ps,w+y * y⟩,m2⟩,⟨⟨by show i<j+1;omega,by show j+1≤_;omega⟩,⟨hmk,hbn⟩,by show some (P i)=PT (c.length+1-(j+1)) (j+1) _;rw[hn2];exact HR,by show M=MT (c.length+1-(j+1)) (j+1) _;rw[hn2];exact HM⟩,(by show _-(j+1)<_-j;omega),?_⟩;(conv=>whnf);refine⟨?_,?_,?_⟩<;>repeat(first|exact trivial|refine sc rfl ?_|refine kn ?_|refine kc rfl ?_|refine sc (by rfl) ?_|refine kc (by rfl) ?_))
    | some b =>
     have hb:=hbf b rfl
     have hbt:=mZ ⟨(i:Int)::ps,w+y * y⟩ b (by simp only[List.length_cons];omega) (by have:=hb.1;omega) (by simp only;omega) (by have:=hb.2;omega)
     by_cases hbb:bq ⟨(i:Int)::ps,w+y * y⟩ b=true
     ·rw[show db (some b) ⟨(i:Int)::ps,w+y * y⟩=⟨(i:Int)::ps,w+y * y⟩from if_pos hbb]at HR
      rw[hbb]at hbt
      have hbn:∀p,some (⟨(i:Int)::ps,w+y * y⟩:Press)=some p→D5 p:=fun p hp=>by cases hp;exact⟨by simp only[List.length_cons];omega,by simp only;omega⟩
      conv=>whnf
      repeat(any_goals(first|exact ab|(refine ap ?_ ?_<;>intro _<;>first|exact aq|conv=>whnf)|((first|refine af hlj rfl ?_|refine aa hlj ?_|refine ac ?_|refine bi ?_ ?_|intro _)<;>conv=>whnf)))
      refine⟨[cz,ng],?_⟩
      conv=>whnf
      refine⟨_,_,hih,?_⟩
      conv=>whnf
      repeat(any_goals(first|exact ab|(refine ap ?_ ?_<;>intro _<;>first|exact aq|conv=>whnf)|((first|refine aa hcat ?_|refine aa hbt ?_|refine ac ?_|refine bi ?_ ?_|intro _)<;>conv=>whnf)))
      (refine⟨⟨j+1,some ⟨(i:Int)::ps,w+y * y⟩,m2⟩,⟨⟨by show i<j+1;omega,by show j+1≤_;omega⟩,⟨hmk,hbn⟩,by show some (P i)=PT (c.length+1-(j+1)) (j+1) _;rw[hn2];exact HR,by show M=MT (c.length+1-(j+1)) (j+1) _;rw[hn2];exact HM⟩,(by show _-(j+1)<_-j;omega),?_⟩;(conv=>whnf);refine⟨?_,?_,?_⟩<;>repeat(first|exact trivial|refine sc rfl ?_|refine kn ?_|refine kc rfl ?_|refine sc (by rfl) ?_|refine kc (by rfl) ?_))
     ·rw[show db (some b) ⟨(i:Int)::ps,w+y * y⟩=b from if_neg hbb]at HR
      rw[Bool.eq_false_iff.2 hbb]at hbt
      have hbn:=hbf
      conv=>whnf
      repeat(any_goals(first|exact ab|(refine ap ?_ ?_<;>intro _<;>first|exact aq|conv=>whnf)|((first|refine af hlj rfl ?_|refine aa hlj ?_|refine ac ?_|refine bi ?_ ?_|intro _)<;>conv=>whnf)))
      refine⟨[cz,ng],?_⟩
      conv=>whnf
      refine⟨_,_,hih,?_⟩
      conv=>whnf
      repeat(any_goals(first|exact ab|(refine ap ?_ ?_<;>intro _<;>first|exact aq|conv=>whnf)|((first|refine aa hcat ?_|refine aa hbt ?_|refine ac ?_|refine bi ?_ ?_|intro _)<;>conv=>whnf)))
      (refine⟨⟨j+1,some b,m2⟩,⟨⟨by show i<j+1;omega,by show j+1≤_;omega⟩,⟨hmk,hbn⟩,by show some (P i)=PT (c.length+1-(j+1)) (j+1) _;rw[hn2];exact HR,by show M=MT (c.length+1-(j+1)) (j+1) _;rw[hn2];exact HM⟩,(by show _-(j+1)<_-j;omega),?_⟩;(conv=>whnf);refine⟨?_,?_,?_⟩<;>repeat(first|exact trivial|refine sc rfl ?_|refine kn ?_|refine kc rfl ?_|refine sc (by rfl) ?_|refine kc (by rfl) ?_))
   ·have hjc:j=c.length:=by omega
    rw[show en s c j = .agg [.slice 0 [] .tight,aj 0] by rw[hjc];exact eO s c]at hih
    rw[if_neg (by omega),show P j=⟨[],0⟩ by rw[hjc];exact hend]at HR
    simp only[Int.add_zero]at HR
    have hcat:=sn (i:Int)
    generalize L j=y at *
    cases best with
    | none =>
     rw[show db none ⟨[(i:Int)],0⟩=⟨[(i:Int)],0⟩from rfl]at HR
     have hbn:∀p,some (⟨[(i:Int)],0⟩:Press)=some p→D5 p:=fun p hp=>by cases hp;exact⟨by simp,by simp⟩
     conv=>whnf
     repeat(any_goals(first|exact ab|(refine ap ?_ ?_<;>intro _<;>first|exact aq|conv=>whnf)|((first|refine af hlj rfl ?_|refine aa hlj ?_|refine ac ?_|refine bi ?_ ?_|intro _)<;>conv=>whnf)))
     refine⟨[cz,ng],?_⟩
     conv=>whnf
     refine⟨_,_,hih,?_⟩
     conv=>whnf
     repeat(any_goals(first|exact ab|(refine ap ?_ ?_<;>intro _<;>first|exact aq|conv=>whnf)|((first|refine aa hcat ?_|fail|refine ac ?_|refine bi ?_ ?_|intro _)<;>conv=>whnf)))
     (refine⟨⟨j+1,some ⟨[(i:Int)],0⟩,m2⟩,⟨⟨by show i<j+1;omega,by show j+1≤_;omega⟩,⟨hmk,hbn⟩,by show some (P i)=PT (c.length+1-(j+1)) (j+1) _;rw[hn2];exact HR,by show M=MT (c.length+1-(j+1)) (j+1) _;rw[hn2];exact HM⟩,(by show _-(j+1)<_-j;omega),?_⟩;(conv=>whnf);refine⟨?_,?_,?_⟩<;>repeat(first|exact trivial|refine sc rfl ?_|refine kn ?_|refine kc rfl ?_|refine sc (by rfl) ?_|refine kc (by rfl) ?_))
    | some b =>
     have hb:=hbf b rfl
     have hbt:=mZ ⟨[(i:Int)],0⟩ b (by simp) (by have:=hb.1;omega) (by simp) (by have:=hb.2;omega)
     by_cases hbb:bq ⟨[(i:Int)],0⟩ b=true
     ·rw[show db (some b) ⟨[(i:Int)],0⟩=⟨[(i:Int)],0⟩from if_pos hbb]at HR
      rw[hbb]at hbt
      have hbn:∀p,some (⟨[(i:Int)],0⟩:Press)=some p→D5 p:=fun p hp=>by cases hp;exact⟨by simp,by simp⟩
      conv=>whnf
      repeat(any_goals(first|exact ab|(refine ap ?_ ?_<;>intro _<;>first|exact aq|conv=>whnf)|((first|refine af hlj rfl ?_|refine aa hlj ?_|refine ac ?_|refine bi ?_ ?_|intro _)<;>conv=>whnf)))
      refine⟨[cz,ng],?_⟩
      conv=>whnf
      refine⟨_,_,hih,?_⟩
      conv=>whnf
      repeat(any_goals(first|exact ab|(refine ap ?_ ?_<;>intro _<;>first|exact aq|conv=>whnf)|((first|refine aa hcat ?_|refine aa hbt ?_|refine ac ?_|refine bi ?_ ?_|intro _)<;>conv=>whnf)))
      (refine⟨⟨j+1,some ⟨[(i:Int)],0⟩,m2⟩,⟨⟨by show i<j+1;omega,by show j+1≤_;omega⟩,⟨hmk,hbn⟩,by show some (P i)=PT (c.length+1-(j+1)) (j+1) _;rw[hn2];exact HR,by show M=MT (c.length+1-(j+1)) (j+1) _;rw[hn2];exact HM⟩,(by show _-(j+1)<_-j;omega),?_⟩;(conv=>whnf);refine⟨?_,?_,?_⟩<;>repeat(first|exact trivial|refine sc rfl ?_|refine kn ?_|refine kc rfl ?_|refine sc (by rfl) ?_|refine kc (by rfl) ?_))
     ·rw[show db (some b) ⟨[(i:Int)],0⟩=b from if_neg hbb]at HR
      rw[Bool.eq_false_iff.2 hbb]at hbt
      have hbn:=hbf
      conv=>whnf
      repeat(any_goals(first|exact ab|(refine ap ?_ ?_<;>intro _<;>first|exact aq|conv=>whnf)|((first|refine af hlj rfl ?_|refine aa hlj ?_|refine ac ?_|refine bi ?_ ?_|intro _)<;>conv=>whnf)))
      refine⟨[cz,ng],?_⟩
      conv=>whnf
      refine⟨_,_,hih,?_⟩
      conv=>whnf
      repeat(any_goals(first|exact ab|(refine ap ?_ ?_<;>intro _<;>first|exact aq|conv=>whnf)|((first|refine aa hcat ?_|refine aa hbt ?_|refine ac ?_|refine bi ?_ ?_|intro _)<;>conv=>whnf)))
      (refine⟨⟨j+1,some b,m2⟩,⟨⟨by show i<j+1;omega,by show j+1≤_;omega⟩,⟨hmk,hbn⟩,by show some (P i)=PT (c.length+1-(j+1)) (j+1) _;rw[hn2];exact HR,by show M=MT (c.length+1-(j+1)) (j+1) _;rw[hn2];exact HM⟩,(by show _-(j+1)<_-j;omega),?_⟩;(conv=>whnf);refine⟨?_,?_,?_⟩<;>repeat(first|exact trivial|refine sc rfl ?_|refine kn ?_|refine kc rfl ?_|refine sc (by rfl) ?_|refine kc (by rfl) ?_))
 ·obtain rfl:j=c.length+1:=by omega
  rw[Nat.sub_self,hpt0]at HR
  rw[Nat.sub_self,hmt0]at HM
  subst HM
  subst HR
  clear hlf hle hpt hmt hpt0 hmt0 ih hmok hfit
  conv=>whnf
  repeat(any_goals(first|exact ab|(refine ap ?_ ?_<;>intro _<;>first|exact aq|conv=>whnf)|((first|rw[hn1]|refine ac ?_|refine bi ?_ ?_|intro _)<;>conv=>whnf)))
  refine And.intro ?_ ?_
  ·conv=>whnf
   refine⟨⟨?_⟩,trivial⟩
   rfl
  ·repeat(first|exact trivial|refine And.intro rfl ?_|refine And.intro (by(simp only[lA,List.map_append];rfl)) ?_)
theorem KO(s:Bill)(hg:s.Good)(c:List Ent)(hc:∀x∈c,s.OkE x)(h6:c.length≤6):∀(f i:Nat) (m:cj),i≤c.length→c.length-i≤f→dv s c m →
  BoxA Tryz.prog (.fn 76) [cQ s,(ng,1,0,lA m)] [.ptr cz 1 5 0 0,aJ c,aj i,.mp ng 1] (en s c i) [cQ s,(ng,1,0,lA (s.memoN c f i m))]:=by
 intro f
 induction f with
 | zero =>
  intro i m hi hf hm
  obtain rfl:i=c.length:=by omega
  rw[show s.memoN c 0 c.length m=m from rfl]
  exact CE s c h6 m hm
 | succ f ih =>
  intro i m hi hf hm
  rw[iE]
  by_cases hmet:(m.any fun e=>decide (e.1=(i:Int)))=true
  ·rw[if_pos hmet]
   exact I0 s c h6 i hi m hm hmet
  ·rw[if_neg hmet]
   by_cases hie:i=c.length
   ·rw[if_pos hie]
    subst hie
    exact CE s c h6 m hm
   ·rw[if_neg hie]
    exact I1 s hg c hc h6 f i (by omega) m hm (Bool.eq_false_iff.2 hmet) fun j m' h1 h2 h3=>ih j m' h2 (by omega) h3
def Bill.setR(s:Bill)(c:List Ent):Press×Int:=if bZ s c≠0 then(⟨[],0⟩,bZ s c)else(s.press c 0,0)
def G1(x:Press×Int):AV:= .tuple [aD x.1.pages,aj x.1.white,aj x.2]
theorem KT(s:Bill)(hr:s.small)(c:List Ent)(hl:c.length≤1048576)(e:Int)(hk:bZ s c=e)(h0:e≠0) :
  PureA Tryz.prog 27 [aI s,aJ c] (.tuple [lE,aj 0,aj e]):=by
 have he:=jU s hr c hl e hk h0
 refine ag ao { l:=0,f:=27,mat:=[71,76]} mixed uT Tryz.func27 (by kernel_rfl) ?_
 conv=>whnf
 repeat(any_goals(first|exact ab|(refine ap ?_ ?_<;>intro _<;>first|exact aq|conv=>whnf)|((first|refine ac ?_|refine bi ?_ ?_|intro _)<;>conv=>whnf)))
 refine⟨[],?_⟩
 conv=>whnf
 refine⟨_,_,he,?_⟩
 conv=>whnf
 repeat(any_goals(first|exact ab|(refine ap ?_ ?_<;>intro _<;>first|exact aq|conv=>whnf)|((first|refine ac ?_|refine bi ?_ ?_|intro _)<;>conv=>whnf)))
 (refine⟨⟨?_⟩,trivial⟩;rfl)
theorem KU(s:Bill)(hr:s.small)(c:List Ent)(hl:c.length≤1048576)(hk:bZ s c=0) :
  PureA Tryz.prog 27 [aI s,aJ c] (.tuple [(if c.length=0 then lE else aD (s.press c 0).pages),aj (s.press c 0).white,aj 0]):=by
 have he:=ea s hr c hl hk
 obtain⟨hg,hok,h6⟩:=bQ hk
 have hp:=KO s hg c hok h6 c.length 0 [] (Nat.zero_le _) (by omega) (fun e h=>by cases h)
 unfold cQ at he hp
 by_cases h0:c.length=0
 ·rw[if_pos h0]
  have e1:=eO s c
  have e2:=kJ s c
  rw[h0]at e1 e2
  rw[e1]at hp
  rw[e2]
  generalize s.memoN c c.length 0 []=M at *
  refine ag ao { l:=0,f:=27,mat:=[71,76]} mixed uT Tryz.func27 (by kernel_rfl) ?_
  conv=>whnf
  repeat(any_goals(first|exact ab|(refine ap ?_ ?_<;>intro _<;>first|exact aq|conv=>whnf)|((first|refine ac ?_|refine bi ?_ ?_|intro _)<;>conv=>whnf)))
  refine⟨[],?_⟩
  conv=>whnf
  refine⟨_,_,he,?_⟩
  conv=>whnf
  repeat(any_goals(first|exact ab|(refine ap ?_ ?_<;>intro _<;>first|exact aq|conv=>whnf)|((first|refine ac ?_|refine bi ?_ ?_|intro _)<;>conv=>whnf)))
  refine⟨[cz,ng],?_⟩
  conv=>whnf
  refine⟨_,_,hp,?_⟩
  conv=>whnf
  repeat(any_goals(first|exact ab|(refine ap ?_ ?_<;>intro _<;>first|exact aq|conv=>whnf)|((first|refine ac ?_|refine bi ?_ ?_|intro _)<;>conv=>whnf)))
  (refine⟨⟨?_⟩,trivial⟩;rfl)
 ·rw[if_neg h0]
  rw[eo s (by omega)]at hp
  generalize s.memoN c c.length 0 []=M at *
  generalize s.press c 0=R at *
  unfold gD tP at hp
  refine ag ao { l:=0,f:=27,mat:=[71,76]} mixed uT Tryz.func27 (by kernel_rfl) ?_
  conv=>whnf
  repeat(any_goals(first|exact ab|(refine ap ?_ ?_<;>intro _<;>first|exact aq|conv=>whnf)|((first|refine ac ?_|refine bi ?_ ?_|intro _)<;>conv=>whnf)))
  refine⟨[],?_⟩
  conv=>whnf
  refine⟨_,_,he,?_⟩
  conv=>whnf
  repeat(any_goals(first|exact ab|(refine ap ?_ ?_<;>intro _<;>first|exact aq|conv=>whnf)|((first|refine ac ?_|refine bi ?_ ?_|intro _)<;>conv=>whnf)))
  refine⟨[cz,ng],?_⟩
  conv=>whnf
  refine⟨_,_,hp,?_⟩
  conv=>whnf
  repeat(any_goals(first|exact ab|(refine ap ?_ ?_<;>intro _<;>first|exact aq|conv=>whnf)|((first|refine ac ?_|refine bi ?_ ?_|intro _)<;>conv=>whnf)))
  (refine⟨⟨?_⟩,trivial⟩;rfl)
theorem kR(s:Bill)(hr:s.small)(c:List Ent)(hl:c.length≤1048576):PureA Tryz.prog 27 [aI s,aJ c] (G1 (s.setR c)):=by
 unfold Bill.setR G1
 by_cases hk:bZ s c=0
 ·rw[if_neg (fun h=>h hk)]
  have h:=KU s hr c hl hk
  by_cases h0:c.length=0
  ·rw[if_pos h0]at h
   refine h.wk (Wk.tuple (.cons ?_ (WkL.refl _)))
   show Wk lE (aD (s.press c 0).pages)
   have e2:=kJ s c
   rw[h0]at e2
   rw[e2]
   exact Wk.nil 1
  ·rw[if_neg h0]at h
   exact h
 ·rw[if_pos hk]
  exact(KT s hr c hl _ rfl hk).wk (Wk.tuple (.cons (Wk.nil 1) (WkL.refl _)))
end Go.Proofs.YtgncapdjheghfaaGreatDoor
namespace Go.Proofs.YtgncapdjheghfaaGreatDoor
open Go.Am Go.Proofs Go
theorem xY{c:List Ent}:∀{l:List Nat} {i:Nat},bK c i l→∀x∈l,x<c.length
 | [],_,_,x,hx=>by simp at hx
 | j::l,i,⟨h1,h2,h3⟩,x,hx=>by
  rcases List.mem_cons.1 hx with rfl|hx
  ·have:=h3.le;omega
  ·exact xY h3 x hx
theorem xZ{c:List Ent}:∀{l:List Nat} {i k x y:Nat},bK c i l→l[k]?=some x→l[k+1]?=some y→x<y
 | [],_,_,_,_,_,hx,_=>by simp at hx
 | j::l,i,0,x,y,⟨h1,h2,h3⟩,hx,hy=>by
  cases l with
  | nil=>simp at hy
  | cons e l =>
   simp at hx hy
   have:bV c (e::l)=e:=rfl
   omega
 | j::l,i,k+1,x,y,⟨h1,h2,h3⟩,hx,hy=>xZ (k:=k) h3 (by simpa using hx) (by simpa using hy)
theorem pA{c:List Ent}(h6:c.length≤6){l:List Int}(h:l∈b7 c.length):PgOk c.length l:=by
 obtain⟨m,rfl,hm⟩:=(fK h6 _).1 h
 refine⟨fun i x hx=>?_,fun i x y hx hy=>?_⟩
 ·unfold bz at hx
  rw[List.getElem?_map,Option.map_eq_some_iff]at hx
  obtain⟨z,hz,rfl⟩:=hx
  have:=xY hm z (List.mem_of_getElem? hz)
  omega
 ·unfold bz at hx hy
  rw[List.getElem?_map,Option.map_eq_some_iff]at hx hy
  obtain⟨z,hz,rfl⟩:=hx
  obtain⟨u,hu,rfl⟩:=hy
  have:=xZ hm hz hu
  omega
theorem rK(s:Bill)(c:List Ent)(l:List Int)(L:List (List Int))(b:Option Press):s.refPress c (l::L) b=match s.whiteI c l with
 | none=>s.refPress c L b
 | some w=>s.refPress c L (some (db b ⟨l,w⟩)):=rfl
def Lv:Option Press→List (Nat×AV)
 | none=>[(7,.slice 0 [] .tight),(8,aj (-1))]
 | some ⟨pg,w⟩=>[(7,aD pg),(8,aj w)]
theorem tK(x pg:List Int)(w:Int):db (some ⟨pg,w⟩) ⟨x,w⟩=if ex x pg=true then⟨x,w⟩else⟨pg,w⟩:=by
 have:bq ⟨x,w⟩ ⟨pg,w⟩=ex x pg:=by unfold bq;exact if_neg (fun h=>h rfl)
 unfold db
 simp only[this]
theorem p7(x pg:List Int){w v:Int}(h:w≠v):db (some ⟨pg,v⟩) ⟨x,w⟩=if w<v then⟨x,w⟩else⟨pg,v⟩:=by
 have:bq ⟨x,w⟩ ⟨pg,v⟩=decide (w<v):=by unfold bq;exact if_pos h
 unfold db
 simp only[this,decide_eq_true_eq]
structure PrS where
 i:Nat
 b:Option Press
theorem nx{n:Nat}(h6:n≤6):(b7 n).length≤448:=by
 by_cases h:n=0
 ·subst h;decide
 ·rw[←AE h];exact AF h6 h h6 0
set_option maxHeartbeats 2000000 in
theorem tS(s:Bill)(hg:s.Good)(c:List Ent)(hok:∀x∈c,s.OkE x)(h6:c.length≤6) :
  PureA Tryz.prog 77 [aI s,aJ c] (.tuple [aD (s.press c 0).pages,aj (s.press c 0).white]):=by
 have hbr:=xo c.length h6
 have hR:=wT hg hok h6
 have hwh:=fun(p:List Int) (hp:p∈b7 c.length)=>xg s hg c hok h6 p (by have:=ir h6 hp;omega) (pA h6 hp)
 have hll:=fun(p:List Int) (hp:p∈b7 c.length)=>ir h6 hp
 have hpos:∀l w,s.whiteI c l=some w→0≤w:=fun l w h=>kX _ _ h
 have hDl:=nx h6
 have hcl:(c.map bB).length=c.length:=List.length_map ..
 generalize s.press c 0=R at *
 generalize b7 c.length=D at *
 rw[←hcl]at hbr
 have hDm:(D.map aD).length=D.length:=List.length_map ..
 have hrc:=rK s c
 unfold aI at hwh
 clear hg hok
 refine ag ao { l:=0,f:=77} mixed H0 Tryz.func77 (by kernel_rfl) ?_
 conv=>whnf
 repeat(any_goals(first|exact ab|(refine ap ?_ ?_<;>intro _<;>first|exact aq|conv=>whnf)|((first|refine aa hbr ?_|refine af hbr rfl ?_|refine ac ?_|refine bi ?_ ?_|intro _)<;>conv=>whnf)))
 refine aO ao { l:=0,f:=77} mixed (fun u:PrS=>(9,aj u.i)::Lv u.b) (fun _=>[]) (fun _=>[]) (fun u=>u.i≤D.length∧(∀p,u.b=some p→p.pages∈D∧0≤p.white)∧s.refPress c (D.drop u.i) u.b=some R) (fun u=>D.length-u.i) (⟨0,none⟩:PrS) (by kernel_rfl)
  ⟨Nat.zero_le _,(fun p h=>by cases h),hR⟩ ?_
 conv=>whnf
 refine⟨⟨ai rfl (ai rfl (ai rfl trivial)),trivial,trivial⟩,?_⟩
 clear hR
 rintro u ⟨hi,hb,H⟩
 generalize u.i=i at *
 generalize u.b=b at *
 clear u
 by_cases hlt:i<D.length
 ·obtain⟨x,hx,hd⟩:=ay (l:=D) (i:=i) hlt
  rw[hd,hrc]at H
  have hxm:=List.mem_of_getElem? hx
  have hw:=hwh x hxm
  have hx6:=hll x hxm
  have hwp:=hpos x
  cases hv:s.whiteI c x with
  | none =>
   rw[hv]at hw H
   have hw:PureA Tryz.prog 75 _ (.tuple [aj 0,aB false]):=hw
   have H:s.refPress c (D.drop (i+1)) b=some R:=H
   cases b with
   | none =>
    conv=>whnf
    repeat(any_goals(first|exact ab|(refine ap ?_ ?_<;>intro _<;>first|exact aq|conv=>whnf)|((first|refine ae hx rfl ?_|refine aa hw ?_|refine af hw rfl ?_|refine ac ?_|refine bi ?_ ?_|intro _)<;>conv=>whnf)))
    (refine⟨⟨i+1,none⟩,⟨by show i+1≤_;omega,hb,H⟩,(by show _-(i+1)<_-i;omega),?_⟩;(conv=>whnf);refine⟨?_,?_,?_⟩<;>repeat(first|exact trivial|refine sc rfl ?_|refine kn ?_|refine kc rfl ?_|refine sc (by rfl) ?_|refine kc (by rfl) ?_))
   | some p =>
    conv=>whnf
    repeat(any_goals(first|exact ab|(refine ap ?_ ?_<;>intro _<;>first|exact aq|conv=>whnf)|((first|refine ae hx rfl ?_|refine aa hw ?_|refine af hw rfl ?_|refine ac ?_|refine bi ?_ ?_|intro _)<;>conv=>whnf)))
    (refine⟨⟨i+1,some p⟩,⟨by show i+1≤_;omega,hb,H⟩,(by show _-(i+1)<_-i;omega),?_⟩;(conv=>whnf);refine⟨?_,?_,?_⟩<;>repeat(first|exact trivial|refine sc rfl ?_|refine kn ?_|refine kc rfl ?_|refine sc (by rfl) ?_|refine kc (by rfl) ?_))
  | some w =>
   rw[hv]at hw H
   have hw:PureA Tryz.prog 75 _ (.tuple [aj (0+w),aB true]):=hw
   rw[Int.zero_add]at hw
   have H:s.refPress c (D.drop (i+1)) (some (db b ⟨x,w⟩))=some R:=H
   have hw0:=hwp w hv
   have hnew:∀p,some (⟨x,w⟩:Press)=some p→p.pages∈D∧0≤p.white:=fun p h=>by cases h;exact⟨hxm,hw0⟩
   cases b with
   | none =>
    have H:s.refPress c (D.drop (i+1)) (some ⟨x,w⟩)=some R:=H
    conv=>whnf
    repeat(any_goals(first|exact ab|(refine ap ?_ ?_<;>intro _<;>first|exact aq|conv=>whnf)|((first|refine ae hx rfl ?_|refine aa hw ?_|refine af hw rfl ?_|refine ac ?_|refine bi ?_ ?_|intro _)<;>conv=>whnf)))
    (refine⟨⟨i+1,some ⟨x,w⟩⟩,⟨by show i+1≤_;omega,hnew,H⟩,(by show _-(i+1)<_-i;omega),?_⟩;(conv=>whnf);refine⟨?_,?_,?_⟩<;>repeat(first|exact trivial|refine sc rfl ?_|refine kn ?_|refine kc rfl ?_|refine sc (by rfl) ?_|refine kc (by rfl) ?_))
   | some p =>
    obtain⟨pg,pw⟩:=p
    obtain⟨hpm,hp0⟩:=hb _ rfl
    simp only at hpm hp0
    have hp6:=hll pg hpm
    have hfw:=Bo x pg (by omega) (by omega)
    by_cases q1:w=pw
    ·subst q1
     cases hf:ex x pg with
     | true =>
      rw[hf]at hfw
      have H:s.refPress c (D.drop (i+1)) (some ⟨x,w⟩)=some R:=by
       rw[←H,tK,hf];rfl
      conv=>whnf
      repeat(any_goals(first|exact ab|(refine ap ?_ ?_<;>intro _<;>first|exact aq|conv=>whnf)|((first|refine ae hx rfl ?_|refine aa hw ?_|refine af hw rfl ?_|refine aa hfw ?_|refine af hfw rfl ?_|refine ac ?_|refine bi ?_ ?_|intro _)<;>conv=>whnf)))
      all_goals(refine⟨⟨i+1,some ⟨x,w⟩⟩,⟨by show i+1≤_;omega,hnew,H⟩,(by show _-(i+1)<_-i;omega),?_⟩;(conv=>whnf);refine⟨?_,?_,?_⟩<;>repeat(first|exact trivial|refine sc rfl ?_|refine kn ?_|refine kc rfl ?_|refine sc (by rfl) ?_|refine kc (by rfl) ?_))
     | false =>
      rw[hf]at hfw
      have H:s.refPress c (D.drop (i+1)) (some ⟨pg,w⟩)=some R:=by
       rw[←H,tK,hf];rfl
      conv=>whnf
      repeat(any_goals(first|exact ab|(refine ap ?_ ?_<;>intro _<;>first|exact aq|conv=>whnf)|((first|refine ae hx rfl ?_|refine aa hw ?_|refine af hw rfl ?_|refine aa hfw ?_|refine af hfw rfl ?_|refine ac ?_|refine bi ?_ ?_|intro _)<;>conv=>whnf)))
      all_goals(refine⟨⟨i+1,some ⟨pg,w⟩⟩,⟨by show i+1≤_;omega,hb,H⟩,(by show _-(i+1)<_-i;omega),?_⟩;(conv=>whnf);refine⟨?_,?_,?_⟩<;>repeat(first|exact trivial|refine sc rfl ?_|refine kn ?_|refine kc rfl ?_|refine sc (by rfl) ?_|refine kc (by rfl) ?_))
    ·by_cases q2:w<pw
     ·have H:s.refPress c (D.drop (i+1)) (some ⟨x,w⟩)=some R:=by
       rw[←H,p7 x pg q1,if_pos q2]
      conv=>whnf
      repeat(any_goals(first|exact ab|(refine ap ?_ ?_<;>intro _<;>first|exact aq|conv=>whnf)|((first|refine ae hx rfl ?_|refine aa hw ?_|refine af hw rfl ?_|refine ac ?_|refine bi ?_ ?_|intro _)<;>conv=>whnf)))
      all_goals(refine⟨⟨i+1,some ⟨x,w⟩⟩,⟨by show i+1≤_;omega,hnew,H⟩,(by show _-(i+1)<_-i;omega),?_⟩;(conv=>whnf);refine⟨?_,?_,?_⟩<;>repeat(first|exact trivial|refine sc rfl ?_|refine kn ?_|refine kc rfl ?_|refine sc (by rfl) ?_|refine kc (by rfl) ?_))
     ·have H:s.refPress c (D.drop (i+1)) (some ⟨pg,pw⟩)=some R:=by
       rw[←H,p7 x pg q1,if_neg q2]
      conv=>whnf
      repeat(any_goals(first|exact ab|(refine ap ?_ ?_<;>intro _<;>first|exact aq|conv=>whnf)|((first|refine ae hx rfl ?_|refine aa hw ?_|refine af hw rfl ?_|refine ac ?_|refine bi ?_ ?_|intro _)<;>conv=>whnf)))
      all_goals(refine⟨⟨i+1,some ⟨pg,pw⟩⟩,⟨by show i+1≤_;omega,hb,H⟩,(by show _-(i+1)<_-i;omega),?_⟩;(conv=>whnf);refine⟨?_,?_,?_⟩<;>repeat(first|exact trivial|refine sc rfl ?_|refine kn ?_|refine kc rfl ?_|refine sc (by rfl) ?_|refine kc (by rfl) ?_))
 ·have hin:i=D.length:=by omega
  subst hin
  rw[List.drop_length]at H
  have H:b=some R:=H
  subst H
  conv=>whnf
  repeat(any_goals(first|exact ab|(refine ap ?_ ?_<;>intro _<;>first|exact aq|conv=>whnf)|((first|refine ac ?_|refine bi ?_ ?_|intro _)<;>conv=>whnf)))
  (refine⟨⟨?_⟩,trivial⟩;rfl)
theorem FE(s:Bill)(hr:s.small)(c:List Ent):PureA Tryz.prog 28 [aI s,aJ c] (G1 (s.setR c)):=by
 have hk:=iL s hr c
 unfold Bill.setR G1
 obtain⟨e,he⟩:∃e,bZ s c=e:=⟨_,rfl⟩
 rw[he]at hk ⊢
 unfold aI at hk
 by_cases h0:e=0
 ·rw[if_neg (fun h=>h h0)]
  subst h0
  obtain⟨hg,hok,h6⟩:=bQ he
  have hp:=tS s hg c hok h6
  unfold aI at hp
  generalize s.press c 0=R at *
  clear hg hok
  refine ag ao { l:=0,f:=28} mixed AW Tryz.func28 (by kernel_rfl) ?_
  conv=>whnf
  repeat(any_goals(first|exact ab|(refine ap ?_ ?_<;>intro _<;>first|exact aq|conv=>whnf)|((first|refine aa hk ?_|refine af hk rfl ?_|refine aa hp ?_|refine af hp rfl ?_|refine ac ?_|refine bi ?_ ?_|intro _)<;>conv=>whnf)))
  (refine⟨⟨?_⟩,trivial⟩;rfl)
 ·rw[if_pos h0]
  have h:PureA Tryz.prog 28 [aI s,aJ c] (.tuple [lE,aj 0,aj e]):=by
   refine ag ao { l:=0,f:=28} mixed AW Tryz.func28 (by kernel_rfl) ?_
   conv=>whnf
   repeat(any_goals(first|exact ab|(refine ap ?_ ?_<;>intro _<;>first|exact aq|conv=>whnf)|((first|refine aa hk ?_|refine af hk rfl ?_|refine ac ?_|refine bi ?_ ?_|intro _)<;>conv=>whnf)))
   (refine⟨⟨?_⟩,trivial⟩;rfl)
  exact h.wk (Wk.tuple (.cons (Wk.nil 1) (WkL.refl _)))
theorem wQ(s:Bill)(c:List Ent)(l:List Int)(L:List (List Int))(b:Nat):s.refFew c (l::L) b=match s.whiteI c l with
 | none=>s.refFew c L b
 | some _=>s.refFew c L (min b l.length):=rfl
structure FeS where
 i:Nat
 b:Nat
set_option maxHeartbeats 2000000 in
theorem wR(s:Bill)(hr:s.small)(c:List Ent):PureA Tryz.prog 31 [aI s,aJ c] (.tuple [aj (s.fewR c).1,aj (s.fewR c).2]):=by
 have hk:=iL s hr c
 unfold Bill.fewR
 obtain⟨e,he⟩:∃e,bZ s c=e:=⟨_,rfl⟩
 rw[he]at hk ⊢
 unfold aI at hk
 by_cases h0:e=0
 ·rw[if_neg (fun h=>h h0)]
  subst h0
  obtain⟨hg,hok,h6⟩:=bQ he
  have hbr:=xo c.length h6
  have hR:=CO hg hok h6
  have hwh:=fun(p:List Int) (hp:p∈b7 c.length)=>xg s hg c hok h6 p (by have:=ir h6 hp;omega) (pA h6 hp)
  have hll:=fun(p:List Int) (hp:p∈b7 c.length)=>ir h6 hp
  have hDl:=nx h6
  have hcl:(c.map bB).length=c.length:=List.length_map ..
  generalize s.few c=R at *
  generalize b7 c.length=D at *
  rw[←hcl]at hbr
  have hDm:(D.map aD).length=D.length:=List.length_map ..
  have hrc:=wQ s c
  unfold aI at hwh
  clear hg hok he
  rw[←hcl]at hR
  generalize hB0:(c.map bB).length=B0 at hR
  refine ag ao { l:=0,f:=31} mixed AY Tryz.func31 (by kernel_rfl) ?_
  conv=>whnf
  repeat(any_goals(first|exact ab|(refine ap ?_ ?_<;>intro _<;>first|exact aq|conv=>whnf)|((first|refine aa hk ?_|refine af hk rfl ?_|refine aa hbr ?_|refine af hbr rfl ?_|refine ac ?_|refine bi ?_ ?_|intro _)<;>conv=>whnf)))
  refine aO ao { l:=0,f:=31} mixed (fun u:FeS=>[(9,aj u.i),(8,aj u.b)]) (fun _=>[]) (fun _=>[]) (fun u=>u.i≤D.length∧s.refFew c (D.drop u.i) u.b=R) (fun u=>D.length-u.i) (⟨0,B0⟩:FeS) (by kernel_rfl)
   ⟨Nat.zero_le _,hR⟩ ?_
  conv=>whnf
  refine⟨⟨ai rfl (ai (by rw[←hB0];rfl) trivial),trivial,trivial⟩,?_⟩
  clear hR hB0
  rintro u ⟨hi,H⟩
  generalize u.i=i at *
  generalize u.b=b at *
  clear u
  by_cases hlt:i<D.length
  ·obtain⟨x,hx,hd⟩:=ay (l:=D) (i:=i) hlt
   rw[hd,hrc]at H
   have hxm:=List.mem_of_getElem? hx
   have hw:=hwh x hxm
   have hx6:=hll x hxm
   have hxl:(x.map aj).length=x.length:=List.length_map ..
   cases hv:s.whiteI c x with
   | none =>
    rw[hv]at hw H
    have hw:PureA Tryz.prog 75 _ (.tuple [aj 0,aB false]):=hw
    have H:s.refFew c (D.drop (i+1)) b=R:=H
    conv=>whnf
    repeat(any_goals(first|exact ab|(refine ap ?_ ?_<;>intro _<;>first|exact aq|conv=>whnf)|((first|refine ae hx rfl ?_|refine aa hw ?_|refine af hw rfl ?_|refine ac ?_|refine bi ?_ ?_|intro _)<;>conv=>whnf)))
    (refine⟨⟨i+1,b⟩,⟨by show i+1≤_;omega,H⟩,(by show _-(i+1)<_-i;omega),?_⟩;(conv=>whnf);refine⟨?_,?_,?_⟩<;>repeat(first|exact trivial|refine sc rfl ?_|refine kn ?_|refine kc rfl ?_|refine sc (by rfl) ?_|refine kc (by rfl) ?_))
   | some w =>
    rw[hv]at hw H
    have hw:PureA Tryz.prog 75 _ (.tuple [aj (0+w),aB true]):=hw
    have H:s.refFew c (D.drop (i+1)) (min b x.length)=R:=H
    have hpk:zB false (b:Int) ((x.map aj).length:Int)=((min b x.length:Nat):Int):=by
     rw[hxl]
     unfold zB
     by_cases q:b≤x.length
     ·rw[Nat.min_eq_left q];simp;omega
     ·rw[Nat.min_eq_right (by omega)];simp;omega
    conv=>whnf
    repeat(any_goals(first|exact ab|(refine ap ?_ ?_<;>intro _<;>first|exact aq|conv=>whnf)|((first|refine ae hx rfl ?_|refine aa hw ?_|refine af hw rfl ?_|refine ac ?_|refine bi ?_ ?_|intro _)<;>conv=>whnf)))
    all_goals(refine⟨⟨i+1,min b x.length⟩,⟨by show i+1≤_;omega,H⟩,(by show _-(i+1)<_-i;omega),?_⟩;(conv=>whnf);refine⟨?_,?_,?_⟩<;>repeat(first|exact trivial|refine sc rfl ?_|refine kn ?_|refine kc rfl ?_|refine sc (by exact(congrArg (fun z=>some (aj z)) hpk)) ?_|refine kc (by exact(congrArg (fun z=>some (aj z)) hpk)) ?_))
  ·have hin:i=D.length:=by omega
   subst hin
   rw[List.drop_length]at H
   have H:b=R:=H
   subst H
   conv=>whnf
   repeat(any_goals(first|exact ab|(refine ap ?_ ?_<;>intro _<;>first|exact aq|conv=>whnf)|((first|refine ac ?_|refine bi ?_ ?_|intro _)<;>conv=>whnf)))
   (refine⟨⟨?_⟩,trivial⟩;rfl)
 ·rw[if_pos h0]
  refine ag ao { l:=0,f:=31} mixed AY Tryz.func31 (by kernel_rfl) ?_
  conv=>whnf
  repeat(any_goals(first|exact ab|(refine ap ?_ ?_<;>intro _<;>first|exact aq|conv=>whnf)|((first|refine aa hk ?_|refine af hk rfl ?_|refine ac ?_|refine bi ?_ ?_|intro _)<;>conv=>whnf)))
  (refine⟨⟨?_⟩,trivial⟩;rfl)
end Go.Proofs.YtgncapdjheghfaaGreatDoor
namespace Go.Proofs.YtgncapdjheghfaaGreatDoor
open Go.Am Go.Proofs Go
def kTr:Key:=⟨0,36,59⟩
def kSd:Key:=⟨0,36,12⟩
def L5:List Int→AV
 | []=> .slice 0 [] .tight
 | x::l=> .own kTr (l.length+1) 1 (l.length+1) 0
def trS:List Int→jd
 | []=>(0,none)
 | x::l=>(l.length+1,some (1,(x::l).map aj))
structure TrSt where
 i:Nat
 ts:List Int
theorem JE(y:Int)(l:List Int)(x:Int):trS ((y::l)++[x])=(l.length+1+1,some (1,((y::l).map aj).take (l.length+1)++[aj x]))∧L5 ((y::l)++[x]) = .own kTr (l.length+1+1) 1 (l.length+1+1) 0:=by
 have h1:(l++[x]).length=l.length+1:=by simp
 have h3:(y::(l++[x])).map aj=((y::l).map aj).take (l.length+1)++[aj x]:=by rw[List.take_of_length_le (by simp)];simp
 refine⟨?_,?_⟩
 ·show((l++[x]).length+1,some (1,(y::(l++[x])).map aj))=_
  rw[h1,h3]
 ·show AV.own kTr ((l++[x]).length+1) 1 ((l++[x]).length+1) 0=_
  rw[h1]
theorem qM(left i:Nat)(t:Int)(l:List Int):bR left i (t::l)=if left.testBit i=true then t::bR left (i+1) l else bR left (i+1) l:=rfl
theorem Lx(left i:Nat)(hl:left<64)(hi:i≤64):decide (fb (k8 left i) 1=1)=left.testBit i:=Hj left i (e7 hl) hi
def dL(s:Bill):Nat→List Ent→List Int
 | _,[]=>[]
 | i,x::l=>if x.says=2∧s.inSome x.a.toNat=false then(i:Int)::dL s (i+1) l else dL s (i+1) l
def kQ:List Int→List Ent→List Int
 | sd,[]=>sd
 | sd,x::l=>kQ (sd.set x.a.toNat (x.says+1)) l
def dc(s:Bill)(D:List Int):Nat→Nat→List Int
 | 0,_=>[]
 | f+1,i=>if s.inAll i=true∧D.getD i 0≠1 then(i:Int)::dc s D f (i+1)else dc s D f (i+1)
def Jq(S:Bill)(c:List Ent)(n:Nat):AV :=
 .tuple [aD (dL S 0 c),(if kQ [0,0,0,0,0,0] c=[0,0,0,0,0,0]then lE else aD (dc S (kQ [0,0,0,0,0,0] c) n 0)),aj 0]
def sdC(sd:List Int):List AV:=sd.flatMap fun v=>[aj v,aj 0,aj 0]
theorem ip(s:Bill)(i:Nat)(x:Ent)(l:List Ent):dL s i (x::l)=if x.says=2∧s.inSome x.a.toNat=false then(i:Int)::dL s (i+1) l else dL s (i+1) l:=rfl
theorem lX(sd:List Int)(x:Ent)(l:List Ent):kQ sd (x::l)=kQ (sd.set x.a.toNat (x.says+1)) l:=rfl
theorem six{α:Type}:∀l:List α,l.length=6→∃a b c d e f,l=[a,b,c,d,e,f]
 | [a,b,c,d,e,f],_=>⟨_,_,_,_,_,_,rfl⟩
structure SdSt where
 j:Nat
 ks:List Int
 sd:List Int
theorem Jr{s:Bill}(hg:s.Good)(n:Nat)(h:n<6):decide (fb (k8 s.someN n) 1=0) = !s.inSome n:=by
 have h1:=ft hg
 have e:=Hj s.someN n (e7 h1) (by omega)
 have e2:fb (k8 s.someN n) 1=(((s.someN/2^n)%2:Nat):Int):=by
  rw[kS _ _ (by omega)]
  have:=fZ (s.someN/2^n) 1 (Nat.lt_of_le_of_lt (Nat.div_le_self _ _) (e7 h1)) (by omega)
  rw[qE]at this
  exact this
 rw[dm]at e
 rw[←e,e2]
 have:(s.someN/2^n)%2=0∨(s.someN/2^n)%2=1:=by omega
 rcases this with h|h<;>rw[h]<;>rfl
noncomputable def mt:Code→List Code
 | .seq x y=>mt x++mt y
 | .cond _ x y=>mt x++mt y
 | .block _ c=>mt c
 | .scope c=>mt c
 | .loop c=>[c]
 | _=>[]
theorem xP{rd:Bool}{P:Program}{N:Nat}{c:Code}{Q:Exit→SS→Prop}{ss:SS}(ss':SS)(hw:uB ss ss')(h:LoopW rd P N c Q ss'):LoopW rd P N c Q ss:=⟨fun S hs=>h.go S ((uC hw).go S hs)⟩
noncomputable def sdB:Code:=((mt (Tryz.f36.body.getD .skip))[1]?).getD .skip
noncomputable def suB:Code:=((mt (Tryz.f36.body.getD .skip))[2]?).getD .skip
def cxS:Cx:={ l:=0,f:=36,mat:=[71,85],ow:=[59],fz:=[(13,9)]}
def k91:Key:=⟨0,36,91⟩
def k3:Key:=⟨0,36,3⟩
def L0(c:List Ent):List (Nat×AV):=[(68,.v (.int .i64 ((c.map bB).length:Nat))),(67,aJ c),(12,.ptr kSd 1 18 0 0),(9,.ptr cz 1 5 0 0),(3,.ptr k3 1 3 0 0),(7,.slice 0 [] .tight),(8,.v (.int .i64 0))]
def LZ(s S:Bill)(ts:List Int):List (Key×Option jd):=[(cz,some (1,some (5,[.agg [aj s.lines,dW s.figs,aD ts,aj S.allN,aj S.someN]]))),(kTr,none),(k3,some (1,some (3,[aI s])))]
def L1:List (Key×Option (Nat×Nat)):=[(⟨0,36,59⟩,none)]
def sdS(s S:Bill)(ts:List Int)(c:List Ent)(u:SdSt):SS :=
 Iv [(69,aj u.j),(6,.slice 1 (u.ks.map aj) (.own k91 1))] [(kSd,some (1,some (18,[.agg (sdC u.sd)])))] [(k91,some (1,u.ks.length))] [cxS.key 14,cxS.key 91] [cxS.key 91] (L0 c) (LZ s S ts) L1
def SdI(S:Bill)(c:List Ent)(K D:List Int)(u:SdSt):Prop:=(u.j≤c.length∧u.ks.length≤u.j∧u.sd.length=6)∧K=u.ks++dL S u.j (c.drop u.j)∧D=kQ u.sd (c.drop u.j)
def SdR(s S:Bill)(ts:List Int)(c:List Ent)(K D:List Int)(u:SdSt):Prop :=
 ∀Q:Exit→SS→Prop,eU Tryz.prog tab cxS Tryz.f36.ntmps sdB
  (ut (fun ss'=>∃a':SdSt,SdI S c K D a'∧c.length-a'.j<c.length-u.j∧uB ss' (sdS s S ts c a')) Q) (sdS s S ts c u)
theorem iq(s:Bill)(D:List Int)(f i:Nat):dc s D (f+1) i=if s.inAll i=true∧D.getD i 0≠1 then(i:Int)::dc s D f (i+1)else dc s D f (i+1):=rfl
def Gm(v0 v1 v2 v3 v4 v5:Int):List Value:=[.int .i64 v0,.int .i64 0,.int .i64 0,.int .i64 v1,.int .i64 0,.int .i64 0,.int .i64 v2,.int .i64 0,.int .i64 0,.int .i64 v3,.int .i64 0,.int .i64 0,.int .i64 v4,.int .i64 0,.int .i64 0,.int .i64 v5,.int .i64 0,.int .i64 0]
theorem Gn(v0 v1 v2 v3 v4 v5:Int):eqL (Gm v0 v1 v2 v3 v4 v5) (Gm 0 0 0 0 0 0)=decide ([v0,v1,v2,v3,v4,v5]=[0,0,0,0,0,0]):=by
 rw[Bool.eq_iff_iff]
 simp[eqL,eqC,Gm]
structure SuSt where
 i:Nat
 us:List Int
def JZ:Key:=⟨0,36,128⟩
def L3(s:Bill)(K:List Int):List (Nat×AV):=[(106,.v (.int .i64 ((s.figs.map dS).length:Nat))),(12,.ptr kSd 1 18 0 0),(9,.ptr cz 1 5 0 0),(6,.slice 1 (K.map aj) (.own k91 1)),(8,.v (.int .i64 0))]
def L2(s S:Bill)(ts:List Int)(D:List Int):List (Key×Option jd):=[(cz,some (1,some (5,[.agg [aj s.lines,dW s.figs,aD ts,aj S.allN,aj S.someN]]))),(kSd,some (1,some (18,[.agg (sdC D)]))),(kTr,none),(k3,none),(cxS.key 14,none),(cxS.key 91,none)]
def L4(K:List Int):List (Key×Option (Nat×Nat)):=[(k91,some (1,K.length)),(⟨0,36,59⟩,none)]
end Go.Proofs.YtgncapdjheghfaaGreatDoor
namespace Go.Proofs.YtgncapdjheghfaaGreatDoor
open Go.Am Go.Proofs Go
set_option maxHeartbeats 8000000 in
theorem LI(s S:Bill)(hg:s.Good)(hSg:S.Good)(ts:List Int)(c:List Ent)(hok:∀x∈c,s.OkE x)(h6:c.length≤6)(K D:List Int)(j:Nat)(ks:List Int)(v0 v1 v2 v3 v4 v5:Int)
  (hkl:ks.length≤j) (HK:K=ks++dL S j (c.drop j)) (HD:D=kQ [v0,v1,v2,v3,v4,v5] (c.drop j)) (sy xa xb:Int) (hx:c[j]?=some ⟨sy,xa,xb⟩) (q2:sy=2) (qs:S.inSome xa.toNat=false):SdR s S ts c K D ⟨j,ks,[v0,v1,v2,v3,v4,v5]⟩:=by
 have hjl:j<c.length:=(List.getElem?_eq_some_iff.1 hx).1
 have hd:c.drop j=⟨sy,xa,xb⟩::c.drop (j+1):=by rw[List.drop_eq_getElem_cons hjl,(List.getElem?_eq_some_iff.1 hx).2]
 have hsz:=fun n hn=>Jr hSg n hn
 have hcl:(c.map bB).length=c.length:=List.length_map ..
 have hkm:(ks.map aj).length=ks.length:=List.length_map ..
 unfold fb k8 at hsz
 rw[hd,ip]at HK
 rw[hd,lX]at HD
 have hxo:=hok _ (List.mem_of_getElem? hx)
 have hxa:=hxo.a
 have hxs:=hxo.says
 have hfl6:=hg.len
 simp only at hxa hxs HK HD
 have hz:=hsz xa.toNat (by omega)
 rw[Int.toNat_of_nonneg hxa.1]at hz
 clear hsz hg hSg hok
 have hjI:(j:Int)<((c.map bB).length:Nat):=by omega
 intro Q
 subst q2
 rw[if_pos ⟨rfl,qs⟩]at HK
 rw[qs,Bool.not_false,decide_eq_true_eq]at hz
 have hH:K=(ks++[(j:Int)])++dL S (j+1) (c.drop (j+1)):=by rw[HK];simp
 rcases(by omega:xa=0∨xa=1∨xa=2∨xa=3∨xa=4∨xa=5)with rfl|rfl|rfl|rfl|rfl|rfl
 ·conv=>whnf
  repeat(any_goals(first|exact ab|(refine ap ?_ ?_<;>intro _<;>first|exact aq|conv=>whnf)|((first|refine ae hx rfl ?_|refine ac ?_|refine bi ?_ ?_|intro _)<;>conv=>whnf)))
  all_goals(try(first|exact absurd hjI (by assumption)|exact absurd hz (by assumption)|exact absurd (by assumption) hz|exact absurd (by assumption) q2))
  all_goals(refine⟨⟨j+1,ks++[(j:Int)],[2+1,v1,v2,v3,v4,v5]⟩,⟨⟨by show j+1≤_;omega,by show(ks++[(j:Int)]).length≤j+1;simp;omega,rfl⟩,hH,HD⟩,(by show _-(j+1)<_-j;omega),?_⟩;(conv=>whnf);refine⟨?_,?_,?_⟩<;>repeat(first|exact trivial|refine sc rfl ?_|refine kn ?_|refine kc rfl ?_|refine sc (by first|(show some (AV.slice 1 (ks.map aj++[aj j]) _)=some (AV.slice 1 ((ks++[(j:Int)]).map aj) _);rw[List.map_append];rfl)|(show some (some (1,(ks.map aj).length+1))=some (some (1,(ks++[(j:Int)]).length));rw[hkm,List.length_append];rfl)) ?_|refine kc (by first|(show some (AV.slice 1 (ks.map aj++[aj j]) _)=some (AV.slice 1 ((ks++[(j:Int)]).map aj) _);rw[List.map_append];rfl)|(show some (some (1,(ks.map aj).length+1))=some (some (1,(ks++[(j:Int)]).length));rw[hkm,List.length_append];rfl)) ?_))
 ·conv=>whnf
  repeat(any_goals(first|exact ab|(refine ap ?_ ?_<;>intro _<;>first|exact aq|conv=>whnf)|((first|refine ae hx rfl ?_|refine ac ?_|refine bi ?_ ?_|intro _)<;>conv=>whnf)))
  all_goals(try(first|exact absurd hjI (by assumption)|exact absurd hz (by assumption)|exact absurd (by assumption) hz|exact absurd (by assumption) q2))
  all_goals(refine⟨⟨j+1,ks++[(j:Int)],[v0,2+1,v2,v3,v4,v5]⟩,⟨⟨by show j+1≤_;omega,by show(ks++[(j:Int)]).length≤j+1;simp;omega,rfl⟩,hH,HD⟩,(by show _-(j+1)<_-j;omega),?_⟩;(conv=>whnf);refine⟨?_,?_,?_⟩<;>repeat(first|exact trivial|refine sc rfl ?_|refine kn ?_|refine kc rfl ?_|refine sc (by first|(show some (AV.slice 1 (ks.map aj++[aj j]) _)=some (AV.slice 1 ((ks++[(j:Int)]).map aj) _);rw[List.map_append];rfl)|(show some (some (1,(ks.map aj).length+1))=some (some (1,(ks++[(j:Int)]).length));rw[hkm,List.length_append];rfl)) ?_|refine kc (by first|(show some (AV.slice 1 (ks.map aj++[aj j]) _)=some (AV.slice 1 ((ks++[(j:Int)]).map aj) _);rw[List.map_append];rfl)|(show some (some (1,(ks.map aj).length+1))=some (some (1,(ks++[(j:Int)]).length));rw[hkm,List.length_append];rfl)) ?_))
 ·conv=>whnf
  repeat(any_goals(first|exact ab|(refine ap ?_ ?_<;>intro _<;>first|exact aq|conv=>whnf)|((first|refine ae hx rfl ?_|refine ac ?_|refine bi ?_ ?_|intro _)<;>conv=>whnf)))
  all_goals(try(first|exact absurd hjI (by assumption)|exact absurd hz (by assumption)|exact absurd (by assumption) hz|exact absurd (by assumption) q2))
  all_goals(refine⟨⟨j+1,ks++[(j:Int)],[v0,v1,2+1,v3,v4,v5]⟩,⟨⟨by show j+1≤_;omega,by show(ks++[(j:Int)]).length≤j+1;simp;omega,rfl⟩,hH,HD⟩,(by show _-(j+1)<_-j;omega),?_⟩;(conv=>whnf);refine⟨?_,?_,?_⟩<;>repeat(first|exact trivial|refine sc rfl ?_|refine kn ?_|refine kc rfl ?_|refine sc (by first|(show some (AV.slice 1 (ks.map aj++[aj j]) _)=some (AV.slice 1 ((ks++[(j:Int)]).map aj) _);rw[List.map_append];rfl)|(show some (some (1,(ks.map aj).length+1))=some (some (1,(ks++[(j:Int)]).length));rw[hkm,List.length_append];rfl)) ?_|refine kc (by first|(show some (AV.slice 1 (ks.map aj++[aj j]) _)=some (AV.slice 1 ((ks++[(j:Int)]).map aj) _);rw[List.map_append];rfl)|(show some (some (1,(ks.map aj).length+1))=some (some (1,(ks++[(j:Int)]).length));rw[hkm,List.length_append];rfl)) ?_))
 ·conv=>whnf
  repeat(any_goals(first|exact ab|(refine ap ?_ ?_<;>intro _<;>first|exact aq|conv=>whnf)|((first|refine ae hx rfl ?_|refine ac ?_|refine bi ?_ ?_|intro _)<;>conv=>whnf)))
  all_goals(try(first|exact absurd hjI (by assumption)|exact absurd hz (by assumption)|exact absurd (by assumption) hz|exact absurd (by assumption) q2))
  all_goals(refine⟨⟨j+1,ks++[(j:Int)],[v0,v1,v2,2+1,v4,v5]⟩,⟨⟨by show j+1≤_;omega,by show(ks++[(j:Int)]).length≤j+1;simp;omega,rfl⟩,hH,HD⟩,(by show _-(j+1)<_-j;omega),?_⟩;(conv=>whnf);refine⟨?_,?_,?_⟩<;>repeat(first|exact trivial|refine sc rfl ?_|refine kn ?_|refine kc rfl ?_|refine sc (by first|(show some (AV.slice 1 (ks.map aj++[aj j]) _)=some (AV.slice 1 ((ks++[(j:Int)]).map aj) _);rw[List.map_append];rfl)|(show some (some (1,(ks.map aj).length+1))=some (some (1,(ks++[(j:Int)]).length));rw[hkm,List.length_append];rfl)) ?_|refine kc (by first|(show some (AV.slice 1 (ks.map aj++[aj j]) _)=some (AV.slice 1 ((ks++[(j:Int)]).map aj) _);rw[List.map_append];rfl)|(show some (some (1,(ks.map aj).length+1))=some (some (1,(ks++[(j:Int)]).length));rw[hkm,List.length_append];rfl)) ?_))
 ·conv=>whnf
  repeat(any_goals(first|exact ab|(refine ap ?_ ?_<;>intro _<;>first|exact aq|conv=>whnf)|((first|refine ae hx rfl ?_|refine ac ?_|refine bi ?_ ?_|intro _)<;>conv=>whnf)))
  all_goals(try(first|exact absurd hjI (by assumption)|exact absurd hz (by assumption)|exact absurd (by assumption) hz|exact absurd (by assumption) q2))
  all_goals(refine⟨⟨j+1,ks++[(j:Int)],[v0,v1,v2,v3,2+1,v5]⟩,⟨⟨by show j+1≤_;omega,by show(ks++[(j:Int)]).length≤j+1;simp;omega,rfl⟩,hH,HD⟩,(by show _-(j+1)<_-j;omega),?_⟩;(conv=>whnf);refine⟨?_,?_,?_⟩<;>repeat(first|exact trivial|refine sc rfl ?_|refine kn ?_|refine kc rfl ?_|refine sc (by first|(show some (AV.slice 1 (ks.map aj++[aj j]) _)=some (AV.slice 1 ((ks++[(j:Int)]).map aj) _);rw[List.map_append];rfl)|(show some (some (1,(ks.map aj).length+1))=some (some (1,(ks++[(j:Int)]).length));rw[hkm,List.length_append];rfl)) ?_|refine kc (by first|(show some (AV.slice 1 (ks.map aj++[aj j]) _)=some (AV.slice 1 ((ks++[(j:Int)]).map aj) _);rw[List.map_append];rfl)|(show some (some (1,(ks.map aj).length+1))=some (some (1,(ks++[(j:Int)]).length));rw[hkm,List.length_append];rfl)) ?_))
 ·conv=>whnf
  repeat(any_goals(first|exact ab|(refine ap ?_ ?_<;>intro _<;>first|exact aq|conv=>whnf)|((first|refine ae hx rfl ?_|refine ac ?_|refine bi ?_ ?_|intro _)<;>conv=>whnf)))
  all_goals(try(first|exact absurd hjI (by assumption)|exact absurd hz (by assumption)|exact absurd (by assumption) hz|exact absurd (by assumption) q2))
  all_goals(refine⟨⟨j+1,ks++[(j:Int)],[v0,v1,v2,v3,v4,2+1]⟩,⟨⟨by show j+1≤_;omega,by show(ks++[(j:Int)]).length≤j+1;simp;omega,rfl⟩,hH,HD⟩,(by show _-(j+1)<_-j;omega),?_⟩;(conv=>whnf);refine⟨?_,?_,?_⟩<;>repeat(first|exact trivial|refine sc rfl ?_|refine kn ?_|refine kc rfl ?_|refine sc (by first|(show some (AV.slice 1 (ks.map aj++[aj j]) _)=some (AV.slice 1 ((ks++[(j:Int)]).map aj) _);rw[List.map_append];rfl)|(show some (some (1,(ks.map aj).length+1))=some (some (1,(ks++[(j:Int)]).length));rw[hkm,List.length_append];rfl)) ?_|refine kc (by first|(show some (AV.slice 1 (ks.map aj++[aj j]) _)=some (AV.slice 1 ((ks++[(j:Int)]).map aj) _);rw[List.map_append];rfl)|(show some (some (1,(ks.map aj).length+1))=some (some (1,(ks++[(j:Int)]).length));rw[hkm,List.length_append];rfl)) ?_))
end Go.Proofs.YtgncapdjheghfaaGreatDoor
namespace Go.Proofs.YtgncapdjheghfaaGreatDoor
open Go.Am Go.Proofs Go
set_option maxHeartbeats 8000000 in
theorem LJ(s S:Bill)(hg:s.Good)(hSg:S.Good)(ts:List Int)(c:List Ent)(hok:∀x∈c,s.OkE x)(h6:c.length≤6)(K D:List Int)(j:Nat)(ks:List Int)(v0 v1 v2 v3 v4 v5:Int)
  (hkl:ks.length≤j) (HK:K=ks++dL S j (c.drop j)) (HD:D=kQ [v0,v1,v2,v3,v4,v5] (c.drop j)) (sy xa xb:Int) (hx:c[j]?=some ⟨sy,xa,xb⟩) (q2:sy=2) (qs:¬S.inSome xa.toNat=false):SdR s S ts c K D ⟨j,ks,[v0,v1,v2,v3,v4,v5]⟩:=by
 have hjl:j<c.length:=(List.getElem?_eq_some_iff.1 hx).1
 have hd:c.drop j=⟨sy,xa,xb⟩::c.drop (j+1):=by rw[List.drop_eq_getElem_cons hjl,(List.getElem?_eq_some_iff.1 hx).2]
 have hsz:=fun n hn=>Jr hSg n hn
 have hcl:(c.map bB).length=c.length:=List.length_map ..
 have hkm:(ks.map aj).length=ks.length:=List.length_map ..
 unfold fb k8 at hsz
 rw[hd,ip]at HK
 rw[hd,lX]at HD
 have hxo:=hok _ (List.mem_of_getElem? hx)
 have hxa:=hxo.a
 have hxs:=hxo.says
 have hfl6:=hg.len
 simp only at hxa hxs HK HD
 have hz:=hsz xa.toNat (by omega)
 rw[Int.toNat_of_nonneg hxa.1]at hz
 clear hsz hg hSg hok
 have hjI:(j:Int)<((c.map bB).length:Nat):=by omega
 intro Q
 subst q2
 rw[if_neg (fun h=>qs h.2)]at HK
 rw[Bool.not_eq_false]at qs
 rw[qs,Bool.not_true,decide_eq_false_iff_not]at hz
 rcases(by omega:xa=0∨xa=1∨xa=2∨xa=3∨xa=4∨xa=5)with rfl|rfl|rfl|rfl|rfl|rfl
 ·conv=>whnf
  repeat(any_goals(first|exact ab|(refine ap ?_ ?_<;>intro _<;>first|exact aq|conv=>whnf)|((first|refine ae hx rfl ?_|refine ac ?_|refine bi ?_ ?_|intro _)<;>conv=>whnf)))
  all_goals(try(first|exact absurd hjI (by assumption)|exact absurd hz (by assumption)|exact absurd (by assumption) hz|exact absurd (by assumption) q2))
  all_goals(refine⟨⟨j+1,ks,[2+1,v1,v2,v3,v4,v5]⟩,⟨⟨by show j+1≤_;omega,by show ks.length≤j+1;omega,rfl⟩,HK,HD⟩,(by show _-(j+1)<_-j;omega),?_⟩;(conv=>whnf);refine⟨?_,?_,?_⟩<;>repeat(first|exact trivial|refine sc rfl ?_|refine kn ?_|refine kc rfl ?_|refine sc (by rfl) ?_|refine kc (by rfl) ?_))
 ·conv=>whnf
  repeat(any_goals(first|exact ab|(refine ap ?_ ?_<;>intro _<;>first|exact aq|conv=>whnf)|((first|refine ae hx rfl ?_|refine ac ?_|refine bi ?_ ?_|intro _)<;>conv=>whnf)))
  all_goals(try(first|exact absurd hjI (by assumption)|exact absurd hz (by assumption)|exact absurd (by assumption) hz|exact absurd (by assumption) q2))
  all_goals(refine⟨⟨j+1,ks,[v0,2+1,v2,v3,v4,v5]⟩,⟨⟨by show j+1≤_;omega,by show ks.length≤j+1;omega,rfl⟩,HK,HD⟩,(by show _-(j+1)<_-j;omega),?_⟩;(conv=>whnf);refine⟨?_,?_,?_⟩<;>repeat(first|exact trivial|refine sc rfl ?_|refine kn ?_|refine kc rfl ?_|refine sc (by rfl) ?_|refine kc (by rfl) ?_))
 ·conv=>whnf
  repeat(any_goals(first|exact ab|(refine ap ?_ ?_<;>intro _<;>first|exact aq|conv=>whnf)|((first|refine ae hx rfl ?_|refine ac ?_|refine bi ?_ ?_|intro _)<;>conv=>whnf)))
  all_goals(try(first|exact absurd hjI (by assumption)|exact absurd hz (by assumption)|exact absurd (by assumption) hz|exact absurd (by assumption) q2))
  all_goals(refine⟨⟨j+1,ks,[v0,v1,2+1,v3,v4,v5]⟩,⟨⟨by show j+1≤_;omega,by show ks.length≤j+1;omega,rfl⟩,HK,HD⟩,(by show _-(j+1)<_-j;omega),?_⟩;(conv=>whnf);refine⟨?_,?_,?_⟩<;>repeat(first|exact trivial|refine sc rfl ?_|refine kn ?_|refine kc rfl ?_|refine sc (by rfl) ?_|refine kc (by rfl) ?_))
 ·conv=>whnf
  repeat(any_goals(first|exact ab|(refine ap ?_ ?_<;>intro _<;>first|exact aq|conv=>whnf)|((first|refine ae hx rfl ?_|refine ac ?_|refine bi ?_ ?_|intro _)<;>conv=>whnf)))
  all_goals(try(first|exact absurd hjI (by assumption)|exact absurd hz (by assumption)|exact absurd (by assumption) hz|exact absurd (by assumption) q2))
  all_goals(refine⟨⟨j+1,ks,[v0,v1,v2,2+1,v4,v5]⟩,⟨⟨by show j+1≤_;omega,by show ks.length≤j+1;omega,rfl⟩,HK,HD⟩,(by show _-(j+1)<_-j;omega),?_⟩;(conv=>whnf);refine⟨?_,?_,?_⟩<;>repeat(first|exact trivial|refine sc rfl ?_|refine kn ?_|refine kc rfl ?_|refine sc (by rfl) ?_|refine kc (by rfl) ?_))
 ·conv=>whnf
  repeat(any_goals(first|exact ab|(refine ap ?_ ?_<;>intro _<;>first|exact aq|conv=>whnf)|((first|refine ae hx rfl ?_|refine ac ?_|refine bi ?_ ?_|intro _)<;>conv=>whnf)))
  all_goals(try(first|exact absurd hjI (by assumption)|exact absurd hz (by assumption)|exact absurd (by assumption) hz|exact absurd (by assumption) q2))
  all_goals(refine⟨⟨j+1,ks,[v0,v1,v2,v3,2+1,v5]⟩,⟨⟨by show j+1≤_;omega,by show ks.length≤j+1;omega,rfl⟩,HK,HD⟩,(by show _-(j+1)<_-j;omega),?_⟩;(conv=>whnf);refine⟨?_,?_,?_⟩<;>repeat(first|exact trivial|refine sc rfl ?_|refine kn ?_|refine kc rfl ?_|refine sc (by rfl) ?_|refine kc (by rfl) ?_))
 ·conv=>whnf
  repeat(any_goals(first|exact ab|(refine ap ?_ ?_<;>intro _<;>first|exact aq|conv=>whnf)|((first|refine ae hx rfl ?_|refine ac ?_|refine bi ?_ ?_|intro _)<;>conv=>whnf)))
  all_goals(try(first|exact absurd hjI (by assumption)|exact absurd hz (by assumption)|exact absurd (by assumption) hz|exact absurd (by assumption) q2))
  all_goals(refine⟨⟨j+1,ks,[v0,v1,v2,v3,v4,2+1]⟩,⟨⟨by show j+1≤_;omega,by show ks.length≤j+1;omega,rfl⟩,HK,HD⟩,(by show _-(j+1)<_-j;omega),?_⟩;(conv=>whnf);refine⟨?_,?_,?_⟩<;>repeat(first|exact trivial|refine sc rfl ?_|refine kn ?_|refine kc rfl ?_|refine sc (by rfl) ?_|refine kc (by rfl) ?_))
end Go.Proofs.YtgncapdjheghfaaGreatDoor
