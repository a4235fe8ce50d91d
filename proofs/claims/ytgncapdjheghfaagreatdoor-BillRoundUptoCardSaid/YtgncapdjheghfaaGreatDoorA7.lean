/- Part 7 of the texts that the last one stands on. -/
import Derived.Shelf.Strings.OnBuilder
import Derived.Shelf.Strconv.Itoa3
import Derived.Shelf.Strings.Prefix
import Derived.Shelf.Strings.Search1
import Derived.Test.YtgncapdjheghfaaGreatDoorChecked
import Derived.Test.YtgncapdjheghfaaGreatDoorA6
set_option linter.unusedVariables false
set_option linter.unusedSimpArgs false
namespace Go.Proofs.YtgncapdjheghfaaGreatDoor
open Go.Am Go.Proofs Go
set_option maxHeartbeats 8000000 in
theorem Fm(s:Bill)(hg:s.Good)(r:Rec)(f a left:Nat)(Z t:NSt)(ha:a<6)(h64:left<64)(hal:a<s.figs.length)(hgd:t.good a)(hl:∀t,fY (aI (a7 s r t)) r.l=r.l)
  (ih:∀x,s.fitsIn left x=true→x.a=a→0≤x.b→∀u:NSt,u.good (a+1)→BoxA Tryz.prog (.fn 100) (a7 s r u) [aj ((a+1:Nat):Int),aj (ba left x.named:Nat),.ptr kY 1 1 0 0,.ptr kCc 1 1 0 0,.ptr kN 1 1 0 0,.ptr kA 1 6 0 0,.ptr kT 1 1 0 0] (aB true) (a7 s r (s.nextM f (a+1) (ba left x.named) u)))
  (hZ:Z=(s.rowsE a 2).foldl (s.takeM f a left) t):zY s r f a left 2 Z t:=by
 rw[md s a 2 (by omega),List.foldl_append]at hZ
 have hfl:(s.figs.map cD).length=s.figs.length:=List.length_map ..
 have h6:=hg.len
 have hS2:∀b:Nat,b<s.figs.length→PureA Tryz.prog 126 [dk s,bB ⟨(2:Nat),a,b⟩] (aB (s.so ⟨(2:Nat),a,b⟩)):=fun b hb=>Bx s hg ⟨(2:Nat),a,b⟩ (by simp only;omega)
 obtain⟨rg,ra,rb,rl⟩:=r
 intro Q
 conv=>whnf
 repeat(any_goals(first|exact ab|(refine ap ?_ ?_<;>intro _<;>first|exact aq|conv=>whnf)|((first|refine ac ?_|refine bi ?_ ?_|intro _)<;>conv=>whnf)))
 refine aW ar { l:=0,f:=100,mat:=[100],ow:=[63]} mixed (fun u:LSt=>[(40,aj u.i)]) (fun u=>F9 s ⟨rg,ra,rb,rl⟩ u.t) (fun _=>[]) (fun u=>u.i≤s.figs.length∧u.t.good a∧Z=(s.rowsE a (2+1)).foldl (s.takeM f a left) (((s.rowE a 2).drop u.i).foldl (s.takeM f a left) u.t)) (fun u=>s.figs.length-u.i) (⟨0,t⟩:LSt) (by kernel_rfl)
  ⟨Nat.zero_le _,hgd,hZ⟩ ?_
 conv=>whnf
 refine⟨⟨ai rfl trivial,?_,trivial⟩,?_⟩
 ·repeat(first|exact trivial|refine kc rfl ?_|refine bU rfl ?_)
 clear hZ hgd
 rintro u ⟨hbi,hgd,hZ⟩
 generalize u.i=b at *
 generalize u.t=t at *
 clear u
 by_cases hbl:b<s.figs.length
 ·rw[oO s a 2 b hbl,List.foldl_cons]at hZ
  have hso:=hS2 b hbl
  have hn:=od ⟨(2:Nat),a,b⟩ (by simp only;omega) (by simp only;omega)
  have hn64:=kD ⟨(2:Nat),a,b⟩ (by simp only;omega) (by simp only;omega)
  have hz:=js (Ent.named ⟨(2:Nat),a,b⟩) left hn64 h64
  have hm:bP left (Ent.named ⟨(2:Nat),a,b⟩)=(ba left (Ent.named ⟨(2:Nat),a,b⟩):Nat):=eR _ _ h64 hn64
  have hih:=ih ⟨(2:Nat),a,b⟩
  rw[←hm]at hih
  have hfit:s.fitsIn left ⟨(2:Nat),a,b⟩=(s.so ⟨(2:Nat),a,b⟩&&decide (bP (Ent.named ⟨(2:Nat),a,b⟩) left=0)):=by rw[hz];rfl
  obtain⟨nm,hnm⟩:∃nm,Ent.named ⟨(2:Nat),a,b⟩=nm:=⟨_,rfl⟩
  rw[hnm]at hn hn64 hz hm hih hfit
  cases hS:s.so ⟨(2:Nat),a,b⟩with
  | false =>
   rw[hS,Bool.false_and]at hfit
   rw[i7 hfit]at hZ
   rw[hS]at hso
   clear hih ih
   conv=>whnf
   repeat(any_goals(first|exact ab|(refine ap ?_ ?_<;>intro _<;>first|exact aq|conv=>whnf)|((first|refine ah hso rfl ?_|refine aa hn ?_|refine ah hn rfl ?_|refine ac ?_|refine bi ?_ ?_|intro _)<;>conv=>whnf)))
   all_goals(refine⟨⟨b+1,t⟩,⟨by show b+1≤_;omega,hgd,hZ⟩,(by show _-(b+1)<_-b;omega),?_⟩;(conv=>whnf);refine⟨?_,?_,?_⟩<;>repeat(first|exact trivial|refine sc rfl ?_|refine kn ?_|refine kc rfl ?_|refine sc (by exact(congrArg (fun z=>some (some (rg,some (0,[AV.lp .ready none #[20] ra rb z])))) (hl _))) ?_|refine kc (by exact(congrArg (fun z=>some (some (rg,some (0,[AV.lp .ready none #[20] ra rb z])))) (hl _))) ?_))
  | true =>
   rw[hS,Bool.true_and]at hfit
   rw[hS]at hso
   by_cases hq:bP nm left=0
   ·have hq0:=hq
    rw[decide_eq_true hq]at hfit
    rw[pb hfit,hnm]at hZ
    unfold bP at hq
    have hih:=hih hfit rfl (by simp only;omega)
    obtain⟨c,G,o⟩:=t
    obtain⟨hck,hno,hQs⟩:=hgd
    simp only at hck hno hQs
    cases c with
    | nil =>
     cases hno rfl
     obtain⟨g2,ee2,e2,hn2,_⟩:=dD s f (a+1) (ba left nm) 1 ⟨CSt.nil.push ⟨(2:Nat),a,b⟩,G,none⟩ ⟨1,[⟨(2:Nat),a,b⟩],rfl,by simp⟩
     have hih:=hih ⟨CSt.nil.push ⟨(2:Nat),a,b⟩,G,none⟩ ⟨⟨by simp,by omega⟩,(fun h=>by cases h),hQs⟩
     have hkp:=ec s f (a+1) (ba left nm) ⟨CSt.nil.push ⟨(2:Nat),a,b⟩,G,none⟩ hQs
     have hgr:=(dx s f (a+1) (ba left nm) ⟨CSt.nil.push ⟨(2:Nat),a,b⟩,G,none⟩).2
     generalize s.nextM f (a+1) (ba left nm) ⟨CSt.nil.push ⟨(2:Nat),a,b⟩,G,none⟩=u at *
     have hih:BoxA Tryz.prog (.fn 100) (a7 s ⟨rg,ra,rb,fY (aI (a7 s ⟨rg,ra,rb,rl⟩ ⟨CSt.nil.push ⟨(2:Nat),a,b⟩,G,none⟩)) rl⟩ ⟨CSt.nil.push ⟨(2:Nat),a,b⟩,G,none⟩) [aj ((a:Int)+1),aj (bP left nm),.ptr kY 1 1 0 0,.ptr kCc 1 1 0 0,.ptr kN 1 1 0 0,.ptr kA 1 6 0 0,.ptr kT 1 1 0 0] (aB true) (a7 s ⟨rg,ra,rb,rl⟩ u):=by
      rw[hl];exact hih
     have hl2:=hl u
     obtain⟨cu,G2,o2⟩:=u
     simp only at e2 hgr hkp
     subst e2
     have hto:(((0+1:Nat):Int)-1).toNat=0:=by omega
     clear ih
     cases o2
     all_goals
       conv=>whnf
       repeat(any_goals(first|exact ab|(refine ap ?_ ?_<;>intro _<;>first|exact aq|conv=>whnf)|((first|refine ah hso rfl ?_|refine aa hn ?_|refine ah hn rfl ?_|refine ac ?_|refine bi ?_ ?_|intro _)<;>conv=>whnf)))
       try(refine And.intro ⟨by rw[List.length_map];omega,by simp only[List.length_cons,List.length_nil];omega,by simp only[List.length_cons,List.length_nil,maxLen];omega⟩ ?_;(conv=>whnf))
       repeat(any_goals(first|exact ab|(refine ap ?_ ?_<;>intro _<;>first|exact aq|conv=>whnf)|((first|refine aa hn ?_|refine ah hn rfl ?_|refine ac ?_|refine bi ?_ ?_|intro _)<;>conv=>whnf)))
       refine⟨aI (a7 s ⟨rg,ra,rb,rl⟩ ⟨CSt.nil.push ⟨(2:Nat),a,b⟩,G,none⟩),?_⟩
       conv=>whnf
       repeat((first|refine af (htk _) ?_|refine af (aA _ [_]) ?_|refine af (aA _ _) ?_)<;>(conv=>whnf))
       refine⟨_,_,hih,?_⟩
       conv=>whnf
       repeat(refine af (aA _ _) ?_<;>(conv=>whnf))
       repeat(any_goals(first|exact ab|(refine ap ?_ ?_<;>intro _<;>first|exact aq|conv=>whnf)|((first|refine ac ?_|refine bi ?_ ?_|intro _)<;>conv=>whnf)))
       (refine⟨⟨b+1,⟨.own g2 ee2 0,G2,_⟩⟩,⟨by show b+1≤_;omega,⟨⟨by omega,by omega⟩,(fun h=>by cases h),hkp⟩,hZ⟩,(by show _-(b+1)<_-b;omega),?_⟩;(conv=>whnf);refine⟨?_,?_,?_⟩<;>repeat(first|exact trivial|refine sc rfl ?_|refine kn ?_|refine kc rfl ?_|refine sc (by first|exact(congrArg (fun z=>some (some (rg,some (0,[AV.lp .ready none #[20] ra rb z])))) hl2)|(show some (some (1,some (1,[AV.own kC g2 3 (((0+1:Nat):Int)-1).toNat 0])))=_;rw[hto];rfl)) ?_|refine kc (by first|exact(congrArg (fun z=>some (some (rg,some (0,[AV.lp .ready none #[20] ra rb z])))) hl2)|(show some (some (1,some (1,[AV.own kC g2 3 (((0+1:Nat):Int)-1).toNat 0])))=_;rw[hto];rfl)) ?_))
    | own g ee n =>
     obtain⟨hn1,hna⟩:=hck
     have hel:(ee.map bB).length=ee.length:=List.length_map ..
     have htk:=fun ks=>CG ks ee n ⟨(2:Nat),a,b⟩
     obtain⟨g2,ee2,e2,hn2,_⟩:=dD s f (a+1) (ba left nm) (n+1) ⟨(CSt.own g ee n).push ⟨(2:Nat),a,b⟩,G,o⟩ ⟨g+1,ee.take n++[⟨(2:Nat),a,b⟩],rfl,by simp;omega⟩
     have hih:=hih ⟨(CSt.own g ee n).push ⟨(2:Nat),a,b⟩,G,o⟩ ⟨⟨by simp;omega,by omega⟩,(fun h=>by cases h),hQs⟩
     have hkp:=ec s f (a+1) (ba left nm) ⟨(CSt.own g ee n).push ⟨(2:Nat),a,b⟩,G,o⟩ hQs
     have hgr:=(dx s f (a+1) (ba left nm) ⟨(CSt.own g ee n).push ⟨(2:Nat),a,b⟩,G,o⟩).2
     generalize s.nextM f (a+1) (ba left nm) ⟨(CSt.own g ee n).push ⟨(2:Nat),a,b⟩,G,o⟩=u at *
     have hih:BoxA Tryz.prog (.fn 100) (a7 s ⟨rg,ra,rb,fY (aI (a7 s ⟨rg,ra,rb,rl⟩ ⟨(CSt.own g ee n).push ⟨(2:Nat),a,b⟩,G,o⟩)) rl⟩ ⟨(CSt.own g ee n).push ⟨(2:Nat),a,b⟩,G,o⟩) [aj ((a:Int)+1),aj (bP left nm),.ptr kY 1 1 0 0,.ptr kCc 1 1 0 0,.ptr kN 1 1 0 0,.ptr kA 1 6 0 0,.ptr kT 1 1 0 0] (aB true) (a7 s ⟨rg,ra,rb,rl⟩ u):=by
      rw[hl];exact hih
     have hl2:=hl u
     obtain⟨cu,G2,o2⟩:=u
     simp only at e2 hgr hkp
     subst e2
     have hto:(((n+1:Nat):Int)-1).toNat=n:=by omega
     clear ih
     cases o with
     | none =>
      cases o2
      all_goals
        conv=>whnf
        repeat(any_goals(first|exact ab|(refine ap ?_ ?_<;>intro _<;>first|exact aq|conv=>whnf)|((first|refine ah hso rfl ?_|refine aa hn ?_|refine ah hn rfl ?_|refine ac ?_|refine bi ?_ ?_|intro _)<;>conv=>whnf)))
        try(refine And.intro ⟨by rw[List.length_map];omega,by simp only[List.length_cons,List.length_nil];omega,by simp only[List.length_cons,List.length_nil,maxLen];omega⟩ ?_;(conv=>whnf))
        repeat(any_goals(first|exact ab|(refine ap ?_ ?_<;>intro _<;>first|exact aq|conv=>whnf)|((first|refine aa hn ?_|refine ah hn rfl ?_|refine ac ?_|refine bi ?_ ?_|intro _)<;>conv=>whnf)))
        refine⟨aI (a7 s ⟨rg,ra,rb,rl⟩ ⟨(CSt.own g ee n).push ⟨(2:Nat),a,b⟩,G,none⟩),?_⟩
        conv=>whnf
        repeat((first|refine af (htk _) ?_|refine af (aA _ [_]) ?_|refine af (aA _ _) ?_)<;>(conv=>whnf))
        refine⟨_,_,hih,?_⟩
        conv=>whnf
        repeat(refine af (aA _ _) ?_<;>(conv=>whnf))
        repeat(any_goals(first|exact ab|(refine ap ?_ ?_<;>intro _<;>first|exact aq|conv=>whnf)|((first|refine ac ?_|refine bi ?_ ?_|intro _)<;>conv=>whnf)))
        (refine⟨⟨b+1,⟨.own g2 ee2 n,G2,_⟩⟩,⟨by show b+1≤_;omega,⟨⟨by omega,by omega⟩,(fun h=>by cases h),hkp⟩,hZ⟩,(by show _-(b+1)<_-b;omega),?_⟩;(conv=>whnf);refine⟨?_,?_,?_⟩<;>repeat(first|exact trivial|refine sc rfl ?_|refine kn ?_|refine kc rfl ?_|refine sc (by first|exact(congrArg (fun z=>some (some (rg,some (0,[AV.lp .ready none #[20] ra rb z])))) hl2)|(show some (some (1,some (1,[AV.own kC g2 3 (((n+1:Nat):Int)-1).toNat 0])))=_;rw[hto];rfl)) ?_|refine kc (by first|exact(congrArg (fun z=>some (some (rg,some (0,[AV.lp .ready none #[20] ra rb z])))) hl2)|(show some (some (1,some (1,[AV.own kC g2 3 (((n+1:Nat):Int)-1).toNat 0])))=_;rw[hto];rfl)) ?_))
     | some w =>
      obtain⟨w2,rfl⟩:=hgr w rfl
      conv=>whnf
      repeat(any_goals(first|exact ab|(refine ap ?_ ?_<;>intro _<;>first|exact aq|conv=>whnf)|((first|refine ah hso rfl ?_|refine aa hn ?_|refine ah hn rfl ?_|refine ac ?_|refine bi ?_ ?_|intro _)<;>conv=>whnf)))
      try(refine And.intro ⟨by rw[List.length_map];omega,by simp only[List.length_cons,List.length_nil];omega,by simp only[List.length_cons,List.length_nil,maxLen];omega⟩ ?_;(conv=>whnf))
      repeat(any_goals(first|exact ab|(refine ap ?_ ?_<;>intro _<;>first|exact aq|conv=>whnf)|((first|refine aa hn ?_|refine ah hn rfl ?_|refine ac ?_|refine bi ?_ ?_|intro _)<;>conv=>whnf)))
      refine⟨aI (a7 s ⟨rg,ra,rb,rl⟩ ⟨(CSt.own g ee n).push ⟨(2:Nat),a,b⟩,G,some w⟩),?_⟩
      conv=>whnf
      repeat((first|refine af (htk _) ?_|refine af (aA _ [_]) ?_|refine af (aA _ _) ?_)<;>(conv=>whnf))
      refine⟨_,_,hih,?_⟩
      conv=>whnf
      repeat(refine af (aA _ _) ?_<;>(conv=>whnf))
      repeat(any_goals(first|exact ab|(refine ap ?_ ?_<;>intro _<;>first|exact aq|conv=>whnf)|((first|refine ac ?_|refine bi ?_ ?_|intro _)<;>conv=>whnf)))
      (refine⟨⟨b+1,⟨.own g2 ee2 n,G2,_⟩⟩,⟨by show b+1≤_;omega,⟨⟨by omega,by omega⟩,(fun h=>by cases h),hkp⟩,hZ⟩,(by show _-(b+1)<_-b;omega),?_⟩;(conv=>whnf);refine⟨?_,?_,?_⟩<;>repeat(first|exact trivial|refine sc rfl ?_|refine kn ?_|refine kc rfl ?_|refine sc (by first|exact(congrArg (fun z=>some (some (rg,some (0,[AV.lp .ready none #[20] ra rb z])))) hl2)|(show some (some (1,some (1,[AV.own kC g2 3 (((n+1:Nat):Int)-1).toNat 0])))=_;rw[hto];rfl)) ?_|refine kc (by first|exact(congrArg (fun z=>some (some (rg,some (0,[AV.lp .ready none #[20] ra rb z])))) hl2)|(show some (some (1,some (1,[AV.own kC g2 3 (((n+1:Nat):Int)-1).toNat 0])))=_;rw[hto];rfl)) ?_))
   ·rw[decide_eq_false hq]at hfit
    rw[i7 hfit]at hZ
    unfold bP at hq
    clear hih ih
    conv=>whnf
    repeat(any_goals(first|exact ab|(refine ap ?_ ?_<;>intro _<;>first|exact aq|conv=>whnf)|((first|refine ah hso rfl ?_|refine aa hn ?_|refine ah hn rfl ?_|refine ac ?_|refine bi ?_ ?_|intro _)<;>conv=>whnf)))
    all_goals(refine⟨⟨b+1,t⟩,⟨by show b+1≤_;omega,hgd,hZ⟩,(by show _-(b+1)<_-b;omega),?_⟩;(conv=>whnf);refine⟨?_,?_,?_⟩<;>repeat(first|exact trivial|refine sc rfl ?_|refine kn ?_|refine kc rfl ?_|refine sc (by exact(congrArg (fun z=>some (some (rg,some (0,[AV.lp .ready none #[20] ra rb z])))) (hl _))) ?_|refine kc (by exact(congrArg (fun z=>some (some (rg,some (0,[AV.lp .ready none #[20] ra rb z])))) (hl _))) ?_))
 ·have hbn:b=s.figs.length:=by omega
  rw[List.drop_of_length_le (by rw[rN];omega),List.foldl_nil]at hZ
  clear ih hbl
  conv=>whnf
  repeat(any_goals(first|exact ab|(refine ap ?_ ?_<;>intro _<;>first|exact aq|conv=>whnf)|((first|refine ac ?_|refine bi ?_ ?_|intro _)<;>conv=>whnf)))
  all_goals(refine⟨⟨2+1,t⟩,⟨by show 2+1≤3;omega,hgd,hZ⟩,(by show 3-(2+1)<3-2;omega),?_⟩;(conv=>whnf);refine⟨?_,?_,?_⟩<;>repeat(first|exact trivial|refine sc rfl ?_|refine kn ?_|refine kc rfl ?_|refine sc (by exact(congrArg (fun z=>some (some (rg,some (0,[AV.lp .ready none #[20] ra rb z])))) (hl _))) ?_|refine kc (by exact(congrArg (fun z=>some (some (rg,some (0,[AV.lp .ready none #[20] ra rb z])))) (hl _))) ?_))
end Go.Proofs.YtgncapdjheghfaaGreatDoor
namespace Go.Proofs.YtgncapdjheghfaaGreatDoor
open Go.Am Go.Proofs Go
set_option maxHeartbeats 8000000 in
theorem H7(s:Bill)(hg:s.Good)(r:Rec)(f a left:Nat)(t:NSt)(ha:a<6)(h0:left≠0)(h64:left<64)(hb:left.testBit a=true)(hal:a<s.figs.length)(hgd:t.good a)(hl:∀t,fY (aI (a7 s r t)) r.l=r.l)
  (ih:∀x,s.fitsIn left x=true→x.a=a→0≤x.b→∀u:NSt,u.good (a+1)→BoxA Tryz.prog (.fn 100) (a7 s r u) [aj ((a+1:Nat):Int),aj (ba left x.named:Nat),.ptr kY 1 1 0 0,.ptr kCc 1 1 0 0,.ptr kN 1 1 0 0,.ptr kA 1 6 0 0,.ptr kT 1 1 0 0] (aB true) (a7 s r (s.nextM f (a+1) (ba left x.named) u))) :
  BoxA Tryz.prog (.fn 100) (a7 s r t) [aj a,aj left,.ptr kY 1 1 0 0,.ptr kCc 1 1 0 0,.ptr kN 1 1 0 0,.ptr kA 1 6 0 0,.ptr kT 1 1 0 0] (aB true) (a7 s r ((s.tries a).foldl (s.takeM f a left) t)):=by
 have hZ:(s.tries a).foldl (s.takeM f a left) t=(s.rowsE a 0).foldl (s.takeM f a left) t:=by rw[zK]
 generalize (s.tries a).foldl (s.takeM f a left) t=Z at *
 have hbit:=GD left a (e7 h64) (by omega)
 rw[hb,decide_eq_true_eq]at hbit
 have hfl:(s.figs.map cD).length=s.figs.length:=List.length_map ..
 have h6:=hg.len
 obtain⟨rg,ra,rb,rl⟩:=r
 unfold fc lm at hbit
 refine DO ar { l:=0,f:=100,mat:=[100],ow:=[63]} mixed fg Tryz.func100 (by kernel_rfl) ?_
 conv=>whnf
 repeat(any_goals(first|exact ab|(refine ap ?_ ?_<;>intro _<;>first|exact aq|conv=>whnf)|((first|refine ac ?_|refine bi ?_ ?_|intro _)<;>conv=>whnf)))
 refine aW ar { l:=0,f:=100,mat:=[100],ow:=[63]} mixed (fun u:LSt=>[(30,aj u.i)]) (fun u=>F9 s ⟨rg,ra,rb,rl⟩ u.t) (fun _=>[]) (fun u=>u.i≤3∧u.t.good a∧Z=(s.rowsE a u.i).foldl (s.takeM f a left) u.t) (fun u=>3-u.i) (⟨0,t⟩:LSt) (by kernel_rfl)
  ⟨by show 0≤3;omega,hgd,hZ⟩ ?_
 conv=>whnf
 refine⟨⟨ai rfl trivial,?_,trivial⟩,?_⟩
 ·repeat(first|exact trivial|refine kc rfl ?_|refine bU rfl ?_)
 clear hZ hgd
 rintro u ⟨hi,hgd,hZ⟩
 by_cases hi3:u.i<3
 ·obtain⟨i,t⟩:=u
  simp only at hi hgd hZ hi3
  rcases(by omega:i=0∨i=1∨i=2)with rfl|rfl|rfl
  ·exact Fk s hg ⟨rg,ra,rb,rl⟩ f a left Z t ha h64 hal hgd hl ih hZ _
  ·exact Fl s hg ⟨rg,ra,rb,rl⟩ f a left Z t ha h64 hal hgd hl ih hZ _
  ·exact Fm s hg ⟨rg,ra,rb,rl⟩ f a left Z t ha h64 hal hgd hl ih hZ _
 ·generalize u.i=i at *
  generalize u.t=t at *
  clear u
  have hi3':i=3:=by omega
  subst hi3'
  have:s.rowsE a 3=[]:=rfl
  rw[this,List.foldl_nil]at hZ
  subst hZ
  clear ih
  have hl2:=hl Z
  obtain⟨c,G,o⟩:=Z
  obtain⟨hck,hno,_⟩:=hgd
  cases c with
  | nil =>
   cases hno rfl
   conv=>whnf
   repeat(any_goals(first|exact ab|(refine ap ?_ ?_<;>intro _<;>first|exact aq|conv=>whnf)|((first|refine ac ?_|refine bi ?_ ?_|intro _)<;>conv=>whnf)))
   refine And.intro ?_ ?_
   ·conv=>whnf
    refine⟨⟨?_⟩,trivial⟩
    rfl
   ·repeat(first|exact trivial|refine And.intro rfl ?_|refine And.intro (by skip) ?_)
  | own g ee n =>
   cases o
   all_goals conv=>whnf
   all_goals repeat(any_goals(first|exact ab|(refine ap ?_ ?_<;>intro _<;>first|exact aq|conv=>whnf)|((first|refine ac ?_|refine bi ?_ ?_|intro _)<;>conv=>whnf)))
   all_goals
     refine And.intro ?_ ?_
     ·conv=>whnf
      refine⟨⟨?_⟩,trivial⟩
      rfl
     ·repeat(first|exact trivial|refine And.intro rfl ?_|refine And.intro (by skip) ?_)
end Go.Proofs.YtgncapdjheghfaaGreatDoor
namespace Go.Proofs.YtgncapdjheghfaaGreatDoor
open Go.Am Go.Proofs Go
theorem nA{f g:AV→Option AV}(hf:∀{x y:AV},f x=some y→g y=some y):∀{xs l:List AV},tkL f xs=some l→tkL g l=some l
 | [],l,h=>by simp only[tkL,Option.some.injEq]at h;subst h;rfl
 | x::xs,l,h=>by
  simp only[tkL]at h
  split at h
  ·rename_i y ys h1 h2
   simp only[Option.some.injEq]at h;subst h
   simp only[tkL,hf h1,nA hf h2]
  ·simp at h
theorem rW{ks ks':List Key}(hs:∀k,dC k ks=true→dC k ks'=true){x y:AV}(h:tk0 ks x=some y):tk0 ks' y=some y:=by
 have hk:∀{k:Key} {v z:AV},Dz ks k v=some z→z=v∧Dz ks' k v=some v:=by
  intro k v z h
  obtain⟨h1,h2⟩:=eZ h
  refine⟨h2,?_⟩
  unfold Dz
  rw[hs k h1]
 cases x<;>simp only[tk0]at h<;>try(simp at h;done)
 case slice sz es tok =>
  have e:=Option.some.inj h;subst e
  simp only[tk0]
  cases tok<;>cases es<;>rfl
 all_goals first
  | (have e:=Option.some.inj h;subst e;rfl)
  | (obtain⟨e,h'⟩:=hk h;subst e;exact h')
theorem xW{ks ks':List Key}(hs:∀k,dC k ks=true→dC k ks'=true){x y:AV}(h:tk1 ks x=some y):tk1 ks' y=some y:=by
 have one:∀{x y},tk0 ks x=some y→tk1 ks' y=some y:=by
  intro x y h
  have:=rW hs h
  cases y<;>first|exact this|(simp[tk0]at this)
 cases x with
 | func fn fs cs =>
  simp only[tk1]at h
  split at h
  ·rename_i a b h1 h2
   simp only[Option.some.injEq]at h;subst h
   simp only[tk1,nA (rW hs) h1,nA (rW hs) h2]
  ·simp at h
 | _=>exact one (by simpa only[tk1]using h)
theorem Fi{ks ks':List Key}(hs:∀k,dC k ks=true→dC k ks'=true){x y:AV}(h:tk2 ks x=some y):tk2 ks' y=some y:=by
 have one:∀{x y},tk1 ks x=some y→tk2 ks' y=some y:=by
  intro x y h
  have:=xW hs h
  cases y<;>first|exact this|(simp[tk1,tk0]at this)
 cases x with
 | agg cs =>
  simp only[tk2]at h
  split at h
  ·rename_i a h1
   simp only[Option.some.injEq]at h;subst h
   simp only[tk2,nA (xW hs) h1]
  ·simp at h
 | _=>exact one (by simpa only[tk2]using h)
theorem li{ks ks':List Key}(hs:∀k,dC k ks=true→dC k ks'=true):∀l:List AV,fY ks' (fY ks l)=fY ks l
 | []=>rfl
 | x::l=>by
  simp only[fY,li hs l]
  congr 1
  cases h:tk2 ks x with
  | none=>rfl
  | some y=>simp only[Fi hs h]
theorem uw(ks:List Key)(l:List AV):fY ks (fY ks l)=fY ks l:=li (fun _ h=>h) l
def AW:List Key:=[kLb,kB1,kB2,kB3,cq,kT]
theorem ic(ks:List Key):∀(l:List Key) (k:Key),dC k l=true→dC k (l++ks)=true
 | [],k,h=>by cases h
 | x::l,k,h=>by
  simp only[List.cons_append,dC]at h ⊢
  cases hx:k.beq x with
  | true=>rfl
  | false=>rw[hx]at h;exact ic ks l k h
theorem hJ:∀(l m:List cn),aI (l++m)=aI l++aI m
 | [],m=>rfl
 | (k,_)::l,m=>by simp only[List.cons_append,aI,hJ l m]
theorem nu{s:Bill}{r:Rec}(h:fY AW r.l=r.l)(t:NSt):fY (aI (a7 s r t)) r.l=r.l:=by
 rw[←h]
 refine li (fun k hk=>?_) _
 unfold a7
 rw[hJ]
 exact ic _ _ k hk
theorem t6{s:Bill}{r:Rec}(h:fY AW r.l=r.l)(t:NSt):fY (aI (eu s r t)) r.l=r.l:=by
 rw[←h]
 refine li (fun k hk=>?_) _
 unfold eu
 rw[hJ]
 exact ic _ _ k hk
theorem J2(s:Bill)(hg:s.Good)(r:Rec)(hl:fY AW r.l=r.l)
  (hy:∀t:NSt,t.good 6→BoxA Tryz.prog (.yld kLb r.g) (eu s r t) [t.c.av] (aB true) (eu s r t.yieldM)) :
  ∀(f a left:Nat) (t:NSt),6≤a+f→a≤6→w6 a left→left<64→(∀i,left.testBit i=true→i<s.figs.length)→t.good a →
  BoxA Tryz.prog (.fn 100) (a7 s r t) [aj a,aj left,.ptr kY 1 1 0 0,.ptr kCc 1 1 0 0,.ptr kN 1 1 0 0,.ptr kA 1 6 0 0,.ptr kT 1 1 0 0] (aB true) (a7 s r (s.nextM f a left t)):=by
 have up:∀{t:NSt} {a b:Nat},t.good a→a≤b→t.good b:=by
  intro t a b h hab
  refine⟨?_,h.2⟩
  have:=h.1
  revert this
  cases t.c with
  | nil=>exact id
  | own g ee n=>intro⟨h1,h2⟩;exact⟨h1,by omega⟩
 intro f
 induction f with
 | zero =>
  intro a left t h6 ha hF hlt hsub ht
  have:left=0:=hF.zero hlt (by omega)
  subst this
  exact BC s r a t (t6 hl) (hy t (up ht ha))
 | succ f ih =>
  intro a left t h6 ha hF hlt hsub ht
  rw[fO]
  by_cases h0:left=0
  ·subst h0
   rw[if_pos rfl]
   exact BC s r a t (t6 hl) (hy t (up ht ha))
  ·rw[if_neg h0]
   have ha6:a<6:=by
    rcases Nat.lt_or_ge a 6 with h|h
    ·exact h
    ·exact absurd (hF.zero hlt h) h0
   by_cases hb:left.testBit a=false
   ·rw[if_pos hb]
    exact H6 s r a left t _ ha6 h0 hlt hb (dx ..) ht.2.1 (nu hl) (ih (a+1) left t (by omega) (by omega) (hF.next hb) hlt hsub (up ht (Nat.le_succ a)))
   ·rw[if_neg hb]
    rw[Bool.not_eq_false]at hb
    refine H7 s hg r f a left t ha6 h0 hlt hb (hsub a hb) ht (nu hl) ?_
    intro x hfit hxa hxb u hu
    refine ih (a+1) (ba left x.named) u (by omega) (by omega) ?_ (iS hlt) ?_ hu
    ·intro i hi
     rw[cH _ _ _ hlt,Bool.and_eq_true]at hi
     have h1:=hF i hi.1
     rcases Nat.lt_or_ge a i with h|h
     ·exact h
     ·have:i=a:=by omega
      subst this
      have h2:x.named.testBit i=true:=by
       rw[bm,decide_eq_true_eq]
       omega
      rw[h2]at hi;simp at hi
    ·intro i hi
     rw[cH _ _ _ hlt,Bool.and_eq_true]at hi
     exact hsub i hi.1
def lh:NSt:=⟨.nil,0,none⟩
def Bill.endM(s:Bill):NSt:=s.nextM 6 0 s.someN lh
theorem zF:lh.good 0:=⟨trivial,fun _=>rfl,fun _=>rfl,fun b m h=>by cases h⟩
def JS(s:Bill)(r:Rec)(t:NSt):List cn:=yG s r t++By t.G t.o
theorem sC(s:Bill)(hg:s.Good):∃c,s.endM.o=some (c,(bR c:Int))∧cl none s.cats=some (c,(bR c:Int)):=by
 obtain⟨c,h1,_⟩:=fF hg
 refine⟨c,?_,h1⟩
 have h64:=fp hg
 have:=(lO s 6 0 s.someN 0 lh trivial (fun h=>by omega) (fun _ _=>trivial) ⟨by omega,fun i _=>Nat.zero_le i,h64⟩).1
 have e:s.endM.o=cl none ((s.catsN 6 0 s.someN).map ([]++ ·)):=this
 rw[e]
 have e2:(s.catsN 6 0 s.someN).map ([]++ ·)=s.cats:=by unfold Bill.cats;simp
 rw[e2]
 exact h1
set_option maxHeartbeats 4000000 in
theorem Hs(s:Bill)(hg:s.Good)(r:Rec)(hl:fY AW r.l=r.l)
  (hy:∀t:NSt,t.good 6→BoxA Tryz.prog (.yld kLb r.g) (eu s r t) [t.c.av] (aB true) (eu s r t.yieldM)) :
  BoxA Tryz.prog (.fn 99) (yG s r lh) [.yld kLb r.g,.ptr kT 1 1 0 0] (.tuple []) (JS s r s.endM):=by
 have h64:=fp hg
 have hn:=J2 s hg r hl hy 6 0 s.someN lh (by omega) (by omega) (fun i _=>Nat.zero_le i) h64 (fun i hi=>eX hg (by rw[←cA];exact hi)) zF
 obtain⟨w,hw,_⟩:=sC s hg
 have hl0:=nu (s:=s) hl lh
 have hl2:=nu (s:=s) hl s.endM
 change BoxA _ _ _ _ _ (a7 s r s.endM)at hn
 generalize s.endM=u at *
 obtain⟨rg,ra,rb,rl⟩:=r
 have hn:BoxA Tryz.prog (.fn 100) (a7 s ⟨rg,ra,rb,fY (aI (a7 s ⟨rg,ra,rb,rl⟩ lh)) rl⟩ lh) [aj 0,aj s.someN,.ptr kY 1 1 0 0,.ptr kCc 1 1 0 0,.ptr kN 1 1 0 0,.ptr kA 1 6 0 0,.ptr kT 1 1 0 0] (aB true) (a7 s ⟨rg,ra,rb,rl⟩ u):=by
  rw[hl0];exact hn
 obtain⟨c,G,o⟩:=u
 simp only at hw
 subst hw
 clear hy
 cases c
 all_goals
   refine aL ar { l:=0,f:=99,mat:=[100]} mixed Hr Tryz.func99 (by kernel_rfl) ?_
   conv=>whnf
 all_goals repeat(any_goals(first|exact ab|(refine ap ?_ ?_<;>intro _<;>first|exact aq|conv=>whnf)|((first|refine aa fV ?_|refine ac ?_|refine bi ?_ ?_|intro _)<;>conv=>whnf)))
 all_goals
   refine⟨aI (a7 s ⟨rg,ra,rb,rl⟩ lh),?_⟩
   conv=>whnf
 all_goals
   refine⟨_,_,hn,?_⟩
   conv=>whnf
 all_goals repeat(refine af (aA _ _) ?_<;>(conv=>whnf))
 all_goals repeat(any_goals(first|exact ab|(refine ap ?_ ?_<;>intro _<;>first|exact aq|conv=>whnf)|((first|refine ac ?_|refine bi ?_ ?_|intro _)<;>conv=>whnf)))
 all_goals
   refine And.intro ?_ ?_
   ·conv=>whnf
    exact⟨⟨rfl⟩,trivial⟩
   ·rw[b7]
    refine kc ?_ ?_
    ·exact(congrArg (fun z=>some (some (rg,some (0,[AV.lp .ready none #[20] ra rb z])))) hl2)
    ·repeat(first|exact trivial|refine kc rfl ?_)
theorem JE(s:Bill):BoxA Tryz.prog (.fn 69) [cW s] [.ptr cq 1 5 0 0] (.func (.func 99) [] [.ptr kT 1 1 0 0]) [cW s,(kT,1,1,[.ptr cq 1 5 0 0])]:=by
 unfold cW
 refine aL ar { l:=0,f:=69} mixed Hb Tryz.func69 (by kernel_rfl) ?_
 conv=>whnf
 repeat(any_goals(first|exact ab|(refine ap ?_ ?_<;>intro _<;>first|exact aq|conv=>whnf)|((first|refine ac ?_|refine bi ?_ ?_|intro _)<;>conv=>whnf)))
 refine And.intro ?_ ?_
 ·conv=>whnf
  refine⟨⟨?_⟩,trivial⟩
  rfl
 ·repeat(first|exact trivial|refine And.intro rfl ?_|refine And.intro (by skip) ?_)
end Go.Proofs.YtgncapdjheghfaaGreatDoor
namespace Go.Proofs.YtgncapdjheghfaaGreatDoor
open Go.Am Go.Proofs Go
structure MSt where
 i:Nat
 m:Nat
theorem JL(ee:List Ent)(n:Nat)(h:n≤ee.length):((ee.map bB).take n).take (min ((ee.map bB).take n).length n)++(List.replicate n (bB ⟨0,0,0⟩)).drop (min ((ee.map bB).take n).length n)=(ee.take n).map bB:=by
 have e:((ee.map bB).take n).length=n:=by rw[List.length_take,List.length_map];omega
 rw[e,Nat.min_self,List.take_of_length_le (by omega),List.drop_of_length_le (by rw[List.length_replicate];omega),List.append_nil,List.map_take]
theorem n7(x:Ent)(l:List Ent):bR (x::l)=bR l+if x.says=2 then 1 else 0:=by
 unfold bR
 rw[List.countP_cons]
 simp only[decide_eq_true_eq]
theorem mt{t:NSt}(h:EI t.o t.c.list=true):t.yieldM=⟨t.c,t.G+1,some (t.c.list,(bR t.c.list:Int))⟩:=by
 unfold NSt.yieldM
 rw[if_pos h]
 congr 1
 unfold jP
 unfold EI at h
 split at h
 ·rfl
 ·rw[if_pos (of_decide_eq_true h)]
theorem Dc{t:NSt}{b:List Ent}{m:Int}(ho:t.o=some (b,m))(h:¬(bR t.c.list:Int)<m):t.yieldM=t:=by
 obtain⟨c,G,o⟩:=t
 simp only at ho h
 subst ho
 unfold NSt.yieldM EI jP
 simp only[decide_eq_false h,if_neg h,Bool.false_eq_true,if_false]
theorem bF(l:List Ent)(n:Nat)(h:n=l.length):dH ((l.map bB).take n)=some (l.map bB):=by
 rw[List.take_of_length_le (by rw[List.length_map];omega)]
 clear h
 induction l with
 | nil=>rfl
 | cons x l ih=>simp only[List.map_cons,dH,ih,show tU (bB x)=some (bB x)from rfl]
def se(x:List Ent×Int×Int):AV:= .tuple [aG x.1,aj x.2.1,aj x.2.2]
theorem GB(s:Bill)(hr:s.small)(e:Int)(he:s.check.2.2=e)(h0:e≠0):PureA Tryz.prog 22 [aF s] (.tuple [oe,aj 0,aj e]):=by
 have hlk:=te s hr e he h0
 refine ae ar { l:=0,f:=22,mat:=[63,69]} mixed Aq Tryz.func22 (by kernel_rfl) ?_
 conv=>whnf
 repeat(any_goals(first|exact ab|(refine ap ?_ ?_<;>intro _<;>first|exact aq|conv=>whnf)|((first|refine ac ?_|refine bi ?_ ?_|intro _)<;>conv=>whnf)))
 refine⟨[],?_⟩
 conv=>whnf
 refine⟨_,_,hlk,?_⟩
 conv=>whnf
 repeat(any_goals(first|exact ab|(refine ap ?_ ?_<;>intro _<;>first|exact aq|conv=>whnf)|((first|refine ac ?_|refine bi ?_ ?_|intro _)<;>conv=>whnf)))
 (refine⟨⟨?_⟩,trivial⟩;rfl)
set_option maxHeartbeats 8000000 in
theorem GC(s:Bill)(hr:s.small)(hc:s.check.2.2=0)(b:List Ent)(hb:cl none s.cats=some (b,(bR b:Int))):PureA Tryz.prog 22 [aF s] (.tuple [aG b,aj (bR b),aj 0]):=by
 have hg:=Bill.good hc
 have hlk:=jB s hr hc
 have hca:=JE s
 obtain⟨c,hu,hcb⟩:=sC s hg
 rw[hb]at hcb
 cases hcb
 have hit:=fun r hl hy=>Hs s hg r hl hy
 generalize s.endM=u at *
 obtain⟨cu,G,o⟩:=u
 simp only at hu
 subst hu
 unfold cW at hlk hca
 refine ae ar { l:=0,f:=22,mat:=[63,69]} mixed Aq Tryz.func22 (by kernel_rfl) ?_
 conv=>whnf
 repeat(any_goals(first|exact ab|(refine ap ?_ ?_<;>intro _<;>first|exact aq|conv=>whnf)|((first|refine ac ?_|refine bi ?_ ?_|intro _)<;>conv=>whnf)))
 refine⟨[],?_⟩
 conv=>whnf
 refine⟨_,_,hlk,?_⟩
 conv=>whnf
 repeat(any_goals(first|exact ab|(refine ap ?_ ?_<;>intro _<;>first|exact aq|conv=>whnf)|((first|refine ac ?_|refine bi ?_ ?_|intro _)<;>conv=>whnf)))
 refine⟨[cq],?_⟩
 conv=>whnf
 refine⟨_,_,hca,?_⟩
 conv=>whnf
 repeat(any_goals(first|exact ab|(refine ap ?_ ?_<;>intro _<;>first|exact aq|conv=>whnf)|((first|refine ac ?_|refine bi ?_ ?_|intro _)<;>conv=>whnf)))
 refine⟨AW,?_⟩
 conv=>whnf
 refine⟨_,_,hit ⟨_,_,_,_⟩ ?_ ?_,?_⟩
 ·first|exact uw _ _|rfl
 ·rintro⟨c,G,o⟩ ⟨hok,hno,hQ1,hQ2⟩
  simp only at hok hno hQ1 hQ2
  cases c with
  | nil =>
   cases hno rfl
   cases hQ1 rfl
   rw[mt (t:=⟨.nil,0,none⟩) rfl]
   refine bq ar { l:=0,f:=22,rd:=true} mixed rfl rfl rfl (by kernel_rfl) ?_
   conv=>whnf
   refine And.intro rfl ?_
   conv=>whnf
   repeat(any_goals(first|exact ab|(refine ap ?_ ?_<;>intro _<;>first|exact aq|conv=>whnf)|((first|refine ac ?_|refine bi ?_ ?_|intro _)<;>conv=>whnf)))
   refine aW ar { l:=0,f:=22,rd:=true} mixed (fun i:Nat=>[(23,aj i),(7,aj 0)]) (fun _=>[]) (fun _=>[]) (fun i=>i=0) (fun i=>i) 0 (by kernel_rfl)
    rfl ?_
   conv=>whnf
   refine⟨⟨ai rfl (ai rfl trivial),trivial,trivial⟩,?_⟩
   intro i hi
   subst hi
   conv=>whnf
   repeat(any_goals(first|exact ab|(refine ap ?_ ?_<;>intro _<;>first|exact aq|conv=>whnf)|((first|refine ac ?_|refine bi ?_ ?_|intro _)<;>conv=>whnf)))
   repeat(first|exact trivial|refine And.intro rfl ?_|refine kc rfl ?_|refine kc (by rfl) ?_)
  | own g ee n =>
   obtain⟨hn,hn6⟩:=hok
   have hlen:(ee.take n).length=n:=by rw[List.length_take];omega
   have hel:(ee.map bB).length=ee.length:=List.length_map ..
   cases o with
   | none =>
    cases hQ1 rfl
    rw[mt (t:=⟨.own g ee n,0,none⟩) rfl]
    refine bq ar { l:=0,f:=22,rd:=true} mixed rfl rfl rfl (by kernel_rfl) ?_
    conv=>whnf
    refine And.intro rfl ?_
    conv=>whnf
    repeat(any_goals(first|exact ab|(refine ap ?_ ?_<;>intro _<;>first|exact aq|conv=>whnf)|((first|refine ac ?_|refine bi ?_ ?_|intro _)<;>conv=>whnf)))
    refine aW ar { l:=0,f:=22,rd:=true} mixed (fun u:MSt=>[(23,aj u.i),(7,aj u.m)]) (fun _=>[]) (fun _=>[]) (fun u=>u.i≤n∧bR (ee.take n)=u.m+bR ((ee.take n).drop u.i)∧u.m≤u.i) (fun u=>n-u.i) (⟨0,0⟩:MSt) (by kernel_rfl)
     ⟨Nat.zero_le _,(Nat.zero_add _).symm,Nat.le_refl _⟩ ?_
    conv=>whnf
    refine⟨⟨ai rfl (ai rfl trivial),trivial,trivial⟩,?_⟩
    rintro u ⟨hi,H,hm⟩
    generalize u.i=i at *
    generalize u.m=m at *
    clear u
    by_cases hil:i<n
    ·obtain⟨x,hx,hd⟩:=ay (l:=ee.take n) (i:=i) (by omega)
     have hx':ee[i]?=some x:=by rw[List.getElem?_take,if_pos hil]at hx;exact hx
     rw[hd,n7]at H
     by_cases q:x.says=2
     ·rw[if_pos q]at H
      conv=>whnf
      repeat(any_goals(first|exact ab|(refine ap ?_ ?_<;>intro _<;>first|exact aq|conv=>whnf)|((first|refine ag hx' rfl ?_|refine ac ?_|refine bi ?_ ?_|intro _)<;>conv=>whnf)))
      (refine⟨⟨i+1,m+1⟩,⟨by show i+1≤_;omega,by show bR _=m+1+bR ((ee.take n).drop (i+1));omega,by show m+1≤i+1;omega⟩,(by show _-(i+1)<_-i;omega),?_⟩;(conv=>whnf);refine⟨?_,?_,?_⟩<;>repeat(first|exact trivial|refine sc rfl ?_|refine kn ?_|refine kc rfl ?_|refine sc (by rfl) ?_|refine kc (by rfl) ?_))
     ·rw[if_neg q]at H
      conv=>whnf
      repeat(any_goals(first|exact ab|(refine ap ?_ ?_<;>intro _<;>first|exact aq|conv=>whnf)|((first|refine ag hx' rfl ?_|refine ac ?_|refine bi ?_ ?_|intro _)<;>conv=>whnf)))
      (refine⟨⟨i+1,m⟩,⟨by show i+1≤_;omega,by show bR _=m+bR ((ee.take n).drop (i+1));omega,by show m≤i+1;omega⟩,(by show _-(i+1)<_-i;omega),?_⟩;(conv=>whnf);refine⟨?_,?_,?_⟩<;>repeat(first|exact trivial|refine sc rfl ?_|refine kn ?_|refine kc rfl ?_|refine sc (by rfl) ?_|refine kc (by rfl) ?_))
    ·have hin:i=n:=by omega
     subst hin
     rw[List.drop_of_length_le (by omega),show bR []=0 from rfl,Nat.add_zero]at H
     conv=>whnf
     repeat(any_goals(first|exact ab|(refine ap ?_ ?_<;>intro _<;>first|exact aq|conv=>whnf)|((first|refine ac ?_|refine bi ?_ ?_|intro _)<;>conv=>whnf)))
     repeat(first|exact trivial|refine And.intro rfl ?_|refine kc rfl ?_|refine kc (by first|(exact congrArg (fun z=>some (some (0+1,some (3,z)))) (JL ee i hn))|(exact congrArg (fun z=>some (some (1,some (1,[AV.own kMk (0+1) 3 z 0])))) hlen.symm)|(show _=some (some (1,some (1,[aj (bR (ee.take i):Nat)])));rw[H];rfl)) ?_)
   | some q =>
    obtain⟨b,m0⟩:=q
    have hm0:=hQ2 b m0 rfl
    by_cases hlt:(bR (ee.take n):Int)<m0
    ·rw[mt (t:=⟨.own g ee n,G,some (b,m0)⟩) (decide_eq_true hlt)]
     refine bq ar { l:=0,f:=22,rd:=true} mixed rfl rfl rfl (by kernel_rfl) ?_
     conv=>whnf
     refine And.intro rfl ?_
     conv=>whnf
     repeat(any_goals(first|exact ab|(refine ap ?_ ?_<;>intro _<;>first|exact aq|conv=>whnf)|((first|refine ac ?_|refine bi ?_ ?_|intro _)<;>conv=>whnf)))
     refine aW ar { l:=0,f:=22,rd:=true} mixed (fun u:MSt=>[(23,aj u.i),(7,aj u.m)]) (fun _=>[]) (fun _=>[]) (fun u=>u.i≤n∧bR (ee.take n)=u.m+bR ((ee.take n).drop u.i)∧u.m≤u.i) (fun u=>n-u.i) (⟨0,0⟩:MSt) (by kernel_rfl)
      ⟨Nat.zero_le _,(Nat.zero_add _).symm,Nat.le_refl _⟩ ?_
     conv=>whnf
     refine⟨⟨ai rfl (ai rfl trivial),trivial,trivial⟩,?_⟩
     rintro u ⟨hi,H,hm⟩
     generalize u.i=i at *
     generalize u.m=m at *
     clear u
     by_cases hil:i<n
     ·obtain⟨x,hx,hd⟩:=ay (l:=ee.take n) (i:=i) (by omega)
      have hx':ee[i]?=some x:=by rw[List.getElem?_take,if_pos hil]at hx;exact hx
      rw[hd,n7]at H
      by_cases q:x.says=2
      ·rw[if_pos q]at H
       conv=>whnf
       repeat(any_goals(first|exact ab|(refine ap ?_ ?_<;>intro _<;>first|exact aq|conv=>whnf)|((first|refine ag hx' rfl ?_|refine ac ?_|refine bi ?_ ?_|intro _)<;>conv=>whnf)))
       (refine⟨⟨i+1,m+1⟩,⟨by show i+1≤_;omega,by show bR _=m+1+bR ((ee.take n).drop (i+1));omega,by show m+1≤i+1;omega⟩,(by show _-(i+1)<_-i;omega),?_⟩;(conv=>whnf);refine⟨?_,?_,?_⟩<;>repeat(first|exact trivial|refine sc rfl ?_|refine kn ?_|refine kc rfl ?_|refine sc (by rfl) ?_|refine kc (by rfl) ?_))
      ·rw[if_neg q]at H
       conv=>whnf
       repeat(any_goals(first|exact ab|(refine ap ?_ ?_<;>intro _<;>first|exact aq|conv=>whnf)|((first|refine ag hx' rfl ?_|refine ac ?_|refine bi ?_ ?_|intro _)<;>conv=>whnf)))
       (refine⟨⟨i+1,m⟩,⟨by show i+1≤_;omega,by show bR _=m+bR ((ee.take n).drop (i+1));omega,by show m≤i+1;omega⟩,(by show _-(i+1)<_-i;omega),?_⟩;(conv=>whnf);refine⟨?_,?_,?_⟩<;>repeat(first|exact trivial|refine sc rfl ?_|refine kn ?_|refine kc rfl ?_|refine sc (by rfl) ?_|refine kc (by rfl) ?_))
     ·have hin:i=n:=by omega
      subst hin
      rw[List.drop_of_length_le (by omega),show bR []=0 from rfl,Nat.add_zero]at H
      rw[H]at hlt
      conv=>whnf
      repeat(any_goals(first|exact ab|(refine ap ?_ ?_<;>intro _<;>first|exact aq|conv=>whnf)|((first|refine ac ?_|refine bi ?_ ?_|intro _)<;>conv=>whnf)))
      all_goals(try(exfalso;rename_i h;first|exact h hlt|exact hlt h|exact absurd (show m0<0 from h) (by omega)))
      all_goals repeat(first|exact trivial|refine And.intro rfl ?_|refine kc rfl ?_|refine kc (by first|(exact congrArg (fun z=>some (some (G+1,some (3,z)))) (JL ee i hn))|(exact congrArg (fun z=>some (some (1,some (1,[AV.own kMk (G+1) 3 z 0])))) hlen.symm)|(show _=some (some (1,some (1,[aj (bR (ee.take i):Nat)])));rw[H];rfl)) ?_)
    ·rw[Dc (t:=⟨.own g ee n,G,some (b,m0)⟩) rfl hlt]
     refine bq ar { l:=0,f:=22,rd:=true} mixed rfl rfl rfl (by kernel_rfl) ?_
     conv=>whnf
     refine And.intro rfl ?_
     conv=>whnf
     repeat(any_goals(first|exact ab|(refine ap ?_ ?_<;>intro _<;>first|exact aq|conv=>whnf)|((first|refine ac ?_|refine bi ?_ ?_|intro _)<;>conv=>whnf)))
     refine aW ar { l:=0,f:=22,rd:=true} mixed (fun u:MSt=>[(23,aj u.i),(7,aj u.m)]) (fun _=>[]) (fun _=>[]) (fun u=>u.i≤n∧bR (ee.take n)=u.m+bR ((ee.take n).drop u.i)∧u.m≤u.i) (fun u=>n-u.i) (⟨0,0⟩:MSt) (by kernel_rfl)
      ⟨Nat.zero_le _,(Nat.zero_add _).symm,Nat.le_refl _⟩ ?_
     conv=>whnf
     refine⟨⟨ai rfl (ai rfl trivial),trivial,trivial⟩,?_⟩
     rintro u ⟨hi,H,hm⟩
     generalize u.i=i at *
     generalize u.m=m at *
     clear u
     by_cases hil:i<n
     ·obtain⟨x,hx,hd⟩:=ay (l:=ee.take n) (i:=i) (by omega)
      have hx':ee[i]?=some x:=by rw[List.getElem?_take,if_pos hil]at hx;exact hx
      rw[hd,n7]at H
      by_cases q:x.says=2
      ·rw[if_pos q]at H
       conv=>whnf
       repeat(any_goals(first|exact ab|(refine ap ?_ ?_<;>intro _<;>first|exact aq|conv=>whnf)|((first|refine ag hx' rfl ?_|refine ac ?_|refine bi ?_ ?_|intro _)<;>conv=>whnf)))
       (refine⟨⟨i+1,m+1⟩,⟨by show i+1≤_;omega,by show bR _=m+1+bR ((ee.take n).drop (i+1));omega,by show m+1≤i+1;omega⟩,(by show _-(i+1)<_-i;omega),?_⟩;(conv=>whnf);refine⟨?_,?_,?_⟩<;>repeat(first|exact trivial|refine sc rfl ?_|refine kn ?_|refine kc rfl ?_|refine sc (by rfl) ?_|refine kc (by rfl) ?_))
      ·rw[if_neg q]at H
       conv=>whnf
       repeat(any_goals(first|exact ab|(refine ap ?_ ?_<;>intro _<;>first|exact aq|conv=>whnf)|((first|refine ag hx' rfl ?_|refine ac ?_|refine bi ?_ ?_|intro _)<;>conv=>whnf)))
       (refine⟨⟨i+1,m⟩,⟨by show i+1≤_;omega,by show bR _=m+bR ((ee.take n).drop (i+1));omega,by show m≤i+1;omega⟩,(by show _-(i+1)<_-i;omega),?_⟩;(conv=>whnf);refine⟨?_,?_,?_⟩<;>repeat(first|exact trivial|refine sc rfl ?_|refine kn ?_|refine kc rfl ?_|refine sc (by rfl) ?_|refine kc (by rfl) ?_))
     ·have hin:i=n:=by omega
      subst hin
      rw[List.drop_of_length_le (by omega),show bR []=0 from rfl,Nat.add_zero]at H
      rw[H]at hlt
      conv=>whnf
      repeat(any_goals(first|exact ab|(refine ap ?_ ?_<;>intro _<;>first|exact aq|conv=>whnf)|((first|refine ac ?_|refine bi ?_ ?_|intro _)<;>conv=>whnf)))
      all_goals(try(exfalso;rename_i h;first|exact h hlt|exact hlt h|exact absurd (show m0<0 from h) (by omega)))
      all_goals repeat(first|exact trivial|refine And.intro rfl ?_|refine kc rfl ?_|refine kc (by rfl) ?_)
 ·conv=>whnf
  repeat(refine af (aA _ _) ?_<;>(conv=>whnf))
  repeat(any_goals(first|exact ab|(refine ap ?_ ?_<;>intro _<;>first|exact aq|conv=>whnf)|((first|refine ac ?_|refine bi ?_ ?_|intro _)<;>conv=>whnf)))
  refine af (bF b b.length rfl) ?_
  conv=>whnf
  (refine⟨⟨?_⟩,trivial⟩;rfl)
theorem fE(s:Bill)(hr:s.small):PureA Tryz.prog 22 [aF s] (se s.bestR):=by
 unfold Bill.bestR se
 by_cases hc:s.check.2.2=0
 ·rw[if_neg (fun h=>h hc)]
  obtain⟨b,hb,_⟩:=fF (Bill.good hc)
  rw[hb]
  exact GC s hr hc b hb
 ·rw[if_pos hc]
  exact(GB s hr _ rfl hc).wk (Wk.tuple (.cons (Wk.nil 3) (WkL.refl _)))
end Go.Proofs.YtgncapdjheghfaaGreatDoor
namespace Go.Proofs.YtgncapdjheghfaaGreatDoor
open Go.Am Go.Proofs Go
def gI(set:Int)(n:Nat):List Int:=((List.range n).filter fun i=>dR set i).map fun(i:Nat)=>(i:Int)
theorem uN(set:Int)(n:Nat):gI set (n+1)=if dR set n=true then gI set n++[(n:Int)]else gI set n:=by
 unfold gI
 rw[List.range_succ,List.filter_append,List.map_append]
 by_cases h:dR set n=true
 ·rw[if_pos h];simp[h]
 ·rw[if_neg h];simp[h]
theorem lv{set x:Int}{n:Nat}:x∈gI set n↔∃i:Nat,x=i∧i<n∧dR set i=true:=by
 unfold gI
 simp only[List.mem_map,List.mem_filter,List.mem_range]
 constructor
 ·rintro⟨i,h,rfl⟩;exact⟨i,rfl,h⟩
 ·rintro⟨i,rfl,h⟩;exact⟨i,h,rfl⟩
theorem pE(set:Int)(n:Nat):(gI set n).length≤n:=by
 unfold gI
 rw[List.length_map]
 have:=List.length_filter_le (fun i=>dR set i) (List.range n)
 rwa [List.length_range]at this
theorem DH{s:Bill}(hg:s.Good)(set:Int):s.allL (gI set s.figs.length)=s.sure set:=by
 rw[Bool.eq_iff_iff,ny]
 unfold Bill.allL BL
 rw[List.all_eq_true]
 refine forall_congr' fun t=>forall_congr' fun ht=>?_
 rw[List.any_eq_true]
 constructor
 ·rintro⟨x,hx,hb⟩
  obtain⟨i,rfl,hi,hs⟩:=lv.1 hx
  exact⟨i,by simpa using hb,hs⟩
 ·rintro⟨i,hb,hs⟩
  refine⟨i,lv.2 ⟨i,rfl,?_,hs⟩,by simpa using hb⟩
  rcases Nat.lt_or_ge i s.figs.length with h|h
  ·exact h
  ·rw[Ae hg ht h]at hb;simp at hb
set_option maxHeartbeats 2000000 in
theorem wK(s:Bill)(hr:s.small)(set:Int):PureA Tryz.prog 18 [aF s,aj set] (.tuple [aB (s.surelyR set).1,aj (s.surelyR set).2]):=by
 have hk:=eL s hr
 have hfl:(s.figs.map cD).length=s.figs.length:=List.length_map ..
 unfold Bill.surelyR zJ at *
 obtain⟨⟨p,a,e⟩,hck⟩:∃v,s.check=v:=⟨_,rfl⟩
 rw[hck]at hk ⊢
 simp only at hk ⊢
 unfold aF at hk
 by_cases h0:e=0
 ·rw[if_neg (fun h=>h h0)]
  have hg:s.Good:=Bill.good (by rw[hck];exact h0)
  subst h0
  have h6:=hg.len
  have hT:=hg.lenT
  have ht:∀t∈s.truths,0≤t:=fun t h=>(hg.lt h).1
  obtain⟨p1,p2⟩:=bH h6
  have hse:=ld s.figs.length (by omega)
  rw[←hfl]at hse
  rw[hfl]at hse
  have hw:=dO set 0 (2^s.figs.length-1)
  rw[eQ]at hw
  by_cases q:aQ 0 (2^s.figs.length-1) set=true
  ·rw[q]at hw
   rw[if_pos q]
   clear hg ht
   generalize (2:Int)^s.figs.length=P at *
   rw[←hfl]at hse
   refine ae ar { l:=0,f:=18} mixed uV Tryz.func18 (by kernel_rfl) ?_
   conv=>whnf
   repeat(any_goals(first|exact ab|(refine ap ?_ ?_<;>intro _<;>first|exact aq|conv=>whnf)|((first|refine aa hk ?_|refine ah hk rfl ?_|refine aa hse ?_|refine aa hw ?_|refine ah hse rfl ?_|refine ah hw rfl ?_|refine ac ?_|refine bi ?_ ?_|intro _)<;>conv=>whnf)))
   (refine⟨⟨?_⟩,trivial⟩;rfl)
  ·rw[if_neg q]
   rw[Bool.not_eq_true]at q
   rw[q]at hw
   rw[aT]at q
   have hbit:=fun i h=>mb set i q.1 h
   have hall:=r7 s (by omega) ht (gI set s.figs.length) (by have:=pE set s.figs.length;omega) (by intro x hx;obtain⟨i,rfl,hi,_⟩:=lv.1 hx;omega)
   rw[DH hg]at hall
   have hM0:gI set 0=[]:=rfl
   have hMs:=uN set
   have hMl:=pE set
   generalize gI set=M at *
   generalize s.sure set=B at *
   unfold aF at hall
   clear hg ht
   generalize (2:Int)^s.figs.length=P at *
   rw[←hfl]at hse
   refine ae ar { l:=0,f:=18} mixed uV Tryz.func18 (by kernel_rfl) ?_
   conv=>whnf
   repeat(any_goals(first|exact ab|(refine ap ?_ ?_<;>intro _<;>first|exact aq|conv=>whnf)|((first|refine aa hk ?_|refine ah hk rfl ?_|refine aa hse ?_|refine aa hw ?_|refine ah hse rfl ?_|refine ah hw rfl ?_|refine ac ?_|refine bi ?_ ?_|intro _)<;>conv=>whnf)))
   refine dX 9 1 ⟨0,18,45⟩ ?_
   conv=>whnf
   refine aW ar { l:=0,f:=18} mixed (fun i:Nat=>[(10,aj i),(9,.slice 1 ((M i).map aj) (.own ⟨0,18,45⟩ 1))]) (fun _=>[]) (fun i=>[(⟨0,18,45⟩,some (1,(M i).length))]) (fun i=>i≤s.figs.length) (fun i=>s.figs.length-i) 0 (by kernel_rfl)
    (Nat.zero_le _) ?_
   conv=>whnf
   refine⟨⟨ai rfl (ai (by rw[hM0];rfl) trivial),trivial,aH (by rw[hM0];rfl) trivial⟩,?_⟩
   intro i hi
   have hMi:=hMs i
   have hl1:=hMl i
   have hml:((M i).map aj).length=(M i).length:=List.length_map ..
   by_cases hlt:i<s.figs.length
   ·have hb:=hbit i (by omega)
    rw[Int.toNat_natCast]at hb
    cases hv:dR set i with
    | true =>
     rw[hv]at hb hMi
     simp only[if_true]at hMi
     conv=>whnf
     repeat(any_goals(first|exact ab|(refine ap ?_ ?_<;>intro _<;>first|exact aq|conv=>whnf)|((first|refine aa hb ?_|refine ah hb rfl ?_|refine ac ?_|refine bi ?_ ?_|intro _)<;>conv=>whnf)))
     (refine⟨i+1,(by omega),(by omega),?_⟩;(conv=>whnf);refine⟨?_,?_,?_⟩<;>repeat(first|exact trivial|refine sc rfl ?_|refine kn ?_|refine kc rfl ?_|refine sc (by first|rfl|(rw[hMi,List.map_append];rfl)|(rw[hMi,List.length_append, ←hml];rfl)) ?_|refine kc (by first|rfl|(rw[hMi,List.map_append];rfl)|(rw[hMi,List.length_append, ←hml];rfl)) ?_))
    | false =>
     rw[hv]at hb hMi
     simp only[Bool.false_eq_true,if_false]at hMi
     conv=>whnf
     repeat(any_goals(first|exact ab|(refine ap ?_ ?_<;>intro _<;>first|exact aq|conv=>whnf)|((first|refine aa hb ?_|refine ah hb rfl ?_|refine ac ?_|refine bi ?_ ?_|intro _)<;>conv=>whnf)))
     (refine⟨i+1,(by omega),(by omega),?_⟩;(conv=>whnf);refine⟨?_,?_,?_⟩<;>repeat(first|exact trivial|refine sc rfl ?_|refine kn ?_|refine kc rfl ?_|refine sc (by first|rfl|(rw[hMi];rfl)) ?_|refine kc (by first|rfl|(rw[hMi];rfl)) ?_))
   ·have hin:i=s.figs.length:=by omega
    subst hin
    conv=>whnf
    repeat(any_goals(first|exact ab|(refine ap ?_ ?_<;>intro _<;>first|exact aq|conv=>whnf)|((first|refine aa hall ?_|refine ah hall rfl ?_|refine ac ?_|refine bi ?_ ?_|intro _)<;>conv=>whnf)))
    (refine⟨⟨?_⟩,trivial⟩;rfl)
 ·rw[if_pos h0]
  refine ae ar { l:=0,f:=18} mixed uV Tryz.func18 (by kernel_rfl) ?_
  conv=>whnf
  repeat(any_goals(first|exact ab|(refine ap ?_ ?_<;>intro _<;>first|exact aq|conv=>whnf)|((first|refine aa hk ?_|refine ah hk rfl ?_|refine ac ?_|refine bi ?_ ?_|intro _)<;>conv=>whnf)))
  (refine⟨⟨?_⟩,trivial⟩;rfl)
theorem nv(c:List Ent)(hl:c.length≤1048576):PureA Tryz.prog 43 [aG c] (aj (bR c)):=by
 have hcl:(c.map bB).length=c.length:=List.length_map ..
 have hM0:bR (c.take 0)=0:=rfl
 have hMs:∀i x,c[i]?=some x→bR (c.take (i+1))=bR (c.take i)+if x.says=2 then 1 else 0:=by
  intro i x hx
  rw[List.take_add_one,hx]
  unfold bR
  rw[List.countP_append]
  congr 1
  show List.countP _ [x]=_
  rw[List.countP_singleton]
  simp
 have hMl:∀i,bR (c.take i)≤i:=by
  intro i
  have:=List.countP_le_length (p:=fun x:Ent=>decide (x.says=2)) (l:=c.take i)
  rw[List.length_take]at this
  unfold bR
  omega
 have hMe:bR c=bR (c.take c.length):=by rw[List.take_length]
 rw[hMe]
 generalize hM:(fun i=>bR (c.take i))=M at *
 have hM':∀i,bR (c.take i)=M i:=fun i=>by rw[←hM]
 simp only[hM']at *
 clear hM hM'
 refine ae ar { l:=0,f:=43} mixed GP Tryz.func43 (by kernel_rfl) ?_
 conv=>whnf
 refine aW ar { l:=0,f:=43} mixed (fun i:Nat=>[(4,aj i),(3,aj (M i))]) (fun _=>[]) (fun _=>[]) (fun i=>i≤c.length) (fun i=>c.length-i) 0 (by kernel_rfl)
  (Nat.zero_le _) ?_
 conv=>whnf
 refine⟨⟨ai rfl (ai (by rw[hM0];rfl) trivial),trivial,trivial⟩,?_⟩
 intro i hi
 have hl1:=hMl i
 by_cases hlt:i<c.length
 ·obtain⟨x,hx,_⟩:=ay (l:=c) (i:=i) hlt
  have hMi:=hMs i x hx
  obtain⟨sy,xa,xb⟩:=x
  simp only at hMi
  by_cases q:sy=2
  ·rw[if_pos q]at hMi
   conv=>whnf
   repeat(any_goals(first|exact ab|(refine ap ?_ ?_<;>intro _<;>first|exact aq|conv=>whnf)|((first|refine ag hx rfl ?_|refine ac ?_|refine bi ?_ ?_|intro _)<;>conv=>whnf)))
   all_goals(try(exact absurd q (by assumption)))
   (refine⟨i+1,(by omega),(by omega),?_⟩;(conv=>whnf);refine⟨?_,?_,?_⟩<;>repeat(first|exact trivial|refine sc rfl ?_|refine kn ?_|refine kc rfl ?_|refine sc (by first|rfl|(rw[hMi];rfl)) ?_|refine kc (by first|rfl|(rw[hMi];rfl)) ?_))
  ·rw[if_neg q,Nat.add_zero]at hMi
   conv=>whnf
   repeat(any_goals(first|exact ab|(refine ap ?_ ?_<;>intro _<;>first|exact aq|conv=>whnf)|((first|refine ag hx rfl ?_|refine ac ?_|refine bi ?_ ?_|intro _)<;>conv=>whnf)))
   all_goals(try(exact absurd (by assumption) q))
   (refine⟨i+1,(by omega),(by omega),?_⟩;(conv=>whnf);refine⟨?_,?_,?_⟩<;>repeat(first|exact trivial|refine sc rfl ?_|refine kn ?_|refine kc rfl ?_|refine sc (by first|rfl|(rw[hMi];rfl)) ?_|refine kc (by first|rfl|(rw[hMi];rfl)) ?_))
 ·have hin:i=c.length:=by omega
  subst hin
  conv=>whnf
  repeat(any_goals(first|exact ab|(refine ap ?_ ?_<;>intro _<;>first|exact aq|conv=>whnf)|((first|refine ac ?_|refine bi ?_ ?_|intro _)<;>conv=>whnf)))
  (refine⟨⟨?_⟩,trivial⟩;rfl)
end Go.Proofs.YtgncapdjheghfaaGreatDoor
namespace Go.Proofs.YtgncapdjheghfaaGreatDoor
open Go.Am Go.Proofs Go
end Go.Proofs.YtgncapdjheghfaaGreatDoor
namespace Go.Proofs.YtgncapdjheghfaaGreatDoor
open Go.Am Go.Proofs Go
def mA(l:List (List Ent)):AV:= .slice 1 (l.map aG) .no
def pk(n a k b:Nat):List Ent:=((List.range k).flatMap fun(k:Nat)=>(List.range n).map fun(b:Nat)=>(⟨(k:Int),(a:Int),(b:Int)⟩:Ent))++(List.range b).map fun(b:Nat)=>⟨(k:Int),(a:Int),(b:Int)⟩
def m6(p:Ent→Bool)(g:Ent→List (List Ent))(n a k b:Nat):List (List Ent):=((pk n a k b).filter p).flatMap g
theorem y5(p:Ent→Bool)(g:Ent→List (List Ent))(n a k b:Nat):m6 p g n a k (b+1)=if p ⟨k,a,b⟩=true then m6 p g n a k b++g ⟨k,a,b⟩else m6 p g n a k b:=by
 unfold m6 pk
 rw[List.range_succ (n:=b),List.map_append, ←List.append_assoc,List.filter_append,List.flatMap_append]
 by_cases h:p ⟨k,a,b⟩=true
 ·rw[if_pos h];simp[h]
 ·rw[if_neg h];simp[h]
theorem BV(p:Ent→Bool)(g:Ent→List (List Ent))(n a k:Nat):m6 p g n a k n=m6 p g n a (k+1) 0:=by
 unfold m6 pk
 congr 2
 rw[List.range_succ,List.flatMap_append]
 simp
theorem tJ(s:Bill)(p:Ent→Bool)(g:Ent→List (List Ent))(a:Nat):m6 p g s.figs.length a 3 0=((s.tries a).filter p).flatMap g:=by
 unfold m6 pk Bill.tries
 simp
theorem tK(p:Ent→Bool)(g:Ent→List (List Ent))(n a:Nat)(B:Nat)(hB:∀x,p x=true→(g x).length≤B)(k b:Nat):(m6 p g n a k b).length≤(k * n+b) * B:=by
 unfold m6
 have key:∀l:List Ent,((l.filter p).flatMap g).length≤l.length * B:=by
  intro l
  induction l with
  | nil=>simp
  | cons x l ih =>
   rw[List.filter_cons,List.length_cons,Nat.succ_mul]
   split
   ·rename_i h
    have:=hB x h
    rw[List.flatMap_cons,List.length_append]
    omega
   ·omega
 refine Nat.le_trans (key _) (Nat.mul_le_mul_right _ ?_)
 unfold pk
 rw[List.length_append,List.length_map,List.length_range]
 have:((List.range k).flatMap fun(k:Nat)=>(List.range n).map fun(b:Nat)=>(⟨(k:Int),(a:Int),(b:Int)⟩:Ent)).length=k * n:=by
  induction k with
  | zero=>simp
  | succ k ih=>rw[List.range_succ,List.flatMap_append,List.length_append,ih,Nat.succ_mul];simp
 omega
theorem lP(s:Bill)(h6:s.figs.length≤6):∀(f:Nat) (c:List Ent) (a:Nat),(s.onN f c a).length≤18^f
 | 0,c,a=>by simp[Bill.onN]
 | f+1,c,a=>by
  unfold Bill.onN
  split
  ·have:=lP s h6 f c (a+1)
   rw[Nat.pow_succ]
   omega
  ·rw[←tJ]
   have:=tK (s.onE c) (fun x=>s.onN f (c++[x]) (a+1)) s.figs.length a (18^f) (fun x _=>lP s h6 f _ _) 3 0
   refine Nat.le_trans this ?_
   rw[Nat.pow_succ,Nat.mul_comm]
   exact Nat.mul_le_mul_left _ (by omega)
theorem Ih:∀f,f≤6→18^f≤34012224:=by decide +kernel
set_option maxHeartbeats 4000000 in
theorem Ic(s:Bill)(h6:s.figs.length≤6)(a:Nat)(c:List Ent)(ha:a<s.figs.length)(hc:c.length≤a)(L:List Int)(En:Ent→Bool)(H:Int→Bool)(N:Ent→List (List Ent))(O:Nat→Nat→List (List Ent))
  (hnm:PureA Tryz.prog 40 [aG c] (aD L)) (hh1:PureA Tryz.prog 41 [aD L,aj a] (aB false)) (hso:PureA Tryz.prog 49 [.agg [aj s.lines,bu s.figs,aD s.truths],aD [(a:Int)]] (aB true))
  (hen:∀x,PureA Tryz.prog 97 [.agg [aj s.lines,bu s.figs,aD s.truths],bB x] (aB (En x))) (hh2:∀x,PureA Tryz.prog 41 [aD L,aj x] (aB (H x)))
  (hix:∀x,PureA Tryz.prog 101 [.agg [aj s.lines,bu s.figs,aD s.truths],.slice 3 ([]++c.map bB++[bB x]) .no,aj ((a:Int)+1)] (mA (N x)))
  (hgl:∀x,(N x).length≤34012224) (hOl:∀k b,k≤3→b≤6→(O k b).length≤816293376) (hO0:O 0 0=[]) (hOr:∀k,O k s.figs.length=O (k+1) 0)
  (hOs:∀k b:Nat,O k (b+1)=if(En ⟨k,a,b⟩&&(decide ((k:Int)≠1)|| !H (b:Int)))=true then O k b++N ⟨k,a,b⟩else O k b) :
  PureA Tryz.prog 101 [aF s,aG c,aj a] (mA (O 3 0)):=by
 have hfl:(s.figs.map cD).length=s.figs.length:=List.length_map ..
 have hcl:(c.map bB).length=c.length:=List.length_map ..
 refine ae ar { l:=0,f:=101} mixed j7 Tryz.func101 (by kernel_rfl) ?_
 conv=>whnf
 repeat(any_goals(first|exact ab|(refine ap ?_ ?_<;>intro _<;>first|exact aq|conv=>whnf)|((first|refine aa hnm ?_|refine ah hnm rfl ?_|refine aa hh1 ?_|refine ah hh1 rfl ?_|refine aa hso ?_|refine ah hso rfl ?_|refine ac ?_|refine bi ?_ ?_|intro _)<;>conv=>whnf)))
 refine dX 7 1 ⟨0,101,74⟩ ?_
 conv=>whnf
 refine aW ar { l:=0,f:=101} mixed (fun k:Nat=>[(8,aj k),(7,.slice 1 ((O k 0).map aG) (.own ⟨0,101,74⟩ 1))]) (fun _=>[]) (fun k=>[(⟨0,101,74⟩,some (1,(O k 0).length))]) (fun k=>k≤3) (fun k=>3-k) 0 (by kernel_rfl)
  (Nat.zero_le _) ?_
 conv=>whnf
 refine⟨⟨ai rfl (ai (by rw[hO0];rfl) trivial),trivial,aH (by rw[hO0];rfl) trivial⟩,?_⟩
 intro k hk
 by_cases hk3:k<3
 ·conv=>whnf
  repeat(any_goals(first|exact ab|(refine ap ?_ ?_<;>intro _<;>first|exact aq|conv=>whnf)|((first|refine ac ?_|refine bi ?_ ?_|intro _)<;>conv=>whnf)))
  refine aW ar { l:=0,f:=101} mixed (fun b:Nat=>[(9,aj b),(7,.slice 1 ((O k b).map aG) (.own ⟨0,101,74⟩ 1))]) (fun _=>[]) (fun b=>[(⟨0,101,74⟩,some (1,(O k b).length))]) (fun b=>b≤s.figs.length) (fun b=>s.figs.length-b) 0 (by kernel_rfl)
   (Nat.zero_le _) ?_
  conv=>whnf
  refine⟨⟨ai rfl (ai rfl trivial),trivial,aH rfl trivial⟩,?_⟩
  intro b hb
  have hol1:=hOl k b hk (by omega)
  have hml:((O k b).map aG).length=(O k b).length:=List.length_map ..
  by_cases hlt:b<s.figs.length
  ·have hOb:=hOs k b
   have he:=hen ⟨k,a,b⟩
   have hx:=hix ⟨k,a,b⟩
   have hg1:=hgl ⟨k,a,b⟩
   have hh:=hh2 b
   generalize N ⟨k,a,b⟩=Nx at *
   have hnx:(Nx.map aG).length=Nx.length:=List.length_map ..
   cases hv:En ⟨k,a,b⟩with
   | false =>
    rw[hv]at he hOb
    rw[Bool.false_and,if_neg (by simp)]at hOb
    conv=>whnf
    repeat(any_goals(first|exact ab|(refine ap ?_ ?_<;>intro _<;>first|exact aq|conv=>whnf)|((first|refine aa he ?_|refine ah he rfl ?_|refine ac ?_|refine bi ?_ ?_|intro _)<;>conv=>whnf)))
    (refine⟨b+1,(by omega),(by omega),?_⟩;(conv=>whnf);refine⟨?_,?_,?_⟩<;>repeat(first|exact trivial|refine sc rfl ?_|refine kn ?_|refine kc rfl ?_|refine sc (by first|rfl|(rw[hOb];rfl)) ?_|refine kc (by first|rfl|(rw[hOb];rfl)) ?_))
   | true =>
    rw[hv]at he hOb
    rw[Bool.true_and]at hOb
    by_cases q1:(k:Int)=1
    ·rw[decide_eq_false (fun h=>h q1),Bool.false_or]at hOb
     cases hw:H b with
     | true =>
      rw[hw]at hh hOb
      rw[Bool.not_true,if_neg (by simp)]at hOb
      conv=>whnf
      repeat(any_goals(first|exact ab|(refine ap ?_ ?_<;>intro _<;>first|exact aq|conv=>whnf)|((first|refine aa he ?_|refine ah he rfl ?_|refine aa hnm ?_|refine ah hnm rfl ?_|refine aa hh ?_|refine ah hh rfl ?_|refine ac ?_|refine bi ?_ ?_|intro _)<;>conv=>whnf)))
      (refine⟨b+1,(by omega),(by omega),?_⟩;(conv=>whnf);refine⟨?_,?_,?_⟩<;>repeat(first|exact trivial|refine sc rfl ?_|refine kn ?_|refine kc rfl ?_|refine sc (by first|rfl|(rw[hOb];rfl)) ?_|refine kc (by first|rfl|(rw[hOb];rfl)) ?_))
     | false =>
      rw[hw]at hh hOb
      rw[Bool.not_false,if_pos rfl]at hOb
      have hT:(O k (b+1)).length=(List.map aG (O k b)).length+(List.map aG Nx).length:=by rw[hOb,List.length_append,hml,hnx]
      conv=>whnf
      repeat(any_goals(first|exact ab|(refine ap ?_ ?_<;>intro _<;>first|exact aq|conv=>whnf)|((first|refine aa he ?_|refine ah he rfl ?_|refine aa hnm ?_|refine ah hnm rfl ?_|refine aa hh ?_|refine ah hh rfl ?_|refine aa hx ?_|refine ah hx rfl ?_|refine ac ?_|refine bi ?_ ?_|intro _)<;>conv=>whnf)))
      (refine⟨b+1,(by omega),(by omega),?_⟩;(conv=>whnf);refine⟨?_,?_,?_⟩<;>repeat(first|exact trivial|refine sc rfl ?_|refine kn ?_|refine kc rfl ?_|refine sc (by first|rfl|(rw[hOb,List.map_append];rfl)|(rw[hT];rfl)) ?_|refine kc (by first|rfl|(rw[hOb,List.map_append];rfl)|(rw[hT];rfl)) ?_))
    ·rw[decide_eq_true q1,Bool.true_or,if_pos rfl]at hOb
     have hT:(O k (b+1)).length=(List.map aG (O k b)).length+(List.map aG Nx).length:=by rw[hOb,List.length_append,hml,hnx]
     conv=>whnf
     repeat(any_goals(first|exact ab|(refine ap ?_ ?_<;>intro _<;>first|exact aq|conv=>whnf)|((first|refine aa he ?_|refine ah he rfl ?_|refine aa hx ?_|refine ah hx rfl ?_|refine ac ?_|refine bi ?_ ?_|intro _)<;>conv=>whnf)))
     (refine⟨b+1,(by omega),(by omega),?_⟩;(conv=>whnf);refine⟨?_,?_,?_⟩<;>repeat(first|exact trivial|refine sc rfl ?_|refine kn ?_|refine kc rfl ?_|refine sc (by first|rfl|(rw[hOb,List.map_append];rfl)|(rw[hT];rfl)) ?_|refine kc (by first|rfl|(rw[hOb,List.map_append];rfl)|(rw[hT];rfl)) ?_))
  ·have hbn:b=s.figs.length:=by omega
   have hOb:O (k+1) 0=O k b:=by rw[hbn];exact(hOr k).symm
   conv=>whnf
   repeat(any_goals(first|exact ab|(refine ap ?_ ?_<;>intro _<;>first|exact aq|conv=>whnf)|((first|refine ac ?_|refine bi ?_ ?_|intro _)<;>conv=>whnf)))
   (refine⟨k+1,(by omega),(by omega),?_⟩;(conv=>whnf);refine⟨?_,?_,?_⟩<;>repeat(first|exact trivial|refine sc rfl ?_|refine kn ?_|refine kc rfl ?_|refine sc (by first|rfl|(rw[hOb];rfl)) ?_|refine kc (by first|rfl|(rw[hOb];rfl)) ?_))
 ·have hk3:k=3:=by omega
  subst hk3
  conv=>whnf
  repeat(any_goals(first|exact ab|(refine ap ?_ ?_<;>intro _<;>first|exact aq|conv=>whnf)|((first|refine ac ?_|refine bi ?_ ?_|intro _)<;>conv=>whnf)))
  (refine⟨⟨?_⟩,trivial⟩;rfl)
set_option maxHeartbeats 4000000 in
theorem Ib(s:Bill)(hg:s.Good)(f:Nat)(a:Nat)(c:List Ent)(ha:a+(f+1)=s.figs.length)(hc:c.length≤a)
  (ih:∀c:List Ent,c.length≤a+1→PureA Tryz.prog 101 [aF s,aG c,aj ((a+1:Nat):Int)] (mA (s.onN f c (a+1)))) :
  PureA Tryz.prog 101 [aF s,aG c,aj a] (mA (s.onN (f+1) c a)):=by
 have h6:=hg.len
 have hT:=hg.lenT
 have ht:∀t∈s.truths,0≤t:=fun t h=>(hg.lt h).1
 have hfl:(s.figs.map cD).length=s.figs.length:=List.length_map ..
 have hcl:(c.map bB).length=c.length:=List.length_map ..
 have hnm:=iZ c (by omega)
 have hnl:=iT c
 have hso:=uk s (by omega) ht [(a:Int)] (by simp) (by intro x hx;simp at hx;omega)
 rw[i4,Int.toNat_natCast]at hso
 have hen:=fun x=>AI s hg x
 have hhas:=fun x:Int=>mD (bb c) x (by omega)
 have hh1:PureA Tryz.prog 41 [aD (bb c),aj a] (aB (gc (a:Int) (bb c))):=hhas a
 have hh2:∀x,PureA Tryz.prog 41 [aD (bb c),aj x] (aB (gc x (bb c))):=hhas
 unfold Bill.onN
 have ih1:=ih c (by omega)
 unfold aF at hso hen ih1 ih
 by_cases q:(gc (a:Int) (bb c)|| !s.inSome a)=true
 ·rw[if_pos q]
  clear ih hen hhas hh2 hg ht
  generalize s.onN f c (a+1)=R at *
  generalize gc (a:Int) (bb c)=H at *
  generalize s.inSome a=I at *
  generalize bb c=L at *
  have ih1:PureA Tryz.prog 101 [.agg [aj s.lines,bu s.figs,aD s.truths],aG c,aj ((a:Int)+1)] (mA R):=ih1
  cases H<;>cases I
  ·refine ae ar { l:=0,f:=101} mixed j7 Tryz.func101 (by kernel_rfl) ?_
   conv=>whnf
   repeat(any_goals(first|exact ab|(refine ap ?_ ?_<;>intro _<;>first|exact aq|conv=>whnf)|((first|refine aa hnm ?_|refine ah hnm rfl ?_|refine aa hh1 ?_|refine ah hh1 rfl ?_|refine aa hso ?_|refine ah hso rfl ?_|refine aa ih1 ?_|refine ah ih1 rfl ?_|refine ac ?_|refine bi ?_ ?_|intro _)<;>conv=>whnf)))
   (refine⟨⟨?_⟩,trivial⟩;rfl)
  ·simp at q
  ·refine ae ar { l:=0,f:=101} mixed j7 Tryz.func101 (by kernel_rfl) ?_
   conv=>whnf
   repeat(any_goals(first|exact ab|(refine ap ?_ ?_<;>intro _<;>first|exact aq|conv=>whnf)|((first|refine aa hnm ?_|refine ah hnm rfl ?_|refine aa hh1 ?_|refine ah hh1 rfl ?_|refine aa hso ?_|refine ah hso rfl ?_|refine aa ih1 ?_|refine ah ih1 rfl ?_|refine ac ?_|refine bi ?_ ?_|intro _)<;>conv=>whnf)))
   (refine⟨⟨?_⟩,trivial⟩;rfl)
  ·refine ae ar { l:=0,f:=101} mixed j7 Tryz.func101 (by kernel_rfl) ?_
   conv=>whnf
   repeat(any_goals(first|exact ab|(refine ap ?_ ?_<;>intro _<;>first|exact aq|conv=>whnf)|((first|refine aa hnm ?_|refine ah hnm rfl ?_|refine aa hh1 ?_|refine ah hh1 rfl ?_|refine aa hso ?_|refine ah hso rfl ?_|refine aa ih1 ?_|refine ah ih1 rfl ?_|refine ac ?_|refine bi ?_ ?_|intro _)<;>conv=>whnf)))
   (refine⟨⟨?_⟩,trivial⟩;rfl)
 ·rw[if_neg q]
  rw[Bool.not_eq_true,Bool.or_eq_false_iff,Bool.not_eq_false']at q
  rw[q.1]at hh1
  rw[q.2]at hso
  rw[←tJ]
  have hB:=fun x (_:s.onE c x=true)=>lP s h6 f (c++[x]) (a+1)
  have hP:=Ih f (by omega)
  have hlen:=tK (s.onE c) (fun x=>s.onN f (c++[x]) (a+1)) s.figs.length a (18^f) hB
  have hgl:∀x,(s.onN f (c++[x]) (a+1)).length≤34012224:=fun x=>Nat.le_trans (lP s h6 f _ _) hP
  refine Ic s h6 a c (by omega) hc (bb c) s.entry (fun x=>gc x (bb c)) (fun x=>s.onN f (c++[x]) (a+1)) (m6 (s.onE c) (fun x=>s.onN f (c++[x]) (a+1)) s.figs.length a) hnm hh1 hso hen hh2 ?_ hgl ?_ rfl
   (BV (s.onE c) (fun x=>s.onN f (c++[x]) (a+1)) s.figs.length a) (y5 (s.onE c) (fun x=>s.onN f (c++[x]) (a+1)) s.figs.length a)
  ·intro x
   have:=ih (c++[x]) (by rw[List.length_append];simp;omega)
   unfold aG at this
   rw[List.map_append]at this
   exact this
  ·intro k b hk hb
   refine Nat.le_trans (hlen k b) ?_
   have h1:k * s.figs.length+b≤3 * 6+6:=Nat.add_le_add (Nat.mul_le_mul hk h6) hb
   exact Nat.le_trans (Nat.mul_le_mul h1 hP) (by decide)
theorem La(s:Bill)(hg:s.Good):∀(f a:Nat) (c:List Ent),a+f=s.figs.length→c.length≤a→PureA Tryz.prog 101 [aF s,aG c,aj a] (mA (s.onN f c a))
 | 0,a,c,ha,hc=>by
  have hfl:(s.figs.map cD).length=s.figs.length:=List.length_map ..
  have h6:=hg.len
  clear hg
  refine ae ar { l:=0,f:=101} mixed j7 Tryz.func101 (by kernel_rfl) ?_
  conv=>whnf
  repeat(any_goals(first|exact ab|(refine ap ?_ ?_<;>intro _<;>first|exact aq|conv=>whnf)|((first|refine ac ?_|refine bi ?_ ?_|intro _)<;>conv=>whnf)))
  (refine⟨⟨?_⟩,trivial⟩;rfl)
 | f+1,a,c,ha,hc=>Ib s hg f a c ha hc fun c hc=>La s hg f (a+1) c (by omega) hc
theorem t7(s:Bill)(hg:s.Good):PureA Tryz.prog 70 [aF s] (mA s.cats):=by
 have h:=La s hg s.figs.length 0 [] (by omega) (Nat.le_refl _)
 have e:s.onN s.figs.length [] 0=s.cats:=BJ hg
 rw[e]at h
 generalize s.cats=C at *
 have h:PureA Tryz.prog 101 [.agg [aj s.lines,bu s.figs,aD s.truths],oe,aj 0] (mA C):=h.args (args:=[.agg [aj s.lines,bu s.figs,aD s.truths],oe,aj 0]) (.cons (Wk.refl _) (.cons (Wk.nil 3) (.cons (Wk.refl _) trivial)))
 clear hg
 refine ae ar { l:=0,f:=70} mixed Hc Tryz.func70 (by kernel_rfl) ?_
 conv=>whnf
 repeat(any_goals(first|exact ab|(refine ap ?_ ?_<;>intro _<;>first|exact aq|conv=>whnf)|((first|refine aa h ?_|refine ah h rfl ?_|refine ac ?_|refine bi ?_ ?_|intro _)<;>conv=>whnf)))
 (refine⟨⟨?_⟩,trivial⟩;rfl)
end Go.Proofs.YtgncapdjheghfaaGreatDoor
namespace Go.Proofs.YtgncapdjheghfaaGreatDoor
open Go.Am Go.Proofs Go
def eqE(x y:Ent):Bool:=decide (x=y)
theorem Gd(x y:Ent):eqL [.int .i64 x.says,.int .i64 x.a,.int .i64 x.b] [.int .i64 y.says,.int .i64 y.a,.int .i64 y.b]=eqE x y:=by
 obtain⟨x1,x2,x3⟩:=x
 obtain⟨y1,y2,y3⟩:=y
 unfold eqE
 simp only[Ent.mk.injEq]
 have e:∀a b:Int,eqC (.int .i64 a) (.int .i64 b)=decide (a=b):=by
  intro a b
  rw[Bool.eq_iff_iff]
  simp[eqC]
 simp only[eqL,e,Bool.and_true]
 rw[Bool.eq_iff_iff]
 simp
theorem IE(a b:List Ent)(ha:a.length≤1048576)(hb:b.length≤1048576):PureA Tryz.prog 24 [aG a,aG b] (aB (ej eqE a b)):=by
 have hlen:decide ((a.length:Int)=b.length)=true→a.length=b.length:=by simp;omega
 obtain⟨R,hRe⟩:∃R,R=ej eqE a b:=⟨_,rfl⟩
 rw[←hRe]
 have hR:R=(decide ((a.length:Int)=b.length)&&ej eqE a b):=by rw[hRe];exact sE eqE a b
 clear hRe
 refine ae ar { l:=0,f:=24} mixed GI Tryz.func24 (by kernel_rfl) ?_
 conv=>whnf
 refine aW ar { l:=0,f:=24} mixed (fun x:Nat×Bool=>[(6,aj x.1),(5,aB x.2)]) (fun _=>[]) (fun _=>[]) (fun x=>x.1≤a.length∧(x.2=true→a.length=b.length)∧R=(x.2&&ej eqE (a.drop x.1) (b.drop x.1))) (fun x=>a.length-x.1) (0,decide ((a.length:Int)=b.length)) (by kernel_rfl)
  ⟨Nat.zero_le _,hlen,hR⟩ ?_
 conv=>whnf
 refine⟨⟨ai rfl (ai (by
    conv=>lhs;whnf
    simp[aB]) trivial),trivial,trivial⟩,?_⟩
 intro⟨i,same⟩ ⟨hi,hs,H⟩
 simp only at hi hs H
 cases same
 ·conv=>whnf
  repeat(any_goals(first|exact ab|(refine ap ?_ ?_<;>intro _<;>first|exact aq|conv=>whnf)|((first|refine ac ?_|refine bi ?_ ?_|intro _)<;>conv=>whnf)))
  (refine⟨⟨?_⟩,trivial⟩;rw[H];rfl)
 ·have hs:=hs rfl
  rw[Bool.true_and]at H
  conv=>whnf
  refine bK (fun h1=>?_) (fun h1=>?_)
  ·simp only[List.length_map]at h1
   obtain⟨x,hx,hd⟩:=ay (l:=a) (i:=i) (by omega)
   obtain⟨y,hy,he⟩:=ay (l:=b) (i:=i) (by omega)
   rw[hd,he]at H
   simp only[ej]at H
   skip
   conv=>whnf
   repeat(any_goals(first|exact ab|(refine ap ?_ ?_<;>intro _<;>first|exact aq|conv=>whnf)|((first|refine ag hx rfl ?_|refine ag hy rfl ?_|refine ac ?_|refine bi ?_ ?_|intro _)<;>conv=>whnf)))
   (refine⟨(i+1,eqE x y),⟨by simp only;omega,fun _=>hs,H⟩,(by simp only;omega),?_⟩;(conv=>whnf);refine⟨?_,?_,?_⟩<;>repeat(first|exact trivial|refine sc rfl ?_|refine kn ?_|refine kc rfl ?_|refine sc (by first|rfl|exact congrArg (fun b=>some (aB b)) (Gd x y)) ?_|refine kc (by first|rfl|exact congrArg (fun b=>some (aB b)) (Gd x y)) ?_))
  ·conv=>whnf
   simp only[List.length_map]at h1
   have:i=a.length:=by omega
   subst this
   rw[hs,List.drop_length, ←hs,List.drop_length]at H
   (refine⟨⟨?_⟩,trivial⟩;rw[H];rfl)
theorem AJ:∀a b:List Ent,ej eqE a b=decide (a=b)
 | [],[]=>by simp[ej]
 | [],y::b=>by simp[ej]
 | x::a,[]=>by simp[ej]
 | x::a,y::b=>by
  simp only[ej,AJ a b,eqE]
  rw[Bool.eq_iff_iff]
  simp
theorem k9(a b:List Ent)(ha:a.length≤1048576)(hb:b.length≤1048576):PureA Tryz.prog 24 [aG a,aG b] (aB (decide (a=b))):=by
 have:=IE a b ha hb
 rwa [AJ]at this
theorem AK:∀a b:List Int,ej (fun x y:Int=>decide (x=y)) a b=decide (a=b)
 | [],[]=>by simp[ej]
 | [],y::b=>by simp[ej]
 | x::a,[]=>by simp[ej]
 | x::a,y::b=>by
  simp only[ej,AK a b]
  rw[Bool.eq_iff_iff]
  simp
theorem fS(a b:List Int)(ha:a.length≤1048576)(hb:b.length≤1048576):PureA Tryz.prog 29 [aD a,aD b] (aB (decide (a=b))):=by
 have:=JT a b ha hb
 rwa [AK]at this
theorem C9(s:Bill)(hr:s.small):PureA Tryz.prog 38 [aF s] (aB (decide (s.check.2.2=0))):=by
 have hk:=eL s hr
 unfold zJ at hk
 generalize s.check=c at *
 obtain⟨c1,c2,c3⟩:=c
 refine ae ar { l:=0,f:=38} mixed GK Tryz.func38 (by kernel_rfl) ?_
 conv=>whnf
 repeat(any_goals(first|exact ab|(refine ap ?_ ?_<;>intro _<;>first|exact aq|conv=>whnf)|((first|refine aa hk ?_|refine ac ?_|refine bi ?_ ?_|intro _)<;>conv=>whnf)))
 (refine⟨⟨?_⟩,trivial⟩;rfl)
def u8A(n:Int):AV:= .v (.int .u8 n)
def Bill.anyC(s:Bill)(x:Int):List Ent:=s.cats.getD (x.tmod s.cats.length).toNat []
theorem GA{s:Bill}(hg:s.Good){x:Int}(h8:0≤x):s.anyC x∈s.cats:=by
 have h0:=qT hg
 have hl:0<s.cats.length:=List.length_pos_iff.2 h0
 unfold Bill.anyC
 obtain⟨n,rfl⟩:=Int.eq_ofNat_of_zero_le h8
 have ht:((n:Int)).tmod (s.cats.length:Int)=((n%s.cats.length:Nat):Int):=by rw[Int.ofNat_tmod]
 rw[ht,Int.toNat_natCast]
 have hm:n%s.cats.length<s.cats.length:=Nat.mod_lt _ hl
 rw[List.getD_eq_getElem?_getD,List.getElem?_eq_getElem hm,Option.getD_some]
 exact List.getElem_mem hm
theorem j2{s:Bill}(hg:s.Good){x:Int}(h8:0≤x):s.holds (s.anyC x)=true:=(qS hg _).1 (GA hg h8)
theorem DJ(s:Bill)(hg:s.Good)(x:Int)(h8:0≤x∧x≤255):PureA Tryz.prog 42 [aF s,u8A x] (aG (s.anyC x)):=by
 have hk:=t7 s hg
 have hl:0<s.cats.length:=List.length_pos_iff.2 (qT hg)
 have hln:s.cats.length≤34012224:=by
  have:=lP s hg.len s.figs.length [] 0
  have h2:s.onN s.figs.length [] 0=s.cats:=BJ hg
  rw[h2]at this
  exact Nat.le_trans this (Ih _ hg.len)
 unfold Bill.anyC
 generalize s.cats=C at *
 have hcl:(C.map aG).length=C.length:=List.length_map ..
 obtain⟨n,rfl⟩:=Int.eq_ofNat_of_zero_le h8.1
 have ht:((n:Int)).tmod (C.length:Int)=((n%C.length:Nat):Int):=by rw[Int.ofNat_tmod]
 have hm:n%C.length<C.length:=Nat.mod_lt _ hl
 rw[ht,Int.toNat_natCast]
 obtain⟨c,hc,_⟩:=ay (l:=C) (i:=n%C.length) hm
 rw[List.getD_eq_getElem?_getD,hc,Option.getD_some]
 rw[←hcl]at ht
 unfold aF at hk
 clear hg
 refine ae ar { l:=0,f:=42} mixed GO Tryz.func42 (by kernel_rfl) ?_
 conv=>whnf
 repeat(any_goals(first|exact ab|(refine ap ?_ ?_<;>intro _<;>first|exact aq|conv=>whnf)|((first|refine aa hk ?_|refine ah hk rfl ?_|refine ag hc (by rw[ht,hcl]) ?_|refine And.intro (by omega) ?_|refine ac ?_|refine bi ?_ ?_|intro _)<;>conv=>whnf)))
 (refine⟨⟨?_⟩,trivial⟩;rfl)
end Go.Proofs.YtgncapdjheghfaaGreatDoor
namespace Go.Proofs.YtgncapdjheghfaaGreatDoor
open Go.Am Go.Proofs Go
theorem pK{c:List Ent}{i:Nat}{x:Ent}(h:c[i]?=some x):fx (c.take (i+1))=fx (c.take i)++[x.a,x.says,x.b]:=by
 unfold fx
 rw[List.take_add_one,h,List.flatMap_append]
 simp
theorem ki(c:List Ent):(fx c).length=3 * c.length:=by
 induction c with
 | nil=>rfl
 | cons x c ih=>rw[fI];simp only[List.length_cons,ih];omega
set_option maxHeartbeats 2000000 in
theorem xf(a b:List Ent)(ha:a.length≤300000)(hb:b.length≤300000):PureA Tryz.prog 44 [aG a,aG b] (aB (before a b)):=by
 have hal:(a.map bB).length=a.length:=List.length_map ..
 have hbl:(b.map bB).length=b.length:=List.length_map ..
 have hls:=JW (fx a) (fx b) (by rw[ki];omega) (by rw[ki];omega)
 unfold before
 have hfa:fx (a.take a.length)=fx a:=by rw[List.take_length]
 have hfb:fx (b.take b.length)=fx b:=by rw[List.take_length]
 rw[←hfa, ←hfb]at hls ⊢
 obtain⟨A,hA⟩:∃A:Nat→List Int,A=fun i=>fx (a.take i):=⟨_,rfl⟩
 obtain⟨B,hB⟩:∃B:Nat→List Int,B=fun i=>fx (b.take i):=⟨_,rfl⟩
 have As:∀i x,a[i]?=some x→A (i+1)=A i++[x.a,x.says,x.b]:=by intro i x h;rw[hA];exact pK h
 have Bs:∀i x,b[i]?=some x→B (i+1)=B i++[x.a,x.says,x.b]:=by intro i x h;rw[hB];exact pK h
 have Al:∀i,(A i).length≤1000000:=by intro i;rw[hA];simp only[ki,List.length_take];omega
 have Bl:∀i,(B i).length≤1000000:=by intro i;rw[hB];simp only[ki,List.length_take];omega
 have A0:A 0=[]:=by rw[hA];rfl
 have B0:B 0=[]:=by rw[hB];rfl
 have eA:fx (a.take a.length)=A a.length:=by rw[hA]
 have eB:fx (b.take b.length)=B b.length:=by rw[hB]
 rw[eA,eB]at hls ⊢
 clear hA hB eA eB hfa hfb
 generalize cB (A a.length) (B b.length)=R at *
 refine ae ar { l:=0,f:=44} mixed GQ Tryz.func44 (by kernel_rfl) ?_
 conv=>whnf
 refine dX 5 1 ⟨0,44,32⟩ ?_
 conv=>whnf
 refine aW ar { l:=0,f:=44} mixed (fun i:Nat=>[(7,aj i),(5,.slice 1 ((A i).map aj) (.own ⟨0,44,32⟩ 1))]) (fun _=>[]) (fun i=>[(⟨0,44,32⟩,some (1,(A i).length))]) (fun i=>i≤a.length) (fun i=>a.length-i) 0 (by kernel_rfl)
  (Nat.zero_le _) ?_
 conv=>whnf
 refine⟨⟨ai rfl (ai (by rw[A0];rfl) trivial),trivial,aH (by rw[A0];rfl) trivial⟩,?_⟩
 intro i hi
 by_cases hlt:i<a.length
 ·obtain⟨x,hx,_⟩:=ay (l:=a) (i:=i) hlt
  have hMi:=As i x hx
  have hl1:=Al i
  have hml:((A i).map aj).length=(A i).length:=List.length_map ..
  have hT:(A (i+1)).length=(List.map aj (A i)).length+3:=by rw[hMi,List.length_append,hml];rfl
  conv=>whnf
  repeat(any_goals(first|exact ab|(refine ap ?_ ?_<;>intro _<;>first|exact aq|conv=>whnf)|((first|refine ag hx rfl ?_|refine ac ?_|refine bi ?_ ?_|intro _)<;>conv=>whnf)))
  (refine⟨i+1,(by omega),(by omega),?_⟩;(conv=>whnf);refine⟨?_,?_,?_⟩<;>repeat(first|exact trivial|refine sc rfl ?_|refine kn ?_|refine kc rfl ?_|refine sc (by first|rfl|(rw[hMi,List.map_append];rfl)|(rw[hT];rfl)) ?_|refine kc (by first|rfl|(rw[hMi,List.map_append];rfl)|(rw[hT];rfl)) ?_))
 ·have hin:i=a.length:=by omega
  subst hin
  conv=>whnf
  repeat(any_goals(first|exact ab|(refine ap ?_ ?_<;>intro _<;>first|exact aq|conv=>whnf)|((first|refine ac ?_|refine bi ?_ ?_|intro _)<;>conv=>whnf)))
  refine dX 6 1 ⟨0,44,56⟩ ?_
  conv=>whnf
  refine aW ar { l:=0,f:=44} mixed (fun i:Nat=>[(8,aj i),(6,.slice 1 ((B i).map aj) (.own ⟨0,44,56⟩ 1))]) (fun _=>[]) (fun i=>[(⟨0,44,56⟩,some (1,(B i).length))]) (fun i=>i≤b.length) (fun i=>b.length-i) 0 (by kernel_rfl)
   (Nat.zero_le _) ?_
  conv=>whnf
  refine⟨⟨ai rfl (ai (by rw[B0];rfl) trivial),trivial,aH (by rw[B0];rfl) trivial⟩,?_⟩
  intro i hi
  by_cases hlt:i<b.length
  ·obtain⟨x,hx,_⟩:=ay (l:=b) (i:=i) hlt
   have hMi:=Bs i x hx
   have hl1:=Bl i
   have hml:((B i).map aj).length=(B i).length:=List.length_map ..
   have hT:(B (i+1)).length=(List.map aj (B i)).length+3:=by rw[hMi,List.length_append,hml];rfl
   conv=>whnf
   repeat(any_goals(first|exact ab|(refine ap ?_ ?_<;>intro _<;>first|exact aq|conv=>whnf)|((first|refine ag hx rfl ?_|refine ac ?_|refine bi ?_ ?_|intro _)<;>conv=>whnf)))
   (refine⟨i+1,(by omega),(by omega),?_⟩;(conv=>whnf);refine⟨?_,?_,?_⟩<;>repeat(first|exact trivial|refine sc rfl ?_|refine kn ?_|refine kc rfl ?_|refine sc (by first|rfl|(rw[hMi,List.map_append];rfl)|(rw[hT];rfl)) ?_|refine kc (by first|rfl|(rw[hMi,List.map_append];rfl)|(rw[hT];rfl)) ?_))
  ·have hin:i=b.length:=by omega
   subst hin
   conv=>whnf
   repeat(any_goals(first|exact ab|(refine ap ?_ ?_<;>intro _<;>first|exact aq|conv=>whnf)|((first|refine aa hls ?_|refine ah hls rfl ?_|refine ac ?_|refine bi ?_ ?_|intro _)<;>conv=>whnf)))
   (refine⟨⟨?_⟩,trivial⟩;rfl)
theorem j5(left:Nat)(t:Int):∀(l:List Int) (i:Nat),aS left i (l++[t])=if left.testBit (i+l.length)=true then aS left i l++[t]else aS left i l
 | [],i=>by simp[aS]
 | x::l,i=>by
  simp only[List.cons_append,aS,j5 left t l (i+1),List.length_cons]
  rw[show i+1+l.length=i+(l.length+1) by omega]
  split<;>split<;>rfl
theorem mu(left:Nat):∀(l:List Int) (i:Nat),(aS left i l).length≤l.length
 | [],i=>by simp[aS]
 | x::l,i=>by
  simp only[aS]
  have:=mu left l (i+1)
  split<;>simp only[List.length_cons]<;>omega
theorem oM(s:Bill)(h6:s.truths.length≤6)(left:Nat):PureA Tryz.prog 48 [aF s,aj left] (aF (s.leftT left)):=by
 have htl:(s.truths.map aj).length=s.truths.length:=List.length_map ..
 have hbit:=fun(i:Int) h=>mb (left:Int) i (by omega) h
 obtain⟨M,hM⟩:∃M:Nat→List Int,M=fun i=>aS left 0 (s.truths.take i):=⟨_,rfl⟩
 have hMs:∀i t,s.truths[i]?=some t→M (i+1)=if dR (left:Int) i=true then M i++[t]else M i:=by
  intro i t h
  have hi:=(List.getElem?_eq_some_iff.1 h).1
  rw[hM]
  simp only
  rw[List.take_add_one,h]
  show aS left 0 (s.truths.take i++[t])=_
  rw[j5,List.length_take,Nat.zero_add,Nat.min_eq_left (by omega)]
  rfl
 have hM0:M 0=[]:=by rw[hM];rfl
 have hMl:∀i,(M i).length≤6:=by
  intro i
  rw[hM]
  have:=mu left (s.truths.take i) 0
  rw[List.length_take]at this
  simp only
  omega
 have hMe:aS left 0 s.truths=M s.truths.length:=by rw[hM];simp only[List.take_length]
 unfold Bill.leftT
 rw[hMe]
 clear hM hMe
 refine ae ar { l:=0,f:=48} mixed GS Tryz.func48 (by kernel_rfl) ?_
 conv=>whnf
 refine dX 5 1 ⟨0,48,24⟩ ?_
 conv=>whnf
 refine aW ar { l:=0,f:=48} mixed (fun i:Nat=>[(6,aj i),(5,.slice 1 ((M i).map aj) (.own ⟨0,48,24⟩ 1))]) (fun _=>[]) (fun i=>[(⟨0,48,24⟩,some (1,(M i).length))]) (fun i=>i≤s.truths.length) (fun i=>s.truths.length-i) 0 (by kernel_rfl)
  (Nat.zero_le _) ?_
 conv=>whnf
 refine⟨⟨ai rfl (ai (by rw[hM0];rfl) trivial),trivial,aH (by rw[hM0];rfl) trivial⟩,?_⟩
 intro i hi
 by_cases hlt:i<s.truths.length
 ·obtain⟨t,hx,_⟩:=ay (l:=s.truths) (i:=i) hlt
  have hMi:=hMs i t hx
  have hl1:=hMl i
  have hml:((M i).map aj).length=(M i).length:=List.length_map ..
  have hb:=hbit i (by omega)
  rw[Int.toNat_natCast]at hb
  cases hv:dR (left:Int) i with
  | true =>
   rw[hv]at hb hMi
   simp only[if_true]at hMi
   have hT:(M (i+1)).length=(List.map aj (M i)).length+1:=by rw[hMi,List.length_append,hml];rfl
   conv=>whnf
   repeat(any_goals(first|exact ab|(refine ap ?_ ?_<;>intro _<;>first|exact aq|conv=>whnf)|((first|refine aa hb ?_|refine ah hb rfl ?_|refine ag hx rfl ?_|refine ac ?_|refine bi ?_ ?_|intro _)<;>conv=>whnf)))
   (refine⟨i+1,(by omega),(by omega),?_⟩;(conv=>whnf);refine⟨?_,?_,?_⟩<;>repeat(first|exact trivial|refine sc rfl ?_|refine kn ?_|refine kc rfl ?_|refine sc (by first|rfl|(rw[hMi,List.map_append];rfl)|(rw[hT];rfl)) ?_|refine kc (by first|rfl|(rw[hMi,List.map_append];rfl)|(rw[hT];rfl)) ?_))
  | false =>
   rw[hv]at hb hMi
   simp only[Bool.false_eq_true,if_false]at hMi
   conv=>whnf
   repeat(any_goals(first|exact ab|(refine ap ?_ ?_<;>intro _<;>first|exact aq|conv=>whnf)|((first|refine aa hb ?_|refine ah hb rfl ?_|refine ac ?_|refine bi ?_ ?_|intro _)<;>conv=>whnf)))
   (refine⟨i+1,(by omega),(by omega),?_⟩;(conv=>whnf);refine⟨?_,?_,?_⟩<;>repeat(first|exact trivial|refine sc rfl ?_|refine kn ?_|refine kc rfl ?_|refine sc (by first|rfl|(rw[hMi];rfl)) ?_|refine kc (by first|rfl|(rw[hMi];rfl)) ?_))
 ·have hin:i=s.truths.length:=by omega
  subst hin
  have hl1:=hMl s.truths.length
  generalize M s.truths.length=T at *
  conv=>whnf
  repeat(any_goals(first|exact ab|(refine ap ?_ ?_<;>intro _<;>first|exact aq|conv=>whnf)|((first|refine ac ?_|refine bi ?_ ?_|intro _)<;>conv=>whnf)))
  (refine⟨⟨?_⟩,trivial⟩;rfl)
structure BeSt where
 i:Nat
 b:List Ent
set_option maxHeartbeats 2000000 in
theorem Cd(s:Bill)(hr:s.small):PureA Tryz.prog 23 [aF s] (se s.bestR):=by
 have hk:=eL s hr
 unfold Bill.bestR zJ at *
 obtain⟨⟨p,a,e⟩,hck⟩:∃v,s.check=v:=⟨_,rfl⟩
 rw[hck]at hk ⊢
 simp only at hk ⊢
 unfold aF at hk
 by_cases h0:e=0
 ·rw[if_neg (fun h=>h h0)]
  have hg:s.Good:=Bill.good (by rw[hck];exact h0)
  subst h0
  have hcats:=t7 s hg
  have h6:∀c∈s.cats,c.length≤6:=fun c hc=>Nat.le_trans (fJ hg ((qS hg c).1 hc)) hg.len
  have hmay:=fun c (h:c∈s.cats)=>nv c (by have:=h6 c h;omega)
  have hne:=qT hg
  have hml:∀c∈s.cats,bR c≤6:=fun c hc=>Nat.le_trans (List.countP_le_length ..) (h6 c hc)
  have hln:s.cats.length≤34012224:=by
   have:=lP s hg.len s.figs.length [] 0
   have h2:s.onN s.figs.length [] 0=s.cats:=BJ hg
   rw[h2]at this
   exact Nat.le_trans this (Ih _ hg.len)
  obtain⟨R,hR⟩:∃R,cl none s.cats=R:=⟨_,rfl⟩
  rw[hR]
  generalize s.cats=C at *
  have hCl:(C.map aG).length=C.length:=List.length_map ..
  unfold aF at hcats
  clear hg
  cases C with
  | nil=>exact absurd rfl hne
  | cons c0 C =>
   have hR:R=cl (some (c0,(bR c0:Int))) C:=hR.symm
   have hx0:(c0::C)[0]?=some c0:=rfl
   have hR:R=cl (some (c0,(bR c0:Int))) ((c0::C).drop 1):=hR
   have hpos:0<(c0::C).length:=by simp
   have hm0:c0∈c0::C:=List.mem_cons_self ..
   generalize c0::C=D at *
   refine ae ar { l:=0,f:=23} mixed Ar Tryz.func23 (by kernel_rfl) ?_
   conv=>whnf
   repeat(any_goals(first|exact ab|(refine ap ?_ ?_<;>intro _<;>first|exact aq|conv=>whnf)|((first|refine aa hk ?_|refine ah hk rfl ?_|refine aa hcats ?_|refine ah hcats rfl ?_|refine ag hx0 rfl ?_|refine ac ?_|refine bi ?_ ?_|intro _)<;>conv=>whnf)))
   refine aW ar { l:=0,f:=23} mixed (fun u:BeSt=>[(10,aj u.i),(9,aG u.b)]) (fun _=>[]) (fun _=>[]) (fun u=>u.i≤D.length∧u.b∈D∧R=cl (some (u.b,(bR u.b:Int))) (D.drop u.i)) (fun u=>D.length-u.i) (⟨1,c0⟩:BeSt) (by kernel_rfl)
    ⟨hpos,hm0,hR⟩ ?_
   conv=>whnf
   refine⟨⟨ai rfl (ai rfl trivial),trivial,trivial⟩,?_⟩
   clear hR hm0 hx0
   rintro u ⟨hi,hbm,H⟩
   generalize u.i=i at *
   generalize u.b=b at *
   clear u
   have hb:=hmay b hbm
   have hbl:=hml b hbm
   by_cases hlt:i<D.length
   ·obtain⟨x,hx,hd⟩:=ay (l:=D) (i:=i) hlt
    rw[hd]at H
    have hxm:=List.mem_of_getElem? hx
    have hx1:=hmay x hxm
    have hxl:=hml x hxm
    by_cases q:(bR x:Int)<bR b
    ·have H:R=cl (some (x,(bR x:Int))) (D.drop (i+1)):=by rw[H];show(if(bR x:Int)<bR b then _ else _)=_;rw[if_pos q]
     conv=>whnf
     repeat(any_goals(first|exact ab|(refine ap ?_ ?_<;>intro _<;>first|exact aq|conv=>whnf)|((first|refine ag hx rfl ?_|refine aa hx1 ?_|refine ah hx1 rfl ?_|refine aa hb ?_|refine ah hb rfl ?_|refine ac ?_|refine bi ?_ ?_|intro _)<;>conv=>whnf)))
     (refine⟨⟨i+1,x⟩,⟨by show i+1≤_;omega,hxm,H⟩,(by show _-(i+1)<_-i;omega),?_⟩;(conv=>whnf);refine⟨?_,?_,?_⟩<;>repeat(first|exact trivial|refine sc rfl ?_|refine kn ?_|refine kc rfl ?_|refine sc (by rfl) ?_|refine kc (by rfl) ?_))
    ·have H:R=cl (some (b,(bR b:Int))) (D.drop (i+1)):=by rw[H];show(if(bR x:Int)<bR b then _ else _)=_;rw[if_neg q]
     conv=>whnf
     repeat(any_goals(first|exact ab|(refine ap ?_ ?_<;>intro _<;>first|exact aq|conv=>whnf)|((first|refine ag hx rfl ?_|refine aa hx1 ?_|refine ah hx1 rfl ?_|refine aa hb ?_|refine ah hb rfl ?_|refine ac ?_|refine bi ?_ ?_|intro _)<;>conv=>whnf)))
     (refine⟨⟨i+1,b⟩,⟨by show i+1≤_;omega,hbm,H⟩,(by show _-(i+1)<_-i;omega),?_⟩;(conv=>whnf);refine⟨?_,?_,?_⟩<;>repeat(first|exact trivial|refine sc rfl ?_|refine kn ?_|refine kc rfl ?_|refine sc (by rfl) ?_|refine kc (by rfl) ?_))
   ·have hin:i=D.length:=by omega
    subst hin
    rw[List.drop_length]at H
    have H:R=some (b,(bR b:Int)):=H
    subst H
    conv=>whnf
    repeat(any_goals(first|exact ab|(refine ap ?_ ?_<;>intro _<;>first|exact aq|conv=>whnf)|((first|refine aa hb ?_|refine ah hb rfl ?_|refine ac ?_|refine bi ?_ ?_|intro _)<;>conv=>whnf)))
    (refine⟨⟨?_⟩,trivial⟩;rfl)
 ·rw[if_pos h0]
  have h:PureA Tryz.prog 23 [aF s] (.tuple [oe,aj 0,aj e]):=by
   refine ae ar { l:=0,f:=23} mixed Ar Tryz.func23 (by kernel_rfl) ?_
   conv=>whnf
   repeat(any_goals(first|exact ab|(refine ap ?_ ?_<;>intro _<;>first|exact aq|conv=>whnf)|((first|refine aa hk ?_|refine ah hk rfl ?_|refine ac ?_|refine bi ?_ ?_|intro _)<;>conv=>whnf)))
   (refine⟨⟨?_⟩,trivial⟩;rfl)
  exact h.wk (Wk.tuple (.cons (Wk.nil 3) (.cons (Wk.refl _) (.cons (Wk.refl _) trivial))))
end Go.Proofs.YtgncapdjheghfaaGreatDoor
namespace Go.Am
open Go
end Go.Am
namespace Go.Proofs.YtgncapdjheghfaaGreatDoor
open Go.Am Go.Proofs Go
end Go.Proofs.YtgncapdjheghfaaGreatDoor
namespace Go.Proofs.YtgncapdjheghfaaGreatDoor
open Go.Am Go.Proofs Go
end Go.Proofs.YtgncapdjheghfaaGreatDoor
namespace Go.Proofs.YtgncapdjheghfaaGreatDoor
open Go.Am Go.Proofs Go
def zV(x y:Int):Int:=if x<y then -1 else if y<x then 1 else 0
theorem A1(x:Int):PureA Tryz.prog 142 [aj x] (aB false):=by
 refine ae ar { l:=0,f:=142} mixed D9 Tryz.func142 (by kernel_rfl) ?_
 conv=>whnf
 (refine⟨⟨?_⟩,trivial⟩;simp[oneOf,aB])
theorem JI(x y:Int):PureA Tryz.prog 137 [aj x,aj y] (aj (zV x y)):=by
 have hx:=A1 x
 have hy:=A1 y
 unfold zV
 refine ae ar { l:=0,f:=137} mixed D8 Tryz.func137 (by kernel_rfl) ?_
 conv=>whnf
 repeat(any_goals(first|exact ab|(refine ap ?_ ?_<;>intro _<;>first|exact aq|conv=>whnf)|((first|refine aa hx ?_|refine aa hy ?_|refine ac ?_|refine bi ?_ ?_|intro _)<;>conv=>whnf)))
 all_goals
  refine⟨⟨?_⟩,trivial⟩
  show aj (if x<y then -1 else if y<x then 1 else 0)=aj _
  congr 1
  split
  ·omega
  ·first|rfl|(split<;>omega)
def vb:List Int→List Int→Int
 | [],[]=>0
 | [],_::_=> -1
 | _::_,[]=>1
 | x::xs,y::ys=>if zV x y=0 then vb xs ys else zV x y
theorem JJ(a b:List Int)(ha:a.length≤1048576)(hb:b.length≤1048576):PureA Tryz.prog 131 [aD a,aD b] (aj (vb a b)):=by
 have hbl:(b.map aj).length=b.length:=List.length_map ..
 refine ae ar { l:=0,f:=131} mixed D5 Tryz.func131 (by kernel_rfl) ?_
 conv=>whnf
 refine aW ar { l:=0,f:=131} mixed (fun i:Nat=>[(11,aj i)]) (fun _=>[]) (fun _=>[]) (fun i=>i≤a.length∧i≤b.length∧vb a b=vb (a.drop i) (b.drop i)) (fun i=>a.length-i) 0 (by kernel_rfl)
  ⟨Nat.zero_le _,Nat.zero_le _,rfl⟩ ?_
 conv=>whnf
 refine⟨⟨ai rfl trivial,trivial,trivial⟩,?_⟩
 intro i ⟨hi,hj,H⟩
 generalize vb a b=R at *
 conv=>whnf
 refine bK (fun h1=>?_) (fun h1=>?_)
 ·simp only[List.length_map]at h1
  obtain⟨x,hx,hd⟩:=ay (l:=a) (i:=i) (by omega)
  rw[hd]at H
  by_cases hib:i=b.length
  ·rw[hib,List.drop_length]at H
   simp only[vb]at H
   conv=>whnf
   repeat(any_goals(first|exact ab|(refine ap ?_ ?_<;>intro _<;>first|exact aq|conv=>whnf)|((first|refine ag hx rfl ?_|refine ac ?_|refine bi ?_ ?_|intro _)<;>conv=>whnf)))
   (refine⟨⟨?_⟩,trivial⟩;rw[H];rfl)
  ·obtain⟨y,hy,he⟩:=ay (l:=b) (i:=i) (by omega)
   rw[he]at H
   simp only[vb]at H
   have hc:=JI x y
   generalize zV x y=c at *
   conv=>whnf
   repeat(any_goals(first|exact ab|(refine ap ?_ ?_<;>intro _<;>first|exact aq|conv=>whnf)|((first|refine ag hx rfl ?_|refine ag hy rfl ?_|refine aa hc ?_|refine ac ?_|refine bi ?_ ?_|intro _)<;>conv=>whnf)))
   ·rename_i h
    rw[if_pos h]at H
    (refine⟨i+1,⟨by omega,by omega,H⟩,by omega,?_⟩;(conv=>whnf);refine⟨?_,?_,?_⟩<;>repeat(first|exact trivial|refine sc rfl ?_|refine kn ?_|refine kc rfl ?_))
   ·rename_i h
    rw[if_neg h]at H
    (refine⟨⟨?_⟩,trivial⟩;rw[H];rfl)
 ·conv=>whnf
  simp only[List.length_map]at h1
  have:i=a.length:=by omega
  subst this
  rw[List.drop_length]at H
  repeat(any_goals(first|exact ab|(refine ap ?_ ?_<;>intro _<;>first|exact aq|conv=>whnf)|((first|refine ac ?_|refine bi ?_ ?_|intro _)<;>conv=>whnf)))
  ·rename_i h
   simp only[List.length_map]at h
   obtain⟨y,hy,he⟩:=ay (l:=b) (i:=a.length) (by omega)
   rw[he]at H
   (refine⟨⟨?_⟩,trivial⟩;rw[H];rfl)
  ·rename_i h
   simp only[List.length_map]at h
   rw[List.drop_of_length_le (by omega)]at H
   (refine⟨⟨?_⟩,trivial⟩;rw[H];rfl)
def orL:List Int→Int
 | []=>0
 | x::l=>if x≠0 then x else orL l
theorem or_c(l:List Int)(hl:l.length≤1048576):PureA Tryz.prog 130 [aD l] (aj (orL l)):=by
 obtain⟨R,hR⟩:∃R,R=orL l:=⟨_,rfl⟩
 rw[←hR]
 refine ae ar { l:=0,f:=130} mixed D4 Tryz.func130 (by kernel_rfl) ?_
 conv=>whnf
 refine aW ar { l:=0,f:=130} mixed (fun i:Nat=>[(8,aj i)]) (fun _=>[]) (fun _=>[]) (fun i=>i≤l.length∧R=orL (l.drop i)) (fun i=>l.length-i) 0 (by kernel_rfl)
  ⟨Nat.zero_le _,hR⟩ ?_
 conv=>whnf
 refine⟨⟨ai rfl trivial,trivial,trivial⟩,?_⟩
 intro i ⟨hi,H⟩
 conv=>whnf
 refine bK (fun h1=>?_) (fun h1=>?_)
 ·simp only[List.length_map]at h1
  obtain⟨x,hx,hd⟩:=ay (l:=l) (i:=i) (by omega)
  rw[hd]at H
  simp only[orL]at H
  by_cases q:x=0
  ·rw[if_neg (by simpa using q)]at H
   conv=>whnf
   repeat(any_goals(first|exact ab|(refine ap ?_ ?_<;>intro _<;>first|exact aq|conv=>whnf)|((first|refine ag hx rfl ?_|refine ac ?_|refine bi ?_ ?_|intro _)<;>conv=>whnf)))
   (refine⟨i+1,⟨by omega,H⟩,(by omega),?_⟩;(conv=>whnf);refine⟨?_,?_,?_⟩<;>repeat(first|exact trivial|refine sc rfl ?_|refine kn ?_|refine kc rfl ?_))
  ·rw[if_pos q]at H
   conv=>whnf
   repeat(any_goals(first|exact ab|(refine ap ?_ ?_<;>intro _<;>first|exact aq|conv=>whnf)|((first|refine ag hx rfl ?_|refine ac ?_|refine bi ?_ ?_|intro _)<;>conv=>whnf)))
   (refine⟨⟨?_⟩,trivial⟩;rw[H];rfl)
 ·conv=>whnf
  simp only[List.length_map]at h1
  have:i=l.length:=by omega
  subst this
  simp only[List.drop_length,orL]at H
  (refine⟨⟨?_⟩,trivial⟩;rw[H];rfl)
theorem sw:∀a b:List Int,cB a b=decide (vb a b<0)
 | [],[]=>rfl
 | [],_::_=>rfl
 | _::_,[]=>rfl
 | x::a,y::b=>by
  have hc:(x<y→zV x y = -1)∧(y<x→zV x y=1)∧(x=y→zV x y=0):=by
   unfold zV
   refine⟨fun h=>by rw[if_pos h],fun h=>by rw[if_neg (by omega),if_pos h],fun h=>by rw[if_neg (by omega),if_neg (by omega)]⟩
  obtain⟨c1,c2,c3⟩:=hc
  show(if x=y then cB a b else decide (x<y))=decide ((if zV x y=0 then vb a b else zV x y)<0)
  generalize zV x y=c at *
  by_cases h:x=y
  ·rw[if_pos h,if_pos (c3 h)]
   exact sw a b
  ·rw[if_neg h]
   rcases(by omega:x<y∨y<x)with q|q
   ·have:=c1 q
    rw[if_neg (by omega),decide_eq_decide];omega
   ·have:=c2 q
    rw[if_neg (by omega),decide_eq_decide];omega
theorem Ad(p q:Press):bJ p q=decide (orL [p.white-q.white,(p.pages.length:Int)-q.pages.length,vb p.pages q.pages]<0):=by
 have e:∀a b c:Int,orL [a,b,c]=if a≠0 then a else if b≠0 then b else if c≠0 then c else 0:=fun _ _ _=>rfl
 have l:cB p.pages q.pages=decide (vb p.pages q.pages<0):=sw _ _
 unfold bJ gQ
 rw[e,l]
 generalize vb p.pages q.pages=c
 by_cases h1:p.white=q.white
 ·rw[if_neg (by simpa using h1),if_neg (show¬(p.white-q.white≠0) by omega)]
  by_cases h2:p.pages.length=q.pages.length
  ·rw[if_pos h2,if_neg (show¬((p.pages.length:Int)-q.pages.length≠0) by omega)]
   by_cases h3:c=0
   ·subst h3;rfl
   ·rw[if_pos h3]
  ·rw[if_neg h2,if_pos (show((p.pages.length:Int)-q.pages.length≠0) by omega),decide_eq_decide];omega
 ·rw[if_pos h1,if_pos (show(p.white-q.white≠0) by omega),decide_eq_decide];omega
def tR(p:Press):List AV:=[aD p.pages,aj p.white]
def gN(p:Press):AV:= .agg (tR p)
theorem m9(p q:Press)(hp:p.pages.length≤1048576)(hq:q.pages.length≤1048576)(hw : -1000000≤p.white∧p.white≤1000000)(hv : -1000000≤q.white∧q.white≤1000000) :
  PureA Tryz.prog 107 [gN p,gN q] (aB (bJ p q)):=by
 have h1:=JJ p.pages q.pages hp hq
 have e1:(p.pages.map aj).length=p.pages.length:=List.length_map ..
 have e2:(q.pages.map aj).length=q.pages.length:=List.length_map ..
 have h2:=or_c [p.white-q.white,((p.pages.map aj).length:Int)-((q.pages.map aj).length:Int),vb p.pages q.pages] (by simp)
 rw[Ad, ←e1, ←e2]
 generalize orL [p.white-q.white,((p.pages.map aj).length:Int)-((q.pages.map aj).length:Int),vb p.pages q.pages]=v at *
 generalize vb p.pages q.pages=c at *
 refine ae ar { l:=0,f:=107} mixed DU Tryz.func107 (by kernel_rfl) ?_
 conv=>whnf
 repeat(any_goals(first|exact ab|(refine ap ?_ ?_<;>intro _<;>first|exact aq|conv=>whnf)|((first|refine aa h1 ?_|refine aa h2 ?_|refine ac ?_|refine bi ?_ ?_|intro _)<;>conv=>whnf)))
 (refine⟨⟨?_⟩,trivial⟩;rfl)
end Go.Proofs.YtgncapdjheghfaaGreatDoor
namespace Go.Proofs.YtgncapdjheghfaaGreatDoor
open Go.Am Go.Proofs Go
theorem kX{s:Bill}{c:List Ent}{p q:Nat→Press}{i:Nat}(h:∀k,i<k→k≤c.length→p k=q k):∀(f j:Nat) (best:Option Press),i<j→j+f=c.length+1→s.pressTo c p i f j best=s.pressTo c q i f j best
 | 0,_,_,_,_=>rfl
 | f+1,j,best,hij,hf=>by
  unfold Bill.pressTo
  split
  ·rfl
  ·rw[h j hij (by omega)]
   exact kX h f (j+1) _ (by omega) (by omega)
theorem tS{s:Bill}(hg:s.Good){c:List Ent}(hc:∀x∈c,s.OkE x){f i:Nat}(hi:i≤c.length)(hf:c.length-i≤f):s.pressN c f i=s.press c i :=
 BestP.unique (fR hg hc f i hi hf) (fR hg hc _ i hi (Nat.le_refl _))
theorem kZ(s:Bill)(c:List Ent):s.press c c.length=⟨[],0⟩:=by
 unfold Bill.press;rw[Nat.sub_self];rfl
theorem qf{s:Bill}(hg:s.Good){c:List Ent}(hc:∀x∈c,s.OkE x){i:Nat}(hi:i<c.length):s.pressTo c (s.press c) i (c.length-i) (i+1) none=some (s.press c i):=by
 obtain⟨f,hf⟩:∃f,c.length-i=f+1:=⟨c.length-i-1,by omega⟩
 have h:s.press c i=s.pressN c (f+1) i:=(tS hg hc (by omega) (by omega)).symm
 unfold Bill.pressN at h
 rw[if_neg (by omega)]at h
 have hs:=iv hg hc (press:=s.pressN c f) (i:=i) (c.length-i) (i+1) none (by omega) (by omega)
 have e:=kX (s:=s) (c:=c) (p:=s.pressN c f) (q:=s.press c) (i:=i) (fun k h1 h2=>tS hg hc h2 (by omega)) (c.length-i) (i+1) none (by omega) (by omega)
 rw[e]at h hs
 have h1:=re hg hc hi
 cases hr:s.pressTo c (s.press c) i (c.length-i) (i+1) none with
 | none=>rw[hr]at hs;rcases hs.2 with h|h<;>omega
 | some p=>rw[hr]at h;rw[h]
theorem x5{s:Bill}(hg:s.Good){c:List Ent}(hc:∀x∈c,s.OkE x):∀(l:List Nat) (i:Nat) (w:Int),ek c i l→s.whiteL c l=some w→w≤900 * (l.length:Int)
 | [],i,w,_,h=>by cases h;simp
 | j::l,i,w,⟨_,h2,h3⟩,h=>by
  obtain⟨h0,v,hv,rfl⟩:=fb.1 h
  have hle:=rc hg hc (i:=j) (j:=ex c l) (by omega) h3.le
  have:=x5 hg hc l _ v h3 hv
  have hsq:s.left c j (ex c l) * s.left c j (ex c l)≤900:=by
   have:=Int.mul_le_mul hle hle h0 (by omega)
   omega
  simp only[List.length_cons]
  push_cast
  split<;>omega
theorem oD{s:Bill}(hg:s.Good){c:List Ent}(hc:∀x∈c,s.OkE x)(h6:c.length≤6){i:Nat}(hi:i≤c.length):(s.press c i).pages.length≤6∧0≤(s.press c i).white∧(s.press c i).white≤5400:=by
 obtain⟨⟨l,w,e,h1,h2⟩,_⟩:=fR hg hc (c.length-i) i hi (Nat.le_refl _)
 have hl:=gn h1
 have hw:=x5 hg hc l i w h1 h2
 have hp:=pn l w h2
 have e:s.press c i=fB l w:=e
 rw[e]
 unfold fB
 simp only[List.length_map]
 omega
abbrev cf:=List (Int×Press)
def Bill.memoTo(s:Bill)(c:List Ent)(next:Nat→cf→cf)(i:Nat):Nat→Nat→cf→cf
 | 0,_,m=>m
 | f+1,j,m=>if s.left c i j<0 then m else s.memoTo c next i f (j+1) (next j m)
def Bill.memoN(s:Bill)(c:List Ent):Nat→Nat→cf→cf
 | 0,_,m=>m
 | f+1,i,m=>if(m.any fun e=>decide (e.1=(i:Int)))=true then m else if i=c.length then m
  else s.memoTo c (s.memoN c f) i (c.length-i) (i+1) m++[((i:Int),s.press c i)]
theorem iR(s:Bill)(c:List Ent)(f i:Nat)(m:cf):s.memoN c (f+1) i m=if(m.any fun e=>decide (e.1=(i:Int)))=true then m else if i=c.length then m
 else s.memoTo c (s.memoN c f) i (c.length-i) (i+1) m++[((i:Int),s.press c i)]:=rfl
theorem gv(s:Bill)(c:List Ent)(next:Nat→cf→cf)(i f j:Nat)(m:cf):s.memoTo c next i (f+1) j m=if s.left c i j<0 then m else s.memoTo c next i f (j+1) (next j m):=rfl
def dr(s:Bill)(c:List Ent)(m:cf):Prop:=∀e∈m,∃i:Nat,e.1=i∧i<c.length∧e.2=s.press c i
theorem tj{s:Bill}{c:List Ent}{next:Nat→cf→cf}(h:∀j m,j≤c.length→dr s c m→dr s c (next j m))(i:Nat):∀(f j:Nat) (m:cf),j+f=c.length+1→dr s c m→dr s c (s.memoTo c next i f j m)
 | 0,_,_,_,hm=>hm
 | f+1,j,m,hf,hm=>by
  rw[gv]
  split
  ·exact hm
  ·exact tj h i f (j+1) _ (by omega) (h j m (by omega) hm)
theorem ri{s:Bill}{c:List Ent}:∀(f i:Nat) (m:cf),i≤c.length→dr s c m→dr s c (s.memoN c f i m)
 | 0,_,_,_,hm=>hm
 | f+1,i,m,hi,hm=>by
  rw[iR]
  split
  ·exact hm
  ·split
   ·exact hm
   ·rename_i hne
    intro e he
    rcases List.mem_append.1 he with he|he
    ·exact tj (fun j m hj hm=>ri f j m hj hm) i _ _ m (by omega) hm e he
    ·simp only[List.mem_singleton]at he
     subst he
     exact⟨i,rfl,by omega,rfl⟩
theorem lN{s:Bill}{c:List Ent}{next:Nat→cf→cf}(h:∀j m,∀e∈next j m,e∈m∨(j:Int)≤e.1)(i:Nat):∀(f j:Nat) (m:cf),∀e∈s.memoTo c next i f j m,e∈m∨(j:Int)≤e.1
 | 0,_,_,e,he=> .inl he
 | f+1,j,m,e,he=>by
  rw[gv]at he
  split at he
  ·exact .inl he
  ·rcases lN h i f (j+1) _ e he with h1|h1
   ·exact h j m e h1
   ·right;omega
theorem ti{s:Bill}{c:List Ent}:∀(f i:Nat) (m:cf),∀e∈s.memoN c f i m,e∈m∨(i:Int)≤e.1
 | 0,_,_,e,he=> .inl he
 | f+1,i,m,e,he=>by
  rw[iR]at he
  split at he
  ·exact .inl he
  ·split at he
   ·exact .inl he
   ·rcases List.mem_append.1 he with he|he
    ·rcases lN (fun j m=>ti f j m) i _ _ m e he with h1|h1
     ·exact .inl h1
     ·right;omega
    ·simp only[List.mem_singleton]at he
     subst he
     exact .inr (Int.le_refl _)
theorem xF{s:Bill}{c:List Ent}{f i g:Nat}{m:cf}(h:(m.any fun e=>decide (e.1=(i:Int)))=false):((s.memoTo c (s.memoN c f) i g (i+1) m).any fun e=>decide (e.1=(i:Int)))=false:=by
 rw[List.any_eq_false]at h ⊢
 intro e he
 rcases lN (fun j m=>ti f j m) i g (i+1) m e he with h1|h1
 ·exact h e h1
 ·simp only[decide_eq_true_eq];omega
def JM(e:Int×Press):AV:= .tuple [aj e.1,gN e.2]
def lM(m:cf):List AV:= .v (.int .i64 0)::m.map JM
theorem nP:∀(m:cf) (a:Int) (p:Press) (n:Nat),(∀e∈m,e.1=a→e.2=p)→(m.any fun e=>decide (e.1=a))=true→∃i,a8 (.one (.int .i64)) (m.map JM) (.int .i64 a) n=some (some (i,gN p))
 | [],a,p,n,_,h=>by simp at h
 | e::m,a,p,n,hm,h=>by
  have ht:dU (aj e.1)=some (.int .i64 e.1):=rfl
  have hty:KK.typed (.one (.int .i64)) (.int .i64 e.1)=true:=rfl
  have heq:∀x y:Int,eqV (.int .i64 x) (.int .i64 y)=decide (x=y):=fun x y=>rfl
  simp only[List.map_cons,JM,a8,ht,hty,if_true,heq]
  by_cases q:e.1=a
  ·refine⟨n,?_⟩
   rw[if_pos (by simp[q]),hm e (List.mem_cons_self ..) q]
  ·rw[if_neg (by simp only[decide_eq_true_eq];exact fun h=>q h.symm)]
   exact nP m a p (n+1) (fun f hf=>hm f (List.mem_cons_of_mem _ hf)) (by simpa[q]using h)
theorem eU:∀(m:cf) (a:Int) (n:Nat),(m.any fun e=>decide (e.1=a))=false→a8 (.one (.int .i64)) (m.map JM) (.int .i64 a) n=some none
 | [],a,n,h=>rfl
 | e::m,a,n,h=>by
  have ht:dU (aj e.1)=some (.int .i64 e.1):=rfl
  have hty:KK.typed (.one (.int .i64)) (.int .i64 e.1)=true:=rfl
  have heq:∀x y:Int,eqV (.int .i64 x) (.int .i64 y)=decide (x=y):=fun x y=>rfl
  simp only[List.map_cons,JM,a8,ht,hty,if_true,heq]
  by_cases q:e.1=a
  ·simp[q]at h
  ·rw[if_neg (by simp only[decide_eq_true_eq];exact fun h=>q h.symm)]
   exact eU m a (n+1) (by simpa[q]using h)
theorem p8{s:Bill}{c:List Ent}{m:cf}(h:dr s c m){i:Nat}:∀e∈m,e.1=(i:Int)→e.2=s.press c i:=by
 intro e he hi
 obtain⟨j,h1,_,h2⟩:=h e he
 have:j=i:=by omega
 rw[h2,this]
end Go.Proofs.YtgncapdjheghfaaGreatDoor
namespace Go.Proofs.YtgncapdjheghfaaGreatDoor
open Go.Am Go.Proofs Go
def kG:Key:=⟨0,129,22⟩
theorem Gj(n:Nat)(h0:0<n)(hn:n≤1000):BoxA Tryz.prog (.fn 129) [] [.slice 0 [] .tight,aj n] (.own kG 1 1 0 0) [(kG,1,1,List.replicate n (aj 0))]:=by
 refine aL ar { l:=0,f:=129,ow:=[22]} mixed D3 Tryz.func129 (by kernel_rfl) ?_
 conv=>whnf
 repeat(any_goals(first|exact ab|(refine ap ?_ ?_<;>intro _<;>first|exact aq|conv=>whnf)|((first|refine ac ?_|refine bi ?_ ?_|intro _)<;>conv=>whnf)))
 refine And.intro ?_ ?_
 ·conv=>whnf
  refine⟨⟨?_⟩,trivial⟩
  rfl
 ·repeat(first|exact trivial|refine And.intro rfl ?_|refine And.intro (by rfl) ?_)
theorem Km(ks:List Key)(n:Nat)(a:Int):tkL (tk2 ks) (List.replicate n (aj a))=some (List.replicate n (aj a)):=by
 induction n with
 | zero=>rfl
 | succ n ih=>simp only[List.replicate_succ,tkL,ih];rfl
def JD(l:List Int):Nat→AV
 | 0=> .own kG 1 1 0 0
 | 1=> .own kG 2 1 1 0
 | _=> .own kG 3 1 (1+(l.map aj).length) 0
def Gb(x:Int)(l:List Int):Nat→jr
 | 0=>(1,some (1,List.replicate (l.length+1) (aj 0)))
 | 1=>(2,some (1,[aj x]))
 | _=>(3,some (1,(x::l).map aj))
def jg(l:List Int):Nat→Nat
 | 0=>0
 | 1=>1
 | _=>l.length+1
theorem oF(l:List Int)(n:Nat)(h:n=l.length):dH ((l.map aj).take n)=some (l.map aj):=by
 rw[List.take_of_length_le (by rw[List.length_map];omega)]
 clear h
 induction l with
 | nil=>rfl
 | cons x l ih=>simp only[List.map_cons,dH,ih,show tU (aj x)=some (aj x)from rfl]
theorem xu(x:Int)(l:List Int)(hl:l.length≤6):PureA Tryz.prog 106 [.slice 1 [.slice 1 [aj x] .no,aD l] .no] (aD (x::l)):=by
 have hg:=Gj (l.length+1) (by omega) (by omega)
 have hel:(l.map aj).length=l.length:=List.length_map ..
 have c0:jg l 0=0:=rfl
 have c1:jg l 1=1:=rfl
 have c2:jg l 2=l.length+1:=rfl
 have hx:(List.map aj [x]).length=1:=rfl
 refine ae ar { l:=0,f:=106,mat:=[129],ow:=[33]} mixed xj Tryz.func106 (by kernel_rfl) ?_
 conv=>whnf
 refine aW ar { l:=0,f:=106,mat:=[129],ow:=[33]} mixed (fun i:Nat=>[(11,aj i),(3,aj (jg l i))]) (fun _=>[]) (fun _=>[]) (fun i=>i≤2) (fun i=>2-i) 0 (by kernel_rfl)
  (Nat.zero_le _) ?_
 conv=>whnf
 refine⟨⟨ai rfl (ai rfl trivial),trivial,trivial⟩,?_⟩
 intro i hi
 rcases(by omega:i=0∨i=1∨i=2)with rfl|rfl|rfl
 ·conv=>whnf
  repeat(any_goals(first|exact ab|(refine ap ?_ ?_<;>intro _<;>first|exact aq|conv=>whnf)|((first|refine ac ?_|refine bi ?_ ?_|intro _)<;>conv=>whnf)))
  (refine⟨1,(by omega),(by omega),?_⟩;(conv=>whnf);refine⟨?_,?_,?_⟩<;>repeat(first|exact trivial|refine sc rfl ?_|refine kn ?_|refine kc rfl ?_|refine sc (by rfl) ?_|refine kc (by rfl) ?_))
 ·conv=>whnf
  repeat(any_goals(first|exact ab|(refine ap ?_ ?_<;>intro _<;>first|exact aq|conv=>whnf)|((first|refine ac ?_|refine bi ?_ ?_|intro _)<;>conv=>whnf)))
  (refine⟨2,(by omega),(by omega),?_⟩;(conv=>whnf);refine⟨?_,?_,?_⟩<;>repeat(first|exact trivial|refine sc rfl ?_|refine kn ?_|refine kc rfl ?_|refine sc (by exact congrArg (fun z=>some (aj z)) (show(jg l 1:Int)+((l.map aj).length:Int)=jg l 2 by omega)) ?_|refine kc (by exact congrArg (fun z=>some (aj z)) (show(jg l 1:Int)+((l.map aj).length:Int)=jg l 2 by omega)) ?_))
 ·conv=>whnf
  repeat(any_goals(first|exact ab|(refine ap ?_ ?_<;>intro _<;>first|exact aq|conv=>whnf)|((first|refine ac ?_|refine bi ?_ ?_|intro _)<;>conv=>whnf)))
  refine⟨[],?_⟩
  conv=>whnf
  refine⟨_,_,hg,?_⟩
  conv=>whnf
  refine af (Km _ _ _) ?_
  conv=>whnf
  repeat(any_goals(first|exact ab|(refine ap ?_ ?_<;>intro _<;>first|exact aq|conv=>whnf)|((first|refine ac ?_|refine bi ?_ ?_|intro _)<;>conv=>whnf)))
  refine aW ar { l:=0,f:=106,mat:=[129],ow:=[33]} mixed (fun i:Nat=>[(27,aj i),(6,JD l i)]) (fun i=>[(kG,some (Gb x l i))]) (fun _=>[]) (fun i=>i≤2) (fun i=>2-i) 0 (by kernel_rfl)
   (Nat.zero_le _) ?_
  conv=>whnf
  refine⟨⟨ai rfl (ai rfl trivial),aH rfl trivial,trivial⟩,?_⟩
  intro i hi
  rcases(by omega:i=0∨i=1∨i=2)with rfl|rfl|rfl
  ·conv=>whnf
   repeat(any_goals(first|exact ab|(refine ap ?_ ?_<;>intro _<;>first|exact aq|conv=>whnf)|((first|refine ac ?_|refine bi ?_ ?_|intro _)<;>conv=>whnf)))
   (refine⟨1,(by omega),(by omega),?_⟩;(conv=>whnf);refine⟨?_,?_,?_⟩<;>repeat(first|exact trivial|refine sc rfl ?_|refine kn ?_|refine kc rfl ?_|refine sc (by rfl) ?_|refine kc (by rfl) ?_))
  ·conv=>whnf
   repeat(any_goals(first|exact ab|(refine ap ?_ ?_<;>intro _<;>first|exact aq|conv=>whnf)|((first|refine ac ?_|refine bi ?_ ?_|intro _)<;>conv=>whnf)))
   (refine⟨2,(by omega),(by omega),?_⟩;(conv=>whnf);refine⟨?_,?_,?_⟩<;>repeat(first|exact trivial|refine sc rfl ?_|refine kn ?_|refine kc rfl ?_|refine sc (by rfl) ?_|refine kc (by rfl) ?_))
  ·conv=>whnf
   repeat(any_goals(first|exact ab|(refine ap ?_ ?_<;>intro _<;>first|exact aq|conv=>whnf)|((first|refine ac ?_|refine bi ?_ ?_|intro _)<;>conv=>whnf)))
   refine af (oF (x::l) _ (by rw[hel];simp only[List.length_cons];omega)) ?_
   conv=>whnf
   (refine⟨⟨?_⟩,trivial⟩;rfl)
theorem sx(x:Int):PureA Tryz.prog 106 [.slice 1 [.slice 1 [aj x] .no,oe] .no] (aD [x]):=by
 have hg:=Gj (([]:List Int).length+1) (by decide) (by decide)
 have hel:(([]:List Int).map aj).length=([]:List Int).length:=List.length_map ..
 have c0:jg ([]:List Int) 0=0:=rfl
 have c1:jg ([]:List Int) 1=1:=rfl
 have c2:jg ([]:List Int) 2=([]:List Int).length+1:=rfl
 have hx:(List.map aj [x]).length=1:=rfl
 have hn0:([]:List AV).length=0:=rfl
 unfold oe
 refine ae ar { l:=0,f:=106,mat:=[129],ow:=[33]} mixed xj Tryz.func106 (by kernel_rfl) ?_
 conv=>whnf
 refine aW ar { l:=0,f:=106,mat:=[129],ow:=[33]} mixed (fun i:Nat=>[(11,aj i),(3,aj (jg ([]:List Int) i))]) (fun _=>[]) (fun _=>[]) (fun i=>i≤2) (fun i=>2-i) 0 (by kernel_rfl)
  (Nat.zero_le _) ?_
 conv=>whnf
 refine⟨⟨ai rfl (ai rfl trivial),trivial,trivial⟩,?_⟩
 intro i hi
 rcases(by omega:i=0∨i=1∨i=2)with rfl|rfl|rfl
 ·conv=>whnf
  repeat(any_goals(first|exact ab|(refine ap ?_ ?_<;>intro _<;>first|exact aq|conv=>whnf)|((first|refine ac ?_|refine bi ?_ ?_|intro _)<;>conv=>whnf)))
  (refine⟨1,(by omega),(by omega),?_⟩;(conv=>whnf);refine⟨?_,?_,?_⟩<;>repeat(first|exact trivial|refine sc rfl ?_|refine kn ?_|refine kc rfl ?_|refine sc (by rfl) ?_|refine kc (by rfl) ?_))
 ·conv=>whnf
  repeat(any_goals(first|exact ab|(refine ap ?_ ?_<;>intro _<;>first|exact aq|conv=>whnf)|((first|refine ac ?_|refine bi ?_ ?_|intro _)<;>conv=>whnf)))
  (refine⟨2,(by omega),(by omega),?_⟩;(conv=>whnf);refine⟨?_,?_,?_⟩<;>repeat(first|exact trivial|refine sc rfl ?_|refine kn ?_|refine kc rfl ?_|refine sc (by exact congrArg (fun z=>some (aj z)) (show(jg ([]:List Int) 1:Int)+(([]:List AV).length:Int)=jg ([]:List Int) 2 by omega)) ?_|refine kc (by exact congrArg (fun z=>some (aj z)) (show(jg ([]:List Int) 1:Int)+(([]:List AV).length:Int)=jg ([]:List Int) 2 by omega)) ?_))
 ·conv=>whnf
  repeat(any_goals(first|exact ab|(refine ap ?_ ?_<;>intro _<;>first|exact aq|conv=>whnf)|((first|refine ac ?_|refine bi ?_ ?_|intro _)<;>conv=>whnf)))
  refine⟨[],?_⟩
  conv=>whnf
  refine⟨_,_,hg,?_⟩
  conv=>whnf
  repeat(any_goals(first|exact ab|(refine ap ?_ ?_<;>intro _<;>first|exact aq|conv=>whnf)|((first|refine ac ?_|refine bi ?_ ?_|intro _)<;>conv=>whnf)))
  refine aW ar { l:=0,f:=106,mat:=[129],ow:=[33]} mixed (fun i:Nat=>[(27,aj i),(6,JD ([]:List Int) i)]) (fun i=>[(kG,some (Gb x ([]:List Int) i))]) (fun _=>[]) (fun i=>i≤2) (fun i=>2-i) 0 (by kernel_rfl)
   (Nat.zero_le _) ?_
  conv=>whnf
  refine⟨⟨ai rfl (ai rfl trivial),aH rfl trivial,trivial⟩,?_⟩
  intro i hi
  rcases(by omega:i=0∨i=1∨i=2)with rfl|rfl|rfl
  ·conv=>whnf
   repeat(any_goals(first|exact ab|(refine ap ?_ ?_<;>intro _<;>first|exact aq|conv=>whnf)|((first|refine ac ?_|refine bi ?_ ?_|intro _)<;>conv=>whnf)))
   (refine⟨1,(by omega),(by omega),?_⟩;(conv=>whnf);refine⟨?_,?_,?_⟩<;>repeat(first|exact trivial|refine sc rfl ?_|refine kn ?_|refine kc rfl ?_|refine sc (by rfl) ?_|refine kc (by rfl) ?_))
  ·conv=>whnf
   repeat(any_goals(first|exact ab|(refine ap ?_ ?_<;>intro _<;>first|exact aq|conv=>whnf)|((first|refine ac ?_|refine bi ?_ ?_|intro _)<;>conv=>whnf)))
   (refine⟨2,(by omega),(by omega),?_⟩;(conv=>whnf);refine⟨?_,?_,?_⟩<;>repeat(first|exact trivial|refine sc rfl ?_|refine kn ?_|refine kc rfl ?_|refine sc (by rfl) ?_|refine kc (by rfl) ?_))
  ·conv=>whnf
   repeat(any_goals(first|exact ab|(refine ap ?_ ?_<;>intro _<;>first|exact aq|conv=>whnf)|((first|refine ac ?_|refine bi ?_ ?_|intro _)<;>conv=>whnf)))
   (refine⟨⟨?_⟩,trivial⟩;rfl)
end Go.Proofs.YtgncapdjheghfaaGreatDoor
namespace Go.Proofs.YtgncapdjheghfaaGreatDoor
open Go.Am Go.Proofs Go
def ef(s:Bill)(c:List Ent)(i:Nat):AV:=if i=c.length then .agg [.slice 0 [] .tight,aj 0]else gN (s.press c i)
theorem eg(s:Bill){c:List Ent}{i:Nat}(h:i<c.length):ef s c i=gN (s.press c i):=by unfold ef;rw[if_neg (by omega)]
theorem eK(s:Bill)(c:List Ent):ef s c c.length = .agg [.slice 0 [] .tight,aj 0]:=by unfold ef;rw[if_pos rfl]
def nj:Key:=⟨0,27,20⟩
theorem Ii(s:Bill)(c:List Ent)(h6:c.length≤6)(i:Nat)(hi:i≤c.length)(m:cf)(hm:dr s c m)(hmet:(m.any fun e=>decide (e.1=(i:Int)))=true) :
  BoxA Tryz.prog (.fn 76) [cW s,(nj,1,0,lM m)] [.ptr cq 1 5 0 0,aG c,aj i,.mp nj 1] (ef s c i) [cW s,(nj,1,0,lM m)]:=by
 obtain⟨n,hn⟩:=nP m i (s.press c i) 0 (p8 hm) hmet
 have hlt:i<c.length:=by
  rw[List.any_eq_true]at hmet
  obtain⟨e,he,h1⟩:=hmet
  obtain⟨j,h2,h3,_⟩:=hm e he
  have h1:=of_decide_eq_true h1
  omega
 rw[eg s hlt]
 generalize s.press c i=R at *
 unfold gN tR
 refine aL ar { l:=0,f:=76} mixed lz Tryz.func76 (by kernel_rfl) ?_
 conv=>whnf
 repeat(any_goals(first|exact ab|(refine ap ?_ ?_<;>intro _<;>first|exact aq|conv=>whnf)|((first|rw[hn]|refine ac ?_|refine bi ?_ ?_|intro _)<;>conv=>whnf)))
 refine And.intro ?_ ?_
 ·conv=>whnf
  refine⟨⟨?_⟩,trivial⟩
  rfl
 ·repeat(first|exact trivial|refine And.intro rfl ?_|refine And.intro (by skip) ?_)
theorem B3(s:Bill)(c:List Ent)(h6:c.length≤6)(m:cf)(hm:dr s c m) :
  BoxA Tryz.prog (.fn 76) [cW s,(nj,1,0,lM m)] [.ptr cq 1 5 0 0,aG c,aj c.length,.mp nj 1] (ef s c c.length) [cW s,(nj,1,0,lM m)]:=by
 have hcl:(c.map bB).length=c.length:=List.length_map ..
 have hn:=eU m c.length 0 (by
  rw[List.any_eq_false]
  intro e he
  obtain⟨j,h2,h3,_⟩:=hm e he
  simp only[decide_eq_true_eq]
  omega)
 rw[eK]
 refine aL ar { l:=0,f:=76} mixed lz Tryz.func76 (by kernel_rfl) ?_
 conv=>whnf
 repeat(any_goals(first|exact ab|(refine ap ?_ ?_<;>intro _<;>first|exact aq|conv=>whnf)|((first|rw[hn]|refine ac ?_|refine bi ?_ ?_|intro _)<;>conv=>whnf)))
 refine And.intro ?_ ?_
 ·conv=>whnf
  refine⟨⟨?_⟩,trivial⟩
  rfl
 ·repeat(first|exact trivial|refine And.intro rfl ?_|refine And.intro (by skip) ?_)
structure PrSt where
 j:Nat
 best:Option Press
 m:cf
def Ju:Option Press→AV
 | none=> .agg [.slice 0 [] .tight,aj 0]
 | some p=>gN p
theorem sqP{x:Int}(h0:0≤x)(h:x≤30):0≤x * x∧x * x≤900:=by
 have h1:=Int.mul_nonneg h0 h0
 have h2:=Int.mul_le_mul h h h0 (by omega)
 omega
def Dy(p:Press):Prop:=p.pages.length≤7∧0≤p.white∧p.white≤6300
set_option maxHeartbeats 8000000 in
theorem Ij(s:Bill)(hg:s.Good)(c:List Ent)(hc:∀x∈c,s.OkE x)(h6:c.length≤6)(f i:Nat)(hi:i<c.length)(m:cf)(hm:dr s c m)(hmet:(m.any fun e=>decide (e.1=(i:Int)))=false)
  (ih:∀(j:Nat) (m':cf),i<j→j≤c.length→dr s c m'→BoxA Tryz.prog (.fn 76) [cW s,(nj,1,0,lM m')] [.ptr cq 1 5 0 0,aG c,aj j,.mp nj 1] (ef s c j) [cW s,(nj,1,0,lM (s.memoN c f j m'))]) :
  BoxA Tryz.prog (.fn 76) [cW s,(nj,1,0,lM m)] [.ptr cq 1 5 0 0,aG c,aj i,.mp nj 1] (ef s c i) [cW s,(nj,1,0,lM (s.memoTo c (s.memoN c f) i (c.length-i) (i+1) m++[((i:Int),s.press c i)]))]:=by
 rw[eg s hi]
 have hn0:=eU m i 0 hmet
 have hnot:=xF (s:=s) (c:=c) (f:=f) (g:=c.length-i) hmet
 have hR:=qf hg hc hi
 have hlf:=fun j hij hj=>xB s hg c hc h6 i j hij hj
 have hfit:=fun j (hj:j≤c.length)=>oD hg hc h6 hj
 have hle:=fun j (h1:i≤j) (h2:j≤c.length)=>rc hg hc h1 h2
 have hmok:=fun j m' (hj:j≤c.length) hm'=>ri (s:=s) (c:=c) f j m' hj hm'
 have hcl:(c.map bB).length=c.length:=List.length_map ..
 have hpt:∀n j b,s.pressTo c (s.press c) i (n+1) j b=if s.left c i j<0 then b else s.pressTo c (s.press c) i n (j+1) (some (eC b (j8 s c (s.press c) i j))):=fun _ _ _=>rfl
 have hpt0:∀j b,s.pressTo c (s.press c) i 0 j b=b:=fun _ _=>rfl
 have hmt:=gv s c (s.memoN c f) i
 have hmt0:∀j m',s.memoTo c (s.memoN c f) i 0 j m'=m':=fun _ _=>rfl
 obtain⟨M,hM⟩:∃M,s.memoTo c (s.memoN c f) i (c.length-i) (i+1) m=M:=⟨_,rfl⟩
 rw[hM]at hnot ⊢
 have hn1:=eU M i 0 hnot
 generalize s.memoN c f=N at *
 generalize s.memoTo c N i=MT at *
 generalize s.pressTo c (s.press c) i=PT at *
 unfold j8 at hpt
 have hend:s.press c c.length=⟨[],0⟩:=kZ s c
 generalize hP:s.press c=P at *
 generalize s.left c i=L at *
 clear hg hc
 refine aL ar { l:=0,f:=76,mat:=[76]} mixed lz Tryz.func76 (by kernel_rfl) ?_
 conv=>whnf
 repeat(any_goals(first|exact ab|(refine ap ?_ ?_<;>intro _<;>first|exact aq|conv=>whnf)|((first|rw[hn0]|refine ac ?_|refine bi ?_ ?_|intro _)<;>conv=>whnf)))
 refine aW ar { l:=0,f:=76,mat:=[76]} mixed (fun u:PrSt=>[(11,aj u.j),(10,aB u.best.isSome)]) (fun u=>[(⟨0,76,8⟩,some (1,some (2,[Ju u.best]))),(nj,some (1,some (0,lM u.m)))]) (fun _=>[]) (fun u=>(i<u.j∧u.j≤c.length+1)∧(dr s c u.m∧∀p,u.best=some p→Dy p)∧some (P i)=PT (c.length+1-u.j) u.j u.best∧M=MT (c.length+1-u.j) u.j u.m) (fun u=>c.length+1-u.j) (⟨i+1,none,m⟩:PrSt) (by kernel_rfl)
  ⟨⟨Nat.lt_succ_self _,by show i+1≤_;omega⟩,⟨hm,fun p h=>by cases h⟩,by rw[show c.length+1-(i+1)=c.length-i by omega];exact hR.symm,by rw[show c.length+1-(i+1)=c.length-i by omega];exact hM.symm⟩ ?_
 conv=>whnf
 refine⟨⟨ai rfl (ai rfl trivial),aH rfl (aH rfl trivial),trivial⟩,?_⟩
 clear hR hM hm hmet hn0 hnot
 rintro u ⟨⟨hij,hj⟩,⟨hm,hbf⟩,HR,HM⟩
 generalize u.j=j at *
 generalize u.best=best at *
 generalize u.m=m at *
 clear u
 by_cases hjl:j≤c.length
 ·obtain⟨n,hn⟩:∃n,c.length+1-j=n+1:=⟨c.length-j,by omega⟩
  have hn2:c.length+1-(j+1)=n:=by omega
  rw[hn,hpt]at HR
  rw[hn,hmt]at HM
  have hlj:=hlf j (by omega) hjl
  have hL:=hle j (by omega) hjl
  by_cases q:L j<0
  ·rw[if_pos q]at HR HM
   subst HM
   subst HR
   clear hlf hle hpt hmt hpt0 hmt0 ih hmok hfit
   generalize L j=y at *
   conv=>whnf
   repeat(any_goals(first|exact ab|(refine ap ?_ ?_<;>intro _<;>first|exact aq|conv=>whnf)|((first|refine ah hlj rfl ?_|refine aa hlj ?_|rw[hn1]|refine ac ?_|refine bi ?_ ?_|intro _)<;>conv=>whnf)))
   refine And.intro ?_ ?_
   ·conv=>whnf
    refine⟨⟨?_⟩,trivial⟩
    rfl
   ·repeat(first|exact trivial|refine And.intro rfl ?_|refine And.intro (by(simp only[lM,List.map_append];rfl)) ?_)
  ·rw[if_neg q]at HR HM
   have hih:=ih j m hij hjl hm
   have hmk:=hmok j m hjl hm
   have hf:=hfit j hjl
   clear hlf hle hpt hmt hpt0 hmt0 ih hmok hfit hn1 hm
   generalize N j m=m2 at *
   by_cases hjc:j<c.length
   ·rw[eg s hjc,hP]at hih
    rw[if_pos hjc]at HR
    generalize P j=pj at *
    obtain⟨ps,w⟩:=pj
    simp only at hf HR
    have hcat:=xu (i:Int) ps (by omega)
    have hsq:0≤L j * L j∧L j * L j≤900:=sqP (by omega) hL
    generalize L j=y at *
    cases best with
    | none =>
     rw[show eC none ⟨(i:Int)::ps,w+y * y⟩=⟨(i:Int)::ps,w+y * y⟩from rfl]at HR
     have hbn:∀p,some (⟨(i:Int)::ps,w+y * y⟩:Press)=some p→Dy p:=fun p hp=>by cases hp;exact⟨by simp only[List.length_cons];omega,by simp only;omega⟩
     conv=>whnf
     repeat(any_goals(first|exact ab|(refine ap ?_ ?_<;>intro _<;>first|exact aq|conv=>whnf)|((first|refine ah hlj rfl ?_|refine aa hlj ?_|refine ac ?_|refine bi ?_ ?_|intro _)<;>conv=>whnf)))
     refine⟨[cq,nj],?_⟩
     conv=>whnf
     refine⟨_,_,hih,?_⟩
     conv=>whnf
     repeat(any_goals(first|exact ab|(refine ap ?_ ?_<;>intro _<;>first|exact aq|conv=>whnf)|((first|refine aa hcat ?_|fail|refine ac ?_|refine bi ?_ ?_|intro _)<;>conv=>whnf)))
     (refine⟨⟨j+1,some ⟨(i:Int)::ps,w+y * y⟩,m2⟩,⟨⟨by show i<j+1;omega,by show j+1≤_;omega⟩,⟨hmk,hbn⟩,by show some (P i)=PT (c.length+1-(j+1)) (j+1) _;rw[hn2];exact HR,by show M=MT (c.length+1-(j+1)) (j+1) _;rw[hn2];exact HM⟩,(by show _-(j+1)<_-j;omega),?_⟩;(conv=>whnf);refine⟨?_,?_,?_⟩<;>repeat(first|exact trivial|refine sc rfl ?_|refine kn ?_|refine kc rfl ?_|refine sc (by rfl) ?_|refine kc (by rfl) ?_))
    | some b =>
     have hb:=hbf b rfl
     have hbt:=m9 ⟨(i:Int)::ps,w+y * y⟩ b (by simp only[List.length_cons];omega) (by have:=hb.1;omega) (by simp only;omega) (by have:=hb.2;omega)
     by_cases hbb:bJ ⟨(i:Int)::ps,w+y * y⟩ b=true
     ·rw[show eC (some b) ⟨(i:Int)::ps,w+y * y⟩=⟨(i:Int)::ps,w+y * y⟩from if_pos hbb]at HR
      rw[hbb]at hbt
      have hbn:∀p,some (⟨(i:Int)::ps,w+y * y⟩:Press)=some p→Dy p:=fun p hp=>by cases hp;exact⟨by simp only[List.length_cons];omega,by simp only;omega⟩
      conv=>whnf
      repeat(any_goals(first|exact ab|(refine ap ?_ ?_<;>intro _<;>first|exact aq|conv=>whnf)|((first|refine ah hlj rfl ?_|refine aa hlj ?_|refine ac ?_|refine bi ?_ ?_|intro _)<;>conv=>whnf)))
      refine⟨[cq,nj],?_⟩
      conv=>whnf
      refine⟨_,_,hih,?_⟩
      conv=>whnf
      repeat(any_goals(first|exact ab|(refine ap ?_ ?_<;>intro _<;>first|exact aq|conv=>whnf)|((first|refine aa hcat ?_|refine aa hbt ?_|refine ac ?_|refine bi ?_ ?_|intro _)<;>conv=>whnf)))
      (refine⟨⟨j+1,some ⟨(i:Int)::ps,w+y * y⟩,m2⟩,⟨⟨by show i<j+1;omega,by show j+1≤_;omega⟩,⟨hmk,hbn⟩,by show some (P i)=PT (c.length+1-(j+1)) (j+1) _;rw[hn2];exact HR,by show M=MT (c.length+1-(j+1)) (j+1) _;rw[hn2];exact HM⟩,(by show _-(j+1)<_-j;omega),?_⟩;(conv=>whnf);refine⟨?_,?_,?_⟩<;>repeat(first|exact trivial|refine sc rfl ?_|refine kn ?_|refine kc rfl ?_|refine sc (by rfl) ?_|refine kc (by rfl) ?_))
     ·rw[show eC (some b) ⟨(i:Int)::ps,w+y * y⟩=b from if_neg hbb]at HR
      rw[Bool.eq_false_iff.2 hbb]at hbt
      have hbn:=hbf
      conv=>whnf
      repeat(any_goals(first|exact ab|(refine ap ?_ ?_<;>intro _<;>first|exact aq|conv=>whnf)|((first|refine ah hlj rfl ?_|refine aa hlj ?_|refine ac ?_|refine bi ?_ ?_|intro _)<;>conv=>whnf)))
      refine⟨[cq,nj],?_⟩
      conv=>whnf
      refine⟨_,_,hih,?_⟩
      conv=>whnf
      repeat(any_goals(first|exact ab|(refine ap ?_ ?_<;>intro _<;>first|exact aq|conv=>whnf)|((first|refine aa hcat ?_|refine aa hbt ?_|refine ac ?_|refine bi ?_ ?_|intro _)<;>conv=>whnf)))
      (refine⟨⟨j+1,some b,m2⟩,⟨⟨by show i<j+1;omega,by show j+1≤_;omega⟩,⟨hmk,hbn⟩,by show some (P i)=PT (c.length+1-(j+1)) (j+1) _;rw[hn2];exact HR,by show M=MT (c.length+1-(j+1)) (j+1) _;rw[hn2];exact HM⟩,(by show _-(j+1)<_-j;omega),?_⟩;(conv=>whnf);refine⟨?_,?_,?_⟩<;>repeat(first|exact trivial|refine sc rfl ?_|refine kn ?_|refine kc rfl ?_|refine sc (by rfl) ?_|refine kc (by rfl) ?_))
   ·have hjc:j=c.length:=by omega
    rw[show ef s c j = .agg [.slice 0 [] .tight,aj 0] by rw[hjc];exact eK s c]at hih
    rw[if_neg (by omega),show P j=⟨[],0⟩ by rw[hjc];exact hend]at HR
    simp only[Int.add_zero]at HR
    have hcat:=sx (i:Int)
    generalize L j=y at *
    cases best with
    | none =>
     rw[show eC none ⟨[(i:Int)],0⟩=⟨[(i:Int)],0⟩from rfl]at HR
     have hbn:∀p,some (⟨[(i:Int)],0⟩:Press)=some p→Dy p:=fun p hp=>by cases hp;exact⟨by simp,by simp⟩
     conv=>whnf
     repeat(any_goals(first|exact ab|(refine ap ?_ ?_<;>intro _<;>first|exact aq|conv=>whnf)|((first|refine ah hlj rfl ?_|refine aa hlj ?_|refine ac ?_|refine bi ?_ ?_|intro _)<;>conv=>whnf)))
     refine⟨[cq,nj],?_⟩
     conv=>whnf
     refine⟨_,_,hih,?_⟩
     conv=>whnf
     repeat(any_goals(first|exact ab|(refine ap ?_ ?_<;>intro _<;>first|exact aq|conv=>whnf)|((first|refine aa hcat ?_|fail|refine ac ?_|refine bi ?_ ?_|intro _)<;>conv=>whnf)))
     (refine⟨⟨j+1,some ⟨[(i:Int)],0⟩,m2⟩,⟨⟨by show i<j+1;omega,by show j+1≤_;omega⟩,⟨hmk,hbn⟩,by show some (P i)=PT (c.length+1-(j+1)) (j+1) _;rw[hn2];exact HR,by show M=MT (c.length+1-(j+1)) (j+1) _;rw[hn2];exact HM⟩,(by show _-(j+1)<_-j;omega),?_⟩;(conv=>whnf);refine⟨?_,?_,?_⟩<;>repeat(first|exact trivial|refine sc rfl ?_|refine kn ?_|refine kc rfl ?_|refine sc (by rfl) ?_|refine kc (by rfl) ?_))
    | some b =>
     have hb:=hbf b rfl
     have hbt:=m9 ⟨[(i:Int)],0⟩ b (by simp) (by have:=hb.1;omega) (by simp) (by have:=hb.2;omega)
     by_cases hbb:bJ ⟨[(i:Int)],0⟩ b=true
     ·rw[show eC (some b) ⟨[(i:Int)],0⟩=⟨[(i:Int)],0⟩from if_pos hbb]at HR
      rw[hbb]at hbt
      have hbn:∀p,some (⟨[(i:Int)],0⟩:Press)=some p→Dy p:=fun p hp=>by cases hp;exact⟨by simp,by simp⟩
      conv=>whnf
      repeat(any_goals(first|exact ab|(refine ap ?_ ?_<;>intro _<;>first|exact aq|conv=>whnf)|((first|refine ah hlj rfl ?_|refine aa hlj ?_|refine ac ?_|refine bi ?_ ?_|intro _)<;>conv=>whnf)))
      refine⟨[cq,nj],?_⟩
      conv=>whnf
      refine⟨_,_,hih,?_⟩
      conv=>whnf
      repeat(any_goals(first|exact ab|(refine ap ?_ ?_<;>intro _<;>first|exact aq|conv=>whnf)|((first|refine aa hcat ?_|refine aa hbt ?_|refine ac ?_|refine bi ?_ ?_|intro _)<;>conv=>whnf)))
      (refine⟨⟨j+1,some ⟨[(i:Int)],0⟩,m2⟩,⟨⟨by show i<j+1;omega,by show j+1≤_;omega⟩,⟨hmk,hbn⟩,by show some (P i)=PT (c.length+1-(j+1)) (j+1) _;rw[hn2];exact HR,by show M=MT (c.length+1-(j+1)) (j+1) _;rw[hn2];exact HM⟩,(by show _-(j+1)<_-j;omega),?_⟩;(conv=>whnf);refine⟨?_,?_,?_⟩<;>repeat(first|exact trivial|refine sc rfl ?_|refine kn ?_|refine kc rfl ?_|refine sc (by rfl) ?_|refine kc (by rfl) ?_))
     ·rw[show eC (some b) ⟨[(i:Int)],0⟩=b from if_neg hbb]at HR
      rw[Bool.eq_false_iff.2 hbb]at hbt
      have hbn:=hbf
      conv=>whnf
      repeat(any_goals(first|exact ab|(refine ap ?_ ?_<;>intro _<;>first|exact aq|conv=>whnf)|((first|refine ah hlj rfl ?_|refine aa hlj ?_|refine ac ?_|refine bi ?_ ?_|intro _)<;>conv=>whnf)))
      refine⟨[cq,nj],?_⟩
      conv=>whnf
      refine⟨_,_,hih,?_⟩
      conv=>whnf
      repeat(any_goals(first|exact ab|(refine ap ?_ ?_<;>intro _<;>first|exact aq|conv=>whnf)|((first|refine aa hcat ?_|refine aa hbt ?_|refine ac ?_|refine bi ?_ ?_|intro _)<;>conv=>whnf)))
      (refine⟨⟨j+1,some b,m2⟩,⟨⟨by show i<j+1;omega,by show j+1≤_;omega⟩,⟨hmk,hbn⟩,by show some (P i)=PT (c.length+1-(j+1)) (j+1) _;rw[hn2];exact HR,by show M=MT (c.length+1-(j+1)) (j+1) _;rw[hn2];exact HM⟩,(by show _-(j+1)<_-j;omega),?_⟩;(conv=>whnf);refine⟨?_,?_,?_⟩<;>repeat(first|exact trivial|refine sc rfl ?_|refine kn ?_|refine kc rfl ?_|refine sc (by rfl) ?_|refine kc (by rfl) ?_))
 ·obtain rfl:j=c.length+1:=by omega
  rw[Nat.sub_self,hpt0]at HR
  rw[Nat.sub_self,hmt0]at HM
  subst HM
  subst HR
  clear hlf hle hpt hmt hpt0 hmt0 ih hmok hfit
  conv=>whnf
  repeat(any_goals(first|exact ab|(refine ap ?_ ?_<;>intro _<;>first|exact aq|conv=>whnf)|((first|rw[hn1]|refine ac ?_|refine bi ?_ ?_|intro _)<;>conv=>whnf)))
  refine And.intro ?_ ?_
  ·conv=>whnf
   refine⟨⟨?_⟩,trivial⟩
   rfl
  ·repeat(first|exact trivial|refine And.intro rfl ?_|refine And.intro (by(simp only[lM,List.map_append];rfl)) ?_)
theorem J9(s:Bill)(hg:s.Good)(c:List Ent)(hc:∀x∈c,s.OkE x)(h6:c.length≤6):∀(f i:Nat) (m:cf),i≤c.length→c.length-i≤f→dr s c m →
  BoxA Tryz.prog (.fn 76) [cW s,(nj,1,0,lM m)] [.ptr cq 1 5 0 0,aG c,aj i,.mp nj 1] (ef s c i) [cW s,(nj,1,0,lM (s.memoN c f i m))]:=by
 intro f
 induction f with
 | zero =>
  intro i m hi hf hm
  obtain rfl:i=c.length:=by omega
  rw[show s.memoN c 0 c.length m=m from rfl]
  exact B3 s c h6 m hm
 | succ f ih =>
  intro i m hi hf hm
  rw[iR]
  by_cases hmet:(m.any fun e=>decide (e.1=(i:Int)))=true
  ·rw[if_pos hmet]
   exact Ii s c h6 i hi m hm hmet
  ·rw[if_neg hmet]
   by_cases hie:i=c.length
   ·rw[if_pos hie]
    subst hie
    exact B3 s c h6 m hm
   ·rw[if_neg hie]
    exact Ij s hg c hc h6 f i (by omega) m hm (Bool.eq_false_iff.2 hmet) fun j m' h1 h2 h3=>ih j m' h2 (by omega) h3
def Bill.setR(s:Bill)(c:List Ent):Press×Int:=if cb s c≠0 then(⟨[],0⟩,cb s c)else(s.press c 0,0)
def J8(x:Press×Int):AV:= .tuple [aD x.1.pages,aj x.1.white,aj x.2]
theorem Kf(s:Bill)(hr:s.small)(c:List Ent)(hl:c.length≤1048576)(e:Int)(hk:cb s c=e)(h0:e≠0) :
  PureA Tryz.prog 27 [aF s,aG c] (.tuple [oe,aj 0,aj e]):=by
 have he:=ka s hr c hl e hk h0
 refine ae ar { l:=0,f:=27,mat:=[71,76]} mixed uW Tryz.func27 (by kernel_rfl) ?_
 conv=>whnf
 repeat(any_goals(first|exact ab|(refine ap ?_ ?_<;>intro _<;>first|exact aq|conv=>whnf)|((first|refine ac ?_|refine bi ?_ ?_|intro _)<;>conv=>whnf)))
 refine⟨[],?_⟩
 conv=>whnf
 refine⟨_,_,he,?_⟩
 conv=>whnf
 repeat(any_goals(first|exact ab|(refine ap ?_ ?_<;>intro _<;>first|exact aq|conv=>whnf)|((first|refine ac ?_|refine bi ?_ ?_|intro _)<;>conv=>whnf)))
 (refine⟨⟨?_⟩,trivial⟩;rfl)
theorem Kg(s:Bill)(hr:s.small)(c:List Ent)(hl:c.length≤1048576)(hk:cb s c=0) :
  PureA Tryz.prog 27 [aF s,aG c] (.tuple [(if c.length=0 then oe else aD (s.press c 0).pages),aj (s.press c 0).white,aj 0]):=by
 have he:=d7 s hr c hl hk
 obtain⟨hg,hok,h6⟩:=cr hk
 have hp:=J9 s hg c hok h6 c.length 0 [] (Nat.zero_le _) (by omega) (fun e h=>by cases h)
 unfold cW at he hp
 by_cases h0:c.length=0
 ·rw[if_pos h0]
  have e1:=eK s c
  have e2:=kZ s c
  rw[h0]at e1 e2
  rw[e1]at hp
  rw[e2]
  generalize s.memoN c c.length 0 []=M at *
  refine ae ar { l:=0,f:=27,mat:=[71,76]} mixed uW Tryz.func27 (by kernel_rfl) ?_
  conv=>whnf
  repeat(any_goals(first|exact ab|(refine ap ?_ ?_<;>intro _<;>first|exact aq|conv=>whnf)|((first|refine ac ?_|refine bi ?_ ?_|intro _)<;>conv=>whnf)))
  refine⟨[],?_⟩
  conv=>whnf
  refine⟨_,_,he,?_⟩
  conv=>whnf
  repeat(any_goals(first|exact ab|(refine ap ?_ ?_<;>intro _<;>first|exact aq|conv=>whnf)|((first|refine ac ?_|refine bi ?_ ?_|intro _)<;>conv=>whnf)))
  refine⟨[cq,nj],?_⟩
  conv=>whnf
  refine⟨_,_,hp,?_⟩
  conv=>whnf
  repeat(any_goals(first|exact ab|(refine ap ?_ ?_<;>intro _<;>first|exact aq|conv=>whnf)|((first|refine ac ?_|refine bi ?_ ?_|intro _)<;>conv=>whnf)))
  (refine⟨⟨?_⟩,trivial⟩;rfl)
 ·rw[if_neg h0]
  rw[eg s (by omega)]at hp
  generalize s.memoN c c.length 0 []=M at *
  generalize s.press c 0=R at *
  unfold gN tR at hp
  refine ae ar { l:=0,f:=27,mat:=[71,76]} mixed uW Tryz.func27 (by kernel_rfl) ?_
  conv=>whnf
  repeat(any_goals(first|exact ab|(refine ap ?_ ?_<;>intro _<;>first|exact aq|conv=>whnf)|((first|refine ac ?_|refine bi ?_ ?_|intro _)<;>conv=>whnf)))
  refine⟨[],?_⟩
  conv=>whnf
  refine⟨_,_,he,?_⟩
  conv=>whnf
  repeat(any_goals(first|exact ab|(refine ap ?_ ?_<;>intro _<;>first|exact aq|conv=>whnf)|((first|refine ac ?_|refine bi ?_ ?_|intro _)<;>conv=>whnf)))
  refine⟨[cq,nj],?_⟩
  conv=>whnf
  refine⟨_,_,hp,?_⟩
  conv=>whnf
  repeat(any_goals(first|exact ab|(refine ap ?_ ?_<;>intro _<;>first|exact aq|conv=>whnf)|((first|refine ac ?_|refine bi ?_ ?_|intro _)<;>conv=>whnf)))
  (refine⟨⟨?_⟩,trivial⟩;rfl)
theorem lc(s:Bill)(hr:s.small)(c:List Ent)(hl:c.length≤1048576):PureA Tryz.prog 27 [aF s,aG c] (J8 (s.setR c)):=by
 unfold Bill.setR J8
 by_cases hk:cb s c=0
 ·rw[if_neg (fun h=>h hk)]
  have h:=Kg s hr c hl hk
  by_cases h0:c.length=0
  ·rw[if_pos h0]at h
   refine h.wk (Wk.tuple (.cons ?_ (WkL.refl _)))
   show Wk oe (aD (s.press c 0).pages)
   have e2:=kZ s c
   rw[h0]at e2
   rw[e2]
   exact Wk.nil 1
  ·rw[if_neg h0]at h
   exact h
 ·rw[if_pos hk]
  exact(Kf s hr c hl _ rfl hk).wk (Wk.tuple (.cons (Wk.nil 1) (WkL.refl _)))
end Go.Proofs.YtgncapdjheghfaaGreatDoor
namespace Go.Proofs.YtgncapdjheghfaaGreatDoor
open Go.Am Go.Proofs Go
end Go.Proofs.YtgncapdjheghfaaGreatDoor
namespace Go.Proofs.YtgncapdjheghfaaGreatDoor
open Go.Am Go.Proofs Go
def kTr:Key:=⟨0,36,59⟩
def kSd:Key:=⟨0,36,12⟩
def Lj:List Int→AV
 | []=> .slice 0 [] .tight
 | x::l=> .own kTr (l.length+1) 1 (l.length+1) 0
def trS:List Int→jr
 | []=>(0,none)
 | x::l=>(l.length+1,some (1,(x::l).map aj))
structure TrSt where
 i:Nat
 ts:List Int
theorem I1(y:Int)(l:List Int)(x:Int):trS ((y::l)++[x])=(l.length+1+1,some (1,((y::l).map aj).take (l.length+1)++[aj x]))∧Lj ((y::l)++[x]) = .own kTr (l.length+1+1) 1 (l.length+1+1) 0:=by
 have h1:(l++[x]).length=l.length+1:=by simp
 have h3:(y::(l++[x])).map aj=((y::l).map aj).take (l.length+1)++[aj x]:=by rw[List.take_of_length_le (by simp)];simp
 refine⟨?_,?_⟩
 ·show((l++[x]).length+1,some (1,(y::(l++[x])).map aj))=_
  rw[h1,h3]
 ·show AV.own kTr ((l++[x]).length+1) 1 ((l++[x]).length+1) 0=_
  rw[h1]
theorem j4(left i:Nat)(t:Int)(l:List Int):aS left i (t::l)=if left.testBit i=true then t::aS left (i+1) l else aS left (i+1) l:=rfl
theorem KJ(left i:Nat)(hl:left<64)(hi:i≤64):decide (fc (lm left i) 1=1)=left.testBit i:=GD left i (e7 hl) hi
def bG(s:Bill):Nat→List Ent→List Int
 | _,[]=>[]
 | i,x::l=>if x.says=2∧s.inSome x.a.toNat=false then(i:Int)::bG s (i+1) l else bG s (i+1) l
def jh:List Int→List Ent→List Int
 | sd,[]=>sd
 | sd,x::l=>jh (sd.set x.a.toNat (x.says+1)) l
def cM(s:Bill)(D:List Int):Nat→Nat→List Int
 | 0,_=>[]
 | f+1,i=>if s.inAll i=true∧D.getD i 0≠1 then(i:Int)::cM s D f (i+1)else cM s D f (i+1)
def II(S:Bill)(c:List Ent)(n:Nat):AV :=
 .tuple [aD (bG S 0 c),(if jh [0,0,0,0,0,0] c=[0,0,0,0,0,0]then oe else aD (cM S (jh [0,0,0,0,0,0] c) n 0)),aj 0]
def sdC(sd:List Int):List AV:=sd.flatMap fun v=>[aj v,aj 0,aj 0]
theorem dp(s:Bill)(i:Nat)(x:Ent)(l:List Ent):bG s i (x::l)=if x.says=2∧s.inSome x.a.toNat=false then(i:Int)::bG s (i+1) l else bG s (i+1) l:=rfl
theorem fT(sd:List Int)(x:Ent)(l:List Ent):jh sd (x::l)=jh (sd.set x.a.toNat (x.says+1)) l:=rfl
theorem six{α:Type}:∀l:List α,l.length=6→∃a b c d e f,l=[a,b,c,d,e,f]
 | [a,b,c,d,e,f],_=>⟨_,_,_,_,_,_,rfl⟩
structure SdSt where
 j:Nat
 ks:List Int
 sd:List Int
theorem IK{s:Bill}(hg:s.Good)(n:Nat)(h:n<6):decide (fc (lm s.someN n) 1=0) = !s.inSome n:=by
 have h1:=fp hg
 have e:=GD s.someN n (e7 h1) (by omega)
 have e2:fc (lm s.someN n) 1=(((s.someN/2^n)%2:Nat):Int):=by
  rw[lg _ _ (by omega)]
  have:=ge (s.someN/2^n) 1 (Nat.lt_of_le_of_lt (Nat.div_le_self _ _) (e7 h1)) (by omega)
  rw[qF]at this
  exact this
 rw[cA]at e
 rw[←e,e2]
 have:(s.someN/2^n)%2=0∨(s.someN/2^n)%2=1:=by omega
 rcases this with h|h<;>rw[h]<;>rfl
noncomputable def mG:Code→List Code
 | .seq x y=>mG x++mG y
 | .cond _ x y=>mG x++mG y
 | .block _ c=>mG c
 | .scope c=>mG c
 | .loop c=>[c]
 | _=>[]
theorem xE{rd:Bool}{P:Program}{N:Nat}{c:Code}{Q:Exit→SS→Prop}{ss:SS}(ss':SS)(hw:uA ss ss')(h:LoopW rd P N c Q ss'):LoopW rd P N c Q ss:=⟨fun S hs=>h.go S ((uB hw).go S hs)⟩
noncomputable def sdB:Code:=((mG (Tryz.f36.body.getD .skip))[1]?).getD .skip
noncomputable def suB:Code:=((mG (Tryz.f36.body.getD .skip))[2]?).getD .skip
def cxS:Cx:={ l:=0,f:=36,mat:=[71,85],ow:=[59],fz:=[(13,9)]}
def k91:Key:=⟨0,36,91⟩
def k3:Key:=⟨0,36,3⟩
def Ld(c:List Ent):List (Nat×AV):=[(68,.v (.int .i64 ((c.map bB).length:Nat))),(67,aG c),(12,.ptr kSd 1 18 0 0),(9,.ptr cq 1 5 0 0),(3,.ptr k3 1 3 0 0),(7,.slice 0 [] .tight),(8,.v (.int .i64 0))]
def Lc(s S:Bill)(ts:List Int):List (Key×Option jr):=[(cq,some (1,some (5,[.agg [aj s.lines,bu s.figs,aD ts,aj S.allN,aj S.someN]]))),(kTr,none),(k3,some (1,some (3,[aF s])))]
def Le:List (Key×Option (Nat×Nat)):=[(⟨0,36,59⟩,none)]
def sdS(s S:Bill)(ts:List Int)(c:List Ent)(u:SdSt):SS :=
 HH [(69,aj u.j),(6,.slice 1 (u.ks.map aj) (.own k91 1))] [(kSd,some (1,some (18,[.agg (sdC u.sd)])))] [(k91,some (1,u.ks.length))] [cxS.key 14,cxS.key 91] [cxS.key 91] (Ld c) (Lc s S ts) Le
def SdI(S:Bill)(c:List Ent)(K D:List Int)(u:SdSt):Prop:=(u.j≤c.length∧u.ks.length≤u.j∧u.sd.length=6)∧K=u.ks++bG S u.j (c.drop u.j)∧D=jh u.sd (c.drop u.j)
def SdR(s S:Bill)(ts:List Int)(c:List Ent)(K D:List Int)(u:SdSt):Prop :=
 ∀Q:Exit→SS→Prop,eT Tryz.prog tab cxS Tryz.f36.ntmps sdB
  (ut (fun ss'=>∃a':SdSt,SdI S c K D a'∧c.length-a'.j<c.length-u.j∧uA ss' (sdS s S ts c a')) Q) (sdS s S ts c u)
theorem ei(s:Bill)(D:List Int)(f i:Nat):cM s D (f+1) i=if s.inAll i=true∧D.getD i 0≠1 then(i:Int)::cM s D f (i+1)else cM s D f (i+1):=rfl
def FL(v0 v1 v2 v3 v4 v5:Int):List Value:=[.int .i64 v0,.int .i64 0,.int .i64 0,.int .i64 v1,.int .i64 0,.int .i64 0,.int .i64 v2,.int .i64 0,.int .i64 0,.int .i64 v3,.int .i64 0,.int .i64 0,.int .i64 v4,.int .i64 0,.int .i64 0,.int .i64 v5,.int .i64 0,.int .i64 0]
theorem FM(v0 v1 v2 v3 v4 v5:Int):eqL (FL v0 v1 v2 v3 v4 v5) (FL 0 0 0 0 0 0)=decide ([v0,v1,v2,v3,v4,v5]=[0,0,0,0,0,0]):=by
 rw[Bool.eq_iff_iff]
 simp[eqL,eqC,FL]
structure SuSt where
 i:Nat
 us:List Int
def Jl:Key:=⟨0,36,128⟩
def Lh(s:Bill)(K:List Int):List (Nat×AV):=[(106,.v (.int .i64 ((s.figs.map cD).length:Nat))),(12,.ptr kSd 1 18 0 0),(9,.ptr cq 1 5 0 0),(6,.slice 1 (K.map aj) (.own k91 1)),(8,.v (.int .i64 0))]
def Lg(s S:Bill)(ts:List Int)(D:List Int):List (Key×Option jr):=[(cq,some (1,some (5,[.agg [aj s.lines,bu s.figs,aD ts,aj S.allN,aj S.someN]]))),(kSd,some (1,some (18,[.agg (sdC D)]))),(kTr,none),(k3,none),(cxS.key 14,none),(cxS.key 91,none)]
def Li(K:List Int):List (Key×Option (Nat×Nat)):=[(k91,some (1,K.length)),(⟨0,36,59⟩,none)]
end Go.Proofs.YtgncapdjheghfaaGreatDoor
namespace Go.Proofs.YtgncapdjheghfaaGreatDoor
open Go.Am Go.Proofs Go
set_option maxHeartbeats 8000000 in
theorem KX(s S:Bill)(hg:s.Good)(hSg:S.Good)(ts:List Int)(c:List Ent)(hok:∀x∈c,s.OkE x)(h6:c.length≤6)(K D:List Int)(j:Nat)(ks:List Int)(v0 v1 v2 v3 v4 v5:Int)
  (hkl:ks.length≤j) (HK:K=ks++bG S j (c.drop j)) (HD:D=jh [v0,v1,v2,v3,v4,v5] (c.drop j)) (sy xa xb:Int) (hx:c[j]?=some ⟨sy,xa,xb⟩) (q2:sy=2) (qs:S.inSome xa.toNat=false):SdR s S ts c K D ⟨j,ks,[v0,v1,v2,v3,v4,v5]⟩:=by
 have hjl:j<c.length:=(List.getElem?_eq_some_iff.1 hx).1
 have hd:c.drop j=⟨sy,xa,xb⟩::c.drop (j+1):=by rw[List.drop_eq_getElem_cons hjl,(List.getElem?_eq_some_iff.1 hx).2]
 have hsz:=fun n hn=>IK hSg n hn
 have hcl:(c.map bB).length=c.length:=List.length_map ..
 have hkm:(ks.map aj).length=ks.length:=List.length_map ..
 unfold fc lm at hsz
 rw[hd,dp]at HK
 rw[hd,fT]at HD
 have hxo:=hok _ (List.mem_of_getElem? hx)
 have hxa:=hxo.a
 have hxs:=hxo.says
 have hfl6:=hg.len
 simp only at hxa hxs HK HD
 have hz:=hsz xa.toNat (by omega)
 rw[Int.toNat_of_nonneg hxa.1]at hz
 clear hsz hg hSg hok
 have hjI:(j:Int)<((c.map bB).length:Nat):=by omega
 intro Q
 subst q2
 rw[if_pos ⟨rfl,qs⟩]at HK
 rw[qs,Bool.not_false,decide_eq_true_eq]at hz
 have hH:K=(ks++[(j:Int)])++bG S (j+1) (c.drop (j+1)):=by rw[HK];simp
 rcases(by omega:xa=0∨xa=1∨xa=2∨xa=3∨xa=4∨xa=5)with rfl|rfl|rfl|rfl|rfl|rfl
 ·conv=>whnf
  repeat(any_goals(first|exact ab|(refine ap ?_ ?_<;>intro _<;>first|exact aq|conv=>whnf)|((first|refine ag hx rfl ?_|refine ac ?_|refine bi ?_ ?_|intro _)<;>conv=>whnf)))
  all_goals(try(first|exact absurd hjI (by assumption)|exact absurd hz (by assumption)|exact absurd (by assumption) hz|exact absurd (by assumption) q2))
  all_goals(refine⟨⟨j+1,ks++[(j:Int)],[2+1,v1,v2,v3,v4,v5]⟩,⟨⟨by show j+1≤_;omega,by show(ks++[(j:Int)]).length≤j+1;simp;omega,rfl⟩,hH,HD⟩,(by show _-(j+1)<_-j;omega),?_⟩;(conv=>whnf);refine⟨?_,?_,?_⟩<;>repeat(first|exact trivial|refine sc rfl ?_|refine kn ?_|refine kc rfl ?_|refine sc (by first|(show some (AV.slice 1 (ks.map aj++[aj j]) _)=some (AV.slice 1 ((ks++[(j:Int)]).map aj) _);rw[List.map_append];rfl)|(show some (some (1,(ks.map aj).length+1))=some (some (1,(ks++[(j:Int)]).length));rw[hkm,List.length_append];rfl)) ?_|refine kc (by first|(show some (AV.slice 1 (ks.map aj++[aj j]) _)=some (AV.slice 1 ((ks++[(j:Int)]).map aj) _);rw[List.map_append];rfl)|(show some (some (1,(ks.map aj).length+1))=some (some (1,(ks++[(j:Int)]).length));rw[hkm,List.length_append];rfl)) ?_))
 ·conv=>whnf
  repeat(any_goals(first|exact ab|(refine ap ?_ ?_<;>intro _<;>first|exact aq|conv=>whnf)|((first|refine ag hx rfl ?_|refine ac ?_|refine bi ?_ ?_|intro _)<;>conv=>whnf)))
  all_goals(try(first|exact absurd hjI (by assumption)|exact absurd hz (by assumption)|exact absurd (by assumption) hz|exact absurd (by assumption) q2))
  all_goals(refine⟨⟨j+1,ks++[(j:Int)],[v0,2+1,v2,v3,v4,v5]⟩,⟨⟨by show j+1≤_;omega,by show(ks++[(j:Int)]).length≤j+1;simp;omega,rfl⟩,hH,HD⟩,(by show _-(j+1)<_-j;omega),?_⟩;(conv=>whnf);refine⟨?_,?_,?_⟩<;>repeat(first|exact trivial|refine sc rfl ?_|refine kn ?_|refine kc rfl ?_|refine sc (by first|(show some (AV.slice 1 (ks.map aj++[aj j]) _)=some (AV.slice 1 ((ks++[(j:Int)]).map aj) _);rw[List.map_append];rfl)|(show some (some (1,(ks.map aj).length+1))=some (some (1,(ks++[(j:Int)]).length));rw[hkm,List.length_append];rfl)) ?_|refine kc (by first|(show some (AV.slice 1 (ks.map aj++[aj j]) _)=some (AV.slice 1 ((ks++[(j:Int)]).map aj) _);rw[List.map_append];rfl)|(show some (some (1,(ks.map aj).length+1))=some (some (1,(ks++[(j:Int)]).length));rw[hkm,List.length_append];rfl)) ?_))
 ·conv=>whnf
  repeat(any_goals(first|exact ab|(refine ap ?_ ?_<;>intro _<;>first|exact aq|conv=>whnf)|((first|refine ag hx rfl ?_|refine ac ?_|refine bi ?_ ?_|intro _)<;>conv=>whnf)))
  all_goals(try(first|exact absurd hjI (by assumption)|exact absurd hz (by assumption)|exact absurd (by assumption) hz|exact absurd (by assumption) q2))
  all_goals(refine⟨⟨j+1,ks++[(j:Int)],[v0,v1,2+1,v3,v4,v5]⟩,⟨⟨by show j+1≤_;omega,by show(ks++[(j:Int)]).length≤j+1;simp;omega,rfl⟩,hH,HD⟩,(by show _-(j+1)<_-j;omega),?_⟩;(conv=>whnf);refine⟨?_,?_,?_⟩<;>repeat(first|exact trivial|refine sc rfl ?_|refine kn ?_|refine kc rfl ?_|refine sc (by first|(show some (AV.slice 1 (ks.map aj++[aj j]) _)=some (AV.slice 1 ((ks++[(j:Int)]).map aj) _);rw[List.map_append];rfl)|(show some (some (1,(ks.map aj).length+1))=some (some (1,(ks++[(j:Int)]).length));rw[hkm,List.length_append];rfl)) ?_|refine kc (by first|(show some (AV.slice 1 (ks.map aj++[aj j]) _)=some (AV.slice 1 ((ks++[(j:Int)]).map aj) _);rw[List.map_append];rfl)|(show some (some (1,(ks.map aj).length+1))=some (some (1,(ks++[(j:Int)]).length));rw[hkm,List.length_append];rfl)) ?_))
 ·conv=>whnf
  repeat(any_goals(first|exact ab|(refine ap ?_ ?_<;>intro _<;>first|exact aq|conv=>whnf)|((first|refine ag hx rfl ?_|refine ac ?_|refine bi ?_ ?_|intro _)<;>conv=>whnf)))
  all_goals(try(first|exact absurd hjI (by assumption)|exact absurd hz (by assumption)|exact absurd (by assumption) hz|exact absurd (by assumption) q2))
  all_goals(refine⟨⟨j+1,ks++[(j:Int)],[v0,v1,v2,2+1,v4,v5]⟩,⟨⟨by show j+1≤_;omega,by show(ks++[(j:Int)]).length≤j+1;simp;omega,rfl⟩,hH,HD⟩,(by show _-(j+1)<_-j;omega),?_⟩;(conv=>whnf);refine⟨?_,?_,?_⟩<;>repeat(first|exact trivial|refine sc rfl ?_|refine kn ?_|refine kc rfl ?_|refine sc (by first|(show some (AV.slice 1 (ks.map aj++[aj j]) _)=some (AV.slice 1 ((ks++[(j:Int)]).map aj) _);rw[List.map_append];rfl)|(show some (some (1,(ks.map aj).length+1))=some (some (1,(ks++[(j:Int)]).length));rw[hkm,List.length_append];rfl)) ?_|refine kc (by first|(show some (AV.slice 1 (ks.map aj++[aj j]) _)=some (AV.slice 1 ((ks++[(j:Int)]).map aj) _);rw[List.map_append];rfl)|(show some (some (1,(ks.map aj).length+1))=some (some (1,(ks++[(j:Int)]).length));rw[hkm,List.length_append];rfl)) ?_))
 ·conv=>whnf
  repeat(any_goals(first|exact ab|(refine ap ?_ ?_<;>intro _<;>first|exact aq|conv=>whnf)|((first|refine ag hx rfl ?_|refine ac ?_|refine bi ?_ ?_|intro _)<;>conv=>whnf)))
  all_goals(try(first|exact absurd hjI (by assumption)|exact absurd hz (by assumption)|exact absurd (by assumption) hz|exact absurd (by assumption) q2))
  all_goals(refine⟨⟨j+1,ks++[(j:Int)],[v0,v1,v2,v3,2+1,v5]⟩,⟨⟨by show j+1≤_;omega,by show(ks++[(j:Int)]).length≤j+1;simp;omega,rfl⟩,hH,HD⟩,(by show _-(j+1)<_-j;omega),?_⟩;(conv=>whnf);refine⟨?_,?_,?_⟩<;>repeat(first|exact trivial|refine sc rfl ?_|refine kn ?_|refine kc rfl ?_|refine sc (by first|(show some (AV.slice 1 (ks.map aj++[aj j]) _)=some (AV.slice 1 ((ks++[(j:Int)]).map aj) _);rw[List.map_append];rfl)|(show some (some (1,(ks.map aj).length+1))=some (some (1,(ks++[(j:Int)]).length));rw[hkm,List.length_append];rfl)) ?_|refine kc (by first|(show some (AV.slice 1 (ks.map aj++[aj j]) _)=some (AV.slice 1 ((ks++[(j:Int)]).map aj) _);rw[List.map_append];rfl)|(show some (some (1,(ks.map aj).length+1))=some (some (1,(ks++[(j:Int)]).length));rw[hkm,List.length_append];rfl)) ?_))
 ·conv=>whnf
  repeat(any_goals(first|exact ab|(refine ap ?_ ?_<;>intro _<;>first|exact aq|conv=>whnf)|((first|refine ag hx rfl ?_|refine ac ?_|refine bi ?_ ?_|intro _)<;>conv=>whnf)))
  all_goals(try(first|exact absurd hjI (by assumption)|exact absurd hz (by assumption)|exact absurd (by assumption) hz|exact absurd (by assumption) q2))
  all_goals(refine⟨⟨j+1,ks++[(j:Int)],[v0,v1,v2,v3,v4,2+1]⟩,⟨⟨by show j+1≤_;omega,by show(ks++[(j:Int)]).length≤j+1;simp;omega,rfl⟩,hH,HD⟩,(by show _-(j+1)<_-j;omega),?_⟩;(conv=>whnf);refine⟨?_,?_,?_⟩<;>repeat(first|exact trivial|refine sc rfl ?_|refine kn ?_|refine kc rfl ?_|refine sc (by first|(show some (AV.slice 1 (ks.map aj++[aj j]) _)=some (AV.slice 1 ((ks++[(j:Int)]).map aj) _);rw[List.map_append];rfl)|(show some (some (1,(ks.map aj).length+1))=some (some (1,(ks++[(j:Int)]).length));rw[hkm,List.length_append];rfl)) ?_|refine kc (by first|(show some (AV.slice 1 (ks.map aj++[aj j]) _)=some (AV.slice 1 ((ks++[(j:Int)]).map aj) _);rw[List.map_append];rfl)|(show some (some (1,(ks.map aj).length+1))=some (some (1,(ks++[(j:Int)]).length));rw[hkm,List.length_append];rfl)) ?_))
end Go.Proofs.YtgncapdjheghfaaGreatDoor
namespace Go.Proofs.YtgncapdjheghfaaGreatDoor
open Go.Am Go.Proofs Go
set_option maxHeartbeats 8000000 in
theorem KY(s S:Bill)(hg:s.Good)(hSg:S.Good)(ts:List Int)(c:List Ent)(hok:∀x∈c,s.OkE x)(h6:c.length≤6)(K D:List Int)(j:Nat)(ks:List Int)(v0 v1 v2 v3 v4 v5:Int)
  (hkl:ks.length≤j) (HK:K=ks++bG S j (c.drop j)) (HD:D=jh [v0,v1,v2,v3,v4,v5] (c.drop j)) (sy xa xb:Int) (hx:c[j]?=some ⟨sy,xa,xb⟩) (q2:sy=2) (qs:¬S.inSome xa.toNat=false):SdR s S ts c K D ⟨j,ks,[v0,v1,v2,v3,v4,v5]⟩:=by
 have hjl:j<c.length:=(List.getElem?_eq_some_iff.1 hx).1
 have hd:c.drop j=⟨sy,xa,xb⟩::c.drop (j+1):=by rw[List.drop_eq_getElem_cons hjl,(List.getElem?_eq_some_iff.1 hx).2]
 have hsz:=fun n hn=>IK hSg n hn
 have hcl:(c.map bB).length=c.length:=List.length_map ..
 have hkm:(ks.map aj).length=ks.length:=List.length_map ..
 unfold fc lm at hsz
 rw[hd,dp]at HK
 rw[hd,fT]at HD
 have hxo:=hok _ (List.mem_of_getElem? hx)
 have hxa:=hxo.a
 have hxs:=hxo.says
 have hfl6:=hg.len
 simp only at hxa hxs HK HD
 have hz:=hsz xa.toNat (by omega)
 rw[Int.toNat_of_nonneg hxa.1]at hz
 clear hsz hg hSg hok
 have hjI:(j:Int)<((c.map bB).length:Nat):=by omega
 intro Q
 subst q2
 rw[if_neg (fun h=>qs h.2)]at HK
 rw[Bool.not_eq_false]at qs
 rw[qs,Bool.not_true,decide_eq_false_iff_not]at hz
 rcases(by omega:xa=0∨xa=1∨xa=2∨xa=3∨xa=4∨xa=5)with rfl|rfl|rfl|rfl|rfl|rfl
 ·conv=>whnf
  repeat(any_goals(first|exact ab|(refine ap ?_ ?_<;>intro _<;>first|exact aq|conv=>whnf)|((first|refine ag hx rfl ?_|refine ac ?_|refine bi ?_ ?_|intro _)<;>conv=>whnf)))
  all_goals(try(first|exact absurd hjI (by assumption)|exact absurd hz (by assumption)|exact absurd (by assumption) hz|exact absurd (by assumption) q2))
  all_goals(refine⟨⟨j+1,ks,[2+1,v1,v2,v3,v4,v5]⟩,⟨⟨by show j+1≤_;omega,by show ks.length≤j+1;omega,rfl⟩,HK,HD⟩,(by show _-(j+1)<_-j;omega),?_⟩;(conv=>whnf);refine⟨?_,?_,?_⟩<;>repeat(first|exact trivial|refine sc rfl ?_|refine kn ?_|refine kc rfl ?_|refine sc (by rfl) ?_|refine kc (by rfl) ?_))
 ·conv=>whnf
  repeat(any_goals(first|exact ab|(refine ap ?_ ?_<;>intro _<;>first|exact aq|conv=>whnf)|((first|refine ag hx rfl ?_|refine ac ?_|refine bi ?_ ?_|intro _)<;>conv=>whnf)))
  all_goals(try(first|exact absurd hjI (by assumption)|exact absurd hz (by assumption)|exact absurd (by assumption) hz|exact absurd (by assumption) q2))
  all_goals(refine⟨⟨j+1,ks,[v0,2+1,v2,v3,v4,v5]⟩,⟨⟨by show j+1≤_;omega,by show ks.length≤j+1;omega,rfl⟩,HK,HD⟩,(by show _-(j+1)<_-j;omega),?_⟩;(conv=>whnf);refine⟨?_,?_,?_⟩<;>repeat(first|exact trivial|refine sc rfl ?_|refine kn ?_|refine kc rfl ?_|refine sc (by rfl) ?_|refine kc (by rfl) ?_))
 ·conv=>whnf
  repeat(any_goals(first|exact ab|(refine ap ?_ ?_<;>intro _<;>first|exact aq|conv=>whnf)|((first|refine ag hx rfl ?_|refine ac ?_|refine bi ?_ ?_|intro _)<;>conv=>whnf)))
  all_goals(try(first|exact absurd hjI (by assumption)|exact absurd hz (by assumption)|exact absurd (by assumption) hz|exact absurd (by assumption) q2))
  all_goals(refine⟨⟨j+1,ks,[v0,v1,2+1,v3,v4,v5]⟩,⟨⟨by show j+1≤_;omega,by show ks.length≤j+1;omega,rfl⟩,HK,HD⟩,(by show _-(j+1)<_-j;omega),?_⟩;(conv=>whnf);refine⟨?_,?_,?_⟩<;>repeat(first|exact trivial|refine sc rfl ?_|refine kn ?_|refine kc rfl ?_|refine sc (by rfl) ?_|refine kc (by rfl) ?_))
 ·conv=>whnf
  repeat(any_goals(first|exact ab|(refine ap ?_ ?_<;>intro _<;>first|exact aq|conv=>whnf)|((first|refine ag hx rfl ?_|refine ac ?_|refine bi ?_ ?_|intro _)<;>conv=>whnf)))
  all_goals(try(first|exact absurd hjI (by assumption)|exact absurd hz (by assumption)|exact absurd (by assumption) hz|exact absurd (by assumption) q2))
  all_goals(refine⟨⟨j+1,ks,[v0,v1,v2,2+1,v4,v5]⟩,⟨⟨by show j+1≤_;omega,by show ks.length≤j+1;omega,rfl⟩,HK,HD⟩,(by show _-(j+1)<_-j;omega),?_⟩;(conv=>whnf);refine⟨?_,?_,?_⟩<;>repeat(first|exact trivial|refine sc rfl ?_|refine kn ?_|refine kc rfl ?_|refine sc (by rfl) ?_|refine kc (by rfl) ?_))
 ·conv=>whnf
  repeat(any_goals(first|exact ab|(refine ap ?_ ?_<;>intro _<;>first|exact aq|conv=>whnf)|((first|refine ag hx rfl ?_|refine ac ?_|refine bi ?_ ?_|intro _)<;>conv=>whnf)))
  all_goals(try(first|exact absurd hjI (by assumption)|exact absurd hz (by assumption)|exact absurd (by assumption) hz|exact absurd (by assumption) q2))
  all_goals(refine⟨⟨j+1,ks,[v0,v1,v2,v3,2+1,v5]⟩,⟨⟨by show j+1≤_;omega,by show ks.length≤j+1;omega,rfl⟩,HK,HD⟩,(by show _-(j+1)<_-j;omega),?_⟩;(conv=>whnf);refine⟨?_,?_,?_⟩<;>repeat(first|exact trivial|refine sc rfl ?_|refine kn ?_|refine kc rfl ?_|refine sc (by rfl) ?_|refine kc (by rfl) ?_))
 ·conv=>whnf
  repeat(any_goals(first|exact ab|(refine ap ?_ ?_<;>intro _<;>first|exact aq|conv=>whnf)|((first|refine ag hx rfl ?_|refine ac ?_|refine bi ?_ ?_|intro _)<;>conv=>whnf)))
  all_goals(try(first|exact absurd hjI (by assumption)|exact absurd hz (by assumption)|exact absurd (by assumption) hz|exact absurd (by assumption) q2))
  all_goals(refine⟨⟨j+1,ks,[v0,v1,v2,v3,v4,2+1]⟩,⟨⟨by show j+1≤_;omega,by show ks.length≤j+1;omega,rfl⟩,HK,HD⟩,(by show _-(j+1)<_-j;omega),?_⟩;(conv=>whnf);refine⟨?_,?_,?_⟩<;>repeat(first|exact trivial|refine sc rfl ?_|refine kn ?_|refine kc rfl ?_|refine sc (by rfl) ?_|refine kc (by rfl) ?_))
end Go.Proofs.YtgncapdjheghfaaGreatDoor
namespace Go.Proofs.YtgncapdjheghfaaGreatDoor
open Go.Am Go.Proofs Go
set_option maxHeartbeats 8000000 in
theorem KZ(s S:Bill)(hg:s.Good)(hSg:S.Good)(ts:List Int)(c:List Ent)(hok:∀x∈c,s.OkE x)(h6:c.length≤6)(K D:List Int)(j:Nat)(ks:List Int)(v0 v1 v2 v3 v4 v5:Int)
  (hkl:ks.length≤j) (HK:K=ks++bG S j (c.drop j)) (HD:D=jh [v0,v1,v2,v3,v4,v5] (c.drop j)) (sy xa xb:Int) (hx:c[j]?=some ⟨sy,xa,xb⟩) (q2:¬sy=2):SdR s S ts c K D ⟨j,ks,[v0,v1,v2,v3,v4,v5]⟩:=by
 have hjl:j<c.length:=(List.getElem?_eq_some_iff.1 hx).1
 have hd:c.drop j=⟨sy,xa,xb⟩::c.drop (j+1):=by rw[List.drop_eq_getElem_cons hjl,(List.getElem?_eq_some_iff.1 hx).2]
 have hsz:=fun n hn=>IK hSg n hn
 have hcl:(c.map bB).length=c.length:=List.length_map ..
 have hkm:(ks.map aj).length=ks.length:=List.length_map ..
 unfold fc lm at hsz
 rw[hd,dp]at HK
 rw[hd,fT]at HD
 have hxo:=hok _ (List.mem_of_getElem? hx)
 have hxa:=hxo.a
 have hxs:=hxo.says
 have hfl6:=hg.len
 simp only at hxa hxs HK HD
 have hz:=hsz xa.toNat (by omega)
 rw[Int.toNat_of_nonneg hxa.1]at hz
 clear hsz hg hSg hok
 have hjI:(j:Int)<((c.map bB).length:Nat):=by omega
 intro Q
 rw[if_neg (fun h=>q2 h.1)]at HK
 clear hz
 rcases(by omega:xa=0∨xa=1∨xa=2∨xa=3∨xa=4∨xa=5)with rfl|rfl|rfl|rfl|rfl|rfl
 ·conv=>whnf
  repeat(any_goals(first|exact ab|(refine ap ?_ ?_<;>intro _<;>first|exact aq|conv=>whnf)|((first|refine ag hx rfl ?_|refine ac ?_|refine bi ?_ ?_|intro _)<;>conv=>whnf)))
  all_goals(try(first|exact absurd hjI (by assumption)|exact absurd hz (by assumption)|exact absurd (by assumption) hz|exact absurd (by assumption) q2))
  all_goals(refine⟨⟨j+1,ks,[sy+1,v1,v2,v3,v4,v5]⟩,⟨⟨by show j+1≤_;omega,by show ks.length≤j+1;omega,rfl⟩,HK,HD⟩,(by show _-(j+1)<_-j;omega),?_⟩;(conv=>whnf);refine⟨?_,?_,?_⟩<;>repeat(first|exact trivial|refine sc rfl ?_|refine kn ?_|refine kc rfl ?_|refine sc (by rfl) ?_|refine kc (by rfl) ?_))
 ·conv=>whnf
  repeat(any_goals(first|exact ab|(refine ap ?_ ?_<;>intro _<;>first|exact aq|conv=>whnf)|((first|refine ag hx rfl ?_|refine ac ?_|refine bi ?_ ?_|intro _)<;>conv=>whnf)))
  all_goals(try(first|exact absurd hjI (by assumption)|exact absurd hz (by assumption)|exact absurd (by assumption) hz|exact absurd (by assumption) q2))
  all_goals(refine⟨⟨j+1,ks,[v0,sy+1,v2,v3,v4,v5]⟩,⟨⟨by show j+1≤_;omega,by show ks.length≤j+1;omega,rfl⟩,HK,HD⟩,(by show _-(j+1)<_-j;omega),?_⟩;(conv=>whnf);refine⟨?_,?_,?_⟩<;>repeat(first|exact trivial|refine sc rfl ?_|refine kn ?_|refine kc rfl ?_|refine sc (by rfl) ?_|refine kc (by rfl) ?_))
 ·conv=>whnf
  repeat(any_goals(first|exact ab|(refine ap ?_ ?_<;>intro _<;>first|exact aq|conv=>whnf)|((first|refine ag hx rfl ?_|refine ac ?_|refine bi ?_ ?_|intro _)<;>conv=>whnf)))
  all_goals(try(first|exact absurd hjI (by assumption)|exact absurd hz (by assumption)|exact absurd (by assumption) hz|exact absurd (by assumption) q2))
  all_goals(refine⟨⟨j+1,ks,[v0,v1,sy+1,v3,v4,v5]⟩,⟨⟨by show j+1≤_;omega,by show ks.length≤j+1;omega,rfl⟩,HK,HD⟩,(by show _-(j+1)<_-j;omega),?_⟩;(conv=>whnf);refine⟨?_,?_,?_⟩<;>repeat(first|exact trivial|refine sc rfl ?_|refine kn ?_|refine kc rfl ?_|refine sc (by rfl) ?_|refine kc (by rfl) ?_))
 ·conv=>whnf
  repeat(any_goals(first|exact ab|(refine ap ?_ ?_<;>intro _<;>first|exact aq|conv=>whnf)|((first|refine ag hx rfl ?_|refine ac ?_|refine bi ?_ ?_|intro _)<;>conv=>whnf)))
  all_goals(try(first|exact absurd hjI (by assumption)|exact absurd hz (by assumption)|exact absurd (by assumption) hz|exact absurd (by assumption) q2))
  all_goals(refine⟨⟨j+1,ks,[v0,v1,v2,sy+1,v4,v5]⟩,⟨⟨by show j+1≤_;omega,by show ks.length≤j+1;omega,rfl⟩,HK,HD⟩,(by show _-(j+1)<_-j;omega),?_⟩;(conv=>whnf);refine⟨?_,?_,?_⟩<;>repeat(first|exact trivial|refine sc rfl ?_|refine kn ?_|refine kc rfl ?_|refine sc (by rfl) ?_|refine kc (by rfl) ?_))
 ·conv=>whnf
  repeat(any_goals(first|exact ab|(refine ap ?_ ?_<;>intro _<;>first|exact aq|conv=>whnf)|((first|refine ag hx rfl ?_|refine ac ?_|refine bi ?_ ?_|intro _)<;>conv=>whnf)))
  all_goals(try(first|exact absurd hjI (by assumption)|exact absurd hz (by assumption)|exact absurd (by assumption) hz|exact absurd (by assumption) q2))
  all_goals(refine⟨⟨j+1,ks,[v0,v1,v2,v3,sy+1,v5]⟩,⟨⟨by show j+1≤_;omega,by show ks.length≤j+1;omega,rfl⟩,HK,HD⟩,(by show _-(j+1)<_-j;omega),?_⟩;(conv=>whnf);refine⟨?_,?_,?_⟩<;>repeat(first|exact trivial|refine sc rfl ?_|refine kn ?_|refine kc rfl ?_|refine sc (by rfl) ?_|refine kc (by rfl) ?_))
 ·conv=>whnf
  repeat(any_goals(first|exact ab|(refine ap ?_ ?_<;>intro _<;>first|exact aq|conv=>whnf)|((first|refine ag hx rfl ?_|refine ac ?_|refine bi ?_ ?_|intro _)<;>conv=>whnf)))
  all_goals(try(first|exact absurd hjI (by assumption)|exact absurd hz (by assumption)|exact absurd (by assumption) hz|exact absurd (by assumption) q2))
  all_goals(refine⟨⟨j+1,ks,[v0,v1,v2,v3,v4,sy+1]⟩,⟨⟨by show j+1≤_;omega,by show ks.length≤j+1;omega,rfl⟩,HK,HD⟩,(by show _-(j+1)<_-j;omega),?_⟩;(conv=>whnf);refine⟨?_,?_,?_⟩<;>repeat(first|exact trivial|refine sc rfl ?_|refine kn ?_|refine kc rfl ?_|refine sc (by rfl) ?_|refine kc (by rfl) ?_))
end Go.Proofs.YtgncapdjheghfaaGreatDoor
namespace Go.Proofs.YtgncapdjheghfaaGreatDoor
open Go.Am Go.Proofs Go
def suS(s S:Bill)(ts:List Int)(K D:List Int)(u:SuSt):SS :=
 HH [(107,aj u.i),(7,.slice 1 (u.us.map aj) (.own Jl 1))] [] [(Jl,some (1,u.us.length))] [cxS.key 128] [cxS.key 128] (Lh s K) (Lg s S ts D) (Li K)
def SuI(s S:Bill)(D U:List Int)(u:SuSt):Prop:=(u.i≤s.figs.length∧u.us.length≤u.i)∧U=u.us++cM S D (s.figs.length-u.i) u.i
def SuR(s S:Bill)(ts:List Int)(K D U:List Int)(u:SuSt):Prop :=
 ∀Q:Exit→SS→Prop,eT Tryz.prog tab cxS Tryz.f36.ntmps suB
  (ut (fun ss'=>∃a':SuSt,SuI s S D U a'∧s.figs.length-a'.i<s.figs.length-u.i∧uA ss' (suS s S ts K D a')) Q) (suS s S ts K D u)
theorem dV(v:Int):eqL [.int .i64 v,.int .i64 0,.int .i64 0] [.int .i64 1,.int .i64 0,.int .i64 0]=decide (v=1):=by
 rw[Bool.eq_iff_iff]
 simp[eqL,eqC]
end Go.Proofs.YtgncapdjheghfaaGreatDoor
namespace Go.Proofs.YtgncapdjheghfaaGreatDoor
open Go.Am Go.Proofs Go
set_option maxHeartbeats 8000000 in
theorem K3(s S:Bill)(hg:s.Good)(hSg:S.Good)(ts:List Int)(K U:List Int)(i:Nat)(us:List Int)(v0 v1 v2 v3 v4 v5:Int)
  (hul:us.length≤i) (hi:i<s.figs.length) (HU:U=us++cM S [v0,v1,v2,v3,v4,v5] (s.figs.length-i) i) (hA:S.inAll i=true) (hV:¬ [v0,v1,v2,v3,v4,v5].getD i 0=1):SuR s S ts K [v0,v1,v2,v3,v4,v5] U ⟨i,us⟩:=by
 have hz:=w8 S i (by have:=hg.len;omega)
 have hfl6:=hg.len
 have hcl:(s.figs.map cD).length=s.figs.length:=List.length_map ..
 have hkm:(us.map aj).length=us.length:=List.length_map ..
 obtain⟨f,hf⟩:∃f,s.figs.length-i=f+1:=⟨s.figs.length-i-1,by omega⟩
 have hf2:s.figs.length-(i+1)=f:=by omega
 rw[hf,ei,if_pos ⟨hA,hV⟩]at HU
 unfold fc lm at hz
 have hq0:=dV v0
 have hq1:=dV v1
 have hq2:=dV v2
 have hq3:=dV v3
 have hq4:=dV v4
 have hq5:=dV v5
 have hjI:(i:Int)<((s.figs.map cD).length:Nat):=by omega
 clear hSg hg hf
 intro Q
 rw[hA,decide_eq_true_eq]at hz
 have hH:U=(us++[(i:Int)])++cM S [v0,v1,v2,v3,v4,v5] (s.figs.length-(i+1)) (i+1):=by rw[HU,hf2];simp
 clear HU hf2
 rcases(by omega:i=0∨i=1∨i=2∨i=3∨i=4∨i=5)with rfl|rfl|rfl|rfl|rfl|rfl
 ·have hv:¬v0=1:=hV
  rw[decide_eq_false hv]at hq0
  have hqn:(!eqL [.int .i64 v0,.int .i64 0,.int .i64 0] [.int .i64 1,.int .i64 0,.int .i64 0])=true:=by rw[hq0];rfl
  conv=>whnf
  repeat(any_goals(first|exact ab|(refine ap ?_ ?_<;>intro _<;>first|exact aq|conv=>whnf)|((first|refine cg hqn ?_|refine co hq0 ?_|refine ac ?_|refine bi ?_ ?_|intro _)<;>conv=>whnf)))
  all_goals(try(first|exact absurd hjI (by assumption)|exact absurd hz (by assumption)|exact absurd (by assumption) hz))
  all_goals(refine⟨⟨0+1,us++[((0:Nat):Int)]⟩,⟨⟨by show 0+1≤_;omega,by show(us++[((0:Nat):Int)]).length≤0+1;rw[List.length_append];simp only[List.length_cons,List.length_nil];omega⟩,hH⟩,(by show _-(0+1)<_-0;omega),?_⟩;(conv=>whnf);refine⟨?_,?_,?_⟩<;>repeat(first|exact trivial|refine sc rfl ?_|refine kn ?_|refine kc rfl ?_|refine sc (by first|(show some (AV.slice 1 (us.map aj++[aj ((0:Nat):Int)]) _)=some (AV.slice 1 ((us++[((0:Nat):Int)]).map aj) _);rw[List.map_append];rfl)|(show some (some (1,(us.map aj).length+1))=some (some (1,(us++[((0:Nat):Int)]).length));rw[hkm,List.length_append];rfl)) ?_|refine kc (by first|(show some (AV.slice 1 (us.map aj++[aj ((0:Nat):Int)]) _)=some (AV.slice 1 ((us++[((0:Nat):Int)]).map aj) _);rw[List.map_append];rfl)|(show some (some (1,(us.map aj).length+1))=some (some (1,(us++[((0:Nat):Int)]).length));rw[hkm,List.length_append];rfl)) ?_))
 ·have hv:¬v1=1:=hV
  rw[decide_eq_false hv]at hq1
  have hqn:(!eqL [.int .i64 v1,.int .i64 0,.int .i64 0] [.int .i64 1,.int .i64 0,.int .i64 0])=true:=by rw[hq1];rfl
  conv=>whnf
  repeat(any_goals(first|exact ab|(refine ap ?_ ?_<;>intro _<;>first|exact aq|conv=>whnf)|((first|refine cg hqn ?_|refine co hq1 ?_|refine ac ?_|refine bi ?_ ?_|intro _)<;>conv=>whnf)))
  all_goals(try(first|exact absurd hjI (by assumption)|exact absurd hz (by assumption)|exact absurd (by assumption) hz))
  all_goals(refine⟨⟨1+1,us++[((1:Nat):Int)]⟩,⟨⟨by show 1+1≤_;omega,by show(us++[((1:Nat):Int)]).length≤1+1;rw[List.length_append];simp only[List.length_cons,List.length_nil];omega⟩,hH⟩,(by show _-(1+1)<_-1;omega),?_⟩;(conv=>whnf);refine⟨?_,?_,?_⟩<;>repeat(first|exact trivial|refine sc rfl ?_|refine kn ?_|refine kc rfl ?_|refine sc (by first|(show some (AV.slice 1 (us.map aj++[aj ((1:Nat):Int)]) _)=some (AV.slice 1 ((us++[((1:Nat):Int)]).map aj) _);rw[List.map_append];rfl)|(show some (some (1,(us.map aj).length+1))=some (some (1,(us++[((1:Nat):Int)]).length));rw[hkm,List.length_append];rfl)) ?_|refine kc (by first|(show some (AV.slice 1 (us.map aj++[aj ((1:Nat):Int)]) _)=some (AV.slice 1 ((us++[((1:Nat):Int)]).map aj) _);rw[List.map_append];rfl)|(show some (some (1,(us.map aj).length+1))=some (some (1,(us++[((1:Nat):Int)]).length));rw[hkm,List.length_append];rfl)) ?_))
 ·have hv:¬v2=1:=hV
  rw[decide_eq_false hv]at hq2
  have hqn:(!eqL [.int .i64 v2,.int .i64 0,.int .i64 0] [.int .i64 1,.int .i64 0,.int .i64 0])=true:=by rw[hq2];rfl
  conv=>whnf
  repeat(any_goals(first|exact ab|(refine ap ?_ ?_<;>intro _<;>first|exact aq|conv=>whnf)|((first|refine cg hqn ?_|refine co hq2 ?_|refine ac ?_|refine bi ?_ ?_|intro _)<;>conv=>whnf)))
  all_goals(try(first|exact absurd hjI (by assumption)|exact absurd hz (by assumption)|exact absurd (by assumption) hz))
  all_goals(refine⟨⟨2+1,us++[((2:Nat):Int)]⟩,⟨⟨by show 2+1≤_;omega,by show(us++[((2:Nat):Int)]).length≤2+1;rw[List.length_append];simp only[List.length_cons,List.length_nil];omega⟩,hH⟩,(by show _-(2+1)<_-2;omega),?_⟩;(conv=>whnf);refine⟨?_,?_,?_⟩<;>repeat(first|exact trivial|refine sc rfl ?_|refine kn ?_|refine kc rfl ?_|refine sc (by first|(show some (AV.slice 1 (us.map aj++[aj ((2:Nat):Int)]) _)=some (AV.slice 1 ((us++[((2:Nat):Int)]).map aj) _);rw[List.map_append];rfl)|(show some (some (1,(us.map aj).length+1))=some (some (1,(us++[((2:Nat):Int)]).length));rw[hkm,List.length_append];rfl)) ?_|refine kc (by first|(show some (AV.slice 1 (us.map aj++[aj ((2:Nat):Int)]) _)=some (AV.slice 1 ((us++[((2:Nat):Int)]).map aj) _);rw[List.map_append];rfl)|(show some (some (1,(us.map aj).length+1))=some (some (1,(us++[((2:Nat):Int)]).length));rw[hkm,List.length_append];rfl)) ?_))
 ·have hv:¬v3=1:=hV
  rw[decide_eq_false hv]at hq3
  have hqn:(!eqL [.int .i64 v3,.int .i64 0,.int .i64 0] [.int .i64 1,.int .i64 0,.int .i64 0])=true:=by rw[hq3];rfl
  conv=>whnf
  repeat(any_goals(first|exact ab|(refine ap ?_ ?_<;>intro _<;>first|exact aq|conv=>whnf)|((first|refine cg hqn ?_|refine co hq3 ?_|refine ac ?_|refine bi ?_ ?_|intro _)<;>conv=>whnf)))
  all_goals(try(first|exact absurd hjI (by assumption)|exact absurd hz (by assumption)|exact absurd (by assumption) hz))
  all_goals(refine⟨⟨3+1,us++[((3:Nat):Int)]⟩,⟨⟨by show 3+1≤_;omega,by show(us++[((3:Nat):Int)]).length≤3+1;rw[List.length_append];simp only[List.length_cons,List.length_nil];omega⟩,hH⟩,(by show _-(3+1)<_-3;omega),?_⟩;(conv=>whnf);refine⟨?_,?_,?_⟩<;>repeat(first|exact trivial|refine sc rfl ?_|refine kn ?_|refine kc rfl ?_|refine sc (by first|(show some (AV.slice 1 (us.map aj++[aj ((3:Nat):Int)]) _)=some (AV.slice 1 ((us++[((3:Nat):Int)]).map aj) _);rw[List.map_append];rfl)|(show some (some (1,(us.map aj).length+1))=some (some (1,(us++[((3:Nat):Int)]).length));rw[hkm,List.length_append];rfl)) ?_|refine kc (by first|(show some (AV.slice 1 (us.map aj++[aj ((3:Nat):Int)]) _)=some (AV.slice 1 ((us++[((3:Nat):Int)]).map aj) _);rw[List.map_append];rfl)|(show some (some (1,(us.map aj).length+1))=some (some (1,(us++[((3:Nat):Int)]).length));rw[hkm,List.length_append];rfl)) ?_))
 ·have hv:¬v4=1:=hV
  rw[decide_eq_false hv]at hq4
  have hqn:(!eqL [.int .i64 v4,.int .i64 0,.int .i64 0] [.int .i64 1,.int .i64 0,.int .i64 0])=true:=by rw[hq4];rfl
  conv=>whnf
  repeat(any_goals(first|exact ab|(refine ap ?_ ?_<;>intro _<;>first|exact aq|conv=>whnf)|((first|refine cg hqn ?_|refine co hq4 ?_|refine ac ?_|refine bi ?_ ?_|intro _)<;>conv=>whnf)))
  all_goals(try(first|exact absurd hjI (by assumption)|exact absurd hz (by assumption)|exact absurd (by assumption) hz))
  all_goals(refine⟨⟨4+1,us++[((4:Nat):Int)]⟩,⟨⟨by show 4+1≤_;omega,by show(us++[((4:Nat):Int)]).length≤4+1;rw[List.length_append];simp only[List.length_cons,List.length_nil];omega⟩,hH⟩,(by show _-(4+1)<_-4;omega),?_⟩;(conv=>whnf);refine⟨?_,?_,?_⟩<;>repeat(first|exact trivial|refine sc rfl ?_|refine kn ?_|refine kc rfl ?_|refine sc (by first|(show some (AV.slice 1 (us.map aj++[aj ((4:Nat):Int)]) _)=some (AV.slice 1 ((us++[((4:Nat):Int)]).map aj) _);rw[List.map_append];rfl)|(show some (some (1,(us.map aj).length+1))=some (some (1,(us++[((4:Nat):Int)]).length));rw[hkm,List.length_append];rfl)) ?_|refine kc (by first|(show some (AV.slice 1 (us.map aj++[aj ((4:Nat):Int)]) _)=some (AV.slice 1 ((us++[((4:Nat):Int)]).map aj) _);rw[List.map_append];rfl)|(show some (some (1,(us.map aj).length+1))=some (some (1,(us++[((4:Nat):Int)]).length));rw[hkm,List.length_append];rfl)) ?_))
 ·have hv:¬v5=1:=hV
  rw[decide_eq_false hv]at hq5
  have hqn:(!eqL [.int .i64 v5,.int .i64 0,.int .i64 0] [.int .i64 1,.int .i64 0,.int .i64 0])=true:=by rw[hq5];rfl
  conv=>whnf
  repeat(any_goals(first|exact ab|(refine ap ?_ ?_<;>intro _<;>first|exact aq|conv=>whnf)|((first|refine cg hqn ?_|refine co hq5 ?_|refine ac ?_|refine bi ?_ ?_|intro _)<;>conv=>whnf)))
  all_goals(try(first|exact absurd hjI (by assumption)|exact absurd hz (by assumption)|exact absurd (by assumption) hz))
  all_goals(refine⟨⟨5+1,us++[((5:Nat):Int)]⟩,⟨⟨by show 5+1≤_;omega,by show(us++[((5:Nat):Int)]).length≤5+1;rw[List.length_append];simp only[List.length_cons,List.length_nil];omega⟩,hH⟩,(by show _-(5+1)<_-5;omega),?_⟩;(conv=>whnf);refine⟨?_,?_,?_⟩<;>repeat(first|exact trivial|refine sc rfl ?_|refine kn ?_|refine kc rfl ?_|refine sc (by first|(show some (AV.slice 1 (us.map aj++[aj ((5:Nat):Int)]) _)=some (AV.slice 1 ((us++[((5:Nat):Int)]).map aj) _);rw[List.map_append];rfl)|(show some (some (1,(us.map aj).length+1))=some (some (1,(us++[((5:Nat):Int)]).length));rw[hkm,List.length_append];rfl)) ?_|refine kc (by first|(show some (AV.slice 1 (us.map aj++[aj ((5:Nat):Int)]) _)=some (AV.slice 1 ((us++[((5:Nat):Int)]).map aj) _);rw[List.map_append];rfl)|(show some (some (1,(us.map aj).length+1))=some (some (1,(us++[((5:Nat):Int)]).length));rw[hkm,List.length_append];rfl)) ?_))
end Go.Proofs.YtgncapdjheghfaaGreatDoor
namespace Go.Proofs.YtgncapdjheghfaaGreatDoor
open Go.Am Go.Proofs Go
set_option maxHeartbeats 8000000 in
theorem K4(s S:Bill)(hg:s.Good)(hSg:S.Good)(ts:List Int)(K U:List Int)(i:Nat)(us:List Int)(v0 v1 v2 v3 v4 v5:Int)
  (hul:us.length≤i) (hi:i<s.figs.length) (HU:U=us++cM S [v0,v1,v2,v3,v4,v5] (s.figs.length-i) i) (hA:S.inAll i=true) (hV:[v0,v1,v2,v3,v4,v5].getD i 0=1):SuR s S ts K [v0,v1,v2,v3,v4,v5] U ⟨i,us⟩:=by
 have hz:=w8 S i (by have:=hg.len;omega)
 have hfl6:=hg.len
 have hcl:(s.figs.map cD).length=s.figs.length:=List.length_map ..
 have hkm:(us.map aj).length=us.length:=List.length_map ..
 obtain⟨f,hf⟩:∃f,s.figs.length-i=f+1:=⟨s.figs.length-i-1,by omega⟩
 have hf2:s.figs.length-(i+1)=f:=by omega
 rw[hf,ei,if_neg (fun h=>h.2 hV)]at HU
 unfold fc lm at hz
 have hq0:=dV v0
 have hq1:=dV v1
 have hq2:=dV v2
 have hq3:=dV v3
 have hq4:=dV v4
 have hq5:=dV v5
 have hjI:(i:Int)<((s.figs.map cD).length:Nat):=by omega
 clear hSg hg hf
 intro Q
 rw[hA,decide_eq_true_eq]at hz
 have hH:U=us++cM S [v0,v1,v2,v3,v4,v5] (s.figs.length-(i+1)) (i+1):=by rw[HU,hf2]
 clear HU hf2
 rcases(by omega:i=0∨i=1∨i=2∨i=3∨i=4∨i=5)with rfl|rfl|rfl|rfl|rfl|rfl
 ·have hv:v0=1:=hV
  rw[decide_eq_true hv]at hq0
  have hqn:(!eqL [.int .i64 v0,.int .i64 0,.int .i64 0] [.int .i64 1,.int .i64 0,.int .i64 0])=false:=by rw[hq0];rfl
  conv=>whnf
  repeat(any_goals(first|exact ab|(refine ap ?_ ?_<;>intro _<;>first|exact aq|conv=>whnf)|((first|refine co hqn ?_|refine cg hq0 ?_|refine ac ?_|refine bi ?_ ?_|intro _)<;>conv=>whnf)))
  all_goals(try(first|exact absurd hjI (by assumption)|exact absurd hz (by assumption)|exact absurd (by assumption) hz))
  all_goals(refine⟨⟨0+1,us⟩,⟨⟨by show 0+1≤_;omega,by show us.length≤0+1;omega⟩,hH⟩,(by show _-(0+1)<_-0;omega),?_⟩;(conv=>whnf);refine⟨?_,?_,?_⟩<;>repeat(first|exact trivial|refine sc rfl ?_|refine kn ?_|refine kc rfl ?_|refine sc (by rfl) ?_|refine kc (by rfl) ?_))
 ·have hv:v1=1:=hV
  rw[decide_eq_true hv]at hq1
  have hqn:(!eqL [.int .i64 v1,.int .i64 0,.int .i64 0] [.int .i64 1,.int .i64 0,.int .i64 0])=false:=by rw[hq1];rfl
  conv=>whnf
  repeat(any_goals(first|exact ab|(refine ap ?_ ?_<;>intro _<;>first|exact aq|conv=>whnf)|((first|refine co hqn ?_|refine cg hq1 ?_|refine ac ?_|refine bi ?_ ?_|intro _)<;>conv=>whnf)))
  all_goals(try(first|exact absurd hjI (by assumption)|exact absurd hz (by assumption)|exact absurd (by assumption) hz))
  all_goals(refine⟨⟨1+1,us⟩,⟨⟨by show 1+1≤_;omega,by show us.length≤1+1;omega⟩,hH⟩,(by show _-(1+1)<_-1;omega),?_⟩;(conv=>whnf);refine⟨?_,?_,?_⟩<;>repeat(first|exact trivial|refine sc rfl ?_|refine kn ?_|refine kc rfl ?_|refine sc (by rfl) ?_|refine kc (by rfl) ?_))
 ·have hv:v2=1:=hV
  rw[decide_eq_true hv]at hq2
  have hqn:(!eqL [.int .i64 v2,.int .i64 0,.int .i64 0] [.int .i64 1,.int .i64 0,.int .i64 0])=false:=by rw[hq2];rfl
  conv=>whnf
  repeat(any_goals(first|exact ab|(refine ap ?_ ?_<;>intro _<;>first|exact aq|conv=>whnf)|((first|refine co hqn ?_|refine cg hq2 ?_|refine ac ?_|refine bi ?_ ?_|intro _)<;>conv=>whnf)))
  all_goals(try(first|exact absurd hjI (by assumption)|exact absurd hz (by assumption)|exact absurd (by assumption) hz))
  all_goals(refine⟨⟨2+1,us⟩,⟨⟨by show 2+1≤_;omega,by show us.length≤2+1;omega⟩,hH⟩,(by show _-(2+1)<_-2;omega),?_⟩;(conv=>whnf);refine⟨?_,?_,?_⟩<;>repeat(first|exact trivial|refine sc rfl ?_|refine kn ?_|refine kc rfl ?_|refine sc (by rfl) ?_|refine kc (by rfl) ?_))
 ·have hv:v3=1:=hV
  rw[decide_eq_true hv]at hq3
  have hqn:(!eqL [.int .i64 v3,.int .i64 0,.int .i64 0] [.int .i64 1,.int .i64 0,.int .i64 0])=false:=by rw[hq3];rfl
  conv=>whnf
  repeat(any_goals(first|exact ab|(refine ap ?_ ?_<;>intro _<;>first|exact aq|conv=>whnf)|((first|refine co hqn ?_|refine cg hq3 ?_|refine ac ?_|refine bi ?_ ?_|intro _)<;>conv=>whnf)))
  all_goals(try(first|exact absurd hjI (by assumption)|exact absurd hz (by assumption)|exact absurd (by assumption) hz))
  all_goals(refine⟨⟨3+1,us⟩,⟨⟨by show 3+1≤_;omega,by show us.length≤3+1;omega⟩,hH⟩,(by show _-(3+1)<_-3;omega),?_⟩;(conv=>whnf);refine⟨?_,?_,?_⟩<;>repeat(first|exact trivial|refine sc rfl ?_|refine kn ?_|refine kc rfl ?_|refine sc (by rfl) ?_|refine kc (by rfl) ?_))
 ·have hv:v4=1:=hV
  rw[decide_eq_true hv]at hq4
  have hqn:(!eqL [.int .i64 v4,.int .i64 0,.int .i64 0] [.int .i64 1,.int .i64 0,.int .i64 0])=false:=by rw[hq4];rfl
  conv=>whnf
  repeat(any_goals(first|exact ab|(refine ap ?_ ?_<;>intro _<;>first|exact aq|conv=>whnf)|((first|refine co hqn ?_|refine cg hq4 ?_|refine ac ?_|refine bi ?_ ?_|intro _)<;>conv=>whnf)))
  all_goals(try(first|exact absurd hjI (by assumption)|exact absurd hz (by assumption)|exact absurd (by assumption) hz))
  all_goals(refine⟨⟨4+1,us⟩,⟨⟨by show 4+1≤_;omega,by show us.length≤4+1;omega⟩,hH⟩,(by show _-(4+1)<_-4;omega),?_⟩;(conv=>whnf);refine⟨?_,?_,?_⟩<;>repeat(first|exact trivial|refine sc rfl ?_|refine kn ?_|refine kc rfl ?_|refine sc (by rfl) ?_|refine kc (by rfl) ?_))
 ·have hv:v5=1:=hV
  rw[decide_eq_true hv]at hq5
  have hqn:(!eqL [.int .i64 v5,.int .i64 0,.int .i64 0] [.int .i64 1,.int .i64 0,.int .i64 0])=false:=by rw[hq5];rfl
  conv=>whnf
  repeat(any_goals(first|exact ab|(refine ap ?_ ?_<;>intro _<;>first|exact aq|conv=>whnf)|((first|refine co hqn ?_|refine cg hq5 ?_|refine ac ?_|refine bi ?_ ?_|intro _)<;>conv=>whnf)))
  all_goals(try(first|exact absurd hjI (by assumption)|exact absurd hz (by assumption)|exact absurd (by assumption) hz))
  all_goals(refine⟨⟨5+1,us⟩,⟨⟨by show 5+1≤_;omega,by show us.length≤5+1;omega⟩,hH⟩,(by show _-(5+1)<_-5;omega),?_⟩;(conv=>whnf);refine⟨?_,?_,?_⟩<;>repeat(first|exact trivial|refine sc rfl ?_|refine kn ?_|refine kc rfl ?_|refine sc (by rfl) ?_|refine kc (by rfl) ?_))
end Go.Proofs.YtgncapdjheghfaaGreatDoor
namespace Go.Proofs.YtgncapdjheghfaaGreatDoor
open Go.Am Go.Proofs Go
set_option maxHeartbeats 8000000 in
theorem K5(s S:Bill)(hg:s.Good)(hSg:S.Good)(ts:List Int)(K U:List Int)(i:Nat)(us:List Int)(v0 v1 v2 v3 v4 v5:Int)
  (hul:us.length≤i) (hi:i<s.figs.length) (HU:U=us++cM S [v0,v1,v2,v3,v4,v5] (s.figs.length-i) i) (hA:¬S.inAll i=true):SuR s S ts K [v0,v1,v2,v3,v4,v5] U ⟨i,us⟩:=by
 have hz:=w8 S i (by have:=hg.len;omega)
 have hfl6:=hg.len
 have hcl:(s.figs.map cD).length=s.figs.length:=List.length_map ..
 have hkm:(us.map aj).length=us.length:=List.length_map ..
 obtain⟨f,hf⟩:∃f,s.figs.length-i=f+1:=⟨s.figs.length-i-1,by omega⟩
 have hf2:s.figs.length-(i+1)=f:=by omega
 rw[hf,ei,if_neg (fun h=>hA h.1)]at HU
 unfold fc lm at hz
 have hq0:=dV v0
 have hq1:=dV v1
 have hq2:=dV v2
 have hq3:=dV v3
 have hq4:=dV v4
 have hq5:=dV v5
 have hjI:(i:Int)<((s.figs.map cD).length:Nat):=by omega
 clear hSg hg hf
 intro Q
 rw[Bool.eq_false_iff.2 hA,decide_eq_false_iff_not]at hz
 have hH:U=us++cM S [v0,v1,v2,v3,v4,v5] (s.figs.length-(i+1)) (i+1):=by rw[HU,hf2]
 clear HU hf2
 rcases(by omega:i=0∨i=1∨i=2∨i=3∨i=4∨i=5)with rfl|rfl|rfl|rfl|rfl|rfl
 ·conv=>whnf
  repeat(any_goals(first|exact ab|(refine ap ?_ ?_<;>intro _<;>first|exact aq|conv=>whnf)|((first|refine ac ?_|refine bi ?_ ?_|intro _)<;>conv=>whnf)))
  all_goals(try(first|exact absurd hjI (by assumption)|exact absurd hz (by assumption)|exact absurd (by assumption) hz))
  all_goals(refine⟨⟨0+1,us⟩,⟨⟨by show 0+1≤_;omega,by show us.length≤0+1;omega⟩,hH⟩,(by show _-(0+1)<_-0;omega),?_⟩;(conv=>whnf);refine⟨?_,?_,?_⟩<;>repeat(first|exact trivial|refine sc rfl ?_|refine kn ?_|refine kc rfl ?_|refine sc (by rfl) ?_|refine kc (by rfl) ?_))
 ·conv=>whnf
  repeat(any_goals(first|exact ab|(refine ap ?_ ?_<;>intro _<;>first|exact aq|conv=>whnf)|((first|refine ac ?_|refine bi ?_ ?_|intro _)<;>conv=>whnf)))
  all_goals(try(first|exact absurd hjI (by assumption)|exact absurd hz (by assumption)|exact absurd (by assumption) hz))
  all_goals(refine⟨⟨1+1,us⟩,⟨⟨by show 1+1≤_;omega,by show us.length≤1+1;omega⟩,hH⟩,(by show _-(1+1)<_-1;omega),?_⟩;(conv=>whnf);refine⟨?_,?_,?_⟩<;>repeat(first|exact trivial|refine sc rfl ?_|refine kn ?_|refine kc rfl ?_|refine sc (by rfl) ?_|refine kc (by rfl) ?_))
 ·conv=>whnf
  repeat(any_goals(first|exact ab|(refine ap ?_ ?_<;>intro _<;>first|exact aq|conv=>whnf)|((first|refine ac ?_|refine bi ?_ ?_|intro _)<;>conv=>whnf)))
  all_goals(try(first|exact absurd hjI (by assumption)|exact absurd hz (by assumption)|exact absurd (by assumption) hz))
  all_goals(refine⟨⟨2+1,us⟩,⟨⟨by show 2+1≤_;omega,by show us.length≤2+1;omega⟩,hH⟩,(by show _-(2+1)<_-2;omega),?_⟩;(conv=>whnf);refine⟨?_,?_,?_⟩<;>repeat(first|exact trivial|refine sc rfl ?_|refine kn ?_|refine kc rfl ?_|refine sc (by rfl) ?_|refine kc (by rfl) ?_))
 ·conv=>whnf
  repeat(any_goals(first|exact ab|(refine ap ?_ ?_<;>intro _<;>first|exact aq|conv=>whnf)|((first|refine ac ?_|refine bi ?_ ?_|intro _)<;>conv=>whnf)))
  all_goals(try(first|exact absurd hjI (by assumption)|exact absurd hz (by assumption)|exact absurd (by assumption) hz))
  all_goals(refine⟨⟨3+1,us⟩,⟨⟨by show 3+1≤_;omega,by show us.length≤3+1;omega⟩,hH⟩,(by show _-(3+1)<_-3;omega),?_⟩;(conv=>whnf);refine⟨?_,?_,?_⟩<;>repeat(first|exact trivial|refine sc rfl ?_|refine kn ?_|refine kc rfl ?_|refine sc (by rfl) ?_|refine kc (by rfl) ?_))
 ·conv=>whnf
  repeat(any_goals(first|exact ab|(refine ap ?_ ?_<;>intro _<;>first|exact aq|conv=>whnf)|((first|refine ac ?_|refine bi ?_ ?_|intro _)<;>conv=>whnf)))
  all_goals(try(first|exact absurd hjI (by assumption)|exact absurd hz (by assumption)|exact absurd (by assumption) hz))
  all_goals(refine⟨⟨4+1,us⟩,⟨⟨by show 4+1≤_;omega,by show us.length≤4+1;omega⟩,hH⟩,(by show _-(4+1)<_-4;omega),?_⟩;(conv=>whnf);refine⟨?_,?_,?_⟩<;>repeat(first|exact trivial|refine sc rfl ?_|refine kn ?_|refine kc rfl ?_|refine sc (by rfl) ?_|refine kc (by rfl) ?_))
 ·conv=>whnf
  repeat(any_goals(first|exact ab|(refine ap ?_ ?_<;>intro _<;>first|exact aq|conv=>whnf)|((first|refine ac ?_|refine bi ?_ ?_|intro _)<;>conv=>whnf)))
  all_goals(try(first|exact absurd hjI (by assumption)|exact absurd hz (by assumption)|exact absurd (by assumption) hz))
  all_goals(refine⟨⟨5+1,us⟩,⟨⟨by show 5+1≤_;omega,by show us.length≤5+1;omega⟩,hH⟩,(by show _-(5+1)<_-5;omega),?_⟩;(conv=>whnf);refine⟨?_,?_,?_⟩<;>repeat(first|exact trivial|refine sc rfl ?_|refine kn ?_|refine kc rfl ?_|refine sc (by rfl) ?_|refine kc (by rfl) ?_))
end Go.Proofs.YtgncapdjheghfaaGreatDoor
namespace Go.Proofs.YtgncapdjheghfaaGreatDoor
open Go.Am Go.Proofs Go
set_option maxHeartbeats 8000000 in
theorem IH(s:Bill)(hr:s.small)(c:List Ent)(hl:c.length≤1048576)(hk:cb s c=0)(left:Nat)(h1:1≤left)(h2:left<2^s.truths.length) :
  PureA Tryz.prog 36 [aF s,aG c,aj left] (II (s.leftT left) c s.figs.length):=by
 have he:=d7 s hr c hl hk
 obtain⟨hg,hok,h6⟩:=cr hk
 have hT:=hg.lenT
 obtain⟨p1,p2⟩:=bH hT.2
 have h64:left<64:=Nat.lt_of_lt_of_le h2 (Nat.le_trans (Nat.pow_le_pow_right (by omega) hT.2) (by decide))
 have hsh:=rQ s.truths.length hT.2
 have htl:(s.truths.map aj).length=s.truths.length:=List.length_map ..
 have hpn:((2:Int)^s.truths.length)=((2^s.truths.length:Nat):Int):=by push_cast;rfl
 have hb:PureA Tryz.prog 51 [aj 1,aj (IntKind.i64.wrap (1 * 2^min (((s.truths.map aj).length:Int)).toNat IntKind.i64.bits)-1),aj left] (aB false):=by
  have:=dv left 1 (2^s.truths.length-1)
  rw[htl,hsh]
  rwa [(aT _ _ _).2 (by omega)]at this
 rw[←htl]at hsh
 have hbit:=fun i (hi:i≤64)=>KJ left i h64 hi
 unfold fc lm at hbit
 obtain⟨B,hB⟩:∃B,aS left 0 s.truths=B:=⟨_,rfl⟩
 have hBS:s.leftT left={ s with truths:=B}:=by unfold Bill.leftT;rw[hB]
 rw[hBS]
 have hBne:B≠[]:=by rw[←hB];exact qL rfl (by omega) h2
 have hBg:({ s with truths:=B}:Bill).Good:=by rw[←hB];exact iO hg (by rw[hB];exact hBne)
 unfold cW at he
 refine ae ar { l:=0,f:=36,mat:=[71,85],ow:=[59],fz:=[(13,9)]} mixed uY Tryz.func36 (by kernel_rfl) ?_
 conv=>whnf
 repeat(any_goals(first|exact ab|(refine ap ?_ ?_<;>intro _<;>first|exact aq|conv=>whnf)|((first|refine ac ?_|refine bi ?_ ?_|intro _)<;>conv=>whnf)))
 refine⟨[],?_⟩
 conv=>whnf
 refine⟨_,_,he,?_⟩
 conv=>whnf
 repeat(any_goals(first|exact ab|(refine ap ?_ ?_<;>intro _<;>first|exact aq|conv=>whnf)|((first|refine aa hb ?_|refine ac ?_|refine bi ?_ ?_|intro _)<;>conv=>whnf)))
 refine aW ar { l:=0,f:=36,mat:=[71,85],ow:=[59],fz:=[(13,9)]} mixed (fun u:TrSt=>[(41,aj u.i)]) (fun u=>[(cq,some (1,some (5,[.agg [aj s.lines,bu s.figs,Lj u.ts,aj s.allN,aj s.someN]]))),(kTr,some (trS u.ts))]) (fun _=>[]) (fun u=>(u.i≤s.truths.length∧u.ts.length≤u.i)∧B=u.ts++aS left u.i (s.truths.drop u.i)) (fun u=>s.truths.length-u.i) (⟨0,[]⟩:TrSt) (by kernel_rfl)
  ⟨⟨Nat.zero_le _,Nat.zero_le _⟩,hB.symm⟩ ?_
 conv=>whnf
 refine⟨⟨ai rfl trivial,?_,trivial⟩,?_⟩
 ·repeat(first|exact trivial|refine kc rfl ?_|refine bU rfl ?_)
 clear hB
 rintro u ⟨⟨hi,hts⟩,H⟩
 generalize u.i=i at *
 generalize u.ts=ts at *
 clear u
 by_cases hlt:i<s.truths.length
 ·obtain⟨x,hx,hd⟩:=ay (l:=s.truths) (i:=i) hlt
  rw[hd,j4]at H
  have hbi:=hbit i (by omega)
  by_cases hbb:left.testBit i=true
  ·rw[if_pos hbb]at H
   rw[hbb,decide_eq_true_eq]at hbi
   cases ts with
   | nil =>
    conv=>whnf
    repeat(any_goals(first|exact ab|(refine ap ?_ ?_<;>intro _<;>first|exact aq|conv=>whnf)|((first|refine ag hx rfl ?_|refine ac ?_|refine bi ?_ ?_|intro _)<;>conv=>whnf)))
    (refine⟨⟨i+1,[x]⟩,⟨⟨by show i+1≤_;omega,by show 1≤i+1;omega⟩,H⟩,(by show _-(i+1)<_-i;omega),?_⟩;(conv=>whnf);refine⟨?_,?_,?_⟩<;>repeat(first|exact trivial|refine sc rfl ?_|refine kn ?_|refine kc rfl ?_|refine sc (by rfl) ?_|refine kc (by rfl) ?_))
   | cons y l =>
    obtain⟨e1,e2⟩:=I1 y l x
    simp only[List.length_cons]at hts
    have hel:((y::l).map aj).length=l.length+1:=by simp
    conv=>whnf
    repeat(any_goals(first|exact ab|(refine ap ?_ ?_<;>intro _<;>first|exact aq|conv=>whnf)|((first|refine ag hx rfl ?_|refine ac ?_|refine bi ?_ ?_|intro _)<;>conv=>whnf)))
    (refine⟨⟨i+1,(y::l)++[x]⟩,⟨⟨by show i+1≤_;omega,by show((y::l)++[x]).length≤i+1;simp;omega⟩,by rw[H];simp⟩,(by show _-(i+1)<_-i;omega),?_⟩;(conv=>whnf);refine⟨?_,?_,?_⟩<;>repeat(first|exact trivial|refine sc rfl ?_|refine kn ?_|refine kc rfl ?_|refine sc (by first|(rw[e1];rfl)|(rw[e2];rfl)) ?_|refine kc (by first|(rw[e1];rfl)|(rw[e2];rfl)) ?_))
  ·rw[if_neg hbb]at H
   rw[Bool.eq_false_iff.2 hbb,decide_eq_false_iff_not]at hbi
   cases ts with
   | nil =>
    conv=>whnf
    repeat(any_goals(first|exact ab|(refine ap ?_ ?_<;>intro _<;>first|exact aq|conv=>whnf)|((first|refine ag hx rfl ?_|refine ac ?_|refine bi ?_ ?_|intro _)<;>conv=>whnf)))
    (refine⟨⟨i+1,[]⟩,⟨⟨by show i+1≤_;omega,by show 0≤i+1;omega⟩,H⟩,(by show _-(i+1)<_-i;omega),?_⟩;(conv=>whnf);refine⟨?_,?_,?_⟩<;>repeat(first|exact trivial|refine sc rfl ?_|refine kn ?_|refine kc rfl ?_|refine sc (by rfl) ?_|refine kc (by rfl) ?_))
   | cons y l =>
    conv=>whnf
    repeat(any_goals(first|exact ab|(refine ap ?_ ?_<;>intro _<;>first|exact aq|conv=>whnf)|((first|refine ag hx rfl ?_|refine ac ?_|refine bi ?_ ?_|intro _)<;>conv=>whnf)))
    (refine⟨⟨i+1,y::l⟩,⟨⟨by show i+1≤_;omega,by show(y::l).length≤i+1;omega⟩,H⟩,(by show _-(i+1)<_-i;omega),?_⟩;(conv=>whnf);refine⟨?_,?_,?_⟩<;>repeat(first|exact trivial|refine sc rfl ?_|refine kn ?_|refine kc rfl ?_|refine sc (by rfl) ?_|refine kc (by rfl) ?_))
 ·have hin:i=s.truths.length:=by omega
  subst hin
  rw[List.drop_length]at H
  simp only[aS,List.append_nil]at H
  subst H
  cases B with
  | nil=>exact absurd rfl hBne
  | cons y l =>
   obtain⟨S,hS⟩:∃S:Bill,S={ s with truths:=y::l}:=⟨_,rfl⟩
   have hSg:S.Good:=by rw[hS];exact hBg
   have hkn:=A6 S s.allN s.someN hSg.lenT.2 fun t ht=>hSg.lt ht
   have e1:mX S S.truths.length=S.allN:=by
    unfold mX
    have:=hSg.lenT
    rw[if_neg (by omega),List.take_length];rfl
   have e2:zW S S.truths.length=S.someN:=by
    unfold zW
    rw[List.take_length];rfl
   rw[e1,e2]at hkn
   have hkn:BoxA Tryz.prog (.fn 85) [(cq,1,5,[.agg [aj s.lines,bu s.figs,aD (y::l),aj s.allN,aj s.someN]])] [.ptr cq 1 5 0 0] (.tuple []) [(cq,1,5,[.agg [aj s.lines,bu s.figs,aD (y::l),aj S.allN,aj S.someN]])]:=by
    have e3:∀a b:Int,Ck S a b = .agg [aj s.lines,bu s.figs,aD (y::l),aj a,aj b]:=fun a b=>by rw[hS];rfl
    rw[←e3, ←e3];exact hkn
   clear e1 e2 hbit hb
   conv=>whnf
   repeat(any_goals(first|exact ab|(refine ap ?_ ?_<;>intro _<;>first|exact aq|conv=>whnf)|((first|refine af (oF (y::l) _ rfl) ?_|refine ac ?_|refine bi ?_ ?_|intro _)<;>conv=>whnf)))
   refine⟨[cq],?_⟩
   conv=>whnf
   refine⟨_,_,hkn,?_⟩
   conv=>whnf
   repeat(any_goals(first|exact ab|(refine ap ?_ ?_<;>intro _<;>first|exact aq|conv=>whnf)|((first|refine ac ?_|refine bi ?_ ?_|intro _)<;>conv=>whnf)))
   have hcl:(c.map bB).length=c.length:=List.length_map ..
   have hfl:S.figs=s.figs:=by rw[hS]
   rw[←hS]
   unfold II
   obtain⟨K,hK⟩:∃K,bG S 0 c=K:=⟨_,rfl⟩
   obtain⟨D,hD⟩:∃D,jh [0,0,0,0,0,0] c=D:=⟨_,rfl⟩
   rw[hK,hD]
   refine dX 6 1 ⟨0,36,91⟩ ?_
   conv=>whnf
   refine xE (⟨(69,aj 0)::(6,.slice 1 [] (.own k91 1))::Ld c,(kSd,some (1,some (18,[.agg (sdC [0,0,0,0,0,0])])))::Lc s S (y::l),(k91,some (1,0))::Le⟩:SS) ?_ ?_
   ·conv=>whnf
    refine⟨?_,?_,?_⟩<;>repeat(first|exact trivial|refine sc rfl ?_|refine kn ?_|refine kc rfl ?_|refine bU rfl ?_)
   refine aW ar { l:=0,f:=36,mat:=[71,85],ow:=[59],fz:=[(13,9)]} mixed (fun u:SdSt=>[(69,aj u.j),(6,.slice 1 (u.ks.map aj) (.own k91 1))]) (fun u=>[(kSd,some (1,some (18,[.agg (sdC u.sd)])))]) (fun u=>[(k91,some (1,u.ks.length))]) (SdI S c K D) (fun u=>c.length-u.j) (⟨0,[],[0,0,0,0,0,0]⟩:SdSt) (by kernel_rfl)
    ⟨⟨Nat.zero_le _,Nat.zero_le _,rfl⟩,hK.symm,hD.symm⟩ ?_
   conv=>whnf
   refine⟨⟨?_,?_,?_⟩,?_⟩
   ·repeat(first|exact trivial|refine sc rfl ?_)
   ·repeat(first|exact trivial|refine kc rfl ?_|refine bU rfl ?_)
   ·repeat(first|exact trivial|refine kc rfl ?_|refine bU rfl ?_)
   clear hK hD hkn
   rintro⟨j,ks,sd⟩ hI
   obtain⟨⟨hj,hkl,hsl⟩,HK,HD⟩:=hI
   simp only at hj hkl hsl HK HD
   obtain⟨v0,v1,v2,v3,v4,v5,rfl⟩:=six sd hsl
   by_cases hjl:j<c.length
   ·obtain⟨⟨sy,xa,xb⟩,hx⟩:∃x,c[j]?=some x:=⟨_,List.getElem?_eq_getElem hjl⟩
    by_cases q2:sy=2
    ·by_cases qs:S.inSome xa.toNat=false
     ·exact KX s S hg hSg (y::l) c hok h6 K D j ks v0 v1 v2 v3 v4 v5 hkl HK HD sy xa xb hx q2 qs _
     ·exact KY s S hg hSg (y::l) c hok h6 K D j ks v0 v1 v2 v3 v4 v5 hkl HK HD sy xa xb hx q2 qs _
    ·exact KZ s S hg hSg (y::l) c hok h6 K D j ks v0 v1 v2 v3 v4 v5 hkl HK HD sy xa xb hx q2 _
   ·have hjc:j=c.length:=by omega
    subst hjc
    rw[List.drop_length]at HK HD
    simp only[bG,jh,List.append_nil]at HK HD
    subst HK
    subst HD
    have hkm:(K.map aj).length=K.length:=List.length_map ..
    have hqe:=FM v0 v1 v2 v3 v4 v5
    unfold FL at hqe
    have hnj:¬((c.length:Int)<((c.map bB).length:Nat)):=by omega
    by_cases hz0:[v0,v1,v2,v3,v4,v5]=[0,0,0,0,0,0]
    ·rw[if_pos hz0]
     rw[decide_eq_true hz0]at hqe
     conv=>whnf
     repeat(any_goals(first|exact ab|(refine ap ?_ ?_<;>intro _<;>first|exact aq|conv=>whnf)|((first|refine cg hqe ?_|refine ac ?_|refine bi ?_ ?_|intro _)<;>conv=>whnf)))
     all_goals(try(exact absurd (by assumption) hnj))
     (refine⟨⟨?_⟩,trivial⟩;rfl)
    ·rw[if_neg hz0]
     rw[decide_eq_false hz0]at hqe
     conv=>whnf
     repeat(any_goals(first|exact ab|(refine ap ?_ ?_<;>intro _<;>first|exact aq|conv=>whnf)|((first|refine co hqe ?_|refine ac ?_|refine bi ?_ ?_|intro _)<;>conv=>whnf)))
     all_goals(try(exact absurd (by assumption) hnj))
     refine dX 7 1 ⟨0,36,128⟩ ?_
     conv=>whnf
     refine xE (⟨(107,aj 0)::(7,.slice 1 [] (.own Jl 1))::Lh s K,Lg s S (y::l) [v0,v1,v2,v3,v4,v5],(Jl,some (1,0))::Li K⟩:SS) ?_ ?_
     ·conv=>whnf
      refine⟨?_,?_,?_⟩<;>repeat(first|exact trivial|refine sc rfl ?_|refine kn ?_|refine kc rfl ?_|refine bU rfl ?_)
     obtain⟨U,hU⟩:∃U,cM S [v0,v1,v2,v3,v4,v5] s.figs.length 0=U:=⟨_,rfl⟩
     rw[hU]
     refine aW ar { l:=0,f:=36,mat:=[71,85],ow:=[59],fz:=[(13,9)]} mixed (fun u:SuSt=>[(107,aj u.i),(7,.slice 1 (u.us.map aj) (.own Jl 1))]) (fun _=>[]) (fun u=>[(Jl,some (1,u.us.length))]) (SuI s S [v0,v1,v2,v3,v4,v5] U) (fun u=>s.figs.length-u.i) (⟨0,[]⟩:SuSt) (by kernel_rfl)
      ⟨⟨Nat.zero_le _,Nat.zero_le _⟩,hU.symm⟩ ?_
     conv=>whnf
     refine⟨⟨?_,trivial,?_⟩,?_⟩
     ·repeat(first|exact trivial|refine sc rfl ?_)
     ·repeat(first|exact trivial|refine kc rfl ?_|refine bU rfl ?_)
     clear hU hqe
     rintro⟨i,us⟩ hI
     obtain⟨⟨hi,hul⟩,HU⟩:=hI
     simp only at hi hul HU
     by_cases hil:i<s.figs.length
     ·by_cases hA:S.inAll i=true
      ·by_cases hV:[v0,v1,v2,v3,v4,v5].getD i 0=1
       ·exact K4 s S hg hSg (y::l) K U i us v0 v1 v2 v3 v4 v5 hul hil HU hA hV _
       ·exact K3 s S hg hSg (y::l) K U i us v0 v1 v2 v3 v4 v5 hul hil HU hA hV _
      ·exact K5 s S hg hSg (y::l) K U i us v0 v1 v2 v3 v4 v5 hul hil HU hA _
     ·have hin:i=s.figs.length:=by omega
      subst hin
      rw[Nat.sub_self]at HU
      simp only[cM,List.append_nil]at HU
      subst HU
      have hcf:(s.figs.map cD).length=s.figs.length:=List.length_map ..
      have hni:¬((s.figs.length:Int)<((s.figs.map cD).length:Nat)):=by omega
      conv=>whnf
      repeat(any_goals(first|exact ab|(refine ap ?_ ?_<;>intro _<;>first|exact aq|conv=>whnf)|((first|refine ac ?_|refine bi ?_ ?_|intro _)<;>conv=>whnf)))
      all_goals(try(exact absurd (by assumption) hni))
      (refine⟨⟨?_⟩,trivial⟩;rfl)
end Go.Proofs.YtgncapdjheghfaaGreatDoor
namespace Go.Proofs.YtgncapdjheghfaaGreatDoor
open Go.Am Go.Proofs Go
def Bill.slipL(s:Bill)(c:List Ent):List Int:=if jh [0,0,0,0,0,0] c=[0,0,0,0,0,0]then []else cM s (jh [0,0,0,0,0,0] c) s.figs.length 0
def Bill.slipR(s:Bill)(c:List Ent)(left:Int):List Int×List Int×Int :=
 if cb s c≠0 then([],[],cb s c)else if aQ 1 (2^s.truths.length-1) left=true then([],[],7)
 else(bG (s.leftT left.toNat) 0 c,(s.leftT left.toNat).slipL c,0)
def ui(x:List Int×List Int×Int):AV:= .tuple [aD x.1,aD x.2.1,aj x.2.2]
theorem nx{P:Program}{f:FuncId}{args:List AV}{e:Int}(h:PureA P f args (.tuple [oe,oe,aj e])):PureA P f args (ui ([],[],e)) :=
 h.wk (Wk.tuple (.cons (Wk.nil 1) (.cons (Wk.nil 1) (WkL.refl _))))
theorem IG(s:Bill)(hr:s.small)(c:List Ent)(hl:c.length≤1048576)(left e:Int)(hk:cb s c=e)(h0:e≠0):PureA Tryz.prog 36 [aF s,aG c,aj left] (.tuple [oe,oe,aj e]):=by
 have he:=ka s hr c hl e hk h0
 refine ae ar { l:=0,f:=36,mat:=[71,85],ow:=[59],fz:=[(13,9)]} mixed uY Tryz.func36 (by kernel_rfl) ?_
 conv=>whnf
 repeat(any_goals(first|exact ab|(refine ap ?_ ?_<;>intro _<;>first|exact aq|conv=>whnf)|((first|refine ac ?_|refine bi ?_ ?_|intro _)<;>conv=>whnf)))
 refine⟨[],?_⟩
 conv=>whnf
 refine⟨_,_,he,?_⟩
 conv=>whnf
 repeat(any_goals(first|exact ab|(refine ap ?_ ?_<;>intro _<;>first|exact aq|conv=>whnf)|((first|refine ac ?_|refine bi ?_ ?_|intro _)<;>conv=>whnf)))
 (refine⟨⟨?_⟩,trivial⟩;rfl)
theorem IF(s:Bill)(hr:s.small)(c:List Ent)(hl:c.length≤1048576)(left:Int)(hk:cb s c=0)(ho:aQ 1 (2^s.truths.length-1) left=true):PureA Tryz.prog 36 [aF s,aG c,aj left] (.tuple [oe,oe,aj 7]):=by
 have he:=d7 s hr c hl hk
 obtain⟨hg,_,_⟩:=cr hk
 have hT:=hg.lenT
 obtain⟨p1,p2⟩:=bH hT.2
 have hsh:=rQ s.truths.length hT.2
 have htl:(s.truths.map aj).length=s.truths.length:=List.length_map ..
 have hb:PureA Tryz.prog 51 [aj 1,aj (IntKind.i64.wrap (1 * 2^min (((s.truths.map aj).length:Int)).toNat IntKind.i64.bits)-1),aj left] (aB true):=by
  have:=dv left 1 (2^s.truths.length-1)
  rw[htl,hsh]
  rwa [ho]at this
 rw[←htl]at hsh
 unfold cW at he
 refine ae ar { l:=0,f:=36,mat:=[71,85],ow:=[59],fz:=[(13,9)]} mixed uY Tryz.func36 (by kernel_rfl) ?_
 conv=>whnf
 repeat(any_goals(first|exact ab|(refine ap ?_ ?_<;>intro _<;>first|exact aq|conv=>whnf)|((first|refine ac ?_|refine bi ?_ ?_|intro _)<;>conv=>whnf)))
 refine⟨[],?_⟩
 conv=>whnf
 refine⟨_,_,he,?_⟩
 conv=>whnf
 repeat(any_goals(first|exact ab|(refine ap ?_ ?_<;>intro _<;>first|exact aq|conv=>whnf)|((first|refine aa hb ?_|refine ac ?_|refine bi ?_ ?_|intro _)<;>conv=>whnf)))
 (refine⟨⟨?_⟩,trivial⟩;rfl)
theorem iB(s:Bill)(hr:s.small)(c:List Ent)(hl:c.length≤1048576)(left:Int):PureA Tryz.prog 36 [aF s,aG c,aj left] (ui (s.slipR c left)):=by
 unfold Bill.slipR
 by_cases hk:cb s c=0
 ·rw[if_neg (fun h=>h hk)]
  by_cases ho:aQ 1 (2^s.truths.length-1) left=true
  ·rw[if_pos ho]
   exact nx (IF s hr c hl left hk ho)
  ·rw[if_neg ho]
   rw[Bool.not_eq_true,aT]at ho
   obtain⟨n,rfl⟩:∃n:Nat,left=n:=⟨left.toNat,by omega⟩
   rw[Int.toNat_natCast]
   have hp:((2:Int)^s.truths.length)=((2^s.truths.length:Nat):Int):=by push_cast;rfl
   have h:=IH s hr c hl hk n (by omega) (by omega)
   unfold II at h
   unfold ui Bill.slipL
   by_cases hz:jh [0,0,0,0,0,0] c=[0,0,0,0,0,0]
   ·rw[if_pos hz]at h ⊢
    exact h.wk (Wk.tuple (.cons (Wk.refl _) (.cons (Wk.nil 1) (WkL.refl _))))
   ·rw[if_neg hz]at h ⊢
    exact h
 ·rw[if_pos hk]
  exact nx (IG s hr c hl left _ rfl hk)
end Go.Proofs.YtgncapdjheghfaaGreatDoor
namespace Go.Proofs.YtgncapdjheghfaaGreatDoor
open Go.Am Go.Proofs Go
def cG:List Ent→List Int
 | []=>[]
 | x::l=>if x.says=0 then x.a::cG l else cG l
def fa(s:Bill)(is:List Int):Nat→Nat→List Int
 | 0,_=>[]
 | f+1,i=>if(s.inAll i&& !gc (i:Int) is)=true then(i:Int)::fa s is f (i+1)else fa s is f (i+1)
theorem iL:∀{c:List Ent} {a:Int},a∈cG c↔∃x∈c,x.says=0∧x.a=a
 | [],a=>by simp[cG]
 | x::l,a=>by
  have ih:=iL (c:=l) (a:=a)
  unfold cG
  split
  ·rename_i h
   rw[List.mem_cons,ih]
   constructor
   ·rintro(rfl|⟨y,hy,k⟩)
    ·exact⟨x,by simp,h,rfl⟩
    ·exact⟨y,by simp[hy],k⟩
   ·rintro⟨y,hy,k1,k2⟩
    rcases List.mem_cons.1 hy with rfl|hy
    ·exact .inl k2.symm
    ·exact .inr ⟨y,hy,k1,k2⟩
  ·rename_i h
   rw[ih]
   constructor
   ·rintro⟨y,hy,k⟩;exact⟨y,by simp[hy],k⟩
   ·rintro⟨y,hy,k1,k2⟩
    rcases List.mem_cons.1 hy with rfl|hy
    ·exact absurd k1 h
    ·exact⟨y,hy,k1,k2⟩
theorem oQ:∀{c:List Ent} {sd:List Int} {k:Nat},(∀x∈c,0≤x.a∧x.a≠k)→(jh sd c).getD k 0=sd.getD k 0
 | [],_,_,_=>rfl
 | x::l,sd,k,h=>by
  rw[fT,oQ fun y hy=>h y (by simp[hy])]
  obtain⟨h1,h2⟩:=h x (by simp)
  rw[List.getD_eq_getElem?_getD,List.getD_eq_getElem?_getD,List.getElem?_set_ne (by omega)]
theorem nw:∀{c:List Ent} {sd:List Int} {p:Int} {x:Ent},Asc p c→(∀x∈c,0≤x.a∧x.a<6)→sd.length=6→x∈c→(jh sd c).getD x.a.toNat 0=x.says+1
 | [],_,_,_,_,_,_,hx=>by simp at hx
 | y::l,sd,p,x,⟨h1,h2⟩,ha,hl,hx=>by
  rw[fT]
  have hy:=ha y (by simp)
  rcases List.mem_cons.1 hx with rfl|hx
  ·rw[oQ fun z hz=>⟨(ha z (by simp[hz])).1,by have:=h2.all z hz;omega⟩]
   rw[List.getD_eq_getElem?_getD,List.getElem?_set_self (by omega)]
   rfl
  ·exact nw h2 (fun z hz=>ha z (by simp[hz])) (by rw[List.length_set];exact hl) hx
theorem xS{s:Bill}{D is:List Int}{n:Nat}(h:∀i,i<n→s.inAll i=true→(D.getD i 0=1↔(i:Int)∈is)):∀f i,i+f≤n→cM s D f i=fa s is f i
 | 0,_,_=>rfl
 | f+1,i,hi=>by
  rw[ei]
  unfold fa
  rw[xS h f (i+1) (by omega)]
  cases ha:s.inAll i with
  | false=>simp
  | true =>
   have:=h i (by omega) ha
   by_cases q:(i:Int)∈is
   ·have h2:=d8.2 q
    rw[if_neg (fun⟨_,k⟩=>k (this.2 q)),if_neg (by rw[h2];simp)]
   ·have h2:gc (i:Int) is=false:=by rw[←Bool.not_eq_true,d8];exact q
    rw[if_pos ⟨rfl,fun k=>q (this.1 k)⟩,if_pos (by rw[h2];simp)]
theorem qw{s:Bill}{is:List Int}(h:∀i,s.inAll i=false):∀f i,fa s is f i=[]
 | 0,_=>rfl
 | f+1,i=>by unfold fa;rw[h i,qw h f];rfl
theorem wQ{s S:Bill}(hS:S.Good)(hsub:∀t∈S.truths,t∈s.truths)(hf:S.figs=s.figs){c:List Ent}(h6:s.figs.length≤6)(hh:s.holds c=true):S.slipL c=fa S (cG c) s.figs.length 0:=by
 obtain⟨hc,hm⟩:=eW.1 hh
 have ha:∀x∈c,0≤x.a∧x.a<6:=fun x hx=>by have:=(hc.ok x hx).a;omega
 unfold Bill.slipL
 split
 ·rename_i hz
  cases c with
  | nil =>
   refine(qw (fun i=>?_) _ _).symm
   rw[←Bool.not_eq_true]
   intro hi
   have h1:=iK hS hi
   have h2:s.inSome i=true:=by
    unfold Bill.inSome at *
    rw[List.any_eq_true]at *
    obtain⟨t,ht,k⟩:=h1
    exact⟨t,hsub t ht,k⟩
   rw[←cA, ←hm]at h2
   simp[dS]at h2
  | cons x l =>
   exfalso
   have:=nw (sd:=[0,0,0,0,0,0]) hc.asc ha rfl (List.mem_cons_self ..)
   rw[hz]at this
   have h0:([0,0,0,0,0,0]:List Int).getD x.a.toNat 0=0:=by
    have:=ha x (by simp)
    generalize x.a.toNat=k
    match k with
    | 0=>rfl
    | 1=>rfl
    | 2=>rfl
    | 3=>rfl
    | 4=>rfl
    | 5=>rfl
    | _+6=>rfl
   rw[h0]at this
   have:=(hc.ok x (by simp)).says
   omega
 ·rw[hf]
  refine xS (n:=s.figs.length) (fun i hi hin=>?_) _ _ (by omega)
  rw[iL]
  constructor
  ·intro h
   by_cases q:∃x∈c,x.a=(i:Int)
   ·obtain⟨x,hx,e⟩:=q
    refine⟨x,hx,?_,e⟩
    have:=nw (sd:=[0,0,0,0,0,0]) hc.asc ha rfl hx
    rw[e,Int.toNat_natCast,h]at this
    omega
   ·rw[oQ fun x hx=>⟨(ha x hx).1,fun e=>q ⟨x,hx,e⟩⟩]at h
    exfalso
    have h0:([0,0,0,0,0,0]:List Int).getD i 0=0:=by
     have:i<6:=by omega
     match i with
     | 0=>rfl
     | 1=>rfl
     | 2=>rfl
     | 3=>rfl
     | 4=>rfl
     | 5=>rfl
     | _+6=>rfl
    omega
  ·rintro⟨x,hx,h1,h2⟩
   have:=nw (sd:=[0,0,0,0,0,0]) hc.asc ha rfl hx
   rw[h2,Int.toNat_natCast,h1]at this
   exact this
end Go.Proofs.YtgncapdjheghfaaGreatDoor
namespace Go.Proofs.YtgncapdjheghfaaGreatDoor
open Go.Shelf Go.Proofs Go
def vL:Go.Shelf.Ren:=⟨(fun|171=>111|243=>134|246=>140|283=>144|284=>145|285=>146|286=>147|129=>150|317=>149|318=>151|319=>152|320=>153|337=>154|338=>155|n=>n),(fun|3=>3|9=>9|2=>2|4=>4|171=>175|0=>0|53=>176|37=>63|5=>5|173=>179|212=>183|51=>184|20=>20|213=>185|46=>186|232=>189|233=>190|n=>n),(fun|17=>1|18=>2|19=>3|n=>n)⟩
theorem HT:Go.Proofs.Lays.n171 Tryz.prog vL:={
 mixed:=by kernel_rfl,
 f129:=Tryz.func150.trans (congrArg some (by kernel_rfl)),
 f171:=Tryz.func111.trans (congrArg some (by kernel_rfl)),
 f243:=Tryz.func134.trans (congrArg some (by kernel_rfl)),
 f246:=Tryz.func140.trans (congrArg some (by kernel_rfl)),
 f283:=Tryz.func144.trans (congrArg some (by kernel_rfl)),
 f284:=Tryz.func145.trans (congrArg some (by kernel_rfl)),
 f285:=Tryz.func146.trans (congrArg some (by kernel_rfl)),
 f286:=Tryz.func147.trans (congrArg some (by kernel_rfl)),
 f317:=Tryz.func149.trans (congrArg some (by kernel_rfl)),
 f318:=Tryz.func151.trans (congrArg some (by kernel_rfl)),
 f319:=Tryz.func152.trans (congrArg some (by kernel_rfl)),
 f320:=Tryz.func153.trans (congrArg some (by kernel_rfl)),
 f337:=Tryz.func154.trans (congrArg some (by kernel_rfl)),
 f338:=Tryz.func155.trans (congrArg some (by kernel_rfl)),
 t0:=Tryz.underlying0,
 a0:=Tryz.isAgg0,
 z0:=Tryz.sizeOf0,
 v0:=Tryz.zeroValue0,
 t2:=Tryz.underlying2,
 a2:=Tryz.isAgg2,
 z2:=Tryz.sizeOf2,
 v2:=Tryz.zeroValue2,
 t3:=Tryz.underlying3,
 a3:=Tryz.isAgg3,
 z3:=Tryz.sizeOf3,
 v3:=Tryz.zeroValue3,
 t4:=Tryz.underlying4,
 a4:=Tryz.isAgg4,
 z4:=Tryz.sizeOf4,
 v4:=Tryz.zeroValue4,
 t5:=Tryz.underlying5,
 a5:=Tryz.isAgg5,
 z5:=Tryz.sizeOf5,
 v5:=Tryz.zeroValue5,
 t9:=Tryz.underlying9,
 a9:=Tryz.isAgg9,
 z9:=Tryz.sizeOf9,
 v9:=Tryz.zeroValue9,
 t20:=Tryz.underlying20,
 a20:=Tryz.isAgg20,
 z20:=Tryz.sizeOf20,
 v20:=Tryz.zeroValue20,
 t37:=Tryz.underlying63,
 a37:=Tryz.isAgg63,
 z37:=Tryz.sizeOf63,
 v37:=Tryz.zeroValue63,
 t46:=Tryz.underlying186,
 a46:=Tryz.isAgg186,
 z46:=Tryz.sizeOf186,
 v46:=Tryz.zeroValue186,
 t51:=Tryz.underlying184,
 a51:=Tryz.isAgg184,
 z51:=Tryz.sizeOf184,
 v51:=Tryz.zeroValue184,
 t53:=Tryz.underlying176,
 a53:=Tryz.isAgg176,
 z53:=Tryz.sizeOf176,
 v53:=Tryz.zeroValue176,
 t171:=Tryz.underlying175,
 a171:=Tryz.isAgg175,
 z171:=Tryz.sizeOf175,
 v171:=Tryz.zeroValue175,
 t173:=Tryz.underlying179,
 a173:=Tryz.isAgg179,
 z173:=Tryz.sizeOf179,
 v173:=Tryz.zeroValue179,
 t212:=Tryz.underlying183,
 a212:=Tryz.isAgg183,
 z212:=Tryz.sizeOf183,
 v212:=Tryz.zeroValue183,
 t213:=Tryz.underlying185,
 a213:=Tryz.isAgg185,
 z213:=Tryz.sizeOf185,
 t232:=Tryz.underlying189,
 a232:=Tryz.isAgg189,
 z232:=Tryz.sizeOf189,
 v232:=Tryz.zeroValue189,
 t233:=Tryz.underlying190,
 a233:=Tryz.isAgg190,
 z233:=Tryz.sizeOf190,
 v233:=Tryz.zeroValue190,
 g17:=by kernel_rfl,
 g18:=by kernel_rfl,
 g19:=by kernel_rfl}
def nX:Go.Shelf.Ren:=⟨(fun|156=>133|165=>139|166=>109|169=>113|240=>132|241=>143|276=>138|277=>148|n=>n),(fun|31=>83|9=>9|3=>3|4=>4|0=>0|20=>20|72=>149|76=>152|70=>147|37=>63|75=>151|127=>168|164=>171|5=>5|80=>156|n=>n),(fun|n=>n)⟩
theorem nW:Go.Proofs.Lays.n156 Tryz.prog nX:={
 mixed:=by kernel_rfl,
 f156:=Tryz.func133.trans (congrArg some (by kernel_rfl)),
 f165:=Tryz.func139.trans (congrArg some (by kernel_rfl)),
 f166:=Tryz.func109.trans (congrArg some (by kernel_rfl)),
 f169:=Tryz.func113.trans (congrArg some (by kernel_rfl)),
 f240:=Tryz.func132.trans (congrArg some (by kernel_rfl)),
 f241:=Tryz.func143.trans (congrArg some (by kernel_rfl)),
 f276:=Tryz.func138.trans (congrArg some (by kernel_rfl)),
 f277:=Tryz.func148.trans (congrArg some (by kernel_rfl)),
 t0:=Tryz.underlying0,
 a0:=Tryz.isAgg0,
 z0:=Tryz.sizeOf0,
 v0:=Tryz.zeroValue0,
 t3:=Tryz.underlying3,
 a3:=Tryz.isAgg3,
 z3:=Tryz.sizeOf3,
 v3:=Tryz.zeroValue3,
 t4:=Tryz.underlying4,
 a4:=Tryz.isAgg4,
 z4:=Tryz.sizeOf4,
 v4:=Tryz.zeroValue4,
 t9:=Tryz.underlying9,
 a9:=Tryz.isAgg9,
 z9:=Tryz.sizeOf9,
 v9:=Tryz.zeroValue9,
 t20:=Tryz.underlying20,
 a20:=Tryz.isAgg20,
 z20:=Tryz.sizeOf20,
 v20:=Tryz.zeroValue20,
 t31:=Tryz.underlying83,
 a31:=Tryz.isAgg83,
 z31:=Tryz.sizeOf83,
 v31:=Tryz.zeroValue83,
 t37:=Tryz.underlying63,
 a37:=Tryz.isAgg63,
 z37:=Tryz.sizeOf63,
 v37:=Tryz.zeroValue63,
 t70:=Tryz.underlying147,
 a70:=Tryz.isAgg147,
 z70:=Tryz.sizeOf147,
 v70:=Tryz.zeroValue147,
 t72:=Tryz.underlying149,
 a72:=Tryz.isAgg149,
 z72:=Tryz.sizeOf149,
 v72:=Tryz.zeroValue149,
 t75:=Tryz.underlying151,
 a75:=Tryz.isAgg151,
 z75:=Tryz.sizeOf151,
 v75:=Tryz.zeroValue151,
 t76:=Tryz.underlying152,
 a76:=Tryz.isAgg152,
 z76:=Tryz.sizeOf152,
 v76:=Tryz.zeroValue152,
 t127:=Tryz.underlying168,
 a127:=Tryz.isAgg168,
 z127:=Tryz.sizeOf168,
 v127:=Tryz.zeroValue168,
 t164:=Tryz.underlying171,
 a164:=Tryz.isAgg171,
 z164:=Tryz.sizeOf171,
 v164:=Tryz.zeroValue171}
def vK:Go.Shelf.Ren:=⟨(fun|102=>83|209=>120|207=>136|n=>n),(fun|9=>9|4=>4|3=>3|n=>n),(fun|n=>n)⟩
theorem HS:Go.Proofs.Lays.n102 Tryz.prog vK:={
 mixed:=by kernel_rfl,
 f102:=Tryz.func83.trans (congrArg some (by kernel_rfl)),
 f207:=Tryz.func136.trans (congrArg some (by kernel_rfl)),
 f209:=Tryz.func120.trans (congrArg some (by kernel_rfl)),
 t3:=Tryz.underlying3,
 a3:=Tryz.isAgg3,
 z3:=Tryz.sizeOf3,
 v3:=Tryz.zeroValue3,
 t4:=Tryz.underlying4,
 a4:=Tryz.isAgg4,
 z4:=Tryz.sizeOf4,
 v4:=Tryz.zeroValue4,
 t9:=Tryz.underlying9,
 a9:=Tryz.isAgg9,
 z9:=Tryz.sizeOf9,
 v9:=Tryz.zeroValue9}
def vM:Go.Shelf.Ren:=⟨(fun|217=>135|266=>141|n=>n),(fun|9=>9|5=>5|3=>3|n=>n),(fun|n=>n)⟩
theorem HV:Go.Proofs.Lays.n217 Tryz.prog vM:={
 mixed:=by kernel_rfl,
 f217:=Tryz.func135.trans (congrArg some (by kernel_rfl)),
 f266:=Tryz.func141.trans (congrArg some (by kernel_rfl)),
 t3:=Tryz.underlying3,
 a3:=Tryz.isAgg3,
 z3:=Tryz.sizeOf3,
 v3:=Tryz.zeroValue3,
 t5:=Tryz.underlying5,
 a5:=Tryz.isAgg5,
 z5:=Tryz.sizeOf5,
 v5:=Tryz.zeroValue5,
 t9:=Tryz.underlying9,
 a9:=Tryz.isAgg9,
 z9:=Tryz.sizeOf9,
 v9:=Tryz.zeroValue9}
theorem kf:Builder.Extra Tryz.prog nX:={
 sizeBuilder:=by kernel_rfl,
 liesBuilder:=by kernel_rfl,
 t5:=Tryz.underlying5,
 a5:=Tryz.isAgg5,
 z5:=Tryz.sizeOf5,
 v5:=Tryz.zeroValue5,
 infoByte:=by kernel_rfl,
 cellsByte:=by kernel_rfl,
 sizeByte:=by kernel_rfl,
 neB5:=by decide}
end Go.Proofs.YtgncapdjheghfaaGreatDoor
