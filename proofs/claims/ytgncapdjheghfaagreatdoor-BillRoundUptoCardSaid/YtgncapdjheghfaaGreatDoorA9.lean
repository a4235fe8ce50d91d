/- Part 9 of the texts that the last one stands on. -/
import Derived.Test.YtgncapdjheghfaaGreatDoorA8
set_option linter.unusedVariables false
set_option linter.unusedSimpArgs false
namespace Go.Proofs.YtgncapdjheghfaaGreatDoor
open Go.Am Go.Proofs Go
theorem Ct(t:ByteArray):aK (bytes t)=t:=fG rfl
def cY(n:Int):Bill:=⟨n,[⟨⟨#[97,100,97]⟩,⟨#[113,117,101,101,110]⟩,0,5⟩,
 ⟨⟨#[98,101,110]⟩,⟨#[107,105,110,103]⟩,0,4⟩,
 ⟨⟨#[99,121]⟩,⟨#[99,108,111,119,110]⟩,0,3⟩,
 ⟨⟨#[100,111,116]⟩,⟨#[106,117,100,103,101]⟩,1,6⟩,
 ⟨⟨#[101,108,105]⟩,⟨#[110,117,110]⟩,1,2⟩],[11,29,7]⟩
def lA:List Ent:=[⟨0,0,0⟩,⟨1,1,2⟩,⟨2,3,0⟩,⟨2,4,0⟩]
def IW:ByteArray:=⟨#[112,97,103,101,32,49,10,114,111,111,109,32,48,10,49,32,105,115,32,97,100,97,32,97,115,32,113,117,101,101,110,10,50,32,105,115,32,98,101,110,32,97,115,32,107,105,110,103,32,111,114,32,99,121,32,97,115,32,99,108,111,119,110,10,112,97,103,101,32,50,10,114,111,111,109,32,49,10,51,32,109,97,121,32,98,101,32,100,111,116,32,97,115,32,106,117,100,103,101,10,52,32,109,97,121,32,98,101,32,101,108,105,32,97,115,32,110,117,110,10]⟩
theorem Ek(n r:ByteArray)(rm h:Int):PureA Tryz.prog 98 [aN n,aN r,aj rm,aj h] (cD ⟨n,r,rm,h⟩):=by
 refine ae ar { l:=0,f:=98} mixed Hq Tryz.func98 (by kernel_rfl) ?_
 conv=>whnf
 repeat(any_goals(first|exact ab|(refine ap ?_ ?_<;>intro _<;>first|exact aq|conv=>whnf)|((first|refine ac ?_|refine bi ?_ ?_|intro _)<;>conv=>whnf)))
 (refine⟨⟨?_⟩,trivial⟩;rfl)
theorem Jq(n:Int):PureA Tryz.prog 67 [aj n] (aF (cY n)):=by
 refine ae ar { l:=0,f:=67} mixed G9 Tryz.func67 (by kernel_rfl) ?_
 conv=>whnf
 repeat(any_goals(first|exact ab|(refine ap ?_ ?_<;>intro _<;>first|exact aq|conv=>whnf)|((first|refine aa (Ek _ _ _ _) ?_|refine ac ?_|refine bi ?_ ?_|intro _)<;>conv=>whnf)))
 (refine⟨⟨?_⟩,trivial⟩;rfl)
theorem uI:PureA Tryz.prog 68 [] (aG lA):=by
 refine ae ar { l:=0,f:=68} mixed Ha Tryz.func68 (by kernel_rfl) ?_
 conv=>whnf
 repeat(any_goals(first|exact ab|(refine ap ?_ ?_<;>intro _<;>first|exact aq|conv=>whnf)|((first|refine ac ?_|refine bi ?_ ?_|intro _)<;>conv=>whnf)))
 (refine⟨⟨?_⟩,trivial⟩;rfl)
theorem wP(n:Int):(cY n).small:=by
 refine⟨by simp[cY],by simp[cY],?_⟩
 intro f hf
 simp only[cY,List.mem_cons,List.not_mem_nil,or_false]at hf
 rcases hf with rfl|rfl|rfl|rfl|rfl<;>exact⟨by decide,by decide⟩
theorem yx:(cY 14).surelyR 6=(true,0):=by decide +kernel
theorem vk:(cY 14).surelyR 24=(false,0):=by decide +kernel
theorem HG:(cY 14).trueR lA=(true,0):=by decide +kernel
theorem Eg:(cY 14).trueR (lA.take 3)=(false,0):=by decide +kernel
theorem HB:(cY 14).bestR=(lA,2,0):=by decide +kernel
theorem HC:(cY 14).fitsR lA [0,1,2]=(85,0):=by decide +kernel
theorem Ef:(cY 14).fitsR lA [0,3]=(0,7):=by decide +kernel
theorem AM:((cY 14).setR lA).1.pages=[0,2]∧((cY 14).setR lA).1.white=0∧((cY 14).setR lA).2=0:=by decide +kernel
theorem vj:((cY 14).setR (lA.take 3)).1.pages=[]∧((cY 14).setR (lA.take 3)).1.white=0∧((cY 14).setR (lA.take 3)).2=9:=by decide +kernel
theorem JO:(cY 14).fewR lA=(2,0):=by decide +kernel
theorem Eh:(cY 14).writeR lA=(bytes IW,0):=by decide +kernel
theorem HE:(cY 14).readR IW=(lA,0):=by decide +kernel
theorem HF:(cY 14).slipR lA 1=([3],[1,3],0):=by decide +kernel
set_option maxHeartbeats 4000000 in
set_option maxRecDepth 100000 in
theorem gd:PureA Tryz.prog 21 [] (aB true):=by
 have hs:=wP 14
 have s1:=cE (cY 14) hs 6
 rw[yx]at s1
 have s2:=cE (cY 14) hs 24
 rw[vk]at s2
 have t1:=f5 (cY 14) hs lA (by decide)
 rw[HG]at t1
 have t2:=f5 (cY 14) hs (lA.take 3) (by decide)
 rw[Eg]at t2
 have b1:=fE (cY 14) hs
 rw[HB]at b1
 have f1:=sX (cY 14) hs lA (by decide) [0,1,2] (by decide)
 rw[HC]at f1
 have f2:=sX (cY 14) hs lA (by decide) [0,3] (by decide)
 rw[Ef]at f2
 have p1:=lc (cY 14) hs lA (by decide)
 unfold J8 at p1
 rw[AM.1,AM.2.1,AM.2.2]at p1
 have p2:=lc (cY 14) hs (lA.take 3) (by decide)
 unfold J8 at p2
 rw[vj.1,vj.2.1,vj.2.2]at p2
 have m1:=Ei (cY 14) hs lA (by decide)
 rw[JO]at m1
 have w1:=mr (cY 14) hs lA (by decide)
 rw[Eh]at w1
 simp only[Ct]at w1
 have r1:=oL (cY 14) hs IW
 rw[HE]at r1
 have l1:=iB (cY 14) hs lA (by decide) 1
 rw[HF]at l1
 have c1:=k9 lA lA (by decide) (by decide)
 have i1:=fS [0,2] [0,2] (by decide) (by decide)
 have i2:=fS [3] [3] (by decide) (by decide)
 have i3:=fS [1,3] [1,3] (by decide) (by decide)
 have sh:=Jq 14
 have ca:=uI
 rw[decide_eq_true rfl]at c1 i1 i2 i3
 unfold ui se at *
 clear hs
 refine ae ar { l:=0,f:=21} mixed GH Tryz.func21 (by kernel_rfl) ?_
 conv=>whnf
 repeat(any_goals(first|exact ab|(refine ap ?_ ?_<;>intro _<;>first|exact aq|conv=>whnf)|((first|refine aa sh ?_|refine aa ca ?_|refine aa s1 ?_|refine aa s2 ?_|refine aa t1 ?_|refine aa t2 ?_|refine aa b1 ?_|refine aa f1 ?_|refine aa f2 ?_|refine aa p1 ?_|refine aa p2 ?_|refine aa m1 ?_|refine aa w1 ?_|refine aa r1 ?_|refine aa l1 ?_|refine aa c1 ?_|refine aa i1 ?_|refine aa i2 ?_|refine aa i3 ?_|refine And.intro (by decide) ?_|refine ac ?_|refine bi ?_ ?_|intro _)<;>conv=>whnf)))
 (refine⟨⟨?_⟩,trivial⟩;rfl)
end Go.Proofs.YtgncapdjheghfaaGreatDoor
namespace Go.Proofs.YtgncapdjheghfaaGreatDoor
open Go.Am Go.Proofs Go
theorem neB(b:Bool):(b != b)=false:=by cases b<;>rfl
theorem eqB(b:Bool):(b==b)=true:=by cases b<;>rfl
theorem fU{P:Program}{f:FuncId}{α:Type}[DecidableEq α]{args:List AV}{a:α}(h:PureA P f args (aB (decide (a=a)))):PureA P f args (aB true):=by rwa [decide_eq_true rfl]at h
set_option maxHeartbeats 4000000 in
set_option maxRecDepth 100000 in
theorem x9(s:Bill)(n:Int)(c:List Ent)(hr:s.small)(hl:c.length≤1048576):PureA Tryz.prog 3 [aF s,aj n,aG c] (aB true):=by
 have c1:=va s hr
 have c2:=eL s hr
 have s1:=cE s hr n
 have s2:=wK s hr n
 have t1:=f5 s hr c hl
 have t2:=Cf s hr c
 have aw:=gd
 unfold zJ at c1 c2
 generalize s.check=x at *
 generalize s.surelyR n=y at *
 generalize s.trueR c=z at *
 obtain⟨x1,x2,x3⟩:=x
 obtain⟨y1,y2⟩:=y
 obtain⟨z1,z2⟩:=z
 simp only at c1 c2 s1 s2 t1 t2
 unfold aF at c1 c2 s1 s2 t1 t2
 refine ae ar { l:=0,f:=3} mixed Jx Tryz.func3 (by kernel_rfl) ?_
 conv=>whnf
 repeat(any_goals(first|exact ab|(refine ap ?_ ?_<;>intro _<;>first|exact aq|conv=>whnf)|((first|refine aa c1 ?_|refine aa c2 ?_|refine aa s1 ?_|refine aa s2 ?_|refine aa t1 ?_|refine aa t2 ?_|refine ah c1 rfl ?_|refine ah c2 rfl ?_|refine ah s1 rfl ?_|refine ah s2 rfl ?_|refine ah t1 rfl ?_|refine ah t2 rfl ?_|refine⟨.bool false,pp _ _ (neB _),?_⟩|refine⟨.bool true,KN _ _ (eqB _),?_⟩|refine aa aw ?_|refine ac ?_|refine bi ?_ ?_|intro _)<;>conv=>whnf)))
 (refine⟨⟨?_⟩,trivial⟩;rfl)
set_option maxHeartbeats 4000000 in
set_option maxRecDepth 100000 in
theorem x7(s:Bill)(hr:s.small):PureA Tryz.prog 4 [aF s] (aB true):=by
 have b1:=fE s hr
 have b2:=Cd s hr
 have aw:=gd
 have hlen:s.bestR.1.length≤1048576:=by
  unfold Bill.bestR
  split
  ·simp
  ·rename_i h0
   have h0:s.check.2.2=0:=Decidable.not_not.1 h0
   have hg:=Bill.good h0
   obtain⟨c,hc,hh,_⟩:=fF hg
   rw[hc]
   have:=(cr (dz hg hh)).2.2
   simp only
   omega
 have sm:=fU (k9 s.bestR.1 s.bestR.1 hlen hlen)
 unfold se at b1 b2
 generalize s.bestR=x at *
 obtain⟨x1,x2,x3⟩:=x
 simp only at b1 b2 sm
 unfold aF at b1 b2
 refine ae ar { l:=0,f:=4} mixed Jy Tryz.func4 (by kernel_rfl) ?_
 conv=>whnf
 repeat(any_goals(first|exact ab|(refine ap ?_ ?_<;>intro _<;>first|exact aq|conv=>whnf)|((first|refine aa b1 ?_|refine aa b2 ?_|refine ah b1 rfl ?_|refine ah b2 rfl ?_|refine aa sm ?_|refine ah sm rfl ?_|refine aa aw ?_|refine ac ?_|refine bi ?_ ?_|intro _)<;>conv=>whnf)))
 (refine⟨⟨?_⟩,trivial⟩;rfl)
theorem jS(s:Bill):∀(l:List Ent) (i:Nat),(bG s i l).length≤l.length
 | [],i=>Nat.le_refl _
 | x::l,i=>by
  have:=jS s l (i+1)
  rw[dp]
  split<;>(try simp only[List.length_cons])<;>omega
theorem pa(s:Bill)(D:List Int):∀f i:Nat,(cM s D f i).length≤f
 | 0,i=>Nat.le_refl _
 | f+1,i=>by
  have:=pa s D f (i+1)
  rw[ei]
  split<;>(try simp only[List.length_cons])<;>omega
set_option maxHeartbeats 4000000 in
set_option maxRecDepth 100000 in
theorem uH(s:Bill)(c:List Ent)(left:Int)(hr:s.small)(hl:c.length≤1048576):PureA Tryz.prog 7 [aF s,aG c,aj left] (aB true):=by
 have a1:=iB s hr c hl left
 have a2:=Ce s hr c left
 have aw:=gd
 have hlen:(s.slipR c left).1.length≤1048576∧(s.slipR c left).2.1.length≤1048576:=by
  unfold Bill.slipR
  split
  ·exact⟨Nat.zero_le _,Nat.zero_le _⟩
  ·split
   ·exact⟨Nat.zero_le _,Nat.zero_le _⟩
   ·refine⟨Nat.le_trans (jS _ _ _) hl,?_⟩
    show((s.leftT left.toNat).slipL c).length≤1048576
    unfold Bill.slipL
    split
    ·exact Nat.zero_le _
    ·exact Nat.le_trans (pa _ _ _ _) hr.1
 have sm:=fU (fS (s.slipR c left).1 (s.slipR c left).1 hlen.1 hlen.1)
 have sn:=fU (fS (s.slipR c left).2.1 (s.slipR c left).2.1 hlen.2 hlen.2)
 unfold ui at a1 a2
 generalize s.slipR c left=x at *
 obtain⟨x1,x2,x3⟩:=x
 simp only at a1 a2 sm sn
 unfold aF at a1 a2
 refine ae ar { l:=0,f:=7} mixed Jz Tryz.func7 (by kernel_rfl) ?_
 conv=>whnf
 repeat(any_goals(first|exact ab|(refine ap ?_ ?_<;>intro _<;>first|exact aq|conv=>whnf)|((first|refine aa a1 ?_|refine aa a2 ?_|refine ah a1 rfl ?_|refine ah a2 rfl ?_|refine aa sm ?_|refine ah sm rfl ?_|refine aa sn ?_|refine ah sn rfl ?_|refine aa aw ?_|refine ac ?_|refine bi ?_ ?_|intro _)<;>conv=>whnf)))
 (refine⟨⟨?_⟩,trivial⟩;rfl)
end Go.Proofs.YtgncapdjheghfaaGreatDoor
namespace Go.Proofs.YtgncapdjheghfaaGreatDoor
open Go.Am Go.Proofs Go
theorem xe{s:Bill}(h:s.check.2.2≠0):s.bestR=([],0,s.check.2.2):=by unfold Bill.bestR;rw[if_pos h]
theorem ko{s:Bill}(hg:s.Good){c:List Ent}(h:cl none s.cats=some (c,(bR c:Int))):s.bestR=(c,(bR c:Int),0):=by
 unfold Bill.bestR
 rw[if_neg (by rw[hg.check];simp),h]
theorem nS{s:Bill}(hg:s.Good)(c:List Ent):s.trueR c=(s.holds c,0):=by
 unfold Bill.trueR
 rw[if_neg (by rw[hg.check];simp)]
theorem dy{s:Bill}(hg:s.Good){c:List Ent}(h:s.holds c=true):c.length≤6:=(cr (dz hg h)).2.2
theorem f6{s:Bill}(hr:s.small)(h:s.check.2.2≠0):PureA Tryz.prog 38 [aF s] (aB false):=by
 have:=C9 s hr
 rwa [decide_eq_false h]at this
theorem eP{s:Bill}(hr:s.small)(hg:s.Good):PureA Tryz.prog 38 [aF s] (aB true):=by
 have:=C9 s hr
 rwa [decide_eq_true (by rw[hg.check])]at this
set_option maxHeartbeats 4000000 in
set_option maxRecDepth 100000 in
theorem r5(s:Bill)(x:Int)(l:List Ent)(hr:s.small)(h8:0≤x∧x≤255)(hl:l.length≤1048576):PureA Tryz.prog 9 [aF s,u8A x,aG l] (aB true):=by
 have aw:=gd
 have b1:=fE s hr
 by_cases h0:s.check.2.2=0
 ·have hg:=Bill.good h0
  have hv:=eP hr hg
  obtain⟨c,hc,hh,hle⟩:=fF hg
  rw[ko hg hc]at b1
  have hc6:=dy hg hh
  have ha:=DJ s hg x h8
  have hah:=j2 hg (x:=x) h8.1
  have ha6:=dy hg hah
  have hle1:=(hle _ hah).not
  have t1:=f5 s hr c (by omega)
  have t2:=f5 s hr (s.anyC x) (by omega)
  have t3:=f5 s hr l hl
  rw[nS hg,hh]at t1
  rw[nS hg,hah]at t2
  rw[nS hg]at t3
  have m1:=nv c (by omega)
  have m2:=nv (s.anyC x) (by omega)
  have q1:=xf (s.anyC x) c (by omega) (by omega)
  generalize s.anyC x=d at *
  unfold se at b1
  simp only at b1 t1 t2 t3
  unfold aF at hv b1 ha t1 t2 t3
  cases hlh:s.holds l with
  | false =>
   rw[hlh]at t3
   clear hg hc hle
   by_cases q:bR d=bR c
   ·rw[hle1.2 q.symm]at q1
    refine ae ar { l:=0,f:=9} mixed nG Tryz.func9 (by kernel_rfl) ?_
    conv=>whnf
    repeat(any_goals(first|exact ab|(refine ap ?_ ?_<;>intro _<;>first|exact aq|conv=>whnf)|((first|refine aa b1 ?_|refine aa hv ?_|refine aa t1 ?_|refine aa ha ?_|refine aa t2 ?_|refine aa t3 ?_|refine aa m1 ?_|refine aa m2 ?_|refine aa q1 ?_|refine aa aw ?_|refine ac ?_|refine bi ?_ ?_|intro _)<;>conv=>whnf)))
    (refine⟨⟨?_⟩,trivial⟩;rfl)
   ·have hlt:bR c<bR d:=by omega
    refine ae ar { l:=0,f:=9} mixed nG Tryz.func9 (by kernel_rfl) ?_
    conv=>whnf
    repeat(any_goals(first|exact ab|(refine ap ?_ ?_<;>intro _<;>first|exact aq|conv=>whnf)|((first|refine aa b1 ?_|refine aa hv ?_|refine aa t1 ?_|refine aa ha ?_|refine aa t2 ?_|refine aa t3 ?_|refine aa m1 ?_|refine aa m2 ?_|refine aa q1 ?_|refine aa aw ?_|refine ac ?_|refine bi ?_ ?_|intro _)<;>conv=>whnf)))
    (refine⟨⟨?_⟩,trivial⟩;rfl)
  | true =>
   rw[hlh]at t3
   have hl6:=dy hg hlh
   have hle2:=(hle l hlh).not
   have m3:=nv l (by omega)
   have q2:=xf l c (by omega) (by omega)
   clear hg hc hle
   by_cases q:bR d=bR c
   ·rw[hle1.2 q.symm]at q1
    by_cases r:bR l=bR c
    ·rw[hle2.2 r.symm]at q2
     refine ae ar { l:=0,f:=9} mixed nG Tryz.func9 (by kernel_rfl) ?_
     conv=>whnf
     repeat(any_goals(first|exact ab|(refine ap ?_ ?_<;>intro _<;>first|exact aq|conv=>whnf)|((first|refine aa b1 ?_|refine aa hv ?_|refine aa t1 ?_|refine aa ha ?_|refine aa t2 ?_|refine aa t3 ?_|refine aa m1 ?_|refine aa m2 ?_|refine aa m3 ?_|refine aa q1 ?_|refine aa q2 ?_|refine aa aw ?_|refine ac ?_|refine bi ?_ ?_|intro _)<;>conv=>whnf)))
     (refine⟨⟨?_⟩,trivial⟩;rfl)
    ·have hlt2:bR c<bR l:=by omega
     refine ae ar { l:=0,f:=9} mixed nG Tryz.func9 (by kernel_rfl) ?_
     conv=>whnf
     repeat(any_goals(first|exact ab|(refine ap ?_ ?_<;>intro _<;>first|exact aq|conv=>whnf)|((first|refine aa b1 ?_|refine aa hv ?_|refine aa t1 ?_|refine aa ha ?_|refine aa t2 ?_|refine aa t3 ?_|refine aa m1 ?_|refine aa m2 ?_|refine aa m3 ?_|refine aa q1 ?_|refine aa q2 ?_|refine aa aw ?_|refine ac ?_|refine bi ?_ ?_|intro _)<;>conv=>whnf)))
     (refine⟨⟨?_⟩,trivial⟩;rfl)
   ·have hlt:bR c<bR d:=by omega
    by_cases r:bR l=bR c
    ·rw[hle2.2 r.symm]at q2
     refine ae ar { l:=0,f:=9} mixed nG Tryz.func9 (by kernel_rfl) ?_
     conv=>whnf
     repeat(any_goals(first|exact ab|(refine ap ?_ ?_<;>intro _<;>first|exact aq|conv=>whnf)|((first|refine aa b1 ?_|refine aa hv ?_|refine aa t1 ?_|refine aa ha ?_|refine aa t2 ?_|refine aa t3 ?_|refine aa m1 ?_|refine aa m2 ?_|refine aa m3 ?_|refine aa q1 ?_|refine aa q2 ?_|refine aa aw ?_|refine ac ?_|refine bi ?_ ?_|intro _)<;>conv=>whnf)))
     (refine⟨⟨?_⟩,trivial⟩;rfl)
    ·have hlt2:bR c<bR l:=by omega
     refine ae ar { l:=0,f:=9} mixed nG Tryz.func9 (by kernel_rfl) ?_
     conv=>whnf
     repeat(any_goals(first|exact ab|(refine ap ?_ ?_<;>intro _<;>first|exact aq|conv=>whnf)|((first|refine aa b1 ?_|refine aa hv ?_|refine aa t1 ?_|refine aa ha ?_|refine aa t2 ?_|refine aa t3 ?_|refine aa m1 ?_|refine aa m2 ?_|refine aa m3 ?_|refine aa q1 ?_|refine aa q2 ?_|refine aa aw ?_|refine ac ?_|refine bi ?_ ?_|intro _)<;>conv=>whnf)))
     (refine⟨⟨?_⟩,trivial⟩;rfl)
 ·have hv:=f6 hr h0
  rw[xe h0]at b1
  unfold se at b1
  simp only at b1
  unfold aF at hv b1
  generalize s.check.2.2=e at *
  refine ae ar { l:=0,f:=9} mixed nG Tryz.func9 (by kernel_rfl) ?_
  conv=>whnf
  repeat(any_goals(first|exact ab|(refine ap ?_ ?_<;>intro _<;>first|exact aq|conv=>whnf)|((first|refine aa b1 ?_|refine aa hv ?_|refine aa aw ?_|refine ac ?_|refine bi ?_ ?_|intro _)<;>conv=>whnf)))
  (refine⟨⟨?_⟩,trivial⟩;rfl)
theorem yM{s:Bill}(hg:s.Good){c:List Ent}(hc:∀x∈c,s.OkE x)(pages:List Nat)(i:Nat):(s.lineW c pages i).length≤124:=by
 cases hx:c[i]? with
 | none=>unfold Bill.lineW Bill.rowW;rw[hx];simp
 | some x =>
  rw[ey hx rfl rfl]
  have h1:=g3 hg (hc x (List.mem_of_getElem? hx)) i
  have h2:=cV (s.roomAt x.a)
  have h3:=gW (s.roomAt x.a)
  simp only[List.length_append]
  have hp:(ed (pages.findIdx? (· ==i))).length≤7:=by
   cases pages.findIdx? (· ==i)with
   | none=>simp[ed]
   | some p=>show(aZ p).length≤7;rw[cU];omega
  have hr:∀h:Int,(if h=2 then bM (s.roomAt x.a)else if h=1 then fe (s.roomAt x.a)else []).length≤17:=fun h=>by
   split
   ·omega
   ·split
    ·omega
    ·simp
  have:=hr (s.heading c i (pages.findIdx? (· ==i)).isSome)
  omega
theorem pc{s:Bill}(hg:s.Good){c:List Ent}(hc:∀x∈c,s.OkE x)(pages:List Nat):∀i:Nat,(s.textTo c pages i).length≤124 * i
 | 0=>by rw[pd];simp
 | i+1=>by
  rw[cF,List.length_append]
  have:=pc hg hc pages i
  have:=yM hg hc pages i
  omega
theorem Cc{s:Bill}(hg:s.Good){c:List Ent}(h:s.holds c=true)(hl:(s.textL c).length≤800):s.readR (aK (s.textL c))=(c,0):=by
 unfold Bill.readR
 rw[if_neg (by rw[hg.check];simp),if_neg (by show¬ 800<(s.textL c).length;omega)]
 show(match s.parse (s.textL c)with|none=>_|some l=>_)=_
 rw[zH hg h]
 simp only
 rw[if_pos ⟨h,rfl⟩]
theorem It{s:Bill}(hg:s.Good){t:ByteArray}:((s.readR t).2≠0∧(s.readR t).1=[])∨(∃c,s.readR t=(c,0)∧s.holds c=true∧aK (s.textL c)=t):=by
 unfold Bill.readR
 rw[if_neg (by rw[hg.check];simp)]
 split
 ·left;exact⟨by simp,rfl⟩
 ·split
  ·left;exact⟨by simp,rfl⟩
  ·rename_i l hl
   split
   ·rename_i hh
    right
    exact⟨l,rfl,hh.1,fG hh.2⟩
   ·left;exact⟨by simp,rfl⟩
set_option maxHeartbeats 4000000 in
set_option maxRecDepth 100000 in
theorem uG(s:Bill)(x:Int)(t:ByteArray)(hr:s.small)(h8:0≤x∧x≤255):PureA Tryz.prog 11 [aF s,u8A x,aN t] (aB true):=by
 have aw:=gd
 have r0:=oL s hr t
 by_cases h0:s.check.2.2=0
 ·have hg:=Bill.good h0
  have hv:=eP hr hg
  have ha:=DJ s hg x h8
  have hah:=j2 hg (x:=x) h8.1
  have ha6:=dy hg hah
  generalize s.anyC x=d at *
  have hdo:=(cr (dz hg hah)).2.1
  have hlen:(s.textL d).length≤800:=by
   have:=pc hg hdo (tL (s.press d 0)) d.length
   rw[qx]at this
   omega
  have w1:=mr s hr d (by omega)
  have hwr:∀c,s.holds c=true→s.writeR c=(s.textL c,0):=fun c h=>by unfold Bill.writeR;rw[if_neg (fun k=>k (dz hg h))]
  rw[hwr d hah]at w1
  have r1:=oL s hr (aK (s.textL d))
  rw[Cc hg hah hlen]at r1
  have sm:=fU (k9 d d (by omega) (by omega))
  have hsz:(aK (s.textL d)).size=(s.textL d).length:=rfl
  have hro:=It hg (t:=t)
  simp only at w1 r1
  generalize hT:aK (s.textL d)=T at *
  rcases hro with⟨e0,hn⟩|⟨c,hc,hh,hct⟩
  ·rw[hn]at r0
   generalize (s.readR t).2=e at *
   clear hg hwr hdo
   unfold aF at hv ha w1 r1 r0
   refine ae ar { l:=0,f:=11} mixed uR Tryz.func11 (by kernel_rfl) ?_
   conv=>whnf
   repeat(any_goals(first|exact ab|(refine ap ?_ ?_<;>intro _<;>first|exact aq|conv=>whnf)|((first|refine aa hv ?_|refine aa ha ?_|refine aa w1 ?_|refine aa r1 ?_|refine aa sm ?_|refine aa r0 ?_|refine aa aw ?_|refine ac ?_|refine bi ?_ ?_|intro _)<;>conv=>whnf)))
   (refine⟨⟨?_⟩,trivial⟩;rfl)
  ·rw[hc]at r0
   simp only at r0
   have hc6:=dy hg hh
   have w2:=mr s hr c (by omega)
   rw[hwr c hh]at w2
   simp only[hct]at w2
   clear hg hwr hdo hc
   unfold aF at hv ha w1 r1 r0 w2
   refine ae ar { l:=0,f:=11} mixed uR Tryz.func11 (by kernel_rfl) ?_
   conv=>whnf
   repeat(any_goals(first|exact ab|(refine ap ?_ ?_<;>intro _<;>first|exact aq|conv=>whnf)|((first|refine aa hv ?_|refine aa ha ?_|refine aa w1 ?_|refine aa r1 ?_|refine aa sm ?_|refine aa r0 ?_|refine aa w2 ?_|refine aa aw ?_|refine ac ?_|refine bi ?_ ?_|intro _)<;>conv=>whnf)))
   all_goals(try(exact absurd rfl (by assumption)))
   (refine⟨⟨?_⟩,trivial⟩;rfl)
 ·have hv:=f6 hr h0
  have hre:s.readR t=([],s.check.2.2):=by unfold Bill.readR;rw[if_pos h0]
  rw[hre]at r0
  simp only at r0
  unfold aF at hv r0
  generalize s.check.2.2=e at *
  refine ae ar { l:=0,f:=11} mixed uR Tryz.func11 (by kernel_rfl) ?_
  conv=>whnf
  repeat(any_goals(first|exact ab|(refine ap ?_ ?_<;>intro _<;>first|exact aq|conv=>whnf)|((first|refine aa hv ?_|refine aa r0 ?_|refine aa aw ?_|refine ac ?_|refine bi ?_ ?_|intro _)<;>conv=>whnf)))
  (refine⟨⟨?_⟩,trivial⟩;rfl)
end Go.Proofs.YtgncapdjheghfaaGreatDoor
namespace Go.Proofs.YtgncapdjheghfaaGreatDoor
open Go.Am Go.Proofs Go
theorem Bz:∀n,n<7→∀f,f<n→∀z,z<2^n→z.testBit f=false→z+2^f<2^n∧z+2^f=z|||2^f:=by decide +kernel
theorem Bg:∀m,m<7→1<m→∀j,j<m→0<2^m-1-2^j∧2^m-1-2^j<2^m∧2^j≤2^m-1:=by decide +kernel
theorem fX{s:Bill}(hg:s.Good){z:Int}(h:0≤z∧z<2^s.figs.length):s.surelyR z=(s.sure z,0):=by
 unfold Bill.surelyR
 rw[if_neg (by rw[hg.check];simp),if_neg]
 rw[Bool.not_eq_true,aT]
 omega
theorem dj(n:Nat):((2^n:Nat):Int)=(2:Int)^n:=by norm_cast
theorem pZ{s:Bill}(hr:s.small)(left:Nat):(s.leftT left).small:=⟨hr.1,Nat.le_trans (cT left s.truths 0).length_le hr.2.1,hr.2.2⟩
structure ShS where
 i:Nat
 b:Bool
set_option maxHeartbeats 4000000 in
set_option maxRecDepth 100000 in
theorem Cz(s:Bill)(x y0 y1:Int)(h8:0≤x∧x≤255)(hy0:0≤y0∧y0≤255)(hy1:0≤y1∧y1≤255)(P Q M More:Int)(f:Nat)(A B one:Bool)
  (hn:1≤s.figs.length∧s.figs.length≤6) (hm:1≤s.truths.length∧s.truths.length≤6) (hP:1≤P∧P≤64) (hQ:1≤Q∧Q≤64) (bt:Bool)
  (hmore:More=if bt=true then x.tmod P else x.tmod P+Q) (hset:0≤x.tmod P∧x.tmod P≤63)
  (aw:PureA Tryz.prog 21 [] (aB true))
  (hv:PureA Tryz.prog 38 [.agg [aj s.lines,bu s.figs,aD s.truths]] (aB true))
  (hse:PureA Tryz.prog 47 [aj ((s.figs.map cD).length:Int)] (aj P))
  (hf:y0.tmod ((s.figs.map cD).length:Int)=f) (hf6:f≤5)
  (hbt:PureA Tryz.prog 39 [aj (x.tmod P),aj (y0.tmod ((s.figs.map cD).length:Int))] (aB bt))
  (hsf:PureA Tryz.prog 47 [aj (y0.tmod ((s.figs.map cD).length:Int))] (aj Q))
  (s1:PureA Tryz.prog 17 [.agg [aj s.lines,bu s.figs,aD s.truths],aj (x.tmod P)] (.tuple [aB A,aj 0]))
  (s2:PureA Tryz.prog 17 [.agg [aj s.lines,bu s.figs,aD s.truths],aj More] (.tuple [aB B,aj 0]))
  (s3:PureA Tryz.prog 17 [.agg [aj s.lines,bu s.figs,aD s.truths],aj Q] (.tuple [aB one,aj 0]))
  (hAB:A=true→B=true) (hone:one=s.truths.all (dR · f))
  (htb:∀t∈s.truths,PureA Tryz.prog 39 [aj t,aj (y0.tmod ((s.figs.map cD).length:Int))] (aB (dR t f)))
  (hlast:s.truths.length≠1→∃(Q2 P2:Int) (S:Bill) (D:Bool),1≤P2∧P2≤64∧1≤Q2∧Q2≤64∧(A=true→D=true) ∧
   PureA Tryz.prog 47 [aj ((s.truths.map aj).length:Int)] (aj P2)∧PureA Tryz.prog 47 [aj (y1.tmod ((s.truths.map aj).length:Int))] (aj Q2) ∧
   PureA Tryz.prog 48 [.agg [aj s.lines,bu s.figs,aD s.truths],aj (P2-1-Q2)] (.agg [aj S.lines,bu S.figs,aD S.truths]) ∧
   PureA Tryz.prog 17 [.agg [aj S.lines,bu S.figs,aD S.truths],aj (x.tmod P)] (.tuple [aB D,aj 0])) :
  PureA Tryz.prog 13 [aF s,u8A x,.agg [u8A y0,u8A y1]] (aB true):=by
 have hfl:(s.figs.map cD).length=s.figs.length:=List.length_map ..
 have htl:(s.truths.map aj).length=s.truths.length:=List.length_map ..
 have hff:(0:Int)≤y0.tmod ((s.figs.map cD).length:Int)∧y0.tmod ((s.figs.map cD).length:Int)≤5:=by rw[hf];omega
 have hcons:∀(t:Int) (l:List Int),(t::l).all (dR · f)=(dR t f&&l.all (dR · f)):=fun _ _=>rfl
 have hnil:([]:List Int).all (dR · f)=true:=rfl
 clear hf
 have key:∀b:Bool,PureA Tryz.prog 17 [.agg [aj s.lines,bu s.figs,aD s.truths],aj More] (.tuple [aB B,aj 0])→b=bt→PureA Tryz.prog 13 [aF s,u8A x,.agg [u8A y0,u8A y1]] (aB true):=by
  intro b s2 hb
  subst hb
  cases b
  all_goals
   simp only[if_true,Bool.false_eq_true,if_false]at hmore
   subst hmore
   cases A with
   | true =>
    obtain rfl:=hAB rfl
    refine ae ar { l:=0,f:=13} mixed qP Tryz.func13 (by kernel_rfl) ?_
    conv=>whnf
    repeat(any_goals(first|exact ab|(refine ap ?_ ?_<;>intro _<;>first|exact aq|conv=>whnf)|((first|refine aa hv ?_|refine aa hse ?_|refine aa hbt ?_|refine aa hsf ?_|refine aa s1 ?_|refine aa s2 ?_|refine aa s3 ?_|refine ac ?_|refine bi ?_ ?_|intro _)<;>conv=>whnf)))
    refine aW ar { l:=0,f:=13} mixed (fun u:ShS=>[(19,aj u.i),(18,aB u.b)]) (fun _=>[]) (fun _=>[]) (fun u=>u.i≤s.truths.length∧one=(u.b&&(s.truths.drop u.i).all (dR · f))) (fun u=>s.truths.length-u.i) (⟨0,true⟩:ShS) (by kernel_rfl)
     ⟨Nat.zero_le _,hone⟩ ?_
    conv=>whnf
    refine⟨⟨ai rfl (ai rfl trivial),trivial,trivial⟩,?_⟩
    rintro u ⟨hi,H⟩
    generalize u.i=i at *
    generalize u.b=b at *
    clear u
    by_cases hlt:i<s.truths.length
    ·obtain⟨t,ht,hd⟩:=ay (l:=s.truths) (i:=i) hlt
     rw[hd,hcons]at H
     have htb1:=htb t (List.mem_of_getElem? ht)
     cases b with
     | false =>
      conv=>whnf
      repeat(any_goals(first|exact ab|(refine ap ?_ ?_<;>intro _<;>first|exact aq|conv=>whnf)|((first|refine ac ?_|refine bi ?_ ?_|intro _)<;>conv=>whnf)))
      (refine⟨⟨i+1,false⟩,⟨by show i+1≤_;omega,by rw[H];rfl⟩,(by show _-(i+1)<_-i;omega),?_⟩;(conv=>whnf);refine⟨?_,?_,?_⟩<;>repeat(first|exact trivial|refine sc rfl ?_|refine kn ?_|refine kc rfl ?_|refine sc (by rfl) ?_|refine kc (by rfl) ?_))
     | true =>
      rw[Bool.true_and]at H
      generalize dR t f=v at *
      conv=>whnf
      repeat(any_goals(first|exact ab|(refine ap ?_ ?_<;>intro _<;>first|exact aq|conv=>whnf)|((first|refine ag ht rfl ?_|refine aa htb1 ?_|refine ac ?_|refine bi ?_ ?_|intro _)<;>conv=>whnf)))
      (refine⟨⟨i+1,v⟩,⟨by show i+1≤_;omega,H⟩,(by show _-(i+1)<_-i;omega),?_⟩;(conv=>whnf);refine⟨?_,?_,?_⟩<;>repeat(first|exact trivial|refine sc rfl ?_|refine kn ?_|refine kc rfl ?_|refine sc (by rfl) ?_|refine kc (by rfl) ?_))
    ·have hin:i=s.truths.length:=by omega
     subst hin
     rw[List.drop_length,hnil,Bool.and_true]at H
     subst H
     by_cases h1:s.truths.length=1
     ·conv=>whnf
      repeat(any_goals(first|exact ab|(refine ap ?_ ?_<;>intro _<;>first|exact aq|conv=>whnf)|((first|refine⟨.bool false,pp _ _ (neB _),?_⟩|refine aa aw ?_|refine ac ?_|refine bi ?_ ?_|intro _)<;>conv=>whnf)))
      (refine⟨⟨?_⟩,trivial⟩;rfl)
     ·obtain⟨Q2,P2,S,D,hp1,hp2,hq1,hq2,hAD,l1,l2,l3,l4⟩:=hlast h1
      first
       | (obtain rfl:=hAD rfl)
       | cases D
      all_goals
       conv=>whnf
       repeat(any_goals(first|exact ab|(refine ap ?_ ?_<;>intro _<;>first|exact aq|conv=>whnf)|((first|refine⟨.bool false,pp _ _ (neB _),?_⟩|refine aa l1 ?_|refine aa l2 ?_|refine aa l3 ?_|refine aa l4 ?_|refine aa aw ?_|refine ac ?_|refine bi ?_ ?_|intro _)<;>conv=>whnf)))
       (refine⟨⟨?_⟩,trivial⟩;rfl)
   | false =>
    cases B
    all_goals
     refine ae ar { l:=0,f:=13} mixed qP Tryz.func13 (by kernel_rfl) ?_
     conv=>whnf
     repeat(any_goals(first|exact ab|(refine ap ?_ ?_<;>intro _<;>first|exact aq|conv=>whnf)|((first|refine aa hv ?_|refine aa hse ?_|refine aa hbt ?_|refine aa hsf ?_|refine aa s1 ?_|refine aa s2 ?_|refine aa s3 ?_|refine ac ?_|refine bi ?_ ?_|intro _)<;>conv=>whnf)))
     refine aW ar { l:=0,f:=13} mixed (fun u:ShS=>[(19,aj u.i),(18,aB u.b)]) (fun _=>[]) (fun _=>[]) (fun u=>u.i≤s.truths.length∧one=(u.b&&(s.truths.drop u.i).all (dR · f))) (fun u=>s.truths.length-u.i) (⟨0,true⟩:ShS) (by kernel_rfl)
      ⟨Nat.zero_le _,hone⟩ ?_
     conv=>whnf
     refine⟨⟨ai rfl (ai rfl trivial),trivial,trivial⟩,?_⟩
     rintro u ⟨hi,H⟩
     generalize u.i=i at *
     generalize u.b=b at *
     clear u
     by_cases hlt:i<s.truths.length
     ·obtain⟨t,ht,hd⟩:=ay (l:=s.truths) (i:=i) hlt
      rw[hd,hcons]at H
      have htb1:=htb t (List.mem_of_getElem? ht)
      cases b with
      | false =>
       conv=>whnf
       repeat(any_goals(first|exact ab|(refine ap ?_ ?_<;>intro _<;>first|exact aq|conv=>whnf)|((first|refine ac ?_|refine bi ?_ ?_|intro _)<;>conv=>whnf)))
       (refine⟨⟨i+1,false⟩,⟨by show i+1≤_;omega,by rw[H];rfl⟩,(by show _-(i+1)<_-i;omega),?_⟩;(conv=>whnf);refine⟨?_,?_,?_⟩<;>repeat(first|exact trivial|refine sc rfl ?_|refine kn ?_|refine kc rfl ?_|refine sc (by rfl) ?_|refine kc (by rfl) ?_))
      | true =>
       rw[Bool.true_and]at H
       generalize dR t f=v at *
       conv=>whnf
       repeat(any_goals(first|exact ab|(refine ap ?_ ?_<;>intro _<;>first|exact aq|conv=>whnf)|((first|refine ag ht rfl ?_|refine aa htb1 ?_|refine ac ?_|refine bi ?_ ?_|intro _)<;>conv=>whnf)))
       (refine⟨⟨i+1,v⟩,⟨by show i+1≤_;omega,H⟩,(by show _-(i+1)<_-i;omega),?_⟩;(conv=>whnf);refine⟨?_,?_,?_⟩<;>repeat(first|exact trivial|refine sc rfl ?_|refine kn ?_|refine kc rfl ?_|refine sc (by rfl) ?_|refine kc (by rfl) ?_))
     ·have hin:i=s.truths.length:=by omega
      subst hin
      rw[List.drop_length,hnil,Bool.and_true]at H
      subst H
      by_cases h1:s.truths.length=1
      ·conv=>whnf
       repeat(any_goals(first|exact ab|(refine ap ?_ ?_<;>intro _<;>first|exact aq|conv=>whnf)|((first|refine⟨.bool false,pp _ _ (neB _),?_⟩|refine aa aw ?_|refine ac ?_|refine bi ?_ ?_|intro _)<;>conv=>whnf)))
       (refine⟨⟨?_⟩,trivial⟩;rfl)
      ·obtain⟨Q2,P2,S,D,hp1,hp2,hq1,hq2,hAD,l1,l2,l3,l4⟩:=hlast h1
       first
        | (obtain rfl:=hAD rfl)
        | cases D
       all_goals
        conv=>whnf
        repeat(any_goals(first|exact ab|(refine ap ?_ ?_<;>intro _<;>first|exact aq|conv=>whnf)|((first|refine⟨.bool false,pp _ _ (neB _),?_⟩|refine aa l1 ?_|refine aa l2 ?_|refine aa l3 ?_|refine aa l4 ?_|refine aa aw ?_|refine ac ?_|refine bi ?_ ?_|intro _)<;>conv=>whnf)))
        (refine⟨⟨?_⟩,trivial⟩;rfl)
 exact key bt s2 rfl
theorem Fj(a b:Nat):(a:Int).tmod (b:Int)=((a%b:Nat):Int):=rfl
theorem ph{x:Int}(h:0≤x){n:Nat}(hn:0<n):∃z:Nat,x.tmod (n:Int)=z∧z<n∧z=x.toNat%n:=by
 obtain⟨k,rfl⟩:∃k:Nat,x=k:=⟨x.toNat,by omega⟩
 exact⟨k%n,Fj k n,Nat.mod_lt _ hn,rfl⟩
theorem Cy{s:Bill}(h:1≤s.truths.length):s.sure 0=false:=by
 obtain⟨t,ht,_⟩:=ay (l:=s.truths) (i:=0) (by omega)
 unfold Bill.sure
 rw[Bool.not_eq_false',List.any_eq_true]
 exact⟨t,List.mem_of_getElem? ht,by simp⟩
set_option maxHeartbeats 4000000 in
set_option maxRecDepth 100000 in
theorem r6(s:Bill)(x y0 y1:Int)(hr:s.small)(h8:0≤x∧x≤255)(hy0:0≤y0∧y0≤255)(hy1:0≤y1∧y1≤255) :
  PureA Tryz.prog 13 [aF s,u8A x,.agg [u8A y0,u8A y1]] (aB true):=by
 have aw:=gd
 have s0:=cE s hr 0
 have hfl:(s.figs.map cD).length=s.figs.length:=List.length_map ..
 have htl:(s.truths.map aj).length=s.truths.length:=List.length_map ..
 by_cases h0:s.check.2.2=0
 ·have hg:=Bill.good h0
  have hv:=eP hr hg
  have hm:=hg.lenT
  by_cases hn0:s.figs.length=0
  ·rw[fX hg ⟨by omega,by rw[hn0];decide⟩,Cy hm.1]at s0
   simp only at s0
   have hfz:(s.figs.map cD).length=0:=by omega
   unfold aF at hv s0
   clear hg
   refine ae ar { l:=0,f:=13} mixed qP Tryz.func13 (by kernel_rfl) ?_
   conv=>whnf
   repeat(any_goals(first|exact ab|(refine ap ?_ ?_<;>intro _<;>first|exact aq|conv=>whnf)|((first|refine aa hv ?_|refine aa s0 ?_|refine⟨.bool true,KN _ _ (by decide),?_⟩|refine aa aw ?_|refine ac ?_|refine bi ?_ ?_|intro _)<;>conv=>whnf)))
   (refine⟨⟨?_⟩,trivial⟩;rfl)
  ·have h6:=hg.len
   have hn:1≤s.figs.length:=by omega
   obtain⟨z,hz,hzl,_⟩:=ph (x:=x) h8.1 (n:=2^s.figs.length) (Nat.pow_pos (by omega))
   obtain⟨f,hf,hfl2,_⟩:=ph (x:=y0) hy0.1 (n:=s.figs.length) (by omega)
   rw[dj]at hz
   have hP:=bH h6
   have h64:=jc h6
   have hQ:=bH (n:=f) (by omega)
   have hse:=ld s.figs.length (by omega)
   have hsf:=ld f (by omega)
   have hbt:=mb (z:Int) (f:Int) (by omega) (by omega)
   have s1:=cE s hr z
   rw[fX hg ⟨by omega,by rw[←dj];omega⟩]at s1
   have s3:=cE s hr ((2:Int)^f)
   have hQlt:(2:Int)^f<2^s.figs.length:=by rw[←dj, ←dj];have:=Nat.pow_lt_pow_right (a:=2) (by omega) hfl2;omega
   rw[fX hg ⟨by omega,hQlt⟩]at s3
   have hone:s.sure ((2:Int)^f)=s.truths.all (dR · f):=by rw[←dj,xT];rfl
   rw[hone]at s3
   have hbz:dR (z:Int) f=z.testBit f:=rfl
   obtain⟨w,hw1,hw2,hw3⟩:∃w:Nat,((if z.testBit f=true then(z:Int)else(z:Int)+2^f)=(w:Int))∧w<2^s.figs.length∧∀i,dR (z:Int) i=true→dR (w:Int) i=true:=by
    cases hb:z.testBit f with
    | true=>exact⟨z,by simp,hzl,fun i h=>h⟩
    | false =>
     obtain⟨a1,a2⟩:=Bz s.figs.length (by omega) f hfl2 z hzl hb
     refine⟨z+2^f,by simp,a1,fun i h=>?_⟩
     show(z+2^f).testBit i=true
     rw[a2,Nat.testBit_or]
     have h:z.testBit i=true:=h
     rw[h,Bool.true_or]
   have s2:=cE s hr w
   rw[fX hg ⟨by omega,by rw[←dj];omega⟩]at s2
   have hAB:s.sure z=true→s.sure w=true:=fun h=>Cv hw3 h
   refine Cz s x y0 y1 h8 hy0 hy1 (2^s.figs.length) (2^f) 0 w f (s.sure z) (s.sure w) (s.truths.all (dR · f)) ⟨hn,h6⟩ hm ⟨by omega,by omega⟩ ⟨by omega,by omega⟩ (dR (z:Int) f)
    (by rw[hz, ←hw1,hbz]) (by rw[hz];omega) aw hv (by rw[hfl];exact hse) (by rw[hfl];exact hf) (by omega) (by rw[hz,hfl,hf];simpa using hbt) (by rw[hfl,hf];exact hsf) (by rw[hz];exact s1) s2 s3 hAB rfl
    (fun t ht=>by rw[hfl,hf];have:=mb t (f:Int) (hg.lt ht).1 (by omega);simpa using this) (fun hne=>?_)
   obtain⟨j,hj,hjl,_⟩:=ph (x:=y1) hy1.1 (n:=s.truths.length) (by omega)
   obtain⟨b1,b2,b3⟩:=Bg s.truths.length (by omega) (by omega) j hjl
   have hP2:=bH hm.2
   have hQ2:=bH (n:=j) (by omega)
   have hS:=iO hg (qL (l:=s.truths) rfl (show 2^s.truths.length-1-2^j≠0 by omega) b2)
   have hsub:∀t∈(s.leftT (2^s.truths.length-1-2^j)).truths,t∈s.truths:=fun t ht=>(cT _ s.truths 0).subset ht
   have hll:(((2^s.truths.length-1-2^j:Nat):Int))=2^s.truths.length-1-2^j:=by
    have e1:=dj s.truths.length
    have e2:=dj j
    omega
   have hle:=oM s (by omega) (2^s.truths.length-1-2^j)
   rw[hll]at hle
   have s4:=cE _ (pZ hr (2^s.truths.length-1-2^j)) z
   rw[fX hS ⟨by omega,by show(z:Int)<2^s.figs.length;rw[←dj];omega⟩]at s4
   exact⟨2^j,2^s.truths.length,s.leftT (2^s.truths.length-1-2^j),(s.leftT (2^s.truths.length-1-2^j)).sure z,by omega,by omega,by omega,by omega,fun h=>Fe hsub h,
    by rw[htl];exact ld s.truths.length (by omega),by rw[htl,hj];exact ld j (by omega),hle,by rw[hz];exact s4⟩
 ·have hv:=f6 hr h0
  have hs0:s.surelyR 0=(false,s.check.2.2):=by unfold Bill.surelyR;rw[if_pos h0]
  rw[hs0]at s0
  simp only at s0
  unfold aF at hv s0
  generalize s.check.2.2=e at *
  refine ae ar { l:=0,f:=13} mixed qP Tryz.func13 (by kernel_rfl) ?_
  conv=>whnf
  repeat(any_goals(first|exact ab|(refine ap ?_ ?_<;>intro _<;>first|exact aq|conv=>whnf)|((first|refine aa hv ?_|refine aa s0 ?_|refine⟨.bool true,KN _ _ (by rw[decide_eq_false h0];rfl),?_⟩|refine aa aw ?_|refine ac ?_|refine bi ?_ ?_|intro _)<;>conv=>whnf)))
  (refine⟨⟨?_⟩,trivial⟩;rfl)
end Go.Proofs.YtgncapdjheghfaaGreatDoor
namespace Go.Proofs.YtgncapdjheghfaaGreatDoor
open Go.Am Go.Proofs Go
set_option maxHeartbeats 4000000 in
set_option maxRecDepth 100000 in
theorem Ew(s:Bill)(n:Int)(h8:0≤n∧n≤255)(c:List Ent)(hc6:c.length≤6)(m t:Int)(j:Nat)(hn6:s.figs.length≤6)(hT:1≤s.truths.length∧s.truths.length≤6)(N:List Int)(hN:N.length≤12)
  (hj:n.tmod ((s.truths.map aj).length:Int)=j) (hjt:s.truths[j]?=some t) (aw:PureA Tryz.prog 21 [] (aB true))
  (hv:PureA Tryz.prog 38 [.agg [aj s.lines,bu s.figs,aD s.truths]] (aB true))
  (b1:PureA Tryz.prog 22 [.agg [aj s.lines,bu s.figs,aD s.truths]] (.tuple [aG c,aj m,aj 0]))
  (hbit:∀x:Int,0≤x∧x<s.figs.length→PureA Tryz.prog 39 [aj t,aj x] (aB (dR t x.toNat)))
  (hnm:PureA Tryz.prog 40 [aG c] (aD N)) (hha:∀y:Int,PureA Tryz.prog 41 [aD N,aj y] (aB (gc y N)))
  (hin:∀x∈c,(0≤x.a∧x.a<s.figs.length)∧(0≤x.b∧x.b<s.figs.length)∧(x.says=0∨x.says=1∨x.says=2))
  (h0:∀x∈c,x.says=0→dR t x.a.toNat=true) (h1:∀x∈c,x.says=1→dR t x.a.toNat=false→dR t x.b.toNat=true)
  (hall:∀i:Nat,i<s.figs.length→dR t i=true→gc (i:Int) N=true):PureA Tryz.prog 8 [aF s,u8A n] (aB true):=by
 have hfl:(s.figs.map cD).length=s.figs.length:=List.length_map ..
 have htl:(s.truths.map aj).length=s.truths.length:=List.length_map ..
 have hcl:(c.map bB).length=c.length:=List.length_map ..
 refine ae ar { l:=0,f:=8} mixed Ga Tryz.func8 (by kernel_rfl) ?_
 conv=>whnf
 repeat(any_goals(first|exact ab|(refine ap ?_ ?_<;>intro _<;>first|exact aq|conv=>whnf)|((first|refine aa b1 ?_|refine aa hv ?_|refine ag hjt (by omega) ?_|refine ac ?_|refine bi ?_ ?_|intro _)<;>conv=>whnf)))
 refine aW ar { l:=0,f:=8} mixed (fun i:Nat=>[(9,aj i)]) (fun _=>[]) (fun _=>[]) (fun i=>i≤c.length) (fun i=>c.length-i) 0 (by kernel_rfl)
  (Nat.zero_le _) ?_
 conv=>whnf
 refine⟨⟨ai rfl trivial,trivial,trivial⟩,?_⟩
 intro i hi
 by_cases hlt:i<c.length
 ·obtain⟨x,hx,_⟩:=ay (l:=c) (i:=i) hlt
  have hxm:=List.mem_of_getElem? hx
  obtain⟨hxa,hxb,hxs⟩:=hin x hxm
  have h0:=h0 x hxm
  have h1:=h1 x hxm
  have ha:=hbit x.a hxa
  have hb:=hbit x.b hxb
  generalize dR t x.a.toNat=A at *
  generalize dR t x.b.toNat=B at *
  clear hbit hin hha hall
  rcases hxs with q|q|q
  ·obtain rfl:=h0 q
   conv=>whnf
   repeat(any_goals(first|exact ab|(refine ap ?_ ?_<;>intro _<;>first|exact aq|conv=>whnf)|((first|refine ag hx rfl ?_|refine aa ha ?_|refine aa hb ?_|refine ac ?_|refine bi ?_ ?_|intro _)<;>conv=>whnf)))
   all_goals(refine⟨i+1,(by omega),(by omega),?_⟩;(conv=>whnf);refine⟨?_,?_,?_⟩<;>repeat(first|exact trivial|refine sc rfl ?_|refine kn ?_|refine kc rfl ?_|refine sc (by rfl) ?_|refine kc (by rfl) ?_))
  ·cases A with
   | true =>
    conv=>whnf
    repeat(any_goals(first|exact ab|(refine ap ?_ ?_<;>intro _<;>first|exact aq|conv=>whnf)|((first|refine ag hx rfl ?_|refine aa ha ?_|refine aa hb ?_|refine ac ?_|refine bi ?_ ?_|intro _)<;>conv=>whnf)))
    all_goals(refine⟨i+1,(by omega),(by omega),?_⟩;(conv=>whnf);refine⟨?_,?_,?_⟩<;>repeat(first|exact trivial|refine sc rfl ?_|refine kn ?_|refine kc rfl ?_|refine sc (by rfl) ?_|refine kc (by rfl) ?_))
   | false =>
    obtain rfl:=h1 q rfl
    conv=>whnf
    repeat(any_goals(first|exact ab|(refine ap ?_ ?_<;>intro _<;>first|exact aq|conv=>whnf)|((first|refine ag hx rfl ?_|refine aa ha ?_|refine aa hb ?_|refine ac ?_|refine bi ?_ ?_|intro _)<;>conv=>whnf)))
    all_goals(refine⟨i+1,(by omega),(by omega),?_⟩;(conv=>whnf);refine⟨?_,?_,?_⟩<;>repeat(first|exact trivial|refine sc rfl ?_|refine kn ?_|refine kc rfl ?_|refine sc (by rfl) ?_|refine kc (by rfl) ?_))
  ·conv=>whnf
   repeat(any_goals(first|exact ab|(refine ap ?_ ?_<;>intro _<;>first|exact aq|conv=>whnf)|((first|refine ag hx rfl ?_|refine aa ha ?_|refine aa hb ?_|refine ac ?_|refine bi ?_ ?_|intro _)<;>conv=>whnf)))
   all_goals(refine⟨i+1,(by omega),(by omega),?_⟩;(conv=>whnf);refine⟨?_,?_,?_⟩<;>repeat(first|exact trivial|refine sc rfl ?_|refine kn ?_|refine kc rfl ?_|refine sc (by rfl) ?_|refine kc (by rfl) ?_))
 ·have hin2:i=c.length:=by omega
  subst hin2
  clear h0 h1 hin
  conv=>whnf
  repeat(any_goals(first|exact ab|(refine ap ?_ ?_<;>intro _<;>first|exact aq|conv=>whnf)|((first|refine aa hnm ?_|refine ah hnm rfl ?_|refine ac ?_|refine bi ?_ ?_|intro _)<;>conv=>whnf)))
  refine aW ar { l:=0,f:=8} mixed (fun i:Nat=>[(12,aj i)]) (fun _=>[]) (fun _=>[]) (fun i=>i≤s.figs.length) (fun i=>s.figs.length-i) 0 (by kernel_rfl)
   (Nat.zero_le _) ?_
  conv=>whnf
  refine⟨⟨ai rfl trivial,trivial,trivial⟩,?_⟩
  intro i hi
  by_cases hlt:i<s.figs.length
  ·have hb:=hbit i (by omega)
   rw[Int.toNat_natCast]at hb
   have hha:=hha (i:Int)
   have hall:=hall i hlt
   cases hv2:dR t i with
   | false =>
    rw[hv2]at hb
    conv=>whnf
    repeat(any_goals(first|exact ab|(refine ap ?_ ?_<;>intro _<;>first|exact aq|conv=>whnf)|((first|refine aa hb ?_|refine ac ?_|refine bi ?_ ?_|intro _)<;>conv=>whnf)))
    (refine⟨i+1,(by omega),(by omega),?_⟩;(conv=>whnf);refine⟨?_,?_,?_⟩<;>repeat(first|exact trivial|refine sc rfl ?_|refine kn ?_|refine kc rfl ?_|refine sc (by rfl) ?_|refine kc (by rfl) ?_))
   | true =>
    rw[hv2]at hb
    rw[hall hv2]at hha
    conv=>whnf
    repeat(any_goals(first|exact ab|(refine ap ?_ ?_<;>intro _<;>first|exact aq|conv=>whnf)|((first|refine aa hb ?_|refine aa hha ?_|refine ac ?_|refine bi ?_ ?_|intro _)<;>conv=>whnf)))
    (refine⟨i+1,(by omega),(by omega),?_⟩;(conv=>whnf);refine⟨?_,?_,?_⟩<;>repeat(first|exact trivial|refine sc rfl ?_|refine kn ?_|refine kc rfl ?_|refine sc (by rfl) ?_|refine kc (by rfl) ?_))
  ·have hin2:i=s.figs.length:=by omega
   subst hin2
   conv=>whnf
   repeat(any_goals(first|exact ab|(refine ap ?_ ?_<;>intro _<;>first|exact aq|conv=>whnf)|((first|refine aa aw ?_|refine ac ?_|refine bi ?_ ?_|intro _)<;>conv=>whnf)))
   (refine⟨⟨?_⟩,trivial⟩;rfl)
set_option maxHeartbeats 4000000 in
set_option maxRecDepth 100000 in
theorem uE(s:Bill)(n:Int)(hr:s.small)(h8:0≤n∧n≤255):PureA Tryz.prog 8 [aF s,u8A n] (aB true):=by
 have aw:=gd
 have b1:=fE s hr
 by_cases h0:s.check.2.2=0
 ·have hg:=Bill.good h0
  have hv:=eP hr hg
  obtain⟨c,hc,hh,hle⟩:=fF hg
  rw[ko hg hc]at b1
  have hc6:=dy hg hh
  obtain⟨hcat,hmask⟩:=eW.1 hh
  have hT:=hg.lenT
  obtain⟨j,hj,hjl,_⟩:=ph (x:=n) h8.1 (n:=s.truths.length) (by omega)
  obtain⟨t,ht,_⟩:=ay (l:=s.truths) (i:=j) hjl
  have htm:=List.mem_of_getElem? ht
  have htl:(s.truths.map aj).length=s.truths.length:=List.length_map ..
  have hnl:=iT c
  refine Ew s n h8 c hc6 (bR c) t j hg.len hT (bb c) (by omega) (by rw[htl];exact hj) ht aw hv b1 (fun x hx=>mb t x (hg.lt htm).1 (by have:=hg.len;omega)) (iZ c (by omega))
   (fun y=>mD (bb c) y (by omega)) (fun x hx=>⟨(hcat.ok x hx).a,(hcat.ok x hx).b,(hcat.ok x hx).says⟩) (fun x hx q=>?_) (fun x hx q hf=>?_) (fun i hi hb=>?_)
  ·have:=(hcat.ok x hx).so
   unfold Bill.so at this
   rw[if_pos q,Bool.and_eq_true]at this
   have:=this.2
   unfold Bill.inAll at this
   rw[List.all_eq_true]at this
   exact this t htm
  ·have:=(hcat.ok x hx).so
   unfold Bill.so at this
   rw[if_neg (by omega),if_pos q,Bool.and_eq_true,Bool.and_eq_true,Bool.and_eq_true]at this
   have:=this.2.2.2
   unfold Bill.oneOf at this
   rw[List.all_eq_true]at this
   have:=this t htm
   rw[hf,Bool.false_or]at this
   exact this
  ·have hso:s.inSome i=true:=by
    unfold Bill.inSome
    rw[List.any_eq_true]
    exact⟨t,htm,hb⟩
   rw[←cA, ←hmask]at hso
   exact d8.2 ((fN c i fun y hy=>⟨(hcat.ok y hy).a.1,(hcat.ok y hy).b.1⟩).1 hso)
 ·have hv:=f6 hr h0
  rw[xe h0]at b1
  unfold se at b1
  simp only at b1
  unfold aF at hv b1
  generalize s.check.2.2=e at *
  refine ae ar { l:=0,f:=8} mixed Ga Tryz.func8 (by kernel_rfl) ?_
  conv=>whnf
  repeat(any_goals(first|exact ab|(refine ap ?_ ?_<;>intro _<;>first|exact aq|conv=>whnf)|((first|refine aa b1 ?_|refine aa hv ?_|refine aa aw ?_|refine ac ?_|refine bi ?_ ?_|intro _)<;>conv=>whnf)))
  (refine⟨⟨?_⟩,trivial⟩;rfl)
end Go.Proofs.YtgncapdjheghfaaGreatDoor
namespace Go.Proofs.YtgncapdjheghfaaGreatDoor
open Go.Am Go.Proofs Go Go.ChangeShapes Go.WideShapes Go.RowKit
section
variable {H:Type} {enc:TypeId×Value→H} {W:World} {sp:Nat→Bool} {held:Bool}
theorem JH:Tryz.prog.cellsOf 71=2:=by kernel_rfl
theorem H0:fi Tryz.prog 6 71=some [.int .u8,.int .u8]:=by kernel_rfl
theorem two{α:Type}{l:List α}(h:l.length=2):∃a b,l=[a,b] :=
 match l,h with
 | [a,b],_=>⟨a,b,rfl⟩
set_option maxRecDepth 100000 in
theorem BW{r:Reach}{b0:Nat}{v:Value}{d:DataW H}{ps:List MemPlace}(hk:Value.okWide Tryz.prog W r b0 71 v)(h:DataW.Trod enc Tryz.prog W 0 sp held 71 v d ps) :
  ∃y0 y1:Int,(0≤y0∧y0≤255)∧(0≤y1∧y1≤255)∧PRel W (DA W) (.agg [u8V y0,u8V y1]) v:=by
 have f:=xy H0 h
 simp only[Value.okWide,Tryz.underlying71]at hk
 obtain⟨vs,rfl,hsz,_⟩:=hk
 rw[JH]at hsz
 obtain⟨l⟩:=vs
 obtain⟨c0,c1,rfl⟩:=two (by simpa using hsz)
 have f:Fit (Rows.uptoBulk d) _ [c0,c1]:=f
 match c0,c1,f with
 | .int _ x,.int _ a,f =>
  obtain⟨⟨rfl,w0⟩,⟨rfl,w1⟩,_⟩:=f
  refine⟨x,a,rY w0,rY w1,?_⟩
  refine PRel.agg rfl (fun i x y hx hy=>?_) (fun y hy=>?_)
  ·match i with
   | 0=>simp at hx hy;subst hx hy;exact .v _
   | 1=>simp at hx hy;subst hx hy;exact .v _
   | i+2=>simp at hx
  ·simp at hy
   rcases hy with rfl|rfl<;>rfl
end
end Go.Proofs.YtgncapdjheghfaaGreatDoor
namespace Go.Proofs.YtgncapdjheghfaaGreatDoor
open Go.Am Go.Proofs Go
theorem o9{S:Bill}{is:List Int}:∀{f i:Nat} {x:Int},x∈fa S is f i↔∃k:Nat,x=k∧i≤k∧k<i+f∧S.inAll k=true∧(k:Int)∉is
 | 0,i,x=>by
  simp only[fa,List.not_mem_nil,false_iff]
  rintro⟨k,_,h1,h2,_⟩;omega
 | f+1,i,x=>by
  have ih:=o9 (S:=S) (is:=is) (f:=f) (i:=i+1) (x:=x)
  rw[mm]
  have hh:gc (i:Int) is=false↔(i:Int)∉is:=by rw[←Bool.not_eq_true,d8]
  split
  ·rename_i q
   rw[Bool.and_eq_true,Bool.not_eq_true',hh]at q
   rw[List.mem_cons,ih]
   constructor
   ·rintro(rfl|⟨k,e,a,b,d⟩)
    ·exact⟨i,rfl,by omega,by omega,q⟩
    ·exact⟨k,e,by omega,by omega,d⟩
   ·rintro⟨k,e,a,b,d⟩
    by_cases hk:k=i
    ·subst hk;exact .inl e
    ·exact .inr ⟨k,e,by omega,by omega,d⟩
  ·rename_i q
   rw[Bool.and_eq_true,Bool.not_eq_true',hh]at q
   rw[ih]
   constructor
   ·rintro⟨k,e,a,b,d⟩;exact⟨k,e,by omega,by omega,d⟩
   ·rintro⟨k,e,a,b,d⟩
    by_cases hk:k=i
    ·subst hk;exact absurd d q
    ·exact⟨k,e,by omega,by omega,d⟩
theorem jT{S:Bill}:∀{l:List Ent} {i:Nat} {x:Int},x∈bG S i l↔∃(k:Nat) (y:Ent),x=((i+k:Nat):Int)∧l[k]?=some y∧y.says=2∧S.inSome y.a.toNat=false
 | [],i,x=>by simp[bG]
 | y::l,i,x=>by
  have ih:=jT (S:=S) (l:=l) (i:=i+1) (x:=x)
  rw[dp]
  split
  ·rename_i q
   rw[List.mem_cons,ih]
   constructor
   ·rintro(rfl|⟨k,z,e,a,b⟩)
    ·exact⟨0,y,by simp,rfl,q⟩
    ·exact⟨k+1,z,by rw[e];congr 1;omega,by simpa using a,b⟩
   ·rintro⟨k,z,e,a,b⟩
    cases k with
    | zero=>exact .inl (by simpa using e)
    | succ k=>exact .inr ⟨k,z,by rw[e];congr 1;omega,by simpa using a,b⟩
  ·rename_i q
   rw[ih]
   constructor
   ·rintro⟨k,z,e,a,b⟩;exact⟨k+1,z,by rw[e];congr 1;omega,by simpa using a,b⟩
   ·rintro⟨k,z,e,a,b⟩
    cases k with
    | zero=>simp at a;subst a;exact absurd b q
    | succ k=>exact⟨k,z,by rw[e];congr 1;omega,by simpa using a,b⟩
theorem xg(m:Nat):∀(l:List Int) (i:Nat),i+l.length≤m→aS (2^m-1) i l=l
 | [],_,_=>rfl
 | t::l,i,h=>by
  simp only[List.length_cons]at h
  rw[j4,xg m l (i+1) (by omega),if_pos]
  rw[Nat.testBit_two_pow_sub_one]
  exact decide_eq_true (by omega)
theorem A2{s:Bill}(hg:s.Good){c:List Ent}(hh:s.holds c=true){i:Nat}(h:s.inAll i=true):(i:Int)∈cG c:=by
 obtain⟨hcat,hmask⟩:=eW.1 hh
 have h1:=iK hg h
 rw[←cA, ←hmask]at h1
 have h2:=(fN c i fun y hy=>⟨(hcat.ok y hy).a.1,(hcat.ok y hy).b.1⟩).1 h1
 unfold bb at h2
 rw[List.mem_flatMap]at h2
 obtain⟨x,hx,hw⟩:=h2
 have hso:=(hcat.ok x hx).so
 have hsy:=(hcat.ok x hx).says
 unfold Ent.who at hw
 unfold Bill.so at hso
 rw[iL]
 rcases hsy with q|q|q
 ·rw[if_neg (by omega),List.mem_singleton]at hw
  exact⟨x,hx,q,hw.symm⟩
 ·rw[if_neg (by omega),if_pos q]at hso
  simp only[Bool.and_eq_true,Bool.not_eq_true']at hso
  rw[if_pos q]at hw
  simp only[List.mem_cons,List.not_mem_nil,or_false]at hw
  rcases hw with e|e
  ·rw[←e,Int.toNat_natCast,h]at hso;simp at hso
  ·rw[←e,Int.toNat_natCast,h]at hso;simp at hso
 ·rw[if_neg (by omega),if_neg (by omega)]at hso
  simp only[Bool.and_eq_true,Bool.not_eq_true']at hso
  rw[if_neg (by omega),List.mem_singleton]at hw
  rw[←hw,Int.toNat_natCast,h]at hso;simp at hso
set_option maxHeartbeats 4000000 in
set_option maxRecDepth 100000 in
theorem Cm(s S:Bill)(x n:Int)(h8:0≤x∧x≤255)(hn8:0≤n∧n≤255)(c:List Ent)(hc6:c.length≤6)(hf6:s.figs.length≤6)(P:Int)(hP:1≤P∧P≤64)(a b:List Int)(hlt0:¬n.tmod (P-1+1)=0)
  (ha:a.length≤6) (hb:b.length≤6) (aw:PureA Tryz.prog 21 [] (aB true))
  (hv:PureA Tryz.prog 38 [.agg [aj s.lines,bu s.figs,aD s.truths]] (aB true))
  (han:PureA Tryz.prog 42 [.agg [aj s.lines,bu s.figs,aD s.truths],u8A x] (aG c))
  (hse:PureA Tryz.prog 47 [aj ((s.truths.map aj).length:Int)] (aj P))
  (l1:PureA Tryz.prog 36 [.agg [aj s.lines,bu s.figs,aD s.truths],aG c,aj (P-1)] (.tuple [aD [],aD [],aj 0]))
  (l2:PureA Tryz.prog 36 [.agg [aj s.lines,bu s.figs,aD s.truths],aG c,aj (n.tmod (P-1+1))] (.tuple [aD a,aD b,aj 0]))
  (hle:PureA Tryz.prog 48 [.agg [aj s.lines,bu s.figs,aD s.truths],aj (n.tmod (P-1+1))] (.agg [aj S.lines,bu S.figs,aD S.truths]))
  (hloop:∀(i:Nat) (x:Ent),c[i]?=some x→∃st sm v2 v3:Bool,PureA Tryz.prog 41 [aD a,aj i] (aB st)∧PureA Tryz.prog 49 [.agg [aj S.lines,bu S.figs,aD S.truths],aD [x.a]] (aB sm) ∧
   PureA Tryz.prog 40 [.slice 3 (((c.map bB).take ((i:Int)+1).toNat).drop (i:Int).toNat) .no] (aD x.who) ∧
   PureA Tryz.prog 49 [.agg [aj S.lines,bu S.figs,aD S.truths],aD x.who] (aB v2)∧PureA Tryz.prog 50 [.agg [aj S.lines,bu S.figs,aD S.truths],aD x.who] (aB v3) ∧
   ((x.says=2∧st=true∧sm=false)∨(x.says=2∧st=false∧v2=true)∨(x.says≠2∧st=false∧v2=true∧v3=true)))
  (hfig:∀i:Nat,i<s.figs.length→∃(Q:Int) (su hs al:Bool),PureA Tryz.prog 47 [aj i] (aj Q)∧PureA Tryz.prog 17 [.agg [aj S.lines,bu S.figs,aD S.truths],aj Q] (.tuple [aB su,aj 0]) ∧
   PureA Tryz.prog 41 [aD b,aj i] (aB hs)∧PureA Tryz.prog 50 [.agg [aj s.lines,bu s.figs,aD s.truths],aD [(i:Int)]] (aB al) ∧
   ((su=false∧hs=false)∨(su=true∧hs=true)∨(su=true∧hs=false∧al=true))) :
  PureA Tryz.prog 12 [aF s,u8A x,u8A n] (aB true):=by
 have hfl:(s.figs.map cD).length=s.figs.length:=List.length_map ..
 have hcl:(c.map bB).length=c.length:=List.length_map ..
 have hal:(a.map aj).length=a.length:=List.length_map ..
 have hbl:(b.map aj).length=b.length:=List.length_map ..
 refine ae ar { l:=0,f:=12} mixed uS Tryz.func12 (by kernel_rfl) ?_
 conv=>whnf
 repeat(any_goals(first|exact ab|(refine ap ?_ ?_<;>intro _<;>first|exact aq|conv=>whnf)|((first|refine aa hv ?_|refine aa han ?_|refine aa hse ?_|refine aa l1 ?_|refine aa l2 ?_|refine aa hle ?_|refine ac ?_|refine bi ?_ ?_|intro _)<;>conv=>whnf)))
 refine aW ar { l:=0,f:=12} mixed (fun i:Nat=>[(17,aj i)]) (fun _=>[]) (fun _=>[]) (fun i=>i≤c.length) (fun i=>c.length-i) 0 (by kernel_rfl)
  (Nat.zero_le _) ?_
 conv=>whnf
 refine⟨⟨ai rfl trivial,trivial,trivial⟩,?_⟩
 intro i hi
 clear hv han hse l1 l2 hle
 by_cases hlt:i<c.length
 ·obtain⟨x,hx,_⟩:=ay (l:=c) (i:=i) hlt
  obtain⟨st,sm,v2,v3,hst,hs1,hnm,hs2,hs3,hcase⟩:=hloop i x hx
  clear hloop hfig
  rcases hcase with⟨q,rfl,rfl⟩|⟨q,rfl,rfl⟩|⟨q,rfl,rfl,rfl⟩
  ·conv=>whnf
   repeat(any_goals(first|exact ab|(refine ap ?_ ?_<;>intro _<;>first|exact aq|conv=>whnf)|((first|refine aa hst ?_|refine ag hx rfl ?_|refine aa hs1 ?_|refine aa hnm ?_|refine aa hs2 ?_|refine aa hs3 ?_|refine ac ?_|refine bi ?_ ?_|intro _)<;>conv=>whnf)))
   all_goals(refine⟨i+1,(by omega),(by omega),?_⟩;(conv=>whnf);refine⟨?_,?_,?_⟩<;>repeat(first|exact trivial|refine sc rfl ?_|refine kn ?_|refine kc rfl ?_|refine sc (by rfl) ?_|refine kc (by rfl) ?_))
  ·conv=>whnf
   repeat(any_goals(first|exact ab|(refine ap ?_ ?_<;>intro _<;>first|exact aq|conv=>whnf)|((first|refine aa hst ?_|refine ag hx rfl ?_|refine aa hs1 ?_|refine aa hnm ?_|refine aa hs2 ?_|refine aa hs3 ?_|refine ac ?_|refine bi ?_ ?_|intro _)<;>conv=>whnf)))
   all_goals(refine⟨i+1,(by omega),(by omega),?_⟩;(conv=>whnf);refine⟨?_,?_,?_⟩<;>repeat(first|exact trivial|refine sc rfl ?_|refine kn ?_|refine kc rfl ?_|refine sc (by rfl) ?_|refine kc (by rfl) ?_))
  ·conv=>whnf
   repeat(any_goals(first|exact ab|(refine ap ?_ ?_<;>intro _<;>first|exact aq|conv=>whnf)|((first|refine aa hst ?_|refine ag hx rfl ?_|refine aa hs1 ?_|refine aa hnm ?_|refine aa hs2 ?_|refine aa hs3 ?_|refine ac ?_|refine bi ?_ ?_|intro _)<;>conv=>whnf)))
   all_goals(refine⟨i+1,(by omega),(by omega),?_⟩;(conv=>whnf);refine⟨?_,?_,?_⟩<;>repeat(first|exact trivial|refine sc rfl ?_|refine kn ?_|refine kc rfl ?_|refine sc (by rfl) ?_|refine kc (by rfl) ?_))
 ·have hin2:i=c.length:=by omega
  subst hin2
  clear hloop
  conv=>whnf
  repeat(any_goals(first|exact ab|(refine ap ?_ ?_<;>intro _<;>first|exact aq|conv=>whnf)|((first|refine ac ?_|refine bi ?_ ?_|intro _)<;>conv=>whnf)))
  refine aW ar { l:=0,f:=12} mixed (fun i:Nat=>[(19,aj i)]) (fun _=>[]) (fun _=>[]) (fun i=>i≤s.figs.length) (fun i=>s.figs.length-i) 0 (by kernel_rfl)
   (Nat.zero_le _) ?_
  conv=>whnf
  refine⟨⟨ai rfl trivial,trivial,trivial⟩,?_⟩
  intro i hi
  by_cases hlt:i<s.figs.length
  ·obtain⟨Q,su,hs,al,h1,h2,h3,h4,hcase⟩:=hfig i hlt
   clear hfig
   rcases hcase with⟨rfl,rfl⟩|⟨rfl,rfl⟩|⟨rfl,rfl,rfl⟩
   ·conv=>whnf
    repeat(any_goals(first|exact ab|(refine ap ?_ ?_<;>intro _<;>first|exact aq|conv=>whnf)|((first|refine aa h1 ?_|refine aa h2 ?_|refine aa h3 ?_|refine aa h4 ?_|refine ac ?_|refine bi ?_ ?_|intro _)<;>conv=>whnf)))
    all_goals(refine⟨i+1,(by omega),(by omega),?_⟩;(conv=>whnf);refine⟨?_,?_,?_⟩<;>repeat(first|exact trivial|refine sc rfl ?_|refine kn ?_|refine kc rfl ?_|refine sc (by rfl) ?_|refine kc (by rfl) ?_))
   ·conv=>whnf
    repeat(any_goals(first|exact ab|(refine ap ?_ ?_<;>intro _<;>first|exact aq|conv=>whnf)|((first|refine aa h1 ?_|refine aa h2 ?_|refine aa h3 ?_|refine aa h4 ?_|refine ac ?_|refine bi ?_ ?_|intro _)<;>conv=>whnf)))
    all_goals(refine⟨i+1,(by omega),(by omega),?_⟩;(conv=>whnf);refine⟨?_,?_,?_⟩<;>repeat(first|exact trivial|refine sc rfl ?_|refine kn ?_|refine kc rfl ?_|refine sc (by rfl) ?_|refine kc (by rfl) ?_))
   ·conv=>whnf
    repeat(any_goals(first|exact ab|(refine ap ?_ ?_<;>intro _<;>first|exact aq|conv=>whnf)|((first|refine aa h1 ?_|refine aa h2 ?_|refine aa h3 ?_|refine aa h4 ?_|refine ac ?_|refine bi ?_ ?_|intro _)<;>conv=>whnf)))
    all_goals(refine⟨i+1,(by omega),(by omega),?_⟩;(conv=>whnf);refine⟨?_,?_,?_⟩<;>repeat(first|exact trivial|refine sc rfl ?_|refine kn ?_|refine kc rfl ?_|refine sc (by rfl) ?_|refine kc (by rfl) ?_))
  ·have hin2:i=s.figs.length:=by omega
   subst hin2
   clear hfig
   conv=>whnf
   repeat(any_goals(first|exact ab|(refine ap ?_ ?_<;>intro _<;>first|exact aq|conv=>whnf)|((first|refine aa aw ?_|refine ac ?_|refine bi ?_ ?_|intro _)<;>conv=>whnf)))
   (refine⟨⟨?_⟩,trivial⟩;rfl)
theorem A9(s:Bill):s.leftT (2^s.truths.length-1)=s:=by
 unfold Bill.leftT
 rw[xg s.truths.length s.truths 0 (by omega)]
theorem wS{s:Bill}{c:List Ent}(hok:∀x∈c,s.OkE x):bG s 0 c=[]:=by
 refine List.eq_nil_iff_forall_not_mem.2 fun x hx=>?_
 obtain⟨k,y,_,hy,h2,h3⟩:=jT.1 hx
 have hso:=(hok y (List.mem_of_getElem? hy)).so
 unfold Bill.so at hso
 rw[if_neg (by omega),if_neg (by omega)]at hso
 simp only[Bool.and_eq_true]at hso
 rw[hso.2.1]at h3;simp at h3
theorem Cw{s:Bill}(hg:s.Good){c:List Ent}(hh:s.holds c=true):fa s (cG c) s.figs.length 0=[]:=by
 refine List.eq_nil_iff_forall_not_mem.2 fun x hx=>?_
 obtain⟨k,_,_,_,h3,h4⟩:=o9.1 hx
 exact h4 (A2 hg hh h3)
theorem E4{s:Bill}(hg:s.Good){c:List Ent}(hh:s.holds c=true):s.slipR c (2^s.truths.length-1)=([],[],0):=by
 have hT:=hg.lenT
 have h1:=dj s.truths.length
 have h2:2^1≤2^s.truths.length:=Nat.pow_le_pow_right (by omega) hT.1
 unfold Bill.slipR
 rw[if_neg (fun h=>h (dz hg hh)),if_neg (by rw[Bool.not_eq_true,aT];omega)]
 have e:((2:Int)^s.truths.length-1).toNat=2^s.truths.length-1:=by omega
 rw[e,A9,wQ hg (fun t h=>h) rfl hg.len hh,Cw hg hh,wS (cr (dz hg hh)).2.1]
set_option maxHeartbeats 4000000 in
set_option maxRecDepth 100000 in
theorem IJ(s:Bill)(x n:Int)(h8:0≤x∧x≤255)(hn8:0≤n∧n≤255)(c:List Ent)(P:Int)(hP:1≤P∧P≤64)(hlt0:n.tmod (P-1+1)=0)(aw:PureA Tryz.prog 21 [] (aB true))
  (hv:PureA Tryz.prog 38 [.agg [aj s.lines,bu s.figs,aD s.truths]] (aB true))
  (han:PureA Tryz.prog 42 [.agg [aj s.lines,bu s.figs,aD s.truths],u8A x] (aG c))
  (hse:PureA Tryz.prog 47 [aj ((s.truths.map aj).length:Int)] (aj P)) (hT:s.truths.length≤6)
  (l1:PureA Tryz.prog 36 [.agg [aj s.lines,bu s.figs,aD s.truths],aG c,aj (P-1)] (.tuple [aD [],aD [],aj 0]))
  (l2:PureA Tryz.prog 36 [.agg [aj s.lines,bu s.figs,aD s.truths],aG c,aj (n.tmod (P-1+1))] (.tuple [aD [],aD [],aj 7])) :
  PureA Tryz.prog 12 [aF s,u8A x,u8A n] (aB true):=by
 have htl:(s.truths.map aj).length=s.truths.length:=List.length_map ..
 refine ae ar { l:=0,f:=12} mixed uS Tryz.func12 (by kernel_rfl) ?_
 conv=>whnf
 repeat(any_goals(first|exact ab|(refine ap ?_ ?_<;>intro _<;>first|exact aq|conv=>whnf)|((first|refine aa hv ?_|refine aa han ?_|refine aa hse ?_|refine aa l1 ?_|refine aa l2 ?_|refine aa aw ?_|refine ac ?_|refine bi ?_ ?_|intro _)<;>conv=>whnf)))
 (refine⟨⟨?_⟩,trivial⟩;rfl)
set_option maxHeartbeats 4000000 in
set_option maxRecDepth 100000 in
theorem x8(s:Bill)(x n:Int)(hr:s.small)(h8:0≤x∧x≤255)(hn8:0≤n∧n≤255):PureA Tryz.prog 12 [aF s,u8A x,u8A n] (aB true):=by
 have aw:=gd
 have htl:(s.truths.map aj).length=s.truths.length:=List.length_map ..
 by_cases h0:s.check.2.2=0
 ·have hg:=Bill.good h0
  have hv:=eP hr hg
  have hT:=hg.lenT
  have h6f:=hg.len
  have ha:=DJ s hg x h8
  have hah:=j2 hg (x:=x) h8.1
  have ha6:=dy hg hah
  generalize s.anyC x=c at *
  have hok:=(cr (dz hg hah)).2.1
  have l1:=iB s hr c (by omega) (2^s.truths.length-1)
  rw[E4 hg hah]at l1
  have hP:=bH hT.2
  have hP':=dj s.truths.length
  have hPn:=jc hT.2
  have hse:=ld s.truths.length (by omega)
  rw[←htl]at hse
  rw[htl]at hse
  obtain⟨L,hL,hLl,_⟩:=ph (x:=n) hn8.1 (n:=2^s.truths.length) (Nat.pow_pos (by omega))
  rw[hP']at hL
  have hL2:n.tmod ((2:Int)^s.truths.length-1+1)=L:=by rw[show(2:Int)^s.truths.length-1+1=2^s.truths.length by omega];exact hL
  have l2:=iB s hr c (by omega) L
  by_cases hz:L=0
  ·have:s.slipR c L=([],[],7):=by
    unfold Bill.slipR
    rw[if_neg (fun h=>h (dz hg hah)),if_pos]
    unfold aQ
    rw[hz];rfl
   rw[this]at l2
   exact IJ s x n h8 hn8 c (2^s.truths.length) ⟨by omega,by omega⟩ (by rw[hL2,hz];rfl) aw hv ha (by rw[htl];exact hse) hT.2 l1 (by rw[hL2];exact l2)
  ·have hne:=qL (l:=s.truths) rfl hz hLl
   have hS:=iO hg hne
   have hsub:∀t∈(s.leftT L).truths,t∈s.truths:=fun t ht=>(cT _ s.truths 0).subset ht
   have hSr:s.slipR c L=(bG (s.leftT L) 0 c,fa (s.leftT L) (cG c) s.figs.length 0,0):=by
    unfold Bill.slipR
    rw[if_neg (fun h=>h (dz hg hah)),if_neg (by rw[Bool.not_eq_true,aT];omega),Int.toNat_natCast,wQ hS hsub rfl h6f hah]
   rw[hSr]at l2
   have hle:=oM s (by omega) L
   have hal1:=jS (s.leftT L) c 0
   have hbl:∀f i,(fa (s.leftT L) (cG c) f i).length≤f:=by
    intro f
    induction f with
    | zero=>intro i;exact Nat.le_refl _
    | succ f ih=>intro i;rw[mm];have:=ih (i+1);split<;>(try simp only[List.length_cons])<;>omega
   have hbl1:=hbl s.figs.length 0
   have hTS:=hS.lenT
   have htS:∀t∈(s.leftT L).truths,0≤t:=fun t h=>(hS.lt h).1
   have htt:∀t∈s.truths,0≤t:=fun t h=>(hg.lt h).1
   have hso:∀(l:List Int),l.length≤2→(∀y∈l,0≤y∧y≤63)→PureA Tryz.prog 49 [aF (s.leftT L),aD l] (aB ((s.leftT L).someL l)):=fun l h1 h2=>uk (s.leftT L) (by omega) htS l (by omega) h2
   have hall:∀(l:List Int),l.length≤2→(∀y∈l,0≤y∧y≤63)→PureA Tryz.prog 50 [aF (s.leftT L),aD l] (aB ((s.leftT L).allL l)):=fun l h1 h2=>r7 (s.leftT L) (by omega) htS l (by omega) h2
   have hne2:∃t,t∈(s.leftT L).truths:=by
    obtain⟨t,ht,_⟩:=ay (l:=(s.leftT L).truths) (i:=0) (by omega)
    exact⟨t,List.mem_of_getElem? ht⟩
   have hsome:∀l:List Int,(s.leftT L).allL l=true→(s.leftT L).someL l=true:=by
    intro l h
    obtain⟨t,ht⟩:=hne2
    unfold Bill.allL at h
    unfold Bill.someL
    rw[List.all_eq_true]at h
    rw[List.any_eq_true]
    exact⟨t,ht,h t ht⟩
   refine Cm s (s.leftT L) x n h8 hn8 c ha6 h6f (2^s.truths.length) ⟨by omega,by omega⟩ (bG (s.leftT L) 0 c) (fa (s.leftT L) (cG c) s.figs.length 0) (by rw[hL2];omega) (by omega) (by omega) aw hv ha (by rw[htl];exact hse) l1 (by rw[hL2];exact l2) (by rw[hL2];exact hle) (fun i y hy=>?_) (fun i hi=>?_)
   ·have hym:=List.mem_of_getElem? hy
    have hyo:=hok y hym
    have hwb:(y.who).length≤2∧∀z∈y.who,0≤z∧z≤63:=by
     have h1:=hyo.a
     have h2:=hyo.b
     unfold Ent.who
     split
     ·exact⟨by simp,by intro z hz;simp at hz;omega⟩
     ·exact⟨by simp,by intro z hz;simp at hz;omega⟩
    have hnm:PureA Tryz.prog 40 [.slice 3 (((c.map bB).take ((i:Int)+1).toNat).drop (i:Int).toNat) .no] (aD y.who):=by
     have e:((c.map bB).take ((i:Int)+1).toNat).drop (i:Int).toNat=[y].map bB:=by
      have hlt:=(List.getElem?_eq_some_iff.1 hy).1
      rw[show((i:Int)+1).toNat=i+1 by omega,Int.toNat_natCast,List.drop_take,List.drop_eq_getElem_cons (by simpa using hlt),show i+1-i=1 by omega]
      have:=(List.getElem?_eq_some_iff.1 hy).2
      simp[this]
     rw[e]
     have:=iZ [y] (by simp)
     rw[show bb [y]=y.who by unfold bb;simp]at this
     exact this
    have hsm:=hso [y.a] (by simp) (by intro z hz;simp at hz;have:=hyo.a;omega)
    rw[i4]at hsm
    refine⟨gc (i:Int) (bG (s.leftT L) 0 c),(s.leftT L).inSome y.a.toNat,(s.leftT L).someL y.who,(s.leftT L).allL y.who,mD (bG (s.leftT L) 0 c) _ (by omega),hsm,hnm,hso _ hwb.1 hwb.2,hall _ hwb.1 hwb.2,?_⟩
    have hst:gc (i:Int) (bG (s.leftT L) 0 c)=true↔y.says=2∧(s.leftT L).inSome y.a.toNat=false:=by
     rw[d8,jT]
     constructor
     ·rintro⟨k,z,e,hz,h⟩
      have:k=i:=by omega
      subst this
      rw[hy]at hz
      cases hz
      exact h
     ·rintro h
      exact⟨i,y,by simp,hy,h⟩
    have hson:=hyo.so
    unfold Bill.so at hson
    by_cases q2:y.says=2
    ·cases hs:(s.leftT L).inSome y.a.toNat with
     | false=>exact .inl ⟨q2,hst.2 ⟨q2,hs⟩,rfl⟩
     | true =>
      refine .inr (.inl ⟨q2,?_,?_⟩)
      ·rw[←Bool.not_eq_true,hst,hs];simp
      ·unfold Ent.who
       rw[if_neg (by omega),i4,hs]
    ·refine .inr (.inr ⟨q2,?_,?_⟩)
     ·rw[←Bool.not_eq_true,hst];exact fun h=>q2 h.1
     ·have hA:(s.leftT L).allL y.who=true:=by
       unfold Ent.who
       by_cases q0:y.says=0
       ·rw[if_pos q0,Bool.and_eq_true]at hson
        rw[if_neg (by omega),nB]
        exact IQ hsub hson.2
       ·have q1:y.says=1:=by have:=hyo.says;omega
        rw[if_neg q0,if_pos q1]at hson
        simp only[Bool.and_eq_true]at hson
        rw[if_pos q1,z8]
        exact IT hsub hson.2.2.2
      exact⟨hsome _ hA,hA⟩
   ·have s1:=cE _ (pZ hr L) ((2:Int)^i)
    have hlt:(2:Int)^i<2^s.figs.length:=by rw[←dj, ←dj];have:=Nat.pow_lt_pow_right (a:=2) (by omega) hi;omega
    have hi0:=bH (n:=i) (by omega)
    rw[fX hS ⟨by omega,hlt⟩, ←dj i,xT]at s1
    have al:=r7 s (by omega) htt [(i:Int)] (by simp) (by intro z hz;simp at hz;omega)
    rw[nB,Int.toNat_natCast]at al
    refine⟨((2^i:Nat):Int),(s.leftT L).inAll i,gc (i:Int) (fa (s.leftT L) (cG c) s.figs.length 0),s.inAll i,by rw[dj];exact ld i (by omega),s1,mD (fa (s.leftT L) (cG c) s.figs.length 0) _ (by omega),al,?_⟩
    have hh:gc (i:Int) (fa (s.leftT L) (cG c) s.figs.length 0)=true↔(s.leftT L).inAll i=true∧(i:Int)∉cG c:=by
     rw[d8,o9]
     constructor
     ·rintro⟨k,e,_,_,h⟩
      have:k=i:=by omega
      subst this
      exact h
     ·rintro h
      exact⟨i,rfl,by omega,by omega,h⟩
    cases hA:(s.leftT L).inAll i with
    | false=>exact .inl ⟨rfl,by rw[←Bool.not_eq_true,hh,hA];simp⟩
    | true =>
     by_cases hq:(i:Int)∈cG c
     ·refine .inr (.inr ⟨rfl,by rw[←Bool.not_eq_true,hh];exact fun h=>h.2 hq,?_⟩)
      obtain⟨y,hy,h1,h2⟩:=iL.1 hq
      have:=(hok y hy).so
      unfold Bill.so at this
      rw[if_pos h1,Bool.and_eq_true,h2,Int.toNat_natCast]at this
      exact this.2
     ·exact .inr (.inl ⟨rfl,hh.2 ⟨hA,hq⟩⟩)
 ·have hv:=f6 hr h0
  have l0:=iB s hr [] (by simp) 1
  have:s.slipR [] 1=([],[],s.check.2.2):=by
   have hk:cb s []=s.check.2.2:=by unfold cb;rw[if_pos h0]
   unfold Bill.slipR
   rw[hk,if_pos h0]
  rw[this]at l0
  have l0:=l0.args (.cons (Wk.refl _) (.cons (Wk.nil 3) (.cons (Wk.refl _) (WkL.refl _))))
  unfold ui at l0
  simp only at l0
  unfold aF at hv l0
  generalize s.check.2.2=e at *
  refine ae ar { l:=0,f:=12} mixed uS Tryz.func12 (by kernel_rfl) ?_
  conv=>whnf
  repeat(any_goals(first|exact ab|(refine ap ?_ ?_<;>intro _<;>first|exact aq|conv=>whnf)|((first|refine aa hv ?_|refine aa l0 ?_|refine aa aw ?_|refine ac ?_|refine bi ?_ ?_|intro _)<;>conv=>whnf)))
  (refine⟨⟨?_⟩,trivial⟩;rfl)
end Go.Proofs.YtgncapdjheghfaaGreatDoor
namespace Go.Proofs.YtgncapdjheghfaaGreatDoor
open Go.Am Go.Proofs Go
theorem AS{l l':List AV}{K:List AV→Prop}(h:l=l')(k:K l'):s5 l K:=by rw[kj,h];exact k
def wV(g:Nat):List Int→AV
 | []=> .slice 0 [] .tight
 | f::l=> .slice 1 ((f::l).map aj) (.own ⟨0,14,39⟩ g)
theorem mU(g:Nat)(l:List Int)(f:Int):wV g (l++[f]) = .slice 1 (l.map aj++[aj f]) (.own ⟨0,14,39⟩ g):=by
 cases l with
 | nil=>rfl
 | cons x l=>simp[wV]
theorem CA{α:Type}{l:List α}{d:Nat}{x:α}(h:l[d]?=some x):l.take (d+1)=l.take d++[x]:=by
 rw[List.take_add_one,h];rfl
theorem Kc{α:Type}{l:List α}{d:Nat}(h:d<l.length):l.reverse[d]?=l[l.length-1-d]?:=List.getElem?_reverse h
def low(f:Fig):Fig:={ f with height:=1}
def lL(l:List Fig)(i:Nat):List Fig:=(l.take i).map low++l.drop i
theorem Bp{l:List Fig}{i:Nat}{o:Fig}(h:l[i]?=some o):(lL l i).set i (low o)=lL l (i+1):=by
 have hi:=(List.getElem?_eq_some_iff.1 h).1
 have hd:l.drop i=o::l.drop (i+1):=by
  obtain⟨y,hy,e⟩:=ay (l:=l) (i:=i) hi
  rw[h]at hy;cases hy;exact e
 unfold lL
 rw[hd,List.set_append_right _ _ (by simp;omega)]
 simp only[List.length_map,List.length_take]
 rw[show i-min i l.length=0 by omega,List.set_cons_zero,List.take_add_one,h]
 simp
theorem ED{l:List Fig}{i:Nat}{o:Fig}(h:l[i]?=some o):(lL l i)[i]?=some o:=by
 have hi:=(List.getElem?_eq_some_iff.1 h).1
 unfold lL
 rw[List.getElem?_append_right (by simp;omega)]
 simp only[List.length_map,List.length_take]
 rw[show i-min i l.length=0 by omega,List.getElem?_drop,Nat.add_zero,h]
theorem Bo(l:List Fig)(i:Nat):(lL l i).length=l.length:=by unfold lL;simp;omega
theorem Bn(l:List Fig):lL l l.length=l.map low:=by unfold lL;simp
theorem wI(l:List Fig)(n:Nat)(h:n=l.length):dH ((l.map cD).take n)=some (l.map cD):=by
 rw[List.take_of_length_le (by simp[h])]
 clear h
 induction l with
 | nil=>rfl
 | cons x l ih=>simp only[List.map_cons,dH,ih,show tU (cD x)=some (cD x)from rfl]
theorem E2(l:List Fig)(a:Int)(n:Nat)(x:AV)(f:Fig)(ha:a=n)(hx:x=cD f):(l.map cD).set a.toNat x=(l.set n f).map cD:=by
 subst ha hx
 simp[List.map_set]
set_option maxHeartbeats 8000000 in
set_option maxRecDepth 100000 in
theorem EL(s:Bill)(x:Int)(h8:0≤x∧x≤255)(c d:List Ent)(m w:Int)(p pf:List Int)(BT:List Int)(hT:1≤s.truths.length∧s.truths.length≤6)(hF:s.figs.length≤6)(hbt:BT.length=s.truths.length)
  (hb:∀k,k<s.truths.length→BT[k]?=s.truths[s.truths.length-1-k]?) (hd6:d.length≤6) (hp6:p.length≤6)
  (hpk:((pf.map aj).length:Int)=zk false 1 ((d.map bB).length:Int)) (aw:PureA Tryz.prog 21 [] (aB true))
  (hv:PureA Tryz.prog 38 [.agg [aj s.lines,bu s.figs,aD s.truths]] (aB true))
  (b1:PureA Tryz.prog 22 [.agg [aj s.lines,bu s.figs,aD s.truths]] (.tuple [aG c,aj m,aj 0]))
  (b2:PureA Tryz.prog 22 [.agg [aj s.lines,bu s.figs,aD BT]] (.tuple [aG c,aj m,aj 0]))
  (ha:PureA Tryz.prog 42 [.agg [aj s.lines,bu s.figs,aD s.truths],u8A x] (aG d))
  (p1:PureA Tryz.prog 27 [.agg [aj s.lines,bu s.figs,aD s.truths],aG d] (.tuple [aD p,aj w,aj 0]))
  (p2:PureA Tryz.prog 27 [.agg [aj s.lines,bu s.figs,aD BT],aG d] (.tuple [aD p,aj w,aj 0]))
  (p3:PureA Tryz.prog 27 [.agg [aj 30,.slice 4 ((s.figs.map low).map cD) .no,aD s.truths],aG d] (.tuple [aD pf,aj 0,aj 0]))
  (sm:PureA Tryz.prog 24 [aG c,aG c] (aB true)) (si:PureA Tryz.prog 29 [aD p,aD p] (aB true)) :
  PureA Tryz.prog 14 [aF s,u8A x] (aB true):=by
 have htl:(s.truths.map aj).length=s.truths.length:=List.length_map ..
 have hfl:(s.figs.map cD).length=s.figs.length:=List.length_map ..
 refine ae ar { l:=0,f:=14,ow:=[118],fz:=[(23,20)]} mixed Ak Tryz.func14 (by kernel_rfl) ?_
 conv=>whnf
 repeat(any_goals(first|exact ab|(refine ap ?_ ?_<;>intro _<;>first|exact aq|conv=>whnf)|((first|refine aa hv ?_|refine ac ?_|refine bi ?_ ?_|intro _)<;>conv=>whnf)))
 refine aW ar { l:=0,f:=14,ow:=[118],fz:=[(23,20)]} mixed (fun a:Nat×List Int×Nat=>[(6,aj (((s.truths.map aj).length:Int)-1-(a.1:Int)))]) (fun a=>[(⟨0,14,5⟩,some (1,some (3,[.agg [aj s.lines,bu s.figs,wV a.2.2 a.2.1]])))]) (fun _=>[]) (fun a=>a.1≤s.truths.length∧a.2.1=BT.take a.1) (fun a=>s.truths.length-a.1) (0,[],0) (by kernel_rfl)
  ⟨Nat.zero_le _,rfl⟩ ?_
 conv=>whnf
 refine⟨⟨ai (by show some (aj (((s.truths.map aj).length:Int)-1))=some (aj (((s.truths.map aj).length:Int)-1-((0:Nat):Int)));rw[Int.natCast_zero,Int.sub_zero]) trivial,aH rfl trivial,trivial⟩,?_⟩
 intro⟨k,acc,g⟩ ⟨hk,hacc⟩
 simp only at hk hacc
 by_cases h1:k<s.truths.length
 ·clear b1 b2 p1 p2 p3 ha
  obtain⟨t,ht,_⟩:=ay (l:=s.truths) (i:=s.truths.length-1-k) (by omega)
  have hidx:((s.truths.map aj).length:Int)-1-(k:Int)=((s.truths.length-1-k:Nat):Int):=by omega
  have hnx:=CA (l:=BT) (d:=k) ((hb k h1).trans ht)
  rw[←hacc]at hnx
  have hal:acc.length=k:=by rw[hacc,List.length_take];omega
  have hds:(((s.truths.map aj).length:Int)-1-(k:Int)-1)=(((s.truths.map aj).length:Int)-1-((k+1:Nat):Int)):=by omega
  cases acc with
  | nil =>
   conv=>whnf
   repeat(any_goals(first|exact ab|(refine ap ?_ ?_<;>intro _<;>first|exact aq|conv=>whnf)|((first|refine ag ht hidx ?_|refine ac ?_|refine bi ?_ ?_|intro _)<;>conv=>whnf)))
   all_goals first|(exfalso;omega)|skip
   rename_i g2 _
   (refine⟨(k+1,[t],g2+1),⟨by simp only;omega,by rw[hnx];rfl⟩,(by simp only;omega),?_⟩;(conv=>whnf);refine⟨?_,?_,?_⟩<;>repeat(first|exact trivial|refine sc rfl ?_|refine kn ?_|refine kc rfl ?_|refine sc (by first|rfl|(show some (aj (((s.truths.map aj).length:Int)-1-(k:Int)-1))=some (aj (((s.truths.map aj).length:Int)-1-((k+1:Nat):Int)));rw[hds])) ?_|refine kc (by first|rfl|(show some (aj (((s.truths.map aj).length:Int)-1-(k:Int)-1))=some (aj (((s.truths.map aj).length:Int)-1-((k+1:Nat):Int)));rw[hds])) ?_))
  | cons y acc =>
   conv=>whnf
   repeat(any_goals(first|exact ab|(refine ap ?_ ?_<;>intro _<;>first|exact aq|conv=>whnf)|((first|refine ag ht hidx ?_|refine ac ?_|refine bi ?_ ?_|intro _)<;>conv=>whnf)))
   all_goals first|(exfalso;omega)|skip
   rename_i g2 _ _
   (refine⟨(k+1,y::acc++[t],g2+1),⟨by simp only;omega,by rw[hnx]⟩,(by simp only;omega),?_⟩;(conv=>whnf);refine⟨?_,?_,?_⟩<;>repeat(first|exact trivial|refine sc rfl ?_|refine kn ?_|refine kc rfl ?_|refine sc (by first|rfl|(show some (aj (((s.truths.map aj).length:Int)-1-(k:Int)-1))=some (aj (((s.truths.map aj).length:Int)-1-((k+1:Nat):Int)));rw[hds])|(simp only[mU];rfl)) ?_|refine kc (by first|rfl|(show some (aj (((s.truths.map aj).length:Int)-1-(k:Int)-1))=some (aj (((s.truths.map aj).length:Int)-1-((k+1:Nat):Int)));rw[hds])|(simp only[mU];rfl)) ?_))
 ·have hde:k=s.truths.length:=by omega
  subst hde
  rw[←hbt,List.take_length]at hacc
  subst hacc
  clear hb
  cases acc with
  | nil=>simp at hbt;omega
  | cons t0 acc =>
   conv=>whnf
   repeat(any_goals(first|exact ab|(refine ap ?_ ?_<;>intro _<;>first|exact aq|conv=>whnf)|((first|refine aa b1 ?_|refine aa b2 ?_|refine aa ha ?_|refine aa p1 ?_|refine aa p2 ?_|refine aa sm ?_|refine aa si ?_|refine ac ?_|refine bi ?_ ?_|intro _)<;>conv=>whnf)))
   all_goals first|(exfalso;omega)|skip
   clear b1 b2 p1 p2 ha hv sm si
   refine aW ar { l:=0,f:=14,ow:=[118],fz:=[(23,20)]} mixed (fun i:Nat=>[(21,aj i)]) (fun i=>[(⟨0,14,118⟩,some (1,some (4,(lL s.figs i).map cD)))]) (fun _=>[]) (fun i=>i≤s.figs.length) (fun i=>s.figs.length-i) 0 (by kernel_rfl)
    (Nat.zero_le _) ?_
   conv=>whnf
   refine⟨⟨ai rfl trivial,aH rfl trivial,trivial⟩,?_⟩
   intro i hi
   have hwl:=Bo s.figs i
   have hwm:(List.map cD (lL s.figs i)).length=s.figs.length:=by rw[List.length_map];exact hwl
   by_cases hlt2:i<s.figs.length
   ·obtain⟨o,hoi,_⟩:=ay (l:=s.figs) (i:=i) hlt2
    have hat:=ED hoi
    have hst:=E2 (lL s.figs i) i i (.agg [aN o.name,aN o.role,aj o.room,aj 1]) (low o) rfl rfl
    rw[Bp hoi]at hst
    clear p3
    conv=>whnf
    repeat(any_goals(first|exact ab|(refine ap ?_ ?_<;>intro _<;>first|exact aq|conv=>whnf)|((first|refine ag hat rfl ?_|refine AS hst ?_|refine ac ?_|refine bi ?_ ?_|intro _)<;>conv=>whnf)))
    (refine⟨i+1,(by omega),(by omega),?_⟩;(conv=>whnf);refine⟨?_,?_,?_⟩<;>repeat(first|exact trivial|refine sc rfl ?_|refine kn ?_|refine kc rfl ?_|refine sc (by first|rfl|(rw[←hst];rfl)) ?_|refine kc (by first|rfl|(rw[←hst];rfl)) ?_))
   ·have:i=s.figs.length:=by omega
    subst this
    have hpo:dH ((List.map cD (lL s.figs s.figs.length)).take (s.figs.map cD).length)=some ((s.figs.map low).map cD):=by
     rw[Bn]
     exact wI _ _ (by simp)
    conv=>whnf
    repeat(any_goals(first|exact ab|(refine ap ?_ ?_<;>intro _<;>first|exact aq|conv=>whnf)|((first|refine af hpo ?_|refine aa p3 ?_|refine aa aw ?_|refine ac ?_|refine bi ?_ ?_|intro _)<;>conv=>whnf)))
    (refine⟨⟨?_⟩,trivial⟩;rfl)
theorem pC{s:Bill}(hr:s.small):s.back.small:=⟨hr.1,by show s.truths.reverse.length≤_;rw[List.length_reverse];exact hr.2.1,hr.2.2⟩
theorem yD{s:Bill}(hr:s.small):s.flat.small:=⟨by show(s.figs.map _).length≤_;rw[List.length_map];exact hr.1,hr.2.1,fun f hf=>by
 obtain⟨g,hg,rfl⟩:=List.mem_map.1 hf
 exact hr.2.2 g hg⟩
set_option maxHeartbeats 4000000 in
set_option maxRecDepth 100000 in
theorem uF(s:Bill)(x:Int)(hr:s.small)(h8:0≤x∧x≤255):PureA Tryz.prog 14 [aF s,u8A x] (aB true):=by
 have aw:=gd
 by_cases h0:s.check.2.2=0
 ·have hg:=Bill.good h0
  have hv:=eP hr hg
  have hgb:=sa hg
  have hgf:=sY hg
  have hT:=hg.lenT
  obtain⟨c,hc,hh,hle⟩:=fF hg
  have b1:=fE s hr
  rw[ko hg hc]at b1
  have b2:=fE s.back (pC hr)
  rw[ko hgb (c:=c) (by rw[(lu s).cats];exact hc)]at b2
  have hc6:=dy hg hh
  have sm:=fU (k9 c c (by omega) (by omega))
  have ha:=DJ s hg x h8
  have hah:=j2 hg (x:=x) h8.1
  have ha6:=dy hg hah
  generalize s.anyC x=d at *
  have hok:=(cr (dz hg hah)).2.1
  have set0:∀{u:Bill},u.Good→u.holds d=true→u.setR d=(u.press d 0,0):=fun hu hd=>by unfold Bill.setR;rw[if_neg (fun k=>k (dz hu hd))]
  have p1:=lc s hr d (by omega)
  rw[set0 hg hah]at p1
  have p2:=lc s.back (pC hr) d (by omega)
  rw[set0 hgb (by rw[(lu s).holds];exact hah),zt hg hok]at p2
  have p3:=lc s.flat (yD hr) d (by omega)
  rw[set0 hgf (by rw[(pL s).holds];exact hah)]at p3
  obtain⟨f1,f2⟩:=yC hg hah
  unfold J8 at p1 p2 p3
  simp only at p1 p2 p3
  rw[f1]at p3
  have hpf:=(oD hg hok ha6 (Nat.zero_le _)).1
  have si:=fU (fS (s.press d 0).pages (s.press d 0).pages (by omega) (by omega))
  refine EL s x h8 c d (bR c) (s.press d 0).white (s.press d 0).pages (s.flat.press d 0).pages s.truths.reverse hT hg.len List.length_reverse (fun k hk=>Kc hk) ha6 hpf ?_ aw hv b1 b2 ha p1 p2 p3 sm si
  rw[List.length_map,List.length_map,f2]
  unfold zk
  simp only
  omega
 ·have hv:=f6 hr h0
  unfold aF at hv
  refine ae ar { l:=0,f:=14,ow:=[118],fz:=[(23,20)]} mixed Ak Tryz.func14 (by kernel_rfl) ?_
  conv=>whnf
  repeat(any_goals(first|exact ab|(refine ap ?_ ?_<;>intro _<;>first|exact aq|conv=>whnf)|((first|refine aa hv ?_|refine aa aw ?_|refine ac ?_|refine bi ?_ ?_|intro _)<;>conv=>whnf)))
  (refine⟨⟨?_⟩,trivial⟩;rfl)
end Go.Proofs.YtgncapdjheghfaaGreatDoor
