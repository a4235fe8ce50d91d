/- Part 8 of the texts that the last one stands on. -/
import Derived.Shelf.Strings.OnBuilder
import Derived.Shelf.Strconv.Itoa3
import Derived.Shelf.Strings.Prefix
import Derived.Shelf.Strings.Search1
import Derived.Test.YtgncapdjheghfaaGreatDoorChecked
import Derived.Shelf.Strings.Builder1
import Derived.Test.YtgncapdjheghfaaGreatDoorB7
set_option linter.unusedVariables false
set_option linter.unusedSimpArgs false
namespace Go.Proofs.YtgncapdjheghfaaGreatDoor
open Go.Am Go.Proofs Go
set_option maxHeartbeats 8000000 in
theorem LK(s S:Bill)(hg:s.Good)(hSg:S.Good)(ts:List Int)(c:List Ent)(hok:∀x∈c,s.OkE x)(h6:c.length≤6)(K D:List Int)(j:Nat)(ks:List Int)(v0 v1 v2 v3 v4 v5:Int)
  (hkl:ks.length≤j) (HK:K=ks++dL S j (c.drop j)) (HD:D=kQ [v0,v1,v2,v3,v4,v5] (c.drop j)) (sy xa xb:Int) (hx:c[j]?=some ⟨sy,xa,xb⟩) (q2:¬sy=2):SdR s S ts c K D ⟨j,ks,[v0,v1,v2,v3,v4,v5]⟩:=by
 have hjl:j<c.length:=(List.getElem?_eq_some_iff.1 hx).1
 have hd:c.drop j=⟨sy,xa,xb⟩::c.drop (j+1):=by rw[List.drop_eq_getElem_cons hjl,(List.getElem?_eq_some_iff.1 hx).2]
 have hsz:=fun n hn=>Jr hSg n hn
 have hcl:(c.map bB).length=c.length:=List.length_map ..
 have hkm:(ks.map aj).length=ks.length:=List.length_map ..
 unfold fb k8 at hsz
 rw[hd,ip]at HK
 rw[hd,lX]at HD
 have hxo:=hok _ (List.mem_of_getElem? hx)
 have hxa:=hxo.a
 have hxs:=hxo.says
 have hfl6:=hg.len
 simp only at hxa hxs HK HD
 have hz:=hsz xa.toNat (by omega)
 rw[Int.toNat_of_nonneg hxa.1]at hz
 clear hsz hg hSg hok
 have hjI:(j:Int)<((c.map bB).length:Nat):=by omega
 intro Q
 rw[if_neg (fun h=>q2 h.1)]at HK
 clear hz
 rcases(by omega:xa=0∨xa=1∨xa=2∨xa=3∨xa=4∨xa=5)with rfl|rfl|rfl|rfl|rfl|rfl
 ·conv=>whnf
  repeat(any_goals(first|exact ab|(refine ap ?_ ?_<;>intro _<;>first|exact aq|conv=>whnf)|((first|refine ae hx rfl ?_|refine ac ?_|refine bi ?_ ?_|intro _)<;>conv=>whnf)))
  all_goals(try(first|exact absurd hjI (by assumption)|exact absurd hz (by assumption)|exact absurd (by assumption) hz|exact absurd (by assumption) q2))
  all_goals(refine⟨⟨j+1,ks,[sy+1,v1,v2,v3,v4,v5]⟩,⟨⟨by show j+1≤_;omega,by show ks.length≤j+1;omega,rfl⟩,HK,HD⟩,(by show _-(j+1)<_-j;omega),?_⟩;(conv=>whnf);refine⟨?_,?_,?_⟩<;>repeat(first|exact trivial|refine sc rfl ?_|refine kn ?_|refine kc rfl ?_|refine sc (by rfl) ?_|refine kc (by rfl) ?_))
 ·conv=>whnf
  repeat(any_goals(first|exact ab|(refine ap ?_ ?_<;>intro _<;>first|exact aq|conv=>whnf)|((first|refine ae hx rfl ?_|refine ac ?_|refine bi ?_ ?_|intro _)<;>conv=>whnf)))
  all_goals(try(first|exact absurd hjI (by assumption)|exact absurd hz (by assumption)|exact absurd (by assumption) hz|exact absurd (by assumption) q2))
  all_goals(refine⟨⟨j+1,ks,[v0,sy+1,v2,v3,v4,v5]⟩,⟨⟨by show j+1≤_;omega,by show ks.length≤j+1;omega,rfl⟩,HK,HD⟩,(by show _-(j+1)<_-j;omega),?_⟩;(conv=>whnf);refine⟨?_,?_,?_⟩<;>repeat(first|exact trivial|refine sc rfl ?_|refine kn ?_|refine kc rfl ?_|refine sc (by rfl) ?_|refine kc (by rfl) ?_))
 ·conv=>whnf
  repeat(any_goals(first|exact ab|(refine ap ?_ ?_<;>intro _<;>first|exact aq|conv=>whnf)|((first|refine ae hx rfl ?_|refine ac ?_|refine bi ?_ ?_|intro _)<;>conv=>whnf)))
  all_goals(try(first|exact absurd hjI (by assumption)|exact absurd hz (by assumption)|exact absurd (by assumption) hz|exact absurd (by assumption) q2))
  all_goals(refine⟨⟨j+1,ks,[v0,v1,sy+1,v3,v4,v5]⟩,⟨⟨by show j+1≤_;omega,by show ks.length≤j+1;omega,rfl⟩,HK,HD⟩,(by show _-(j+1)<_-j;omega),?_⟩;(conv=>whnf);refine⟨?_,?_,?_⟩<;>repeat(first|exact trivial|refine sc rfl ?_|refine kn ?_|refine kc rfl ?_|refine sc (by rfl) ?_|refine kc (by rfl) ?_))
 ·conv=>whnf
  repeat(any_goals(first|exact ab|(refine ap ?_ ?_<;>intro _<;>first|exact aq|conv=>whnf)|((first|refine ae hx rfl ?_|refine ac ?_|refine bi ?_ ?_|intro _)<;>conv=>whnf)))
  all_goals(try(first|exact absurd hjI (by assumption)|exact absurd hz (by assumption)|exact absurd (by assumption) hz|exact absurd (by assumption) q2))
  all_goals(refine⟨⟨j+1,ks,[v0,v1,v2,sy+1,v4,v5]⟩,⟨⟨by show j+1≤_;omega,by show ks.length≤j+1;omega,rfl⟩,HK,HD⟩,(by show _-(j+1)<_-j;omega),?_⟩;(conv=>whnf);refine⟨?_,?_,?_⟩<;>repeat(first|exact trivial|refine sc rfl ?_|refine kn ?_|refine kc rfl ?_|refine sc (by rfl) ?_|refine kc (by rfl) ?_))
 ·conv=>whnf
  repeat(any_goals(first|exact ab|(refine ap ?_ ?_<;>intro _<;>first|exact aq|conv=>whnf)|((first|refine ae hx rfl ?_|refine ac ?_|refine bi ?_ ?_|intro _)<;>conv=>whnf)))
  all_goals(try(first|exact absurd hjI (by assumption)|exact absurd hz (by assumption)|exact absurd (by assumption) hz|exact absurd (by assumption) q2))
  all_goals(refine⟨⟨j+1,ks,[v0,v1,v2,v3,sy+1,v5]⟩,⟨⟨by show j+1≤_;omega,by show ks.length≤j+1;omega,rfl⟩,HK,HD⟩,(by show _-(j+1)<_-j;omega),?_⟩;(conv=>whnf);refine⟨?_,?_,?_⟩<;>repeat(first|exact trivial|refine sc rfl ?_|refine kn ?_|refine kc rfl ?_|refine sc (by rfl) ?_|refine kc (by rfl) ?_))
 ·conv=>whnf
  repeat(any_goals(first|exact ab|(refine ap ?_ ?_<;>intro _<;>first|exact aq|conv=>whnf)|((first|refine ae hx rfl ?_|refine ac ?_|refine bi ?_ ?_|intro _)<;>conv=>whnf)))
  all_goals(try(first|exact absurd hjI (by assumption)|exact absurd hz (by assumption)|exact absurd (by assumption) hz|exact absurd (by assumption) q2))
  all_goals(refine⟨⟨j+1,ks,[v0,v1,v2,v3,v4,sy+1]⟩,⟨⟨by show j+1≤_;omega,by show ks.length≤j+1;omega,rfl⟩,HK,HD⟩,(by show _-(j+1)<_-j;omega),?_⟩;(conv=>whnf);refine⟨?_,?_,?_⟩<;>repeat(first|exact trivial|refine sc rfl ?_|refine kn ?_|refine kc rfl ?_|refine sc (by rfl) ?_|refine kc (by rfl) ?_))
end Go.Proofs.YtgncapdjheghfaaGreatDoor
namespace Go.Proofs.YtgncapdjheghfaaGreatDoor
open Go.Am Go.Proofs Go
def suS(s S:Bill)(ts:List Int)(K D:List Int)(u:SuSt):SS :=
 Iv [(107,aj u.i),(7,.slice 1 (u.us.map aj) (.own JZ 1))] [] [(JZ,some (1,u.us.length))] [cxS.key 128] [cxS.key 128] (L3 s K) (L2 s S ts D) (L4 K)
def SuI(s S:Bill)(D U:List Int)(u:SuSt):Prop:=(u.i≤s.figs.length∧u.us.length≤u.i)∧U=u.us++dc S D (s.figs.length-u.i) u.i
def SuR(s S:Bill)(ts:List Int)(K D U:List Int)(u:SuSt):Prop :=
 ∀Q:Exit→SS→Prop,eU Tryz.prog tab cxS Tryz.f36.ntmps suB
  (ut (fun ss'=>∃a':SuSt,SuI s S D U a'∧s.figs.length-a'.i<s.figs.length-u.i∧uB ss' (suS s S ts K D a')) Q) (suS s S ts K D u)
theorem dT(v:Int):eqL [.int .i64 v,.int .i64 0,.int .i64 0] [.int .i64 1,.int .i64 0,.int .i64 0]=decide (v=1):=by
 rw[Bool.eq_iff_iff]
 simp[eqL,eqC]
end Go.Proofs.YtgncapdjheghfaaGreatDoor
namespace Go.Proofs.YtgncapdjheghfaaGreatDoor
open Go.Am Go.Proofs Go
set_option maxHeartbeats 8000000 in
theorem LM(s S:Bill)(hg:s.Good)(hSg:S.Good)(ts:List Int)(K U:List Int)(i:Nat)(us:List Int)(v0 v1 v2 v3 v4 v5:Int)
  (hul:us.length≤i) (hi:i<s.figs.length) (HU:U=us++dc S [v0,v1,v2,v3,v4,v5] (s.figs.length-i) i) (hA:S.inAll i=true) (hV:¬ [v0,v1,v2,v3,v4,v5].getD i 0=1):SuR s S ts K [v0,v1,v2,v3,v4,v5] U ⟨i,us⟩:=by
 have hz:=xj S i (by have:=hg.len;omega)
 have hfl6:=hg.len
 have hcl:(s.figs.map dS).length=s.figs.length:=List.length_map ..
 have hkm:(us.map aj).length=us.length:=List.length_map ..
 obtain⟨f,hf⟩:∃f,s.figs.length-i=f+1:=⟨s.figs.length-i-1,by omega⟩
 have hf2:s.figs.length-(i+1)=f:=by omega
 rw[hf,iq,if_pos ⟨hA,hV⟩]at HU
 unfold fb k8 at hz
 have hq0:=dT v0
 have hq1:=dT v1
 have hq2:=dT v2
 have hq3:=dT v3
 have hq4:=dT v4
 have hq5:=dT v5
 have hjI:(i:Int)<((s.figs.map dS).length:Nat):=by omega
 clear hSg hg hf
 intro Q
 rw[hA,decide_eq_true_eq]at hz
 have hH:U=(us++[(i:Int)])++dc S [v0,v1,v2,v3,v4,v5] (s.figs.length-(i+1)) (i+1):=by rw[HU,hf2];simp
 clear HU hf2
 rcases(by omega:i=0∨i=1∨i=2∨i=3∨i=4∨i=5)with rfl|rfl|rfl|rfl|rfl|rfl
 ·have hv:¬v0=1:=hV
  rw[decide_eq_false hv]at hq0
  have hqn:(!eqL [.int .i64 v0,.int .i64 0,.int .i64 0] [.int .i64 1,.int .i64 0,.int .i64 0])=true:=by rw[hq0];rfl
  conv=>whnf
  repeat(any_goals(first|exact ab|(refine ap ?_ ?_<;>intro _<;>first|exact aq|conv=>whnf)|((first|refine ck hqn ?_|refine ct hq0 ?_|refine ac ?_|refine bi ?_ ?_|intro _)<;>conv=>whnf)))
  all_goals(try(first|exact absurd hjI (by assumption)|exact absurd hz (by assumption)|exact absurd (by assumption) hz))
  all_goals(refine⟨⟨0+1,us++[((0:Nat):Int)]⟩,⟨⟨by show 0+1≤_;omega,by show(us++[((0:Nat):Int)]).length≤0+1;rw[List.length_append];simp only[List.length_cons,List.length_nil];omega⟩,hH⟩,(by show _-(0+1)<_-0;omega),?_⟩;(conv=>whnf);refine⟨?_,?_,?_⟩<;>repeat(first|exact trivial|refine sc rfl ?_|refine kn ?_|refine kc rfl ?_|refine sc (by first|(show some (AV.slice 1 (us.map aj++[aj ((0:Nat):Int)]) _)=some (AV.slice 1 ((us++[((0:Nat):Int)]).map aj) _);rw[List.map_append];rfl)|(show some (some (1,(us.map aj).length+1))=some (some (1,(us++[((0:Nat):Int)]).length));rw[hkm,List.length_append];rfl)) ?_|refine kc (by first|(show some (AV.slice 1 (us.map aj++[aj ((0:Nat):Int)]) _)=some (AV.slice 1 ((us++[((0:Nat):Int)]).map aj) _);rw[List.map_append];rfl)|(show some (some (1,(us.map aj).length+1))=some (some (1,(us++[((0:Nat):Int)]).length));rw[hkm,List.length_append];rfl)) ?_))
 ·have hv:¬v1=1:=hV
  rw[decide_eq_false hv]at hq1
  have hqn:(!eqL [.int .i64 v1,.int .i64 0,.int .i64 0] [.int .i64 1,.int .i64 0,.int .i64 0])=true:=by rw[hq1];rfl
  conv=>whnf
  repeat(any_goals(first|exact ab|(refine ap ?_ ?_<;>intro _<;>first|exact aq|conv=>whnf)|((first|refine ck hqn ?_|refine ct hq1 ?_|refine ac ?_|refine bi ?_ ?_|intro _)<;>conv=>whnf)))
  all_goals(try(first|exact absurd hjI (by assumption)|exact absurd hz (by assumption)|exact absurd (by assumption) hz))
  all_goals(refine⟨⟨1+1,us++[((1:Nat):Int)]⟩,⟨⟨by show 1+1≤_;omega,by show(us++[((1:Nat):Int)]).length≤1+1;rw[List.length_append];simp only[List.length_cons,List.length_nil];omega⟩,hH⟩,(by show _-(1+1)<_-1;omega),?_⟩;(conv=>whnf);refine⟨?_,?_,?_⟩<;>repeat(first|exact trivial|refine sc rfl ?_|refine kn ?_|refine kc rfl ?_|refine sc (by first|(show some (AV.slice 1 (us.map aj++[aj ((1:Nat):Int)]) _)=some (AV.slice 1 ((us++[((1:Nat):Int)]).map aj) _);rw[List.map_append];rfl)|(show some (some (1,(us.map aj).length+1))=some (some (1,(us++[((1:Nat):Int)]).length));rw[hkm,List.length_append];rfl)) ?_|refine kc (by first|(show some (AV.slice 1 (us.map aj++[aj ((1:Nat):Int)]) _)=some (AV.slice 1 ((us++[((1:Nat):Int)]).map aj) _);rw[List.map_append];rfl)|(show some (some (1,(us.map aj).length+1))=some (some (1,(us++[((1:Nat):Int)]).length));rw[hkm,List.length_append];rfl)) ?_))
 ·have hv:¬v2=1:=hV
  rw[decide_eq_false hv]at hq2
  have hqn:(!eqL [.int .i64 v2,.int .i64 0,.int .i64 0] [.int .i64 1,.int .i64 0,.int .i64 0])=true:=by rw[hq2];rfl
  conv=>whnf
  repeat(any_goals(first|exact ab|(refine ap ?_ ?_<;>intro _<;>first|exact aq|conv=>whnf)|((first|refine ck hqn ?_|refine ct hq2 ?_|refine ac ?_|refine bi ?_ ?_|intro _)<;>conv=>whnf)))
  all_goals(try(first|exact absurd hjI (by assumption)|exact absurd hz (by assumption)|exact absurd (by assumption) hz))
  all_goals(refine⟨⟨2+1,us++[((2:Nat):Int)]⟩,⟨⟨by show 2+1≤_;omega,by show(us++[((2:Nat):Int)]).length≤2+1;rw[List.length_append];simp only[List.length_cons,List.length_nil];omega⟩,hH⟩,(by show _-(2+1)<_-2;omega),?_⟩;(conv=>whnf);refine⟨?_,?_,?_⟩<;>repeat(first|exact trivial|refine sc rfl ?_|refine kn ?_|refine kc rfl ?_|refine sc (by first|(show some (AV.slice 1 (us.map aj++[aj ((2:Nat):Int)]) _)=some (AV.slice 1 ((us++[((2:Nat):Int)]).map aj) _);rw[List.map_append];rfl)|(show some (some (1,(us.map aj).length+1))=some (some (1,(us++[((2:Nat):Int)]).length));rw[hkm,List.length_append];rfl)) ?_|refine kc (by first|(show some (AV.slice 1 (us.map aj++[aj ((2:Nat):Int)]) _)=some (AV.slice 1 ((us++[((2:Nat):Int)]).map aj) _);rw[List.map_append];rfl)|(show some (some (1,(us.map aj).length+1))=some (some (1,(us++[((2:Nat):Int)]).length));rw[hkm,List.length_append];rfl)) ?_))
 ·have hv:¬v3=1:=hV
  rw[decide_eq_false hv]at hq3
  have hqn:(!eqL [.int .i64 v3,.int .i64 0,.int .i64 0] [.int .i64 1,.int .i64 0,.int .i64 0])=true:=by rw[hq3];rfl
  conv=>whnf
  repeat(any_goals(first|exact ab|(refine ap ?_ ?_<;>intro _<;>first|exact aq|conv=>whnf)|((first|refine ck hqn ?_|refine ct hq3 ?_|refine ac ?_|refine bi ?_ ?_|intro _)<;>conv=>whnf)))
  all_goals(try(first|exact absurd hjI (by assumption)|exact absurd hz (by assumption)|exact absurd (by assumption) hz))
  all_goals(refine⟨⟨3+1,us++[((3:Nat):Int)]⟩,⟨⟨by show 3+1≤_;omega,by show(us++[((3:Nat):Int)]).length≤3+1;rw[List.length_append];simp only[List.length_cons,List.length_nil];omega⟩,hH⟩,(by show _-(3+1)<_-3;omega),?_⟩;(conv=>whnf);refine⟨?_,?_,?_⟩<;>repeat(first|exact trivial|refine sc rfl ?_|refine kn ?_|refine kc rfl ?_|refine sc (by first|(show some (AV.slice 1 (us.map aj++[aj ((3:Nat):Int)]) _)=some (AV.slice 1 ((us++[((3:Nat):Int)]).map aj) _);rw[List.map_append];rfl)|(show some (some (1,(us.map aj).length+1))=some (some (1,(us++[((3:Nat):Int)]).length));rw[hkm,List.length_append];rfl)) ?_|refine kc (by first|(show some (AV.slice 1 (us.map aj++[aj ((3:Nat):Int)]) _)=some (AV.slice 1 ((us++[((3:Nat):Int)]).map aj) _);rw[List.map_append];rfl)|(show some (some (1,(us.map aj).length+1))=some (some (1,(us++[((3:Nat):Int)]).length));rw[hkm,List.length_append];rfl)) ?_))
 ·have hv:¬v4=1:=hV
  rw[decide_eq_false hv]at hq4
  have hqn:(!eqL [.int .i64 v4,.int .i64 0,.int .i64 0] [.int .i64 1,.int .i64 0,.int .i64 0])=true:=by rw[hq4];rfl
  conv=>whnf
  repeat(any_goals(first|exact ab|(refine ap ?_ ?_<;>intro _<;>first|exact aq|conv=>whnf)|((first|refine ck hqn ?_|refine ct hq4 ?_|refine ac ?_|refine bi ?_ ?_|intro _)<;>conv=>whnf)))
  all_goals(try(first|exact absurd hjI (by assumption)|exact absurd hz (by assumption)|exact absurd (by assumption) hz))
  all_goals(refine⟨⟨4+1,us++[((4:Nat):Int)]⟩,⟨⟨by show 4+1≤_;omega,by show(us++[((4:Nat):Int)]).length≤4+1;rw[List.length_append];simp only[List.length_cons,List.length_nil];omega⟩,hH⟩,(by show _-(4+1)<_-4;omega),?_⟩;(conv=>whnf);refine⟨?_,?_,?_⟩<;>repeat(first|exact trivial|refine sc rfl ?_|refine kn ?_|refine kc rfl ?_|refine sc (by first|(show some (AV.slice 1 (us.map aj++[aj ((4:Nat):Int)]) _)=some (AV.slice 1 ((us++[((4:Nat):Int)]).map aj) _);rw[List.map_append];rfl)|(show some (some (1,(us.map aj).length+1))=some (some (1,(us++[((4:Nat):Int)]).length));rw[hkm,List.length_append];rfl)) ?_|refine kc (by first|(show some (AV.slice 1 (us.map aj++[aj ((4:Nat):Int)]) _)=some (AV.slice 1 ((us++[((4:Nat):Int)]).map aj) _);rw[List.map_append];rfl)|(show some (some (1,(us.map aj).length+1))=some (some (1,(us++[((4:Nat):Int)]).length));rw[hkm,List.length_append];rfl)) ?_))
 ·have hv:¬v5=1:=hV
  rw[decide_eq_false hv]at hq5
  have hqn:(!eqL [.int .i64 v5,.int .i64 0,.int .i64 0] [.int .i64 1,.int .i64 0,.int .i64 0])=true:=by rw[hq5];rfl
  conv=>whnf
  repeat(any_goals(first|exact ab|(refine ap ?_ ?_<;>intro _<;>first|exact aq|conv=>whnf)|((first|refine ck hqn ?_|refine ct hq5 ?_|refine ac ?_|refine bi ?_ ?_|intro _)<;>conv=>whnf)))
  all_goals(try(first|exact absurd hjI (by assumption)|exact absurd hz (by assumption)|exact absurd (by assumption) hz))
  all_goals(refine⟨⟨5+1,us++[((5:Nat):Int)]⟩,⟨⟨by show 5+1≤_;omega,by show(us++[((5:Nat):Int)]).length≤5+1;rw[List.length_append];simp only[List.length_cons,List.length_nil];omega⟩,hH⟩,(by show _-(5+1)<_-5;omega),?_⟩;(conv=>whnf);refine⟨?_,?_,?_⟩<;>repeat(first|exact trivial|refine sc rfl ?_|refine kn ?_|refine kc rfl ?_|refine sc (by first|(show some (AV.slice 1 (us.map aj++[aj ((5:Nat):Int)]) _)=some (AV.slice 1 ((us++[((5:Nat):Int)]).map aj) _);rw[List.map_append];rfl)|(show some (some (1,(us.map aj).length+1))=some (some (1,(us++[((5:Nat):Int)]).length));rw[hkm,List.length_append];rfl)) ?_|refine kc (by first|(show some (AV.slice 1 (us.map aj++[aj ((5:Nat):Int)]) _)=some (AV.slice 1 ((us++[((5:Nat):Int)]).map aj) _);rw[List.map_append];rfl)|(show some (some (1,(us.map aj).length+1))=some (some (1,(us++[((5:Nat):Int)]).length));rw[hkm,List.length_append];rfl)) ?_))
end Go.Proofs.YtgncapdjheghfaaGreatDoor
namespace Go.Proofs.YtgncapdjheghfaaGreatDoor
open Go.Am Go.Proofs Go
set_option maxHeartbeats 8000000 in
theorem LN(s S:Bill)(hg:s.Good)(hSg:S.Good)(ts:List Int)(K U:List Int)(i:Nat)(us:List Int)(v0 v1 v2 v3 v4 v5:Int)
  (hul:us.length≤i) (hi:i<s.figs.length) (HU:U=us++dc S [v0,v1,v2,v3,v4,v5] (s.figs.length-i) i) (hA:S.inAll i=true) (hV:[v0,v1,v2,v3,v4,v5].getD i 0=1):SuR s S ts K [v0,v1,v2,v3,v4,v5] U ⟨i,us⟩:=by
 have hz:=xj S i (by have:=hg.len;omega)
 have hfl6:=hg.len
 have hcl:(s.figs.map dS).length=s.figs.length:=List.length_map ..
 have hkm:(us.map aj).length=us.length:=List.length_map ..
 obtain⟨f,hf⟩:∃f,s.figs.length-i=f+1:=⟨s.figs.length-i-1,by omega⟩
 have hf2:s.figs.length-(i+1)=f:=by omega
 rw[hf,iq,if_neg (fun h=>h.2 hV)]at HU
 unfold fb k8 at hz
 have hq0:=dT v0
 have hq1:=dT v1
 have hq2:=dT v2
 have hq3:=dT v3
 have hq4:=dT v4
 have hq5:=dT v5
 have hjI:(i:Int)<((s.figs.map dS).length:Nat):=by omega
 clear hSg hg hf
 intro Q
 rw[hA,decide_eq_true_eq]at hz
 have hH:U=us++dc S [v0,v1,v2,v3,v4,v5] (s.figs.length-(i+1)) (i+1):=by rw[HU,hf2]
 clear HU hf2
 rcases(by omega:i=0∨i=1∨i=2∨i=3∨i=4∨i=5)with rfl|rfl|rfl|rfl|rfl|rfl
 ·have hv:v0=1:=hV
  rw[decide_eq_true hv]at hq0
  have hqn:(!eqL [.int .i64 v0,.int .i64 0,.int .i64 0] [.int .i64 1,.int .i64 0,.int .i64 0])=false:=by rw[hq0];rfl
  conv=>whnf
  repeat(any_goals(first|exact ab|(refine ap ?_ ?_<;>intro _<;>first|exact aq|conv=>whnf)|((first|refine ct hqn ?_|refine ck hq0 ?_|refine ac ?_|refine bi ?_ ?_|intro _)<;>conv=>whnf)))
  all_goals(try(first|exact absurd hjI (by assumption)|exact absurd hz (by assumption)|exact absurd (by assumption) hz))
  all_goals(refine⟨⟨0+1,us⟩,⟨⟨by show 0+1≤_;omega,by show us.length≤0+1;omega⟩,hH⟩,(by show _-(0+1)<_-0;omega),?_⟩;(conv=>whnf);refine⟨?_,?_,?_⟩<;>repeat(first|exact trivial|refine sc rfl ?_|refine kn ?_|refine kc rfl ?_|refine sc (by rfl) ?_|refine kc (by rfl) ?_))
 ·have hv:v1=1:=hV
  rw[decide_eq_true hv]at hq1
  have hqn:(!eqL [.int .i64 v1,.int .i64 0,.int .i64 0] [.int .i64 1,.int .i64 0,.int .i64 0])=false:=by rw[hq1];rfl
  conv=>whnf
  repeat(any_goals(first|exact ab|(refine ap ?_ ?_<;>intro _<;>first|exact aq|conv=>whnf)|((first|refine ct hqn ?_|refine ck hq1 ?_|refine ac ?_|refine bi ?_ ?_|intro _)<;>conv=>whnf)))
  all_goals(try(first|exact absurd hjI (by assumption)|exact absurd hz (by assumption)|exact absurd (by assumption) hz))
  all_goals(refine⟨⟨1+1,us⟩,⟨⟨by show 1+1≤_;omega,by show us.length≤1+1;omega⟩,hH⟩,(by show _-(1+1)<_-1;omega),?_⟩;(conv=>whnf);refine⟨?_,?_,?_⟩<;>repeat(first|exact trivial|refine sc rfl ?_|refine kn ?_|refine kc rfl ?_|refine sc (by rfl) ?_|refine kc (by rfl) ?_))
 ·have hv:v2=1:=hV
  rw[decide_eq_true hv]at hq2
  have hqn:(!eqL [.int .i64 v2,.int .i64 0,.int .i64 0] [.int .i64 1,.int .i64 0,.int .i64 0])=false:=by rw[hq2];rfl
  conv=>whnf
  repeat(any_goals(first|exact ab|(refine ap ?_ ?_<;>intro _<;>first|exact aq|conv=>whnf)|((first|refine ct hqn ?_|refine ck hq2 ?_|refine ac ?_|refine bi ?_ ?_|intro _)<;>conv=>whnf)))
  all_goals(try(first|exact absurd hjI (by assumption)|exact absurd hz (by assumption)|exact absurd (by assumption) hz))
  all_goals(refine⟨⟨2+1,us⟩,⟨⟨by show 2+1≤_;omega,by show us.length≤2+1;omega⟩,hH⟩,(by show _-(2+1)<_-2;omega),?_⟩;(conv=>whnf);refine⟨?_,?_,?_⟩<;>repeat(first|exact trivial|refine sc rfl ?_|refine kn ?_|refine kc rfl ?_|refine sc (by rfl) ?_|refine kc (by rfl) ?_))
 ·have hv:v3=1:=hV
  rw[decide_eq_true hv]at hq3
  have hqn:(!eqL [.int .i64 v3,.int .i64 0,.int .i64 0] [.int .i64 1,.int .i64 0,.int .i64 0])=false:=by rw[hq3];rfl
  conv=>whnf
  repeat(any_goals(first|exact ab|(refine ap ?_ ?_<;>intro _<;>first|exact aq|conv=>whnf)|((first|refine ct hqn ?_|refine ck hq3 ?_|refine ac ?_|refine bi ?_ ?_|intro _)<;>conv=>whnf)))
  all_goals(try(first|exact absurd hjI (by assumption)|exact absurd hz (by assumption)|exact absurd (by assumption) hz))
  all_goals(refine⟨⟨3+1,us⟩,⟨⟨by show 3+1≤_;omega,by show us.length≤3+1;omega⟩,hH⟩,(by show _-(3+1)<_-3;omega),?_⟩;(conv=>whnf);refine⟨?_,?_,?_⟩<;>repeat(first|exact trivial|refine sc rfl ?_|refine kn ?_|refine kc rfl ?_|refine sc (by rfl) ?_|refine kc (by rfl) ?_))
 ·have hv:v4=1:=hV
  rw[decide_eq_true hv]at hq4
  have hqn:(!eqL [.int .i64 v4,.int .i64 0,.int .i64 0] [.int .i64 1,.int .i64 0,.int .i64 0])=false:=by rw[hq4];rfl
  conv=>whnf
  repeat(any_goals(first|exact ab|(refine ap ?_ ?_<;>intro _<;>first|exact aq|conv=>whnf)|((first|refine ct hqn ?_|refine ck hq4 ?_|refine ac ?_|refine bi ?_ ?_|intro _)<;>conv=>whnf)))
  all_goals(try(first|exact absurd hjI (by assumption)|exact absurd hz (by assumption)|exact absurd (by assumption) hz))
  all_goals(refine⟨⟨4+1,us⟩,⟨⟨by show 4+1≤_;omega,by show us.length≤4+1;omega⟩,hH⟩,(by show _-(4+1)<_-4;omega),?_⟩;(conv=>whnf);refine⟨?_,?_,?_⟩<;>repeat(first|exact trivial|refine sc rfl ?_|refine kn ?_|refine kc rfl ?_|refine sc (by rfl) ?_|refine kc (by rfl) ?_))
 ·have hv:v5=1:=hV
  rw[decide_eq_true hv]at hq5
  have hqn:(!eqL [.int .i64 v5,.int .i64 0,.int .i64 0] [.int .i64 1,.int .i64 0,.int .i64 0])=false:=by rw[hq5];rfl
  conv=>whnf
  repeat(any_goals(first|exact ab|(refine ap ?_ ?_<;>intro _<;>first|exact aq|conv=>whnf)|((first|refine ct hqn ?_|refine ck hq5 ?_|refine ac ?_|refine bi ?_ ?_|intro _)<;>conv=>whnf)))
  all_goals(try(first|exact absurd hjI (by assumption)|exact absurd hz (by assumption)|exact absurd (by assumption) hz))
  all_goals(refine⟨⟨5+1,us⟩,⟨⟨by show 5+1≤_;omega,by show us.length≤5+1;omega⟩,hH⟩,(by show _-(5+1)<_-5;omega),?_⟩;(conv=>whnf);refine⟨?_,?_,?_⟩<;>repeat(first|exact trivial|refine sc rfl ?_|refine kn ?_|refine kc rfl ?_|refine sc (by rfl) ?_|refine kc (by rfl) ?_))
end Go.Proofs.YtgncapdjheghfaaGreatDoor
namespace Go.Proofs.YtgncapdjheghfaaGreatDoor
open Go.Am Go.Proofs Go
set_option maxHeartbeats 8000000 in
theorem LO(s S:Bill)(hg:s.Good)(hSg:S.Good)(ts:List Int)(K U:List Int)(i:Nat)(us:List Int)(v0 v1 v2 v3 v4 v5:Int)
  (hul:us.length≤i) (hi:i<s.figs.length) (HU:U=us++dc S [v0,v1,v2,v3,v4,v5] (s.figs.length-i) i) (hA:¬S.inAll i=true):SuR s S ts K [v0,v1,v2,v3,v4,v5] U ⟨i,us⟩:=by
 have hz:=xj S i (by have:=hg.len;omega)
 have hfl6:=hg.len
 have hcl:(s.figs.map dS).length=s.figs.length:=List.length_map ..
 have hkm:(us.map aj).length=us.length:=List.length_map ..
 obtain⟨f,hf⟩:∃f,s.figs.length-i=f+1:=⟨s.figs.length-i-1,by omega⟩
 have hf2:s.figs.length-(i+1)=f:=by omega
 rw[hf,iq,if_neg (fun h=>hA h.1)]at HU
 unfold fb k8 at hz
 have hq0:=dT v0
 have hq1:=dT v1
 have hq2:=dT v2
 have hq3:=dT v3
 have hq4:=dT v4
 have hq5:=dT v5
 have hjI:(i:Int)<((s.figs.map dS).length:Nat):=by omega
 clear hSg hg hf
 intro Q
 rw[Bool.eq_false_iff.2 hA,decide_eq_false_iff_not]at hz
 have hH:U=us++dc S [v0,v1,v2,v3,v4,v5] (s.figs.length-(i+1)) (i+1):=by rw[HU,hf2]
 clear HU hf2
 rcases(by omega:i=0∨i=1∨i=2∨i=3∨i=4∨i=5)with rfl|rfl|rfl|rfl|rfl|rfl
 ·conv=>whnf
  repeat(any_goals(first|exact ab|(refine ap ?_ ?_<;>intro _<;>first|exact aq|conv=>whnf)|((first|refine ac ?_|refine bi ?_ ?_|intro _)<;>conv=>whnf)))
  all_goals(try(first|exact absurd hjI (by assumption)|exact absurd hz (by assumption)|exact absurd (by assumption) hz))
  all_goals(refine⟨⟨0+1,us⟩,⟨⟨by show 0+1≤_;omega,by show us.length≤0+1;omega⟩,hH⟩,(by show _-(0+1)<_-0;omega),?_⟩;(conv=>whnf);refine⟨?_,?_,?_⟩<;>repeat(first|exact trivial|refine sc rfl ?_|refine kn ?_|refine kc rfl ?_|refine sc (by rfl) ?_|refine kc (by rfl) ?_))
 ·conv=>whnf
  repeat(any_goals(first|exact ab|(refine ap ?_ ?_<;>intro _<;>first|exact aq|conv=>whnf)|((first|refine ac ?_|refine bi ?_ ?_|intro _)<;>conv=>whnf)))
  all_goals(try(first|exact absurd hjI (by assumption)|exact absurd hz (by assumption)|exact absurd (by assumption) hz))
  all_goals(refine⟨⟨1+1,us⟩,⟨⟨by show 1+1≤_;omega,by show us.length≤1+1;omega⟩,hH⟩,(by show _-(1+1)<_-1;omega),?_⟩;(conv=>whnf);refine⟨?_,?_,?_⟩<;>repeat(first|exact trivial|refine sc rfl ?_|refine kn ?_|refine kc rfl ?_|refine sc (by rfl) ?_|refine kc (by rfl) ?_))
 ·conv=>whnf
  repeat(any_goals(first|exact ab|(refine ap ?_ ?_<;>intro _<;>first|exact aq|conv=>whnf)|((first|refine ac ?_|refine bi ?_ ?_|intro _)<;>conv=>whnf)))
  all_goals(try(first|exact absurd hjI (by assumption)|exact absurd hz (by assumption)|exact absurd (by assumption) hz))
  all_goals(refine⟨⟨2+1,us⟩,⟨⟨by show 2+1≤_;omega,by show us.length≤2+1;omega⟩,hH⟩,(by show _-(2+1)<_-2;omega),?_⟩;(conv=>whnf);refine⟨?_,?_,?_⟩<;>repeat(first|exact trivial|refine sc rfl ?_|refine kn ?_|refine kc rfl ?_|refine sc (by rfl) ?_|refine kc (by rfl) ?_))
 ·conv=>whnf
  repeat(any_goals(first|exact ab|(refine ap ?_ ?_<;>intro _<;>first|exact aq|conv=>whnf)|((first|refine ac ?_|refine bi ?_ ?_|intro _)<;>conv=>whnf)))
  all_goals(try(first|exact absurd hjI (by assumption)|exact absurd hz (by assumption)|exact absurd (by assumption) hz))
  all_goals(refine⟨⟨3+1,us⟩,⟨⟨by show 3+1≤_;omega,by show us.length≤3+1;omega⟩,hH⟩,(by show _-(3+1)<_-3;omega),?_⟩;(conv=>whnf);refine⟨?_,?_,?_⟩<;>repeat(first|exact trivial|refine sc rfl ?_|refine kn ?_|refine kc rfl ?_|refine sc (by rfl) ?_|refine kc (by rfl) ?_))
 ·conv=>whnf
  repeat(any_goals(first|exact ab|(refine ap ?_ ?_<;>intro _<;>first|exact aq|conv=>whnf)|((first|refine ac ?_|refine bi ?_ ?_|intro _)<;>conv=>whnf)))
  all_goals(try(first|exact absurd hjI (by assumption)|exact absurd hz (by assumption)|exact absurd (by assumption) hz))
  all_goals(refine⟨⟨4+1,us⟩,⟨⟨by show 4+1≤_;omega,by show us.length≤4+1;omega⟩,hH⟩,(by show _-(4+1)<_-4;omega),?_⟩;(conv=>whnf);refine⟨?_,?_,?_⟩<;>repeat(first|exact trivial|refine sc rfl ?_|refine kn ?_|refine kc rfl ?_|refine sc (by rfl) ?_|refine kc (by rfl) ?_))
 ·conv=>whnf
  repeat(any_goals(first|exact ab|(refine ap ?_ ?_<;>intro _<;>first|exact aq|conv=>whnf)|((first|refine ac ?_|refine bi ?_ ?_|intro _)<;>conv=>whnf)))
  all_goals(try(first|exact absurd hjI (by assumption)|exact absurd hz (by assumption)|exact absurd (by assumption) hz))
  all_goals(refine⟨⟨5+1,us⟩,⟨⟨by show 5+1≤_;omega,by show us.length≤5+1;omega⟩,hH⟩,(by show _-(5+1)<_-5;omega),?_⟩;(conv=>whnf);refine⟨?_,?_,?_⟩<;>repeat(first|exact trivial|refine sc rfl ?_|refine kn ?_|refine kc rfl ?_|refine sc (by rfl) ?_|refine kc (by rfl) ?_))
end Go.Proofs.YtgncapdjheghfaaGreatDoor
namespace Go.Proofs.YtgncapdjheghfaaGreatDoor
open Go.Am Go.Proofs Go
set_option maxHeartbeats 8000000 in
theorem Jp(s:Bill)(hr:s.small)(c:List Ent)(hl:c.length≤1048576)(hk:bZ s c=0)(left:Nat)(h1:1≤left)(h2:left<2^s.truths.length) :
  PureA Tryz.prog 36 [aI s,aJ c,aj left] (Jq (s.leftT left) c s.figs.length):=by
 have he:=ea s hr c hl hk
 obtain⟨hg,hok,h6⟩:=bQ hk
 have hT:=hg.lenT
 obtain⟨p1,p2⟩:=fa hT.2
 have h64:left<64:=Nat.lt_of_lt_of_le h2 (Nat.le_trans (Nat.pow_le_pow_right (by omega) hT.2) (by decide))
 have hsh:=rS s.truths.length hT.2
 have htl:(s.truths.map aj).length=s.truths.length:=List.length_map ..
 have hpn:((2:Int)^s.truths.length)=((2^s.truths.length:Nat):Int):=by push_cast;rfl
 have hb:PureA Tryz.prog 51 [aj 1,aj (IntKind.i64.wrap (1 * 2^min (((s.truths.map aj).length:Int)).toNat IntKind.i64.bits)-1),aj left] (aB false):=by
  have:=dy left 1 (2^s.truths.length-1)
  rw[htl,hsh]
  rwa [(bD _ _ _).2 (by omega)]at this
 rw[←htl]at hsh
 have hbit:=fun i (hi:i≤64)=>Lx left i h64 hi
 unfold fb k8 at hbit
 obtain⟨B,hB⟩:∃B,bR left 0 s.truths=B:=⟨_,rfl⟩
 have hBS:s.leftT left={ s with truths:=B}:=by unfold Bill.leftT;rw[hB]
 rw[hBS]
 have hBne:B≠[]:=by rw[←hB];exact Hk rfl (by omega) h2
 have hBg:({ s with truths:=B}:Bill).Good:=by rw[←hB];exact yY hg (by rw[hB];exact hBne)
 unfold cQ at he
 refine ag ao { l:=0,f:=36,mat:=[71,85],ow:=[59],fz:=[(13,9)]} mixed uW Tryz.func36 (by kernel_rfl) ?_
 conv=>whnf
 repeat(any_goals(first|exact ab|(refine ap ?_ ?_<;>intro _<;>first|exact aq|conv=>whnf)|((first|refine ac ?_|refine bi ?_ ?_|intro _)<;>conv=>whnf)))
 refine⟨[],?_⟩
 conv=>whnf
 refine⟨_,_,he,?_⟩
 conv=>whnf
 repeat(any_goals(first|exact ab|(refine ap ?_ ?_<;>intro _<;>first|exact aq|conv=>whnf)|((first|refine aa hb ?_|refine ac ?_|refine bi ?_ ?_|intro _)<;>conv=>whnf)))
 refine aO ao { l:=0,f:=36,mat:=[71,85],ow:=[59],fz:=[(13,9)]} mixed (fun u:TrSt=>[(41,aj u.i)]) (fun u=>[(cz,some (1,some (5,[.agg [aj s.lines,dW s.figs,L5 u.ts,aj s.allN,aj s.someN]]))),(kTr,some (trS u.ts))]) (fun _=>[]) (fun u=>(u.i≤s.truths.length∧u.ts.length≤u.i)∧B=u.ts++bR left u.i (s.truths.drop u.i)) (fun u=>s.truths.length-u.i) (⟨0,[]⟩:TrSt) (by kernel_rfl)
  ⟨⟨Nat.zero_le _,Nat.zero_le _⟩,hB.symm⟩ ?_
 conv=>whnf
 refine⟨⟨ai rfl trivial,?_,trivial⟩,?_⟩
 ·repeat(first|exact trivial|refine kc rfl ?_|refine bW rfl ?_)
 clear hB
 rintro u ⟨⟨hi,hts⟩,H⟩
 generalize u.i=i at *
 generalize u.ts=ts at *
 clear u
 by_cases hlt:i<s.truths.length
 ·obtain⟨x,hx,hd⟩:=ay (l:=s.truths) (i:=i) hlt
  rw[hd,qM]at H
  have hbi:=hbit i (by omega)
  by_cases hbb:left.testBit i=true
  ·rw[if_pos hbb]at H
   rw[hbb,decide_eq_true_eq]at hbi
   cases ts with
   | nil =>
    conv=>whnf
    repeat(any_goals(first|exact ab|(refine ap ?_ ?_<;>intro _<;>first|exact aq|conv=>whnf)|((first|refine ae hx rfl ?_|refine ac ?_|refine bi ?_ ?_|intro _)<;>conv=>whnf)))
    (refine⟨⟨i+1,[x]⟩,⟨⟨by show i+1≤_;omega,by show 1≤i+1;omega⟩,H⟩,(by show _-(i+1)<_-i;omega),?_⟩;(conv=>whnf);refine⟨?_,?_,?_⟩<;>repeat(first|exact trivial|refine sc rfl ?_|refine kn ?_|refine kc rfl ?_|refine sc (by rfl) ?_|refine kc (by rfl) ?_))
   | cons y l =>
    obtain⟨e1,e2⟩:=JE y l x
    simp only[List.length_cons]at hts
    have hel:((y::l).map aj).length=l.length+1:=by simp
    conv=>whnf
    repeat(any_goals(first|exact ab|(refine ap ?_ ?_<;>intro _<;>first|exact aq|conv=>whnf)|((first|refine ae hx rfl ?_|refine ac ?_|refine bi ?_ ?_|intro _)<;>conv=>whnf)))
    (refine⟨⟨i+1,(y::l)++[x]⟩,⟨⟨by show i+1≤_;omega,by show((y::l)++[x]).length≤i+1;simp;omega⟩,by rw[H];simp⟩,(by show _-(i+1)<_-i;omega),?_⟩;(conv=>whnf);refine⟨?_,?_,?_⟩<;>repeat(first|exact trivial|refine sc rfl ?_|refine kn ?_|refine kc rfl ?_|refine sc (by first|(rw[e1];rfl)|(rw[e2];rfl)) ?_|refine kc (by first|(rw[e1];rfl)|(rw[e2];rfl)) ?_))
  ·rw[if_neg hbb]at H
   rw[Bool.eq_false_iff.2 hbb,decide_eq_false_iff_not]at hbi
   cases ts with
   | nil =>
    conv=>whnf
    repeat(any_goals(first|exact ab|(refine ap ?_ ?_<;>intro _<;>first|exact aq|conv=>whnf)|((first|refine ae hx rfl ?_|refine ac ?_|refine bi ?_ ?_|intro _)<;>conv=>whnf)))
    (refine⟨⟨i+1,[]⟩,⟨⟨by show i+1≤_;omega,by show 0≤i+1;omega⟩,H⟩,(by show _-(i+1)<_-i;omega),?_⟩;(conv=>whnf);refine⟨?_,?_,?_⟩<;>repeat(first|exact trivial|refine sc rfl ?_|refine kn ?_|refine kc rfl ?_|refine sc (by rfl) ?_|refine kc (by rfl) ?_))
   | cons y l =>
    conv=>whnf
    repeat(any_goals(first|exact ab|(refine ap ?_ ?_<;>intro _<;>first|exact aq|conv=>whnf)|((first|refine ae hx rfl ?_|refine ac ?_|refine bi ?_ ?_|intro _)<;>conv=>whnf)))
    (refine⟨⟨i+1,y::l⟩,⟨⟨by show i+1≤_;omega,by show(y::l).length≤i+1;omega⟩,H⟩,(by show _-(i+1)<_-i;omega),?_⟩;(conv=>whnf);refine⟨?_,?_,?_⟩<;>repeat(first|exact trivial|refine sc rfl ?_|refine kn ?_|refine kc rfl ?_|refine sc (by rfl) ?_|refine kc (by rfl) ?_))
 ·have hin:i=s.truths.length:=by omega
  subst hin
  rw[List.drop_length]at H
  simp only[bR,List.append_nil]at H
  subst H
  cases B with
  | nil=>exact absurd rfl hBne
  | cons y l =>
   obtain⟨S,hS⟩:∃S:Bill,S={ s with truths:=y::l}:=⟨_,rfl⟩
   have hSg:S.Good:=by rw[hS];exact hBg
   have hkn:=BJ S s.allN s.someN hSg.lenT.2 fun t ht=>hSg.lt ht
   have e1:mN S S.truths.length=S.allN:=by
    unfold mN
    have:=hSg.lenT
    rw[if_neg (by omega),List.take_length];rfl
   have e2:Av S S.truths.length=S.someN:=by
    unfold Av
    rw[List.take_length];rfl
   rw[e1,e2]at hkn
   have hkn:BoxA Tryz.prog (.fn 85) [(cz,1,5,[.agg [aj s.lines,dW s.figs,aD (y::l),aj s.allN,aj s.someN]])] [.ptr cz 1 5 0 0] (.tuple []) [(cz,1,5,[.agg [aj s.lines,dW s.figs,aD (y::l),aj S.allN,aj S.someN]])]:=by
    have e3:∀a b:Int,CV S a b = .agg [aj s.lines,dW s.figs,aD (y::l),aj a,aj b]:=fun a b=>by rw[hS];rfl
    rw[←e3, ←e3];exact hkn
   clear e1 e2 hbit hb
   conv=>whnf
   repeat(any_goals(first|exact ab|(refine ap ?_ ?_<;>intro _<;>first|exact aq|conv=>whnf)|((first|refine ah (oC (y::l) _ rfl) ?_|refine ac ?_|refine bi ?_ ?_|intro _)<;>conv=>whnf)))
   refine⟨[cz],?_⟩
   conv=>whnf
   refine⟨_,_,hkn,?_⟩
   conv=>whnf
   repeat(any_goals(first|exact ab|(refine ap ?_ ?_<;>intro _<;>first|exact aq|conv=>whnf)|((first|refine ac ?_|refine bi ?_ ?_|intro _)<;>conv=>whnf)))
   have hcl:(c.map bB).length=c.length:=List.length_map ..
   have hfl:S.figs=s.figs:=by rw[hS]
   rw[←hS]
   unfold Jq
   obtain⟨K,hK⟩:∃K,dL S 0 c=K:=⟨_,rfl⟩
   obtain⟨D,hD⟩:∃D,kQ [0,0,0,0,0,0] c=D:=⟨_,rfl⟩
   rw[hK,hD]
   refine fC 6 1 ⟨0,36,91⟩ ?_
   conv=>whnf
   refine xP (⟨(69,aj 0)::(6,.slice 1 [] (.own k91 1))::L0 c,(kSd,some (1,some (18,[.agg (sdC [0,0,0,0,0,0])])))::LZ s S (y::l),(k91,some (1,0))::L1⟩:SS) ?_ ?_
   ·conv=>whnf
    refine⟨?_,?_,?_⟩<;>repeat(first|exact trivial|refine sc rfl ?_|refine kn ?_|refine kc rfl ?_|refine bW rfl ?_)
   refine aO ao { l:=0,f:=36,mat:=[71,85],ow:=[59],fz:=[(13,9)]} mixed (fun u:SdSt=>[(69,aj u.j),(6,.slice 1 (u.ks.map aj) (.own k91 1))]) (fun u=>[(kSd,some (1,some (18,[.agg (sdC u.sd)])))]) (fun u=>[(k91,some (1,u.ks.length))]) (SdI S c K D) (fun u=>c.length-u.j) (⟨0,[],[0,0,0,0,0,0]⟩:SdSt) (by kernel_rfl)
    ⟨⟨Nat.zero_le _,Nat.zero_le _,rfl⟩,hK.symm,hD.symm⟩ ?_
   conv=>whnf
   refine⟨⟨?_,?_,?_⟩,?_⟩
   ·repeat(first|exact trivial|refine sc rfl ?_)
   ·repeat(first|exact trivial|refine kc rfl ?_|refine bW rfl ?_)
   ·repeat(first|exact trivial|refine kc rfl ?_|refine bW rfl ?_)
   clear hK hD hkn
   rintro⟨j,ks,sd⟩ hI
   obtain⟨⟨hj,hkl,hsl⟩,HK,HD⟩:=hI
   simp only at hj hkl hsl HK HD
   obtain⟨v0,v1,v2,v3,v4,v5,rfl⟩:=six sd hsl
   by_cases hjl:j<c.length
   ·obtain⟨⟨sy,xa,xb⟩,hx⟩:∃x,c[j]?=some x:=⟨_,List.getElem?_eq_getElem hjl⟩
    by_cases q2:sy=2
    ·by_cases qs:S.inSome xa.toNat=false
     ·exact LI s S hg hSg (y::l) c hok h6 K D j ks v0 v1 v2 v3 v4 v5 hkl HK HD sy xa xb hx q2 qs _
     ·exact LJ s S hg hSg (y::l) c hok h6 K D j ks v0 v1 v2 v3 v4 v5 hkl HK HD sy xa xb hx q2 qs _
    ·exact LK s S hg hSg (y::l) c hok h6 K D j ks v0 v1 v2 v3 v4 v5 hkl HK HD sy xa xb hx q2 _
   ·have hjc:j=c.length:=by omega
    subst hjc
    rw[List.drop_length]at HK HD
    simp only[dL,kQ,List.append_nil]at HK HD
    subst HK
    subst HD
    have hkm:(K.map aj).length=K.length:=List.length_map ..
    have hqe:=Gn v0 v1 v2 v3 v4 v5
    unfold Gm at hqe
    have hnj:¬((c.length:Int)<((c.map bB).length:Nat)):=by omega
    by_cases hz0:[v0,v1,v2,v3,v4,v5]=[0,0,0,0,0,0]
    ·rw[if_pos hz0]
     rw[decide_eq_true hz0]at hqe
     conv=>whnf
     repeat(any_goals(first|exact ab|(refine ap ?_ ?_<;>intro _<;>first|exact aq|conv=>whnf)|((first|refine ck hqe ?_|refine ac ?_|refine bi ?_ ?_|intro _)<;>conv=>whnf)))
     all_goals(try(exact absurd (by assumption) hnj))
     (refine⟨⟨?_⟩,trivial⟩;rfl)
    ·rw[if_neg hz0]
     rw[decide_eq_false hz0]at hqe
     conv=>whnf
     repeat(any_goals(first|exact ab|(refine ap ?_ ?_<;>intro _<;>first|exact aq|conv=>whnf)|((first|refine ct hqe ?_|refine ac ?_|refine bi ?_ ?_|intro _)<;>conv=>whnf)))
     all_goals(try(exact absurd (by assumption) hnj))
     refine fC 7 1 ⟨0,36,128⟩ ?_
     conv=>whnf
     refine xP (⟨(107,aj 0)::(7,.slice 1 [] (.own JZ 1))::L3 s K,L2 s S (y::l) [v0,v1,v2,v3,v4,v5],(JZ,some (1,0))::L4 K⟩:SS) ?_ ?_
     ·conv=>whnf
      refine⟨?_,?_,?_⟩<;>repeat(first|exact trivial|refine sc rfl ?_|refine kn ?_|refine kc rfl ?_|refine bW rfl ?_)
     obtain⟨U,hU⟩:∃U,dc S [v0,v1,v2,v3,v4,v5] s.figs.length 0=U:=⟨_,rfl⟩
     rw[hU]
     refine aO ao { l:=0,f:=36,mat:=[71,85],ow:=[59],fz:=[(13,9)]} mixed (fun u:SuSt=>[(107,aj u.i),(7,.slice 1 (u.us.map aj) (.own JZ 1))]) (fun _=>[]) (fun u=>[(JZ,some (1,u.us.length))]) (SuI s S [v0,v1,v2,v3,v4,v5] U) (fun u=>s.figs.length-u.i) (⟨0,[]⟩:SuSt) (by kernel_rfl)
      ⟨⟨Nat.zero_le _,Nat.zero_le _⟩,hU.symm⟩ ?_
     conv=>whnf
     refine⟨⟨?_,trivial,?_⟩,?_⟩
     ·repeat(first|exact trivial|refine sc rfl ?_)
     ·repeat(first|exact trivial|refine kc rfl ?_|refine bW rfl ?_)
     clear hU hqe
     rintro⟨i,us⟩ hI
     obtain⟨⟨hi,hul⟩,HU⟩:=hI
     simp only at hi hul HU
     by_cases hil:i<s.figs.length
     ·by_cases hA:S.inAll i=true
      ·by_cases hV:[v0,v1,v2,v3,v4,v5].getD i 0=1
       ·exact LN s S hg hSg (y::l) K U i us v0 v1 v2 v3 v4 v5 hul hil HU hA hV _
       ·exact LM s S hg hSg (y::l) K U i us v0 v1 v2 v3 v4 v5 hul hil HU hA hV _
      ·exact LO s S hg hSg (y::l) K U i us v0 v1 v2 v3 v4 v5 hul hil HU hA _
     ·have hin:i=s.figs.length:=by omega
      subst hin
      rw[Nat.sub_self]at HU
      simp only[dc,List.append_nil]at HU
      subst HU
      have hcf:(s.figs.map dS).length=s.figs.length:=List.length_map ..
      have hni:¬((s.figs.length:Int)<((s.figs.map dS).length:Nat)):=by omega
      conv=>whnf
      repeat(any_goals(first|exact ab|(refine ap ?_ ?_<;>intro _<;>first|exact aq|conv=>whnf)|((first|refine ac ?_|refine bi ?_ ?_|intro _)<;>conv=>whnf)))
      all_goals(try(exact absurd (by assumption) hni))
      (refine⟨⟨?_⟩,trivial⟩;rfl)
end Go.Proofs.YtgncapdjheghfaaGreatDoor
namespace Go.Proofs.YtgncapdjheghfaaGreatDoor
open Go.Am Go.Proofs Go
def Bill.slipL(s:Bill)(c:List Ent):List Int:=if kQ [0,0,0,0,0,0] c=[0,0,0,0,0,0]then []else dc s (kQ [0,0,0,0,0,0] c) s.figs.length 0
def Bill.slipR(s:Bill)(c:List Ent)(left:Int):List Int×List Int×Int :=
 if bZ s c≠0 then([],[],bZ s c)else if aW 1 (2^s.truths.length-1) left=true then([],[],7)
 else(dL (s.leftT left.toNat) 0 c,(s.leftT left.toNat).slipL c,0)
def FK(x:List Int×List Int×Int):AV:= .tuple [aD x.1,aD x.2.1,aj x.2.2]
theorem ye{P:Program}{f:FuncId}{args:List AV}{e:Int}(h:PureA P f args (.tuple [lE,lE,aj e])):PureA P f args (FK ([],[],e)) :=
 h.wk (Wk.tuple (.cons (Wk.nil 1) (.cons (Wk.nil 1) (WkL.refl _))))
theorem Jo(s:Bill)(hr:s.small)(c:List Ent)(hl:c.length≤1048576)(left e:Int)(hk:bZ s c=e)(h0:e≠0):PureA Tryz.prog 36 [aI s,aJ c,aj left] (.tuple [lE,lE,aj e]):=by
 have he:=jU s hr c hl e hk h0
 refine ag ao { l:=0,f:=36,mat:=[71,85],ow:=[59],fz:=[(13,9)]} mixed uW Tryz.func36 (by kernel_rfl) ?_
 conv=>whnf
 repeat(any_goals(first|exact ab|(refine ap ?_ ?_<;>intro _<;>first|exact aq|conv=>whnf)|((first|refine ac ?_|refine bi ?_ ?_|intro _)<;>conv=>whnf)))
 refine⟨[],?_⟩
 conv=>whnf
 refine⟨_,_,he,?_⟩
 conv=>whnf
 repeat(any_goals(first|exact ab|(refine ap ?_ ?_<;>intro _<;>first|exact aq|conv=>whnf)|((first|refine ac ?_|refine bi ?_ ?_|intro _)<;>conv=>whnf)))
 (refine⟨⟨?_⟩,trivial⟩;rfl)
theorem Jn(s:Bill)(hr:s.small)(c:List Ent)(hl:c.length≤1048576)(left:Int)(hk:bZ s c=0)(ho:aW 1 (2^s.truths.length-1) left=true):PureA Tryz.prog 36 [aI s,aJ c,aj left] (.tuple [lE,lE,aj 7]):=by
 have he:=ea s hr c hl hk
 obtain⟨hg,_,_⟩:=bQ hk
 have hT:=hg.lenT
 obtain⟨p1,p2⟩:=fa hT.2
 have hsh:=rS s.truths.length hT.2
 have htl:(s.truths.map aj).length=s.truths.length:=List.length_map ..
 have hb:PureA Tryz.prog 51 [aj 1,aj (IntKind.i64.wrap (1 * 2^min (((s.truths.map aj).length:Int)).toNat IntKind.i64.bits)-1),aj left] (aB true):=by
  have:=dy left 1 (2^s.truths.length-1)
  rw[htl,hsh]
  rwa [ho]at this
 rw[←htl]at hsh
 unfold cQ at he
 refine ag ao { l:=0,f:=36,mat:=[71,85],ow:=[59],fz:=[(13,9)]} mixed uW Tryz.func36 (by kernel_rfl) ?_
 conv=>whnf
 repeat(any_goals(first|exact ab|(refine ap ?_ ?_<;>intro _<;>first|exact aq|conv=>whnf)|((first|refine ac ?_|refine bi ?_ ?_|intro _)<;>conv=>whnf)))
 refine⟨[],?_⟩
 conv=>whnf
 refine⟨_,_,he,?_⟩
 conv=>whnf
 repeat(any_goals(first|exact ab|(refine ap ?_ ?_<;>intro _<;>first|exact aq|conv=>whnf)|((first|refine aa hb ?_|refine ac ?_|refine bi ?_ ?_|intro _)<;>conv=>whnf)))
 (refine⟨⟨?_⟩,trivial⟩;rfl)
theorem CW(s:Bill)(hr:s.small)(c:List Ent)(hl:c.length≤1048576)(left:Int):PureA Tryz.prog 36 [aI s,aJ c,aj left] (FK (s.slipR c left)):=by
 unfold Bill.slipR
 by_cases hk:bZ s c=0
 ·rw[if_neg (fun h=>h hk)]
  by_cases ho:aW 1 (2^s.truths.length-1) left=true
  ·rw[if_pos ho]
   exact ye (Jn s hr c hl left hk ho)
  ·rw[if_neg ho]
   rw[Bool.not_eq_true,bD]at ho
   obtain⟨n,rfl⟩:∃n:Nat,left=n:=⟨left.toNat,by omega⟩
   rw[Int.toNat_natCast]
   have hp:((2:Int)^s.truths.length)=((2^s.truths.length:Nat):Int):=by push_cast;rfl
   have h:=Jp s hr c hl hk n (by omega) (by omega)
   unfold Jq at h
   unfold FK Bill.slipL
   by_cases hz:kQ [0,0,0,0,0,0] c=[0,0,0,0,0,0]
   ·rw[if_pos hz]at h ⊢
    exact h.wk (Wk.tuple (.cons (Wk.refl _) (.cons (Wk.nil 1) (WkL.refl _))))
   ·rw[if_neg hz]at h ⊢
    exact h
 ·rw[if_pos hk]
  exact ye (Jo s hr c hl left _ rfl hk)
end Go.Proofs.YtgncapdjheghfaaGreatDoor
namespace Go.Proofs.YtgncapdjheghfaaGreatDoor
open Go.Am Go.Proofs Go
def Bill.entR(s:Bill)(c:List Ent)(i:Nat)(top:Bool):List (List Bs):=match c[i]? with
 | none=>[]
 | some x=>s.headW c i top x++[s.entW i x]
def Bill.pgR(s:Bill)(c:List Ent)(i n:Nat):List (List Bs):=(List.range n).flatMap fun k=>s.entR c (i+k) (decide (k=0))
def Bill.refRows(s:Bill)(c:List Ent):Nat→List Nat→List (List Bs)
 | _,[]=>[]
 | p,j::l=>(mU p::s.pgR c j (bV c l-j))++s.refRows c (p+1) l
theorem eb{α β:Type}{f g:α→List β}:∀{l:List α},(∀x∈l,f x=g x)→l.flatMap f=l.flatMap g
 | [],_=>rfl
 | x::l,h=>by rw[List.flatMap_cons,List.flatMap_cons,h x (by simp),eb fun y hy=>h y (by simp[hy])]
theorem nI{pre l:List Nat}{i:Nat}(h:∀x∈pre,x≠i):(pre++l).findIdx? (· ==i)=(l.findIdx? (· ==i)).map (· + pre.length):=by
 induction pre with
 | nil=>simp
 | cons x pre ih =>
  have hx:=h x (by simp)
  rw[List.cons_append,List.findIdx?_cons,ih fun y hy=>h y (by simp[hy])]
  rw[show(x==i)=false by simpa using hx]
  cases l.findIdx? (· ==i)with
  | none=>rfl
  | some k=>simp;omega
theorem oz{c:List Ent}:∀{l:List Nat} {i:Nat},bK c i l→∀x∈l,i≤x
 | [],_,_,x,hx=>by simp at hx
 | j::l,i,⟨h1,h2,h3⟩,x,hx=>by
  rcases List.mem_cons.1 hx with rfl|hx
  ·omega
  ·have:=oz h3 x hx;omega
theorem Bq{l:List Nat}{i:Nat}(h:∀x∈l,x≠i):l.findIdx? (· ==i)=none:=by
 have:=nI (l:=[]) h
 simpa using this
theorem qi(s:Bill)(c:List Ent):∀(l pre:List Nat) (i:Nat),bK c i l→(∀x∈pre,x<i) →
  (List.range (c.length-i)).flatMap (fun k=>s.rowW c (pre++l) (i+k))=s.refRows c pre.length l
 | [],pre,i,h,_=>by
  have:i=c.length:=h
  rw[this,Nat.sub_self]
  rfl
 | j::l,pre,i,⟨h1,h2,h3⟩,hp=>by
  subst h1
  have hle:=h3.le
  have hab:=oz h3
  have ih:=qi s c l (pre++[i]) (bV c l) h3 fun x hx=>by
   rcases List.mem_append.1 hx with h|h
   ·have:=hp x h;omega
   ·rcases List.mem_singleton.1 h with rfl;exact h2
  rw[List.append_assoc,List.singleton_append,List.length_append,List.length_singleton]at ih
  have e:c.length-i=(bV c l-i)+(c.length-bV c l):=by omega
  rw[e,List.range_add,List.flatMap_append,List.flatMap_map]
  have e2:(List.range (c.length-bV c l)).flatMap (fun k=>s.rowW c (pre++i::l) (i+(bV c l-i+k)))=(List.range (c.length-bV c l)).flatMap (fun k=>s.rowW c (pre++i::l) (bV c l+k)) :=
   eb fun k _=>by rw[show i+(bV c l-i+k)=bV c l+k by omega]
  have e3:(List.range (bV c l-i)).flatMap (fun k=>s.rowW c (pre++i::l) (i+k))=mU pre.length::s.pgR c i (bV c l-i):=by
   obtain⟨n,hn⟩:∃n,bV c l-i=n+1:=⟨bV c l-i-1,by omega⟩
   rw[hn]
   unfold Bill.pgR
   rw[List.range_succ_eq_map,List.flatMap_cons,List.flatMap_cons,List.flatMap_map,List.flatMap_map]
   have hx:i+0<c.length:=by omega
   have hc:c[i+0]?=some c[i+0]:=List.getElem?_eq_getElem hx
   have hf:(pre++i::l).findIdx? (· ==i+0)=some pre.length:=by
    rw[Nat.add_zero,nI fun x hx=>by have:=hp x hx;omega,List.findIdx?_cons]
    simp
   have a:s.rowW c (pre++i::l) (i+0)=mU pre.length::s.entR c (i+0) (decide (0=0)):=by
    unfold Bill.rowW Bill.entR
    rw[hc,hf]
    rfl
   rw[a,List.cons_append]
   congr 2
   refine eb fun k hk=>?_
   have hk:=List.mem_range.1 hk
   have hf:(pre++i::l).findIdx? (· ==i+(k+1))=none:=Bq fun x hx=>by
    rcases List.mem_append.1 hx with h|h
    ·have:=hp x h;omega
    ·rcases List.mem_cons.1 h with rfl|h
     ·omega
     ·have:=hab x h;omega
   unfold Bill.rowW Bill.entR
   rw[hf]
   cases c[i+(k+1)]? with
   | none=>rfl
   | some x=>rfl
  rw[e2,ih,e3]
  rfl
theorem w5{s:Bill}(hg:s.Good){c:List Ent}(hc:∀x∈c,s.OkE x):s.textL c=(s.refRows c 0 (mA (s.press c 0))).flatMap aM:=by
 obtain⟨l,w,e,h1,_⟩:=(kK hg hc).is
 have hn:mA (s.press c 0)=l:=by rw[e];exact ed l
 unfold Bill.textL
 rw[hn]
 congr 1
 have:=qi s c l [] 0 h1 (by simp)
 unfold Bill.rowsW
 rw[←show _=s.refRows c 0 l from this]
 rw[Nat.sub_zero]
 exact eb fun k _=>by rw[Nat.zero_add];rfl
end Go.Proofs.YtgncapdjheghfaaGreatDoor
namespace Go.Proofs.YtgncapdjheghfaaGreatDoor
open Go.Shelf Go.Proofs Go
def vK:Go.Shelf.Ren:=⟨(fun|171=>111|243=>134|246=>140|283=>144|284=>145|285=>146|286=>147|129=>150|317=>149|318=>151|319=>152|320=>153|337=>154|338=>155|n=>n),(fun|3=>3|9=>9|2=>2|4=>4|171=>175|0=>0|53=>176|37=>63|5=>5|173=>179|212=>183|51=>184|20=>20|213=>185|46=>186|232=>189|233=>190|n=>n),(fun|17=>1|18=>2|19=>3|n=>n)⟩
theorem ID:Go.Proofs.Lays.n171 Tryz.prog vK:={
 mixed:=by kernel_rfl,
 f129:=Tryz.func150.trans (congrArg some (by kernel_rfl)),
 f171:=Tryz.func111.trans (congrArg some (by kernel_rfl)),
 f243:=Tryz.func134.trans (congrArg some (by kernel_rfl)),
 f246:=Tryz.func140.trans (congrArg some (by kernel_rfl)),
 f283:=Tryz.func144.trans (congrArg some (by kernel_rfl)),
 f284:=Tryz.func145.trans (congrArg some (by kernel_rfl)),
 f285:=Tryz.func146.trans (congrArg some (by kernel_rfl)),
 f286:=Tryz.func147.trans (congrArg some (by kernel_rfl)),
 f317:=Tryz.func149.trans (congrArg some (by kernel_rfl)),
 f318:=Tryz.func151.trans (congrArg some (by kernel_rfl)),
 f319:=Tryz.func152.trans (congrArg some (by kernel_rfl)),
 f320:=Tryz.func153.trans (congrArg some (by kernel_rfl)),
 f337:=Tryz.func154.trans (congrArg some (by kernel_rfl)),
 f338:=Tryz.func155.trans (congrArg some (by kernel_rfl)),
 t0:=Tryz.underlying0,
 a0:=Tryz.isAgg0,
 z0:=Tryz.sizeOf0,
 v0:=Tryz.zeroValue0,
 t2:=Tryz.underlying2,
 a2:=Tryz.isAgg2,
 z2:=Tryz.sizeOf2,
 v2:=Tryz.zeroValue2,
 t3:=Tryz.underlying3,
 a3:=Tryz.isAgg3,
 z3:=Tryz.sizeOf3,
 v3:=Tryz.zeroValue3,
 t4:=Tryz.underlying4,
 a4:=Tryz.isAgg4,
 z4:=Tryz.sizeOf4,
 v4:=Tryz.zeroValue4,
 t5:=Tryz.underlying5,
 a5:=Tryz.isAgg5,
 z5:=Tryz.sizeOf5,
 v5:=Tryz.zeroValue5,
 t9:=Tryz.underlying9,
 a9:=Tryz.isAgg9,
 z9:=Tryz.sizeOf9,
 v9:=Tryz.zeroValue9,
 t20:=Tryz.underlying20,
 a20:=Tryz.isAgg20,
 z20:=Tryz.sizeOf20,
 v20:=Tryz.zeroValue20,
 t37:=Tryz.underlying63,
 a37:=Tryz.isAgg63,
 z37:=Tryz.sizeOf63,
 v37:=Tryz.zeroValue63,
 t46:=Tryz.underlying186,
 a46:=Tryz.isAgg186,
 z46:=Tryz.sizeOf186,
 v46:=Tryz.zeroValue186,
 t51:=Tryz.underlying184,
 a51:=Tryz.isAgg184,
 z51:=Tryz.sizeOf184,
 v51:=Tryz.zeroValue184,
 t53:=Tryz.underlying176,
 a53:=Tryz.isAgg176,
 z53:=Tryz.sizeOf176,
 v53:=Tryz.zeroValue176,
 t171:=Tryz.underlying175,
 a171:=Tryz.isAgg175,
 z171:=Tryz.sizeOf175,
 v171:=Tryz.zeroValue175,
 t173:=Tryz.underlying179,
 a173:=Tryz.isAgg179,
 z173:=Tryz.sizeOf179,
 v173:=Tryz.zeroValue179,
 t212:=Tryz.underlying183,
 a212:=Tryz.isAgg183,
 z212:=Tryz.sizeOf183,
 v212:=Tryz.zeroValue183,
 t213:=Tryz.underlying185,
 a213:=Tryz.isAgg185,
 z213:=Tryz.sizeOf185,
 t232:=Tryz.underlying189,
 a232:=Tryz.isAgg189,
 z232:=Tryz.sizeOf189,
 v232:=Tryz.zeroValue189,
 t233:=Tryz.underlying190,
 a233:=Tryz.isAgg190,
 z233:=Tryz.sizeOf190,
 v233:=Tryz.zeroValue190,
 g17:=by kernel_rfl,
 g18:=by kernel_rfl,
 g19:=by kernel_rfl}
def nR:Go.Shelf.Ren:=⟨(fun|156=>133|165=>139|166=>109|169=>113|240=>132|241=>143|276=>138|277=>148|n=>n),(fun|31=>83|9=>9|3=>3|4=>4|0=>0|20=>20|72=>149|76=>152|70=>147|37=>63|75=>151|127=>168|164=>171|5=>5|80=>156|n=>n),(fun|n=>n)⟩
theorem nQ:Go.Proofs.Lays.n156 Tryz.prog nR:={
 mixed:=by kernel_rfl,
 f156:=Tryz.func133.trans (congrArg some (by kernel_rfl)),
 f165:=Tryz.func139.trans (congrArg some (by kernel_rfl)),
 f166:=Tryz.func109.trans (congrArg some (by kernel_rfl)),
 f169:=Tryz.func113.trans (congrArg some (by kernel_rfl)),
 f240:=Tryz.func132.trans (congrArg some (by kernel_rfl)),
 f241:=Tryz.func143.trans (congrArg some (by kernel_rfl)),
 f276:=Tryz.func138.trans (congrArg some (by kernel_rfl)),
 f277:=Tryz.func148.trans (congrArg some (by kernel_rfl)),
 t0:=Tryz.underlying0,
 a0:=Tryz.isAgg0,
 z0:=Tryz.sizeOf0,
 v0:=Tryz.zeroValue0,
 t3:=Tryz.underlying3,
 a3:=Tryz.isAgg3,
 z3:=Tryz.sizeOf3,
 v3:=Tryz.zeroValue3,
 t4:=Tryz.underlying4,
 a4:=Tryz.isAgg4,
 z4:=Tryz.sizeOf4,
 v4:=Tryz.zeroValue4,
 t9:=Tryz.underlying9,
 a9:=Tryz.isAgg9,
 z9:=Tryz.sizeOf9,
 v9:=Tryz.zeroValue9,
 t20:=Tryz.underlying20,
 a20:=Tryz.isAgg20,
 z20:=Tryz.sizeOf20,
 v20:=Tryz.zeroValue20,
 t31:=Tryz.underlying83,
 a31:=Tryz.isAgg83,
 z31:=Tryz.sizeOf83,
 v31:=Tryz.zeroValue83,
 t37:=Tryz.underlying63,
 a37:=Tryz.isAgg63,
 z37:=Tryz.sizeOf63,
 v37:=Tryz.zeroValue63,
 t70:=Tryz.underlying147,
 a70:=Tryz.isAgg147,
 z70:=Tryz.sizeOf147,
 v70:=Tryz.zeroValue147,
 t72:=Tryz.underlying149,
 a72:=Tryz.isAgg149,
 z72:=Tryz.sizeOf149,
 v72:=Tryz.zeroValue149,
 t75:=Tryz.underlying151,
 a75:=Tryz.isAgg151,
 z75:=Tryz.sizeOf151,
 v75:=Tryz.zeroValue151,
 t76:=Tryz.underlying152,
 a76:=Tryz.isAgg152,
 z76:=Tryz.sizeOf152,
 v76:=Tryz.zeroValue152,
 t127:=Tryz.underlying168,
 a127:=Tryz.isAgg168,
 z127:=Tryz.sizeOf168,
 v127:=Tryz.zeroValue168,
 t164:=Tryz.underlying171,
 a164:=Tryz.isAgg171,
 z164:=Tryz.sizeOf171,
 v164:=Tryz.zeroValue171}
def vJ:Go.Shelf.Ren:=⟨(fun|102=>83|209=>120|207=>136|n=>n),(fun|9=>9|4=>4|3=>3|n=>n),(fun|n=>n)⟩
theorem IC:Go.Proofs.Lays.n102 Tryz.prog vJ:={
 mixed:=by kernel_rfl,
 f102:=Tryz.func83.trans (congrArg some (by kernel_rfl)),
 f207:=Tryz.func136.trans (congrArg some (by kernel_rfl)),
 f209:=Tryz.func120.trans (congrArg some (by kernel_rfl)),
 t3:=Tryz.underlying3,
 a3:=Tryz.isAgg3,
 z3:=Tryz.sizeOf3,
 v3:=Tryz.zeroValue3,
 t4:=Tryz.underlying4,
 a4:=Tryz.isAgg4,
 z4:=Tryz.sizeOf4,
 v4:=Tryz.zeroValue4,
 t9:=Tryz.underlying9,
 a9:=Tryz.isAgg9,
 z9:=Tryz.sizeOf9,
 v9:=Tryz.zeroValue9}
def vL:Go.Shelf.Ren:=⟨(fun|217=>135|266=>141|n=>n),(fun|9=>9|5=>5|3=>3|n=>n),(fun|n=>n)⟩
theorem IE:Go.Proofs.Lays.n217 Tryz.prog vL:={
 mixed:=by kernel_rfl,
 f217:=Tryz.func135.trans (congrArg some (by kernel_rfl)),
 f266:=Tryz.func141.trans (congrArg some (by kernel_rfl)),
 t3:=Tryz.underlying3,
 a3:=Tryz.isAgg3,
 z3:=Tryz.sizeOf3,
 v3:=Tryz.zeroValue3,
 t5:=Tryz.underlying5,
 a5:=Tryz.isAgg5,
 z5:=Tryz.sizeOf5,
 v5:=Tryz.zeroValue5,
 t9:=Tryz.underlying9,
 a9:=Tryz.isAgg9,
 z9:=Tryz.sizeOf9,
 v9:=Tryz.zeroValue9}
theorem jW:Builder.Extra Tryz.prog nR:={
 sizeBuilder:=by kernel_rfl,
 liesBuilder:=by kernel_rfl,
 t5:=Tryz.underlying5,
 a5:=Tryz.isAgg5,
 z5:=Tryz.sizeOf5,
 v5:=Tryz.zeroValue5,
 infoByte:=by kernel_rfl,
 cellsByte:=by kernel_rfl,
 sizeByte:=by kernel_rfl,
 neB5:=by decide}
end Go.Proofs.YtgncapdjheghfaaGreatDoor
namespace Go.Am
open Go.Shelf Go.RowKit Go.Proofs
variable {P:Program} {ρ:Ren}
def J2(r:Nat)(w w':World):Prop:=(∀b',b'≠r→w'.heap[b']?=w.heap[b']?)∧w'.heap.size=w.heap.size∧w'.os=w.os∧w'.tape=w.tape∧w'.output=w.output
theorem yQ(r:Nat)(n:Nat)(w:World):J2 r w (w.drew.freeze ⟨r,0,none⟩ n):=by
 unfold World.freeze
 split
 ·exact⟨fun _ _=>rfl,rfl,rfl,rfl,rfl⟩
 ·refine⟨fun b' hb=>?_,by simp,rfl,rfl,rfl⟩
  simp only[Array.getElem?_modify]
  rw[if_neg (by simpa using fun e=>hb e.symm)]
  rfl
set_option maxHeartbeats 2000000 in
set_option maxRecDepth 100000 in
theorem zW(L:Lays.n169 P ρ)(X:Builder.Extra P ρ){b g cap:Nat}{p:Value}{cur:Array Value}{w:World}{s:ByteArray}(h0:s.size≠0)(hbk:w.heap[b]?=some (.cells #[p,.slice (some ⟨g,0,none⟩) s.size cap] (ρ.t 72) (0,0)))(hbg:w.heap[g]?=some (.cells cur (ρ.t 5) (0,0)))
  (hnc:s.size≤cap) (hcm:cap≤maxLen) (hcs:cap≤cur.size) (hcells:∀(j:Nat) (x:UInt8),s.data.toList[j]?=some x→cur[j]?=some (.int .u8 x.toNat)) :
  Calls P (ρ.f 169) #[.pointer (some ⟨b,0,none⟩)] w fun e w'=>e = .returned (.string s)∧J2 g w w':=by
 obtain⟨⟨l⟩⟩:=s
 change l.length≠0 at h0
 change l.length≤cap at hnc
 change w.heap[b]?=some (.cells #[p,.slice (some ⟨g,0,none⟩) l.length cap] (ρ.t 72) (0,0))at hbk
 change ∀(j:Nat) (x:UInt8),l[j]?=some x→cur[j]?=some (.int .u8 x.toNat)at hcells
 have hne:l≠[]:=fun e=>h0 (by rw[e];rfl)
 have c1:w.drew.cell? ⟨b,1,none⟩=some (.slice (some ⟨g,0,none⟩) l.length cap):=by
  have:w.drew.heap[b]?=some (.cells #[p,.slice (some ⟨g,0,none⟩) l.length cap] (ρ.t 72) (0,0)):=hbk
  rw[Lib.cell_of_heap this];rfl
 have hSD:(Builtin.unsafeSliceData_ #[(ρ.t 37)] (ρ.t 127) #[.slice (some ⟨g,0,none⟩) l.length cap]).run P w.drew = .ok (.pointer (some ⟨g,0,none⟩)) w.drew :=
  Lib.run_unsafeSliceData_row _ _ _ _ _ _ (by omega)
 have hUS:(Builtin.unsafeString_ #[(ρ.t 127),(ρ.t 3)] (ρ.t 9) #[.pointer (some ⟨g,0,none⟩),.int .i64 l.length]).run P w.drew = .ok (.string ⟨l.toArray⟩) (w.drew.freeze ⟨g,0,none⟩ l.length):=by
  refine Lib.run_unsafeString_row w.drew (ρ.t 127) (ρ.t 3) (ρ.t 9) (ρ.t 5) L.t127 X.cellsByte g cur.size (by have hg':w.drew.heap[g]?=some (.cells cur (ρ.t 5) (0,0)):=hbg;simp[World.shape?,hg']) l hne (by omega) (by unfold maxLen at hcm;omega) ?_
  intro j x hx
  have:=hcells j x hx
  have hg':w.drew.heap[g]?=some (.cells cur (ρ.t 5) (0,0)):=hbg
  rw[show(⟨g,0,none⟩:Addr).add j=⟨g,j,none⟩ by cases j<;>simp[Addr.add],Lib.cell_of_heap hg']
  exact this
 have mixed:=L.mixed
 have t72:=L.t72;have a72:=L.a72;have z72:=L.z72;have v72:=L.v72;have u72:=run_underlying L.t72
 have t70:=L.t70;have a70:=L.a70;have z70:=L.z70;have v70:=L.v70;have u70:=run_underlying L.t70
 have t37:=L.t37;have a37:=L.a37;have z37:=L.z37;have v37:=L.v37;have u37:=run_underlying L.t37
 have t127:=L.t127;have a127:=L.a127;have z127:=L.z127;have v127:=L.v127;have u127:=run_underlying L.t127
 have t3:=L.t3;have a3:=L.a3;have z3:=L.z3;have v3:=L.v3;have u3:=run_underlying L.t3
 have t9:=L.t9;have a9:=L.a9;have z9:=L.z9;have v9:=L.v9;have u9:=run_underlying L.t9
 have t5:=X.t5;have a5:=X.a5;have z5:=X.z5;have v5:=X.v5;have u5:=run_underlying X.t5
 clear hcells hcs hne hbg
 go_enter L.f169,Body.n169_ntmps ρ
 go_wp2
 go_region_o
 all_goals(go_wp2;go_ret;exact⟨rfl,yQ ..⟩)
set_option maxHeartbeats 2000000 in
set_option maxRecDepth 100000 in
theorem rY(L:Lays.n169 P ρ)(X:Builder.Extra P ρ){b:Nat}{p:Value}{w:World}(hbk:w.heap[b]?=some (.cells #[p,.slice none 0 0] (ρ.t 72) (0,0))) :
  Calls P (ρ.f 169) #[.pointer (some ⟨b,0,none⟩)] w fun e w'=>e = .returned (.string ⟨#[]⟩)∧w'.heap=w.heap∧w'.os=w.os∧w'.tape=w.tape∧w'.output=w.output:=by
 have hUS:=Any.unsafeString_none L X
 have c1:w.drew.cell? ⟨b,1,none⟩=some (.slice none 0 0):=by
  have:w.drew.heap[b]?=some (.cells #[p,.slice none 0 0] (ρ.t 72) (0,0)):=hbk
  rw[Lib.cell_of_heap this];rfl
 have hSD:(Builtin.unsafeSliceData_ #[(ρ.t 37)] (ρ.t 127) #[.slice none 0 0]).run P w.drew = .ok (.pointer none) w.drew:=rfl
 have mixed:=L.mixed
 have t72:=L.t72;have a72:=L.a72;have z72:=L.z72;have v72:=L.v72;have u72:=run_underlying L.t72
 have t70:=L.t70;have a70:=L.a70;have z70:=L.z70;have v70:=L.v70;have u70:=run_underlying L.t70
 have t37:=L.t37;have a37:=L.a37;have z37:=L.z37;have v37:=L.v37;have u37:=run_underlying L.t37
 have t127:=L.t127;have a127:=L.a127;have z127:=L.z127;have v127:=L.v127;have u127:=run_underlying L.t127
 have t3:=L.t3;have a3:=L.a3;have z3:=L.z3;have v3:=L.v3;have u3:=run_underlying L.t3
 have t9:=L.t9;have a9:=L.a9;have z9:=L.z9;have v9:=L.v9;have u9:=run_underlying L.t9
 have t5:=X.t5;have a5:=X.a5;have z5:=X.z5;have v5:=X.v5;have u5:=run_underlying X.t5
 go_enter L.f169,Body.n169_ntmps ρ
 go_wp2
 go_region_o
 all_goals(go_wp2;go_ret;exact⟨rfl,rfl,rfl,rfl,rfl⟩)
theorem sa{f:FuncId}{T:TypeId}{k:Key}{g:Nat}{p:AV}(hl:k.l=1000+2 * T)(hc:ak P f)
  (hrun:∀(b:Nat) (y0:Value) (w:World),w.heap[b]?=some (.cells #[y0,.slice none 0 0] T (0,0))→Calls P f #[.pointer (some ⟨b,0,none⟩)] w fun e w'=>e = .returned (.string ⟨#[]⟩)∧w'.heap=w.heap∧w'.os=w.os∧w'.tape=w.tape∧w'.output=w.output) :
  BoxA P (.fn f) [(k,g,2,[.agg [p,.v (.slice none 0 0)]])] [.ptr k g 2 0 0] (.v (.string ⟨#[]⟩)) [(k,g,2,[.agg [p,.v (.slice none 0 0)]])]:=by
 refine⟨hc,fun C w cargs hR hown hk=>?_⟩
 obtain⟨y,rfl,hy⟩:=j2 hk
 obtain⟨hgb,o,y0,y1,hh,⟨h0,_⟩,h1,h2⟩:=qN (k:=k) hl hR (g:=g) (p:=p) (x:= .v (.slice none 0 0)) (by simp[cD])
 obtain rfl:=nw hR hgb hy
 obtain rfl:y1 = .slice none 0 0:=h1.val (z:= .slice none 0 0) rfl
 refine Calls.mono (hrun _ _ w hh) fun e w' ⟨he,hheap,hos,ht,hout⟩=>?_
 obtain⟨hle,hR2⟩:=hR.world (w':=w') hheap hos ht hout
 refine⟨_,_,_,he,hle,hR2,.pure (.v _),fun p hp=>?_⟩
 rcases List.mem_singleton.1 hp with rfl
 simp[fS,cD]
theorem iU{f:FuncId}{T:TypeId}{k kr:Key}{g gr sz:Nat}{x:AV}{es:List AV}(hl:k.l=1000+2 * T)(hkk:¬kr=k)(hc:ak P f)
  (hrun:∀(b:Nat) (y:Value) (w:World),w.heap[b]?=some (.cells #[.pointer (some ⟨b,0,none⟩),y] T (0,0))→Calls P f #[.pointer (some ⟨b,0,none⟩)] w fun e w'=>e = .returned (.tuple #[])∧w'=w) :
  BoxA P (.fn f) [(k,g,2,[.agg [.ptr k g 2 0 0,x]]),(kr,gr,sz,es)] [.ptr k g 2 0 0] (.tuple []) [(k,g,2,[.agg [.ptr k g 2 0 0,x]]),(kr,gr,sz,es)]:=by
 refine⟨hc,fun C w cargs hR hown hk=>?_⟩
 obtain⟨y,rfl,hy⟩:=j2 hk
 obtain⟨hgb,o,y0,y1,hh,⟨h0,_⟩,h1,h2⟩:=qN (k:=k) hl hR (g:=g) (p:= .ptr k g 2 0 0) (x:=x) (by simp[cD])
 obtain rfl:=nw hR hgb hy
 obtain rfl:=nw hR hgb h0
 refine Calls.mono (hrun _ _ w hh) fun e w' ⟨he,hw'⟩=>?_
 subst hw'
 refine⟨_,_,C,he,Ctx.le.refl C,hR,.tuple (by rfl) (fun i x y hx=>by simp at hx),fun p hp=>?_⟩
 simp only[List.mem_cons,List.not_mem_nil,or_false]at hp
 rcases hp with rfl|rfl
 ·simp[fS,cD]
 ·simp[fS,cD,hkk]
end Go.Am
namespace Go.Proofs.YtgncapdjheghfaaGreatDoor
open Go.Am Go.Proofs Go Go.RowKit
theorem tN{w:World}{imm:Nat→Nat→Prop}{x y:Value}(h:PRel w imm (.v x) y):y=x:=by cases h;rfl
theorem CD{w:World}{imm:Nat→Nat→Prop}{x:AV}{ys:Array Value}(h:mM w imm [x] ys):∃y,ys=#[y]∧PRel w imm x y:=by
 obtain⟨h1,h2⟩:=h
 obtain⟨l⟩:=ys
 obtain⟨y,rfl⟩:=List.length_eq_one_iff.1 (by simpa using h1)
 exact⟨y,rfl,h2 0 x y rfl rfl⟩
theorem tO{w:World}{imm:Nat→Nat→Prop}{x z:AV}{ys:Array Value}(h:mM w imm [x,z] ys):∃y u,ys=#[y,u]∧PRel w imm x y∧PRel w imm z u:=by
 obtain⟨h1,h2⟩:=h
 obtain⟨l⟩:=ys
 match l,h1 with
 | [y,u],_=>exact⟨y,u,rfl,h2 0 x y rfl rfl,h2 1 z u rfl rfl⟩
 | [],h1=>simp at h1
 | [_],h1=>simp at h1
 | _::_::_::_,h1=>simp at h1
theorem Fy{P:Program}{f:FuncId}{x r:Value}(hc:ak P f)(h:∀w,Calls P f #[x] w fun e w'=>e = .returned r∧w'=w):PureA P f [.v x] (.v r):=by
 refine⟨hc,fun w imm cargs hi hp=>?_⟩
 obtain⟨y,rfl,hy⟩:=CD hp
 obtain rfl:=tN hy
 refine(h w).mono ?_
 rintro e w' ⟨rfl,rfl⟩
 exact⟨_,imm,rfl,fun b i hb=>⟨hi.lt b i hb,fun _=>hb⟩,.v _,Below.refl _ _⟩
theorem x9{P:Program}{f:FuncId}{x z r:Value}(hc:ak P f)(h:∀w,Calls P f #[x,z] w fun e w'=>e = .returned r∧w'=w):PureA P f [.v x,.v z] (.v r):=by
 refine⟨hc,fun w imm cargs hi hp=>?_⟩
 obtain⟨y,u,rfl,hy,hu⟩:=tO hp
 obtain rfl:=tN hy
 obtain rfl:=tN hu
 refine(h w).mono ?_
 rintro e w' ⟨rfl,rfl⟩
 exact⟨_,imm,rfl,fun b i hb=>⟨hi.lt b i hb,fun _=>hb⟩,.v _,Below.refl _ _⟩
def aH(l:Bs):ByteArray:=⟨l.toArray⟩
theorem eQ(l:Bs):bytes (aH l)=l:=rfl
theorem aX(s:ByteArray):aH (bytes s)=s:=rfl
theorem yF:∀n:Nat,n<10→Lib.decDigits n=num n:=by
 intro n hn
 unfold Lib.decDigits
 rw[dif_pos hn]
 unfold num
 rw[Int.toNat_natCast]
theorem dh(n:Int)(h:0≤n∧n≤9):PureA Tryz.prog 111 [aj n] (aG (aH (num n))):=by
 obtain⟨k,rfl⟩:∃k:Nat,n=k:=⟨n.toNat,by omega⟩
 refine Fy EB fun w=>?_
 rw[←yF k (by omega)]
 exact Any.strconv_Itoa_small ID k (by omega) w
theorem vF(s:ByteArray)(c:Nat):PureA Tryz.prog 135 [aG s,.v (.int .u8 c)] (aj (Lib.indexByte s.data.toList (c:Int).toNat.toUInt8)) :=
 x9 EO fun w=>Any.stringslite_IndexByte IE s c w
theorem K5(s p:ByteArray)(hs:s.size≤1048576):PureA Tryz.prog 83 [aG s,aG p] (aG (aH (Lib.trimSuffix s.data.toList p.data.toList))) :=
 x9 H4 fun w=>Any.strings_TrimSuffix IC s p w (by omega)
set_option maxRecDepth 100000 in
theorem Kz(xs:List ByteArray)(sep:ByteArray)(hne:xs≠[])(hn:xs.length≤1000)(hl:(Lib.join (xs.map (·.data.toList)) sep.data.toList).length≤100000000) :
  PureA Tryz.prog 133 [FT xs,aG sep] (aG (aH (Lib.join (xs.map (·.data.toList)) sep.data.toList))):=by
 refine⟨EN,fun w imm cargs hi hp=>?_⟩
 obtain⟨y,u,rfl,hy,hu⟩:=tO hp
 obtain rfl:=tN hu
 cases xs with
 | nil=>exact absurd rfl hne
 | cons x xs =>
  cases hy with
  | @slice sz es tok b off cap ys hcap ht hm hsz hc hq =>
   have hcell:∀(j:Nat) z,(x::xs)[j]?=some z→w.cell? ⟨b,off+j,none⟩=some (.string z)∧imm b (off+j):=by
    intro j z hz
    have e:((x::xs).map aG)[j]?=some (aG z):=by rw[List.getElem?_map,hz];rfl
    obtain⟨h1,h2,_⟩:=hc j (aG z) 0 (aG z) e rfl
    have:=tN (hq j (aG z) 0 (aG z) e rfl)
    rw[this]at h1
    simp only[Nat.mul_one,Nat.add_zero]at h1 h2
    exact⟨h1,h2⟩
   have hb:=hi.lt _ _ (hcell 0 x rfl).2
   have hlen:((x::xs).map aG).length=(x::xs).length:=List.length_map ..
   have hN:(x::xs).length≤140737488355328:=Nat.le_trans hn (by decide)
   have hC:(x::xs).length≤cap:=hlen▸hcap
   have hL:(Lib.join ((x::xs).map (·.data.toList)) sep.data.toList).length≤140737488355328:=Nat.le_trans hl (by decide)
   have hz:∀(j:Nat) z,(x::xs)[j]?=some z→w.cell? ⟨b,off+j,none⟩=some (.string z):=fun j z hz=>(hcell j z hz).1
   rw[hlen]
   clear hcell hc hq hm hcap hsz hlen hn hl
   generalize x::xs=l at *
   have:=Any.strings_Join nQ jW b off cap l sep w hz hb hN hC hL
   refine this.mono ?_
   rintro e w' ⟨rfl,hbel⟩
   refine⟨_,fun b i=>b<w.heap.size∧imm b i,rfl,fun b i hb=>⟨?_,fun _=>hb.2⟩,.v _,hbel⟩
   have:=hbel.size
   omega
theorem vb{k:Key}{g:Nat}{x:AV}(hl:k.l=1000+2 * 149) :
  BoxA Tryz.prog (.fn 132) [(k,g,2,[.agg [.v (.pointer none),x]])] [.ptr k g 2 0 0] (.tuple []) [(k,g,2,[.agg [.ptr k g 2 0 0,x]])] :=
 iT hl xy fun b y w h =>
  Any.Builder_copyCheck_fresh { nQ with} jW.toX72 b w (by rw[Lib.cell_of_heap h];rfl) (by simp[World.shape?,h];rfl) (Lib.frozen_of_heap h 0)
theorem vd{k kr:Key}{g gr sz:Nat}{x:AV}{es:List AV}(hl:k.l=1000+2 * 149)(hkk:¬kr=k) :
  BoxA Tryz.prog (.fn 132) [(k,g,2,[.agg [.ptr k g 2 0 0,x]]),(kr,gr,sz,es)] [.ptr k g 2 0 0] (.tuple []) [(k,g,2,[.agg [.ptr k g 2 0 0,x]]),(kr,gr,sz,es)] :=
 iU hl hkk xy fun b y w h =>
  Any.Builder_copyCheck_used { nQ with} jW.toX72 b w (by rw[Lib.cell_of_heap h];rfl)
theorem FS{k kr:Key}{g gr c0:Nat}{p:AV}{s:ByteArray}(hl:k.l=1000+2 * 149)(hlr:kr.l=1001+2 * 5)(hne:s.size≠0) :
  BoxA Tryz.prog (.fn 113) [(k,g,2,[.agg [p,.own kr gr 1 s.size c0]]),(kr,gr,1,cm s)] [.ptr k g 2 0 0] (.v (.string s)) [(k,g,2,[.agg [p,.own kr gr 1 s.size c0]]),(kr,gr+1,1000,[])] :=
 uP hl hlr hne xu fun b r cap y0 cur w h1 h2 h3 h4 h5 h6=>zW { nQ with} jW hne h1 h2 h3 h4 h5 h6
theorem w4{k:Key}{g:Nat}{p:AV}(hl:k.l=1000+2 * 149) :
  BoxA Tryz.prog (.fn 113) [(k,g,2,[.agg [p,.v (.slice none 0 0)]])] [.ptr k g 2 0 0] (.v (.string ⟨#[]⟩)) [(k,g,2,[.agg [p,.v (.slice none 0 0)]])] :=
 sa hl xu fun b y0 w h=>rY { nQ with} jW h
end Go.Proofs.YtgncapdjheghfaaGreatDoor
namespace Go.Proofs.YtgncapdjheghfaaGreatDoor
open Go.Am Go.Proofs Go
theorem aF(a b:ByteArray):bytes (a++b)=bytes a++bytes b:=by
 unfold bytes
 rw[ByteArray.data_append,Array.toList_append]
theorem o7(a b:Bs):aH a++aH b=aH (a++b):=aR (by rw[aF];rfl)
theorem pP:∀(ws:List Bs) (w:Bs),aC (w::ws)=w++Lib.joinTail [32] ws
 | [],w=>by simp[aC,Lib.joinTail]
 | v::vs,w=>by
  show w++32::aC (v::vs)=_
  rw[pP vs v]
  simp[Lib.joinTail]
theorem BG(ws:List Bs):Lib.join ws [32]=aC ws:=by
 cases ws with
 | nil=>rfl
 | cons w ws=>rw[Lib.join_cons,pP]
theorem j1:∀(a b:List Bs),a≠[]→b≠[]→aC (a++b)=aC a++32::aC b
 | [w],b,_,hb=>by
  cases b with
  | nil=>exact absurd rfl hb
  | cons v vs=>rfl
 | w::u::a,b,_,hb=>by
  show w++32::aC ((u::a)++b)=(w++32::aC (u::a))++32::aC b
  rw[j1 (u::a) b (by simp) hb]
  simp
theorem cC(ws:List Bs)(hne:ws≠[])(hn:ws.length≤1000)(hl:(aC ws).length≤1000000):PureA Tryz.prog 110 [FT (ws.map aH)] (aG (aH (aM ws))):=by
 have h:=Kz (ws.map aH) ⟨#[32]⟩ (by simpa using hne) (by rw[List.length_map];exact hn) (by
  rw[show(ws.map aH).map (·.data.toList)=ws by rw[List.map_map];exact List.map_id _,BG]
  omega)
 rw[show(ws.map aH).map (·.data.toList)=ws by rw[List.map_map];exact List.map_id _,BG]at h
 have e:aH (aC ws)++(⟨#[10]⟩:ByteArray)=aH (aM ws):=o7 (aC ws) [10]
 have hsz:(aH (aC ws)).size=(aC ws).length:=rfl
 rw[←e]
 generalize aH (aC ws)=J at *
 generalize ws.map aH=W at *
 have h10:(⟨#[10]⟩:ByteArray).size=1:=rfl
 refine ag ao { l:=0,f:=110} mixed EA Tryz.func110 (by kernel_rfl) ?_
 conv=>whnf
 repeat(any_goals(first|exact ab|(refine ap ?_ ?_<;>intro _<;>first|exact aq|conv=>whnf)|((first|refine aa h ?_|refine ac ?_|refine bi ?_ ?_|intro _)<;>conv=>whnf)))
 (refine⟨⟨?_⟩,trivial⟩;rfl)
def kB:Key:=⟨1000+2 * 149,79,5⟩
def kBr:Key:=⟨1001+2 * 5,109,14⟩
inductive BSt where
 | fresh
 | used (g:Nat) (t:Bs)
def BSt.av:BSt→AV
 | .fresh=> .agg [.v (.pointer none),.v (.slice none 0 0)]
 | .used g t=> .agg [.ptr kB 1 2 0 0,.own kBr g 1 t.length 0]
def BSt.row:BSt→jd
 | .fresh=>(0,none)
 | .used g t=>(g,some (1,cm (aH t)))
theorem yC(t l:Bs):(cm (aH t)).take t.length++cm (aH l)=cm (aH (t++l)):=by
 have e:∀x:Bs,cm (aH x)=x.map fun b=> .v (.int .u8 b.toNat):=fun _=>rfl
 rw[e,e,e,List.map_append,List.take_of_length_le (by rw[List.length_map];omega)]
theorem uQ(t:Bs):(cm (aH t)).length=t.length:=by
 rw[lc];rfl
theorem ax(ks:List Key)(s:ByteArray):tkL (tk2 ks) (cm s)=some (cm s):=by
 unfold cm
 induction s.data.toList with
 | nil=>rfl
 | cons b l ih=>simp only[List.map_cons,tkL,ih];rfl
theorem r5(l:Bs)(hl:l≠[])(hn:l.length≤1000000) :
  BoxA Tryz.prog (.fn 109) [(kB,1,2,[BSt.fresh.av])] [.ptr kB 1 2 0 0,aG (aH l)] (.tuple [aj l.length,.v .nilIface]) [(kB,1,2,[(BSt.used 1 l).av]),(kBr,1,1,cm (aH l))]:=by
 have hc:=vb (k:=kB) (g:=1) (x:= .v (.slice none 0 0)) rfl
 have hsz:(aH l).size=l.length:=rfl
 have h0:0<l.length:=by cases l with|nil=>exact absurd rfl hl|cons=>simp
 unfold BSt.av
 refine aN ao { l:=0,f:=109,mat:=[132],ow:=[14],ty:=[14]} mixed xt Tryz.func109 (by kernel_rfl) ?_
 conv=>whnf
 refine⟨[kB],?_⟩
 conv=>whnf
 refine⟨_,_,hc,?_⟩
 conv=>whnf
 repeat(any_goals(first|exact ab|(refine ap ?_ ?_<;>intro _<;>first|exact aq|conv=>whnf)|((first|refine ac ?_|refine bi ?_ ?_|intro _)<;>conv=>whnf)))
 refine And.intro ?_ ?_
 ·conv=>whnf
  refine⟨⟨?_⟩,trivial⟩
  rfl
 ·repeat(first|exact trivial|refine And.intro rfl ?_|refine And.intro (by first|rfl|skip) ?_)
theorem aP(g:Nat)(t l:Bs)(ht:t.length≤1000000)(hn:l.length≤1000000) :
  BoxA Tryz.prog (.fn 109) [(kB,1,2,[(BSt.used g t).av]),(kBr,g,1,cm (aH t))] [.ptr kB 1 2 0 0,aG (aH l)] (.tuple [aj l.length,.v .nilIface]) [(kB,1,2,[(BSt.used (g+1) (t++l)).av]),(kBr,g+1,1,cm (aH (t++l)))]:=by
 have hc:=vd (k:=kB) (kr:=kBr) (g:=1) (gr:=g) (sz:=1) (x:= .own kBr g 1 t.length 0) (es:=cm (aH t)) rfl (by decide)
 have hsz:(aH l).size=l.length:=rfl
 have hbl:=uQ t
 have hrow:=yC t l
 have hlen:(t++l).length=t.length+(aH l).size:=by rw[List.length_append];rfl
 show BoxA _ _ [(kB,1,2,[.agg [.ptr kB 1 2 0 0,.own kBr g 1 t.length 0]]),(kBr,g,1,cm (aH t))] _ _ [(kB,1,2,[.agg [.ptr kB 1 2 0 0,.own kBr (g+1) 1 (t++l).length 0]]),(kBr,g+1,1,cm (aH (t++l)))]
 rw[hlen, ←hrow]
 have htk:=fun ks=>ax ks (aH t)
 generalize hB:cm (aH t)=B at *
 refine aN ao { l:=0,f:=109,mat:=[132],ow:=[14],ty:=[14]} mixed xt Tryz.func109 (by kernel_rfl) ?_
 conv=>whnf
 refine⟨[kB,kBr],?_⟩
 conv=>whnf
 refine ah (htk _) ?_
 conv=>whnf
 refine⟨_,_,hc,?_⟩
 conv=>whnf
 refine ah (htk _) ?_
 conv=>whnf
 repeat(any_goals(first|exact ab|(refine ap ?_ ?_<;>intro _<;>first|exact aq|conv=>whnf)|((first|refine ac ?_|refine bi ?_ ?_|intro _)<;>conv=>whnf)))
 refine And.intro ?_ ?_
 ·conv=>whnf
  refine⟨⟨?_⟩,trivial⟩
  rfl
 ·repeat(first|exact trivial|refine And.intro rfl ?_|refine And.intro (by rfl) ?_)
end Go.Proofs.YtgncapdjheghfaaGreatDoor
namespace Go.Proofs.YtgncapdjheghfaaGreatDoor
open Go.Am Go.Proofs Go
theorem mX(s:Bill)(a:Int)(f:Fig)(h0:0≤a)(h:s.figs[a.toNat]?=some f)(hn:f.name.size≤16∧f.role.size≤16):PureA Tryz.prog 112 [dp s,aj a] (aG (aH (aC (s.whoW a)))):=by
 have e:f.name++(⟨#[32,97,115,32]⟩:ByteArray)++f.role=aH (aC (s.whoW a)):=by
  rw[md h]
  refine aR ?_
  rw[aF,aF]
  show _=bytes f.name++32::(wAs++32::bytes f.role)
  simp[wAs,bytes]
 rw[←e]
 have hlt:=(List.getElem?_eq_some_iff.1 h).1
 have hfl:(s.figs.map dS).length=s.figs.length:=List.length_map ..
 have hz:(⟨#[32,97,115,32]⟩:ByteArray).size=4:=rfl
 have hz1:(f.name++(⟨#[32,97,115,32]⟩:ByteArray)).size=f.name.size+4:=by rw[ByteArray.size_append,hz]
 refine ag ao { l:=0,f:=112} mixed EC Tryz.func112 (by kernel_rfl) ?_
 conv=>whnf
 repeat(any_goals(first|exact ab|(refine ap ?_ ?_<;>intro _<;>first|exact aq|conv=>whnf)|((first|refine ae h (by omega) ?_|refine ac ?_|refine bi ?_ ?_|intro _)<;>conv=>whnf)))
 (refine⟨⟨?_⟩,trivial⟩;rfl)
def kTx:Key:=⟨0,79,16⟩
theorem I2(s:Bill)(c:List Ent)(h6:c.length≤6)(i:Nat)(hi:i≤c.length)(m:cj)(hm:dv s c m)(hmet:(m.any fun e=>decide (e.1=(i:Int)))=true) :
  BoxA Tryz.prog (.fn 76) [(kTx,1,0,lA m)] [dp s,aJ c,aj i,.mp kTx 1] (en s c i) [(kTx,1,0,lA m)]:=by
 obtain⟨n,hn⟩:=nJ m i (s.press c i) 0 (pW hm) hmet
 have hlt:i<c.length:=by
  rw[List.any_eq_true]at hmet
  obtain⟨e,he,h1⟩:=hmet
  obtain⟨j,h2,h3,_⟩:=hm e he
  have h1:=of_decide_eq_true h1
  omega
 rw[eo s hlt]
 generalize s.press c i=R at *
 unfold gD tP
 refine aN ao { l:=0,f:=76} mixed lh Tryz.func76 (by kernel_rfl) ?_
 conv=>whnf
 repeat(any_goals(first|exact ab|(refine ap ?_ ?_<;>intro _<;>first|exact aq|conv=>whnf)|((first|rw[hn]|refine ac ?_|refine bi ?_ ?_|intro _)<;>conv=>whnf)))
 refine And.intro ?_ ?_
 ·conv=>whnf
  refine⟨⟨?_⟩,trivial⟩
  rfl
 ·repeat(first|exact trivial|refine And.intro rfl ?_|refine And.intro (by skip) ?_)
theorem CF(s:Bill)(c:List Ent)(h6:c.length≤6)(m:cj)(hm:dv s c m) :
  BoxA Tryz.prog (.fn 76) [(kTx,1,0,lA m)] [dp s,aJ c,aj c.length,.mp kTx 1] (en s c c.length) [(kTx,1,0,lA m)]:=by
 have hcl:(c.map bB).length=c.length:=List.length_map ..
 have hn:=eV m c.length 0 (by
  rw[List.any_eq_false]
  intro e he
  obtain⟨j,h2,h3,_⟩:=hm e he
  simp only[decide_eq_true_eq]
  omega)
 rw[eO]
 refine aN ao { l:=0,f:=76} mixed lh Tryz.func76 (by kernel_rfl) ?_
 conv=>whnf
 repeat(any_goals(first|exact ab|(refine ap ?_ ?_<;>intro _<;>first|exact aq|conv=>whnf)|((first|rw[hn]|refine ac ?_|refine bi ?_ ?_|intro _)<;>conv=>whnf)))
 refine And.intro ?_ ?_
 ·conv=>whnf
  refine⟨⟨?_⟩,trivial⟩
  rfl
 ·repeat(first|exact trivial|refine And.intro rfl ?_|refine And.intro (by skip) ?_)
set_option maxHeartbeats 8000000 in
theorem I3(s:Bill)(hg:s.Good)(c:List Ent)(hc:∀x∈c,s.OkE x)(h6:c.length≤6)(f i:Nat)(hi:i<c.length)(m:cj)(hm:dv s c m)(hmet:(m.any fun e=>decide (e.1=(i:Int)))=false)
  (ih:∀(j:Nat) (m':cj),i<j→j≤c.length→dv s c m'→BoxA Tryz.prog (.fn 76) [(kTx,1,0,lA m')] [dp s,aJ c,aj j,.mp kTx 1] (en s c j) [(kTx,1,0,lA (s.memoN c f j m'))]) :
  BoxA Tryz.prog (.fn 76) [(kTx,1,0,lA m)] [dp s,aJ c,aj i,.mp kTx 1] (en s c i) [(kTx,1,0,lA (s.memoTo c (s.memoN c f) i (c.length-i) (i+1) m++[((i:Int),s.press c i)]))]:=by
 rw[eo s hi]
 have hn0:=eV m i 0 hmet
 have hnot:=xQ (s:=s) (c:=c) (f:=f) (g:=c.length-i) hmet
 have hR:=qa hg hc hi
 have hlf:=fun j hij hj=>xM s hg c hc h6 i j hij hj
 have hfit:=fun j (hj:j≤c.length)=>oA hg hc h6 hj
 have hle:=fun j (h1:i≤j) (h2:j≤c.length)=>nT hg hc h1 h2
 have hmok:=fun j m' (hj:j≤c.length) hm'=>re (s:=s) (c:=c) f j m' hj hm'
 have hcl:(c.map bB).length=c.length:=List.length_map ..
 have hpt:∀n j b,s.pressTo c (s.press c) i (n+1) j b=if s.left c i j<0 then b else s.pressTo c (s.press c) i n (j+1) (some (db b (jR s c (s.press c) i j))):=fun _ _ _=>rfl
 have hpt0:∀j b,s.pressTo c (s.press c) i 0 j b=b:=fun _ _=>rfl
 have hmt:=ge s c (s.memoN c f) i
 have hmt0:∀j m',s.memoTo c (s.memoN c f) i 0 j m'=m':=fun _ _=>rfl
 obtain⟨M,hM⟩:∃M,s.memoTo c (s.memoN c f) i (c.length-i) (i+1) m=M:=⟨_,rfl⟩
 rw[hM]at hnot ⊢
 have hn1:=eV M i 0 hnot
 generalize s.memoN c f=N at *
 generalize s.memoTo c N i=MT at *
 generalize s.pressTo c (s.press c) i=PT at *
 unfold jR at hpt
 have hend:s.press c c.length=⟨[],0⟩:=kJ s c
 generalize hP:s.press c=P at *
 generalize s.left c i=L at *
 clear hg hc
 refine aN ao { l:=0,f:=76,mat:=[76]} mixed lh Tryz.func76 (by kernel_rfl) ?_
 conv=>whnf
 repeat(any_goals(first|exact ab|(refine ap ?_ ?_<;>intro _<;>first|exact aq|conv=>whnf)|((first|rw[hn0]|refine ac ?_|refine bi ?_ ?_|intro _)<;>conv=>whnf)))
 refine aO ao { l:=0,f:=76,mat:=[76]} mixed (fun u:PrSt=>[(11,aj u.j),(10,aB u.best.isSome)]) (fun u=>[(⟨0,76,8⟩,some (1,some (2,[J8 u.best]))),(kTx,some (1,some (0,lA u.m)))]) (fun _=>[]) (fun u=>(i<u.j∧u.j≤c.length+1)∧(dv s c u.m∧∀p,u.best=some p→D5 p)∧some (P i)=PT (c.length+1-u.j) u.j u.best∧M=MT (c.length+1-u.j) u.j u.m) (fun u=>c.length+1-u.j) (⟨i+1,none,m⟩:PrSt) (by kernel_rfl)
  ⟨⟨Nat.lt_succ_self _,by show i+1≤_;omega⟩,⟨hm,fun p h=>by cases h⟩,by rw[show c.length+1-(i+1)=c.length-i by omega];exact hR.symm,by rw[show c.length+1-(i+1)=c.length-i by omega];exact hM.symm⟩ ?_
 conv=>whnf
 refine⟨⟨ai rfl (ai rfl trivial),aL rfl (aL rfl trivial),trivial⟩,?_⟩
 clear hR hM hm hmet hn0 hnot
 rintro u ⟨⟨hij,hj⟩,⟨hm,hbf⟩,HR,HM⟩
 generalize u.j=j at *
 generalize u.best=best at *
 generalize u.m=m at *
 clear u
 by_cases hjl:j≤c.length
 ·obtain⟨n,hn⟩:∃n,c.length+1-j=n+1:=⟨c.length-j,by omega⟩
  have hn2:c.length+1-(j+1)=n:=by omega
  rw[hn,hpt]at HR
  rw[hn,hmt]at HM
  have hlj:=hlf j (by omega) hjl
  have hL:=hle j (by omega) hjl
  by_cases q:L j<0
  ·rw[if_pos q]at HR HM
   subst HM
   subst HR
   clear hlf hle hpt hmt hpt0 hmt0 ih hmok hfit
   generalize L j=y at *
   conv=>whnf
   repeat(any_goals(first|exact ab|(refine ap ?_ ?_<;>intro _<;>first|exact aq|conv=>whnf)|((first|refine af hlj rfl ?_|refine aa hlj ?_|rw[hn1]|refine ac ?_|refine bi ?_ ?_|intro _)<;>conv=>whnf)))
   refine And.intro ?_ ?_
   ·conv=>whnf
    refine⟨⟨?_⟩,trivial⟩
    rfl
   ·repeat(first|exact trivial|refine And.intro rfl ?_|refine And.intro (by(simp only[lA,List.map_append];rfl)) ?_)
  ·rw[if_neg q]at HR HM
   have hih:=ih j m hij hjl hm
   have hmk:=hmok j m hjl hm
   have hf:=hfit j hjl
   clear hlf hle hpt hmt hpt0 hmt0 ih hmok hfit hn1 hm
   generalize N j m=m2 at *
   by_cases hjc:j<c.length
   ·rw[eo s hjc,hP]at hih
    rw[if_pos hjc]at HR
    generalize P j=pj at *
    obtain⟨ps,w⟩:=pj
    simp only at hf HR
    have hcat:=xD (i:Int) ps (by omega)
    have hsq:0≤L j * L j∧L j * L j≤900:=sqP (by omega) hL
    generalize L j=y at *
    cases best with
    | none =>
     rw[show db none ⟨(i:Int)::ps,w+y * y⟩=⟨(i:Int)::ps,w+y * y⟩from rfl]at HR
     have hbn:∀p,some (⟨(i:Int)::ps,w+y * y⟩:Press)=some p→D5 p:=fun p hp=>by cases hp;exact⟨by simp only[List.length_cons];omega,by simp only;omega⟩
     conv=>whnf
     repeat(any_goals(first|exact ab|(refine ap ?_ ?_<;>intro _<;>first|exact aq|conv=>whnf)|((first|refine af hlj rfl ?_|refine aa hlj ?_|refine ac ?_|refine bi ?_ ?_|intro _)<;>conv=>whnf)))
     refine⟨[kTx],?_⟩
     conv=>whnf
     refine⟨_,_,hih,?_⟩
     conv=>whnf
     repeat(any_goals(first|exact ab|(refine ap ?_ ?_<;>intro _<;>first|exact aq|conv=>whnf)|((first|refine aa hcat ?_|fail|refine ac ?_|refine bi ?_ ?_|intro _)<;>conv=>whnf)))
     (refine⟨⟨j+1,some ⟨(i:Int)::ps,w+y * y⟩,m2⟩,⟨⟨by show i<j+1;omega,by show j+1≤_;omega⟩,⟨hmk,hbn⟩,by show some (P i)=PT (c.length+1-(j+1)) (j+1) _;rw[hn2];exact HR,by show M=MT (c.length+1-(j+1)) (j+1) _;rw[hn2];exact HM⟩,(by show _-(j+1)<_-j;omega),?_⟩;(conv=>whnf);refine⟨?_,?_,?_⟩<;>repeat(first|exact trivial|refine sc rfl ?_|refine kn ?_|refine kc rfl ?_|refine sc (by rfl) ?_|refine kc (by rfl) ?_))
    | some b =>
     have hb:=hbf b rfl
     have hbt:=mZ ⟨(i:Int)::ps,w+y * y⟩ b (by simp only[List.length_cons];omega) (by have:=hb.1;omega) (by simp only;omega) (by have:=hb.2;omega)
     by_cases hbb:bq ⟨(i:Int)::ps,w+y * y⟩ b=true
     ·rw[show db (some b) ⟨(i:Int)::ps,w+y * y⟩=⟨(i:Int)::ps,w+y * y⟩from if_pos hbb]at HR
      rw[hbb]at hbt
      have hbn:∀p,some (⟨(i:Int)::ps,w+y * y⟩:Press)=some p→D5 p:=fun p hp=>by cases hp;exact⟨by simp only[List.length_cons];omega,by simp only;omega⟩
      conv=>whnf
      repeat(any_goals(first|exact ab|(refine ap ?_ ?_<;>intro _<;>first|exact aq|conv=>whnf)|((first|refine af hlj rfl ?_|refine aa hlj ?_|refine ac ?_|refine bi ?_ ?_|intro _)<;>conv=>whnf)))
      refine⟨[kTx],?_⟩
      conv=>whnf
      refine⟨_,_,hih,?_⟩
      conv=>whnf
      repeat(any_goals(first|exact ab|(refine ap ?_ ?_<;>intro _<;>first|exact aq|conv=>whnf)|((first|refine aa hcat ?_|refine aa hbt ?_|refine ac ?_|refine bi ?_ ?_|intro _)<;>conv=>whnf)))
      (refine⟨⟨j+1,some ⟨(i:Int)::ps,w+y * y⟩,m2⟩,⟨⟨by show i<j+1;omega,by show j+1≤_;omega⟩,⟨hmk,hbn⟩,by show some (P i)=PT (c.length+1-(j+1)) (j+1) _;rw[hn2];exact HR,by show M=MT (c.length+1-(j+1)) (j+1) _;rw[hn2];exact HM⟩,(by show _-(j+1)<_-j;omega),?_⟩;(conv=>whnf);refine⟨?_,?_,?_⟩<;>repeat(first|exact trivial|refine sc rfl ?_|refine kn ?_|refine kc rfl ?_|refine sc (by rfl) ?_|refine kc (by rfl) ?_))
     ·rw[show db (some b) ⟨(i:Int)::ps,w+y * y⟩=b from if_neg hbb]at HR
      rw[Bool.eq_false_iff.2 hbb]at hbt
      have hbn:=hbf
      conv=>whnf
      repeat(any_goals(first|exact ab|(refine ap ?_ ?_<;>intro _<;>first|exact aq|conv=>whnf)|((first|refine af hlj rfl ?_|refine aa hlj ?_|refine ac ?_|refine bi ?_ ?_|intro _)<;>conv=>whnf)))
      refine⟨[kTx],?_⟩
      conv=>whnf
      refine⟨_,_,hih,?_⟩
      conv=>whnf
      repeat(any_goals(first|exact ab|(refine ap ?_ ?_<;>intro _<;>first|exact aq|conv=>whnf)|((first|refine aa hcat ?_|refine aa hbt ?_|refine ac ?_|refine bi ?_ ?_|intro _)<;>conv=>whnf)))
      (refine⟨⟨j+1,some b,m2⟩,⟨⟨by show i<j+1;omega,by show j+1≤_;omega⟩,⟨hmk,hbn⟩,by show some (P i)=PT (c.length+1-(j+1)) (j+1) _;rw[hn2];exact HR,by show M=MT (c.length+1-(j+1)) (j+1) _;rw[hn2];exact HM⟩,(by show _-(j+1)<_-j;omega),?_⟩;(conv=>whnf);refine⟨?_,?_,?_⟩<;>repeat(first|exact trivial|refine sc rfl ?_|refine kn ?_|refine kc rfl ?_|refine sc (by rfl) ?_|refine kc (by rfl) ?_))
   ·have hjc:j=c.length:=by omega
    rw[show en s c j = .agg [.slice 0 [] .tight,aj 0] by rw[hjc];exact eO s c]at hih
    rw[if_neg (by omega),show P j=⟨[],0⟩ by rw[hjc];exact hend]at HR
    simp only[Int.add_zero]at HR
    have hcat:=sn (i:Int)
    generalize L j=y at *
    cases best with
    | none =>
     rw[show db none ⟨[(i:Int)],0⟩=⟨[(i:Int)],0⟩from rfl]at HR
     have hbn:∀p,some (⟨[(i:Int)],0⟩:Press)=some p→D5 p:=fun p hp=>by cases hp;exact⟨by simp,by simp⟩
     conv=>whnf
     repeat(any_goals(first|exact ab|(refine ap ?_ ?_<;>intro _<;>first|exact aq|conv=>whnf)|((first|refine af hlj rfl ?_|refine aa hlj ?_|refine ac ?_|refine bi ?_ ?_|intro _)<;>conv=>whnf)))
     refine⟨[kTx],?_⟩
     conv=>whnf
     refine⟨_,_,hih,?_⟩
     conv=>whnf
     repeat(any_goals(first|exact ab|(refine ap ?_ ?_<;>intro _<;>first|exact aq|conv=>whnf)|((first|refine aa hcat ?_|fail|refine ac ?_|refine bi ?_ ?_|intro _)<;>conv=>whnf)))
     (refine⟨⟨j+1,some ⟨[(i:Int)],0⟩,m2⟩,⟨⟨by show i<j+1;omega,by show j+1≤_;omega⟩,⟨hmk,hbn⟩,by show some (P i)=PT (c.length+1-(j+1)) (j+1) _;rw[hn2];exact HR,by show M=MT (c.length+1-(j+1)) (j+1) _;rw[hn2];exact HM⟩,(by show _-(j+1)<_-j;omega),?_⟩;(conv=>whnf);refine⟨?_,?_,?_⟩<;>repeat(first|exact trivial|refine sc rfl ?_|refine kn ?_|refine kc rfl ?_|refine sc (by rfl) ?_|refine kc (by rfl) ?_))
    | some b =>
     have hb:=hbf b rfl
     have hbt:=mZ ⟨[(i:Int)],0⟩ b (by simp) (by have:=hb.1;omega) (by simp) (by have:=hb.2;omega)
     by_cases hbb:bq ⟨[(i:Int)],0⟩ b=true
     ·rw[show db (some b) ⟨[(i:Int)],0⟩=⟨[(i:Int)],0⟩from if_pos hbb]at HR
      rw[hbb]at hbt
      have hbn:∀p,some (⟨[(i:Int)],0⟩:Press)=some p→D5 p:=fun p hp=>by cases hp;exact⟨by simp,by simp⟩
      conv=>whnf
      repeat(any_goals(first|exact ab|(refine ap ?_ ?_<;>intro _<;>first|exact aq|conv=>whnf)|((first|refine af hlj rfl ?_|refine aa hlj ?_|refine ac ?_|refine bi ?_ ?_|intro _)<;>conv=>whnf)))
      refine⟨[kTx],?_⟩
      conv=>whnf
      refine⟨_,_,hih,?_⟩
      conv=>whnf
      repeat(any_goals(first|exact ab|(refine ap ?_ ?_<;>intro _<;>first|exact aq|conv=>whnf)|((first|refine aa hcat ?_|refine aa hbt ?_|refine ac ?_|refine bi ?_ ?_|intro _)<;>conv=>whnf)))
      (refine⟨⟨j+1,some ⟨[(i:Int)],0⟩,m2⟩,⟨⟨by show i<j+1;omega,by show j+1≤_;omega⟩,⟨hmk,hbn⟩,by show some (P i)=PT (c.length+1-(j+1)) (j+1) _;rw[hn2];exact HR,by show M=MT (c.length+1-(j+1)) (j+1) _;rw[hn2];exact HM⟩,(by show _-(j+1)<_-j;omega),?_⟩;(conv=>whnf);refine⟨?_,?_,?_⟩<;>repeat(first|exact trivial|refine sc rfl ?_|refine kn ?_|refine kc rfl ?_|refine sc (by rfl) ?_|refine kc (by rfl) ?_))
     ·rw[show db (some b) ⟨[(i:Int)],0⟩=b from if_neg hbb]at HR
      rw[Bool.eq_false_iff.2 hbb]at hbt
      have hbn:=hbf
      conv=>whnf
      repeat(any_goals(first|exact ab|(refine ap ?_ ?_<;>intro _<;>first|exact aq|conv=>whnf)|((first|refine af hlj rfl ?_|refine aa hlj ?_|refine ac ?_|refine bi ?_ ?_|intro _)<;>conv=>whnf)))
      refine⟨[kTx],?_⟩
      conv=>whnf
      refine⟨_,_,hih,?_⟩
      conv=>whnf
      repeat(any_goals(first|exact ab|(refine ap ?_ ?_<;>intro _<;>first|exact aq|conv=>whnf)|((first|refine aa hcat ?_|refine aa hbt ?_|refine ac ?_|refine bi ?_ ?_|intro _)<;>conv=>whnf)))
      (refine⟨⟨j+1,some b,m2⟩,⟨⟨by show i<j+1;omega,by show j+1≤_;omega⟩,⟨hmk,hbn⟩,by show some (P i)=PT (c.length+1-(j+1)) (j+1) _;rw[hn2];exact HR,by show M=MT (c.length+1-(j+1)) (j+1) _;rw[hn2];exact HM⟩,(by show _-(j+1)<_-j;omega),?_⟩;(conv=>whnf);refine⟨?_,?_,?_⟩<;>repeat(first|exact trivial|refine sc rfl ?_|refine kn ?_|refine kc rfl ?_|refine sc (by rfl) ?_|refine kc (by rfl) ?_))
 ·obtain rfl:j=c.length+1:=by omega
  rw[Nat.sub_self,hpt0]at HR
  rw[Nat.sub_self,hmt0]at HM
  subst HM
  subst HR
  clear hlf hle hpt hmt hpt0 hmt0 ih hmok hfit
  conv=>whnf
  repeat(any_goals(first|exact ab|(refine ap ?_ ?_<;>intro _<;>first|exact aq|conv=>whnf)|((first|rw[hn1]|refine ac ?_|refine bi ?_ ?_|intro _)<;>conv=>whnf)))
  refine And.intro ?_ ?_
  ·conv=>whnf
   refine⟨⟨?_⟩,trivial⟩
   rfl
  ·repeat(first|exact trivial|refine And.intro rfl ?_|refine And.intro (by(simp only[lA,List.map_append];rfl)) ?_)
theorem G4(s:Bill)(hg:s.Good)(c:List Ent)(hc:∀x∈c,s.OkE x)(h6:c.length≤6):∀(f i:Nat) (m:cj),i≤c.length→c.length-i≤f→dv s c m →
  BoxA Tryz.prog (.fn 76) [(kTx,1,0,lA m)] [dp s,aJ c,aj i,.mp kTx 1] (en s c i) [(kTx,1,0,lA (s.memoN c f i m))]:=by
 intro f
 induction f with
 | zero =>
  intro i m hi hf hm
  obtain rfl:i=c.length:=by omega
  rw[show s.memoN c 0 c.length m=m from rfl]
  exact CF s c h6 m hm
 | succ f ih =>
  intro i m hi hf hm
  rw[iE]
  by_cases hmet:(m.any fun e=>decide (e.1=(i:Int)))=true
  ·rw[if_pos hmet]
   exact I2 s c h6 i hi m hm hmet
  ·rw[if_neg hmet]
   by_cases hie:i=c.length
   ·rw[if_pos hie]
    subst hie
    exact CF s c h6 m hm
   ·rw[if_neg hie]
    exact I3 s hg c hc h6 f i (by omega) m hm (Bool.eq_false_iff.2 hmet) fun j m' h1 h2 h3=>ih j m' h2 (by omega) h3
end Go.Proofs.YtgncapdjheghfaaGreatDoor
namespace Go.Proofs.YtgncapdjheghfaaGreatDoor
open Go.Am Go.Proofs Go
def Bill.lineW(s:Bill)(c:List Ent)(pages:List Nat)(i:Nat):Bs:=(s.rowW c pages i).flatMap aM
def Bill.textTo(s:Bill)(c:List Ent)(pages:List Nat)(i:Nat):Bs:=((List.range i).flatMap (s.rowW c pages)).flatMap aM
theorem w6(s:Bill)(c:List Ent)(pages:List Nat):s.textTo c pages 0=[]:=rfl
theorem cT(s:Bill)(c:List Ent)(pages:List Nat)(i:Nat):s.textTo c pages (i+1)=s.textTo c pages i++s.lineW c pages i:=by
 unfold Bill.textTo Bill.lineW
 rw[List.range_succ,List.flatMap_append,List.flatMap_append]
 simp
theorem qt(s:Bill)(c:List Ent):s.textTo c (mA (s.press c 0)) c.length=s.textL c:=rfl
theorem mq(i:Nat):∀(l:List Nat) (k:Nat),ce (fun x=>decide ((i:Int)=x)) k (bz l)=match l.findIdx? (· ==i)with
  | none=> -1
  | some p=>(k:Int)+p
 | [],k=>rfl
 | x::l,k=>by
  have ih:=mq i l (k+1)
  show(if decide ((i:Int)=(x:Int))=true then(k:Int)else ce _ (k+1) (bz l))=_
  rw[List.findIdx?_cons,ih]
  by_cases h:x=i
  ·subst h;simp
  ·rw[if_neg (by simp only[decide_eq_true_eq];omega),if_neg (by simpa using h)]
   cases l.findIdx? (· ==i)with
   | none=>rfl
   | some p=>show((k+1:Nat):Int)+(p:Int)=(k:Int)+((p+1:Nat):Int);omega
theorem iz(i:Nat)(l:List Nat):idx (fun x=>decide ((i:Int)=x)) (bz l)=match l.findIdx? (· ==i)with
  | none=> -1
  | some p=>(p:Int):=by
 have:=mq i l 0
 unfold idx
 rw[this]
 cases l.findIdx? (· ==i)with
 | none=>rfl
 | some p=>simp
theorem B9{s:ByteArray}(h:cp s=true):s.size≤16:=by
 unfold cp at h
 simp only[Bool.and_eq_true,decide_eq_true_eq]at h
 exact h.1.2
theorem jk{s:Bill}(hg:s.Good){a:Int}(h:0≤a∧a<s.figs.length):∃f,s.figs[a.toNat]?=some f∧(f.name.size≤16∧f.role.size≤16)∧s.roomAt a=f.room∧0≤f.room∧f.room≤9:=by
 have hlt:a.toNat<s.figs.length:=by omega
 refine⟨_,List.getElem?_eq_getElem hlt,?_⟩
 have hf:=hg.figs _ (List.getElem_mem hlt)
 refine⟨⟨B9 hf.1.1,B9 hf.1.2⟩,?_,hf.2.1⟩
 unfold Bill.roomAt
 rw[List.getElem?_eq_getElem hlt]
theorem df{s:Bill}{a:Int}{f:Fig}(h:s.figs[a.toNat]?=some f)(hn:f.name.size≤16∧f.role.size≤16):(aC (s.whoW a)).length≤36∧s.whoW a≠[]:=by
 rw[md h]
 refine⟨?_,by simp⟩
 show(bytes f.name++32::(wAs++32::bytes f.role)).length≤36
 have h1:(bytes f.name).length=f.name.size:=rfl
 have h2:(bytes f.role).length=f.role.size:=rfl
 simp only[List.length_append,List.length_cons,wAs,List.length_nil,h1,h2]
 omega
def FJ(n:Int):Bs:=aC (if n=2 then [Ag,wBe]else [wIs])
theorem fh{s:Bill}{i:Nat}{x:Ent}(ha:s.whoW x.a≠[])(hb:s.whoW x.b≠[]):aC (s.entW i x)=aC (num ((i:Int)+1)::FJ x.says::aC (s.whoW x.a)::if x.says=1 then [wOr,aC (s.whoW x.b)]else []):=by
 have one:∀(w:Bs) (l:List Bs),l≠[]→aC (w::l)=w++32::aC l:=fun w l h=>by cases l with|nil=>exact absurd rfl h|cons=>rfl
 unfold Bill.entW FJ
 by_cases h1:x.says=1
 ·have h2:¬x.says=2:=by omega
  simp only[if_pos h1,if_neg h2]
  rw[List.append_assoc,one _ _ (by simp),j1 _ _ (by simp) (by simp[ha]),j1 _ _ ha (by simp),one wOr _ hb]
  simp[aC]
 ·simp only[if_neg h1,List.append_nil]
  rw[one _ _ (by simp[ha]),j1 _ _ (by split<;>simp) ha]
  simp[aC]
def aT(p:Nat):Bs:=aM (mU p)
def aY(r:Int):Bs:=aM [a7,num r]
def cq(r:Int):Bs:=aM [a7,num r,cY]
def eG:Option Nat→Bs
 | none=>[]
 | some p=>aT p
theorem da(ws:List Bs):aM ws≠[]:=by unfold aM;simp
theorem di(p:Nat):(aT p).length=7:=by simp[aT,aM,mU,aC,cJ,num]
theorem dj(r:Int):(aY r).length=7:=by simp[aY,aM,aC,a7,num]
theorem jT(r:Int):(cq r).length=17:=by simp[cq,aM,aC,a7,num,cY]
theorem fl{s:Bill}{c:List Ent}{pages:List Nat}{i:Nat}{x:Ent}(hx:c[i]?=some x){o:Option Nat}(ho:pages.findIdx? (· ==i)=o){h:Int}(hh:s.heading c i o.isSome=h) :
  s.lineW c pages i=eG o++((if h=2 then aY (s.roomAt x.a)else if h=1 then cq (s.roomAt x.a)else [])++aM (s.entW i x)):=by
 unfold Bill.lineW Bill.rowW
 rw[hx]
 simp only[ho]
 unfold Bill.headW
 rw[hh]
 cases o with
 | none =>
  by_cases h2:h=2
  ·simp[h2,aY,eG]
  ·by_cases h1:h=1
   ·simp[h1,cq,eG]
   ·simp[h2,h1,eG]
 | some p =>
  by_cases h2:h=2
  ·simp[h2,aY,aT,eG]
  ·by_cases h1:h=1
   ·simp[h1,cq,aT,eG]
   ·simp[h2,h1,aT,eG]
theorem jj{s:Bill}(hg:s.Good){x:Ent}(hx:s.OkE x)(i:Nat):(aM (s.entW i x)).length≤100:=by
 obtain⟨f,hf,hn,_⟩:=jk hg hx.a
 obtain⟨g,hg',hm,_⟩:=jk hg hx.b
 obtain⟨h1,h2⟩:=df hf hn
 obtain⟨h3,h4⟩:=df hg' hm
 unfold aM
 rw[fh h2 h4,List.length_append]
 have hs:(FJ x.says).length≤6:=by unfold FJ;split<;>simp[aC,Ag,wBe,wIs]
 have hn:(num ((i:Int)+1)).length=1:=rfl
 have one:∀(w:Bs) (l:List Bs),l≠[]→aC (w::l)=w++32::aC l:=fun w l h=>by cases l with|nil=>exact absurd rfl h|cons=>rfl
 rw[one _ _ (by simp),one _ _ (by simp)]
 by_cases e:x.says=1
 ·rw[if_pos e,one _ _ (by simp),one _ _ (by simp)]
  simp only[List.length_append,List.length_cons,List.length_nil,aC,wOr,hn]
  omega
 ·rw[if_neg e]
  simp only[List.length_append,List.length_cons,List.length_nil,aC,hn]
  omega
theorem BW{s:Bill}(hg:s.Good){c:List Ent}(hc:∀x∈c,s.OkE x)(pages:List Nat)(i:Nat):(s.lineW c pages i).length≤200:=by
 cases hx:c[i]? with
 | none=>unfold Bill.lineW Bill.rowW;rw[hx];simp
 | some x =>
  rw[fl hx rfl rfl]
  have h1:=jj hg (hc x (List.mem_of_getElem? hx)) i
  have h2:=dj (s.roomAt x.a)
  have h3:=jT (s.roomAt x.a)
  simp only[List.length_append]
  have hp:(eG (pages.findIdx? (· ==i))).length≤7:=by
   cases pages.findIdx? (· ==i)with
   | none=>simp[eG]
   | some p=>show(aT p).length≤7;rw[di];omega
  have hr:∀h:Int,(if h=2 then aY (s.roomAt x.a)else if h=1 then cq (s.roomAt x.a)else []).length≤17:=fun h=>by
   split
   ·omega
   ·split
    ·omega
    ·simp
  have:=hr (s.heading c i (pages.findIdx? (· ==i)).isSome)
  omega
theorem cW{s:Bill}(hg:s.Good){c:List Ent}(hc:∀x∈c,s.OkE x)(pages:List Nat):∀i:Nat,(s.textTo c pages i).length≤200 * i
 | 0=>by rw[w6];simp
 | i+1=>by
  rw[cT,List.length_append]
  have:=cW hg hc pages i
  have:=BW hg hc pages i
  omega
end Go.Proofs.YtgncapdjheghfaaGreatDoor
namespace Go.Proofs.YtgncapdjheghfaaGreatDoor
open Go.Am Go.Proofs Go
theorem Ah:PureA Tryz.prog 114 [aj 0] (aG (aH (num 0))):=by
 refine ag ao { l:=0,f:=114} mixed d9 Tryz.func114 (by kernel_rfl) ?_
 conv=>whnf
 refine aO ao { l:=0,f:=114} mixed (fun _:Unit=>[(0,aj 0),(4,aG ⟨#[]⟩)]) (fun _=>[]) (fun _=>[]) (fun _=>True) (fun _=>1) () (by kernel_rfl)
  trivial ?_
 conv=>whnf
 refine⟨⟨ai rfl (ai rfl trivial),trivial,trivial⟩,?_⟩
 intro _ _
 conv=>whnf
 repeat(any_goals(first|exact ab|(refine ap ?_ ?_<;>intro _<;>first|exact aq|conv=>whnf)|((first|refine And.intro (by decide) ?_|refine ac ?_|refine bi ?_ ?_|intro _)<;>conv=>whnf)))
 (refine⟨⟨?_⟩,trivial⟩;rfl)
theorem Ai:PureA Tryz.prog 114 [aj 1] (aG (aH (num 1))):=by
 refine ag ao { l:=0,f:=114} mixed d9 Tryz.func114 (by kernel_rfl) ?_
 conv=>whnf
 refine aO ao { l:=0,f:=114} mixed (fun _:Unit=>[(0,aj 1),(4,aG ⟨#[]⟩)]) (fun _=>[]) (fun _=>[]) (fun _=>True) (fun _=>1) () (by kernel_rfl)
  trivial ?_
 conv=>whnf
 refine⟨⟨ai rfl (ai rfl trivial),trivial,trivial⟩,?_⟩
 intro _ _
 conv=>whnf
 repeat(any_goals(first|exact ab|(refine ap ?_ ?_<;>intro _<;>first|exact aq|conv=>whnf)|((first|refine And.intro (by decide) ?_|refine ac ?_|refine bi ?_ ?_|intro _)<;>conv=>whnf)))
 (refine⟨⟨?_⟩,trivial⟩;rfl)
theorem Aj:PureA Tryz.prog 114 [aj 2] (aG (aH (num 2))):=by
 refine ag ao { l:=0,f:=114} mixed d9 Tryz.func114 (by kernel_rfl) ?_
 conv=>whnf
 refine aO ao { l:=0,f:=114} mixed (fun _:Unit=>[(0,aj 2),(4,aG ⟨#[]⟩)]) (fun _=>[]) (fun _=>[]) (fun _=>True) (fun _=>1) () (by kernel_rfl)
  trivial ?_
 conv=>whnf
 refine⟨⟨ai rfl (ai rfl trivial),trivial,trivial⟩,?_⟩
 intro _ _
 conv=>whnf
 repeat(any_goals(first|exact ab|(refine ap ?_ ?_<;>intro _<;>first|exact aq|conv=>whnf)|((first|refine And.intro (by decide) ?_|refine ac ?_|refine bi ?_ ?_|intro _)<;>conv=>whnf)))
 (refine⟨⟨?_⟩,trivial⟩;rfl)
theorem Ak:PureA Tryz.prog 114 [aj 3] (aG (aH (num 3))):=by
 refine ag ao { l:=0,f:=114} mixed d9 Tryz.func114 (by kernel_rfl) ?_
 conv=>whnf
 refine aO ao { l:=0,f:=114} mixed (fun _:Unit=>[(0,aj 3),(4,aG ⟨#[]⟩)]) (fun _=>[]) (fun _=>[]) (fun _=>True) (fun _=>1) () (by kernel_rfl)
  trivial ?_
 conv=>whnf
 refine⟨⟨ai rfl (ai rfl trivial),trivial,trivial⟩,?_⟩
 intro _ _
 conv=>whnf
 repeat(any_goals(first|exact ab|(refine ap ?_ ?_<;>intro _<;>first|exact aq|conv=>whnf)|((first|refine And.intro (by decide) ?_|refine ac ?_|refine bi ?_ ?_|intro _)<;>conv=>whnf)))
 (refine⟨⟨?_⟩,trivial⟩;rfl)
theorem An:PureA Tryz.prog 114 [aj 4] (aG (aH (num 4))):=by
 refine ag ao { l:=0,f:=114} mixed d9 Tryz.func114 (by kernel_rfl) ?_
 conv=>whnf
 refine aO ao { l:=0,f:=114} mixed (fun _:Unit=>[(0,aj 4),(4,aG ⟨#[]⟩)]) (fun _=>[]) (fun _=>[]) (fun _=>True) (fun _=>1) () (by kernel_rfl)
  trivial ?_
 conv=>whnf
 refine⟨⟨ai rfl (ai rfl trivial),trivial,trivial⟩,?_⟩
 intro _ _
 conv=>whnf
 repeat(any_goals(first|exact ab|(refine ap ?_ ?_<;>intro _<;>first|exact aq|conv=>whnf)|((first|refine And.intro (by decide) ?_|refine ac ?_|refine bi ?_ ?_|intro _)<;>conv=>whnf)))
 (refine⟨⟨?_⟩,trivial⟩;rfl)
theorem Ao:PureA Tryz.prog 114 [aj 5] (aG (aH (num 5))):=by
 refine ag ao { l:=0,f:=114} mixed d9 Tryz.func114 (by kernel_rfl) ?_
 conv=>whnf
 refine aO ao { l:=0,f:=114} mixed (fun _:Unit=>[(0,aj 5),(4,aG ⟨#[]⟩)]) (fun _=>[]) (fun _=>[]) (fun _=>True) (fun _=>1) () (by kernel_rfl)
  trivial ?_
 conv=>whnf
 refine⟨⟨ai rfl (ai rfl trivial),trivial,trivial⟩,?_⟩
 intro _ _
 conv=>whnf
 repeat(any_goals(first|exact ab|(refine ap ?_ ?_<;>intro _<;>first|exact aq|conv=>whnf)|((first|refine And.intro (by decide) ?_|refine ac ?_|refine bi ?_ ?_|intro _)<;>conv=>whnf)))
 (refine⟨⟨?_⟩,trivial⟩;rfl)
theorem Ap:PureA Tryz.prog 114 [aj 6] (aG (aH (num 6))):=by
 refine ag ao { l:=0,f:=114} mixed d9 Tryz.func114 (by kernel_rfl) ?_
 conv=>whnf
 refine aO ao { l:=0,f:=114} mixed (fun _:Unit=>[(0,aj 6),(4,aG ⟨#[]⟩)]) (fun _=>[]) (fun _=>[]) (fun _=>True) (fun _=>1) () (by kernel_rfl)
  trivial ?_
 conv=>whnf
 refine⟨⟨ai rfl (ai rfl trivial),trivial,trivial⟩,?_⟩
 intro _ _
 conv=>whnf
 repeat(any_goals(first|exact ab|(refine ap ?_ ?_<;>intro _<;>first|exact aq|conv=>whnf)|((first|refine And.intro (by decide) ?_|refine ac ?_|refine bi ?_ ?_|intro _)<;>conv=>whnf)))
 (refine⟨⟨?_⟩,trivial⟩;rfl)
theorem Aq:PureA Tryz.prog 114 [aj 7] (aG (aH (num 7))):=by
 refine ag ao { l:=0,f:=114} mixed d9 Tryz.func114 (by kernel_rfl) ?_
 conv=>whnf
 refine aO ao { l:=0,f:=114} mixed (fun _:Unit=>[(0,aj 7),(4,aG ⟨#[]⟩)]) (fun _=>[]) (fun _=>[]) (fun _=>True) (fun _=>1) () (by kernel_rfl)
  trivial ?_
 conv=>whnf
 refine⟨⟨ai rfl (ai rfl trivial),trivial,trivial⟩,?_⟩
 intro _ _
 conv=>whnf
 repeat(any_goals(first|exact ab|(refine ap ?_ ?_<;>intro _<;>first|exact aq|conv=>whnf)|((first|refine And.intro (by decide) ?_|refine ac ?_|refine bi ?_ ?_|intro _)<;>conv=>whnf)))
 (refine⟨⟨?_⟩,trivial⟩;rfl)
theorem Ar:PureA Tryz.prog 114 [aj 8] (aG (aH (num 8))):=by
 refine ag ao { l:=0,f:=114} mixed d9 Tryz.func114 (by kernel_rfl) ?_
 conv=>whnf
 refine aO ao { l:=0,f:=114} mixed (fun _:Unit=>[(0,aj 8),(4,aG ⟨#[]⟩)]) (fun _=>[]) (fun _=>[]) (fun _=>True) (fun _=>1) () (by kernel_rfl)
  trivial ?_
 conv=>whnf
 refine⟨⟨ai rfl (ai rfl trivial),trivial,trivial⟩,?_⟩
 intro _ _
 conv=>whnf
 repeat(any_goals(first|exact ab|(refine ap ?_ ?_<;>intro _<;>first|exact aq|conv=>whnf)|((first|refine And.intro (by decide) ?_|refine ac ?_|refine bi ?_ ?_|intro _)<;>conv=>whnf)))
 (refine⟨⟨?_⟩,trivial⟩;rfl)
theorem As:PureA Tryz.prog 114 [aj 9] (aG (aH (num 9))):=by
 refine ag ao { l:=0,f:=114} mixed d9 Tryz.func114 (by kernel_rfl) ?_
 conv=>whnf
 refine aO ao { l:=0,f:=114} mixed (fun _:Unit=>[(0,aj 9),(4,aG ⟨#[]⟩)]) (fun _=>[]) (fun _=>[]) (fun _=>True) (fun _=>1) () (by kernel_rfl)
  trivial ?_
 conv=>whnf
 refine⟨⟨ai rfl (ai rfl trivial),trivial,trivial⟩,?_⟩
 intro _ _
 conv=>whnf
 repeat(any_goals(first|exact ab|(refine ap ?_ ?_<;>intro _<;>first|exact aq|conv=>whnf)|((first|refine And.intro (by decide) ?_|refine ac ?_|refine bi ?_ ?_|intro _)<;>conv=>whnf)))
 (refine⟨⟨?_⟩,trivial⟩;rfl)
theorem pk:∀n:Nat,n≤9→PureA Tryz.prog 114 [aj n] (aG (aH (num n)))
 | 0,_=>Ah
 | 1,_=>Ai
 | 2,_=>Aj
 | 3,_=>Ak
 | 4,_=>An
 | 5,_=>Ao
 | 6,_=>Ap
 | 7,_=>Aq
 | 8,_=>Ar
 | 9,_=>As
 | n+10,h=>absurd h (by omega)
theorem fp(a b:ByteArray):(a++b).size=a.size+b.size:=ByteArray.size_append
theorem yc(f:Fig)(hn:f.name.size≤16∧f.role.size≤16):PureA Tryz.prog 117 [dS f] (aG (aH (aC [bytes f.name,wAs,bytes f.role]))):=by
 have e:aH (aC [bytes f.name,wAs,bytes f.role])=f.name++⟨#[32,97,115,32]⟩++f.role:=by
  refine aR ?_
  rw[aF,aF]
  show bytes f.name++32::(wAs++32::bytes f.role)=_
  rw[List.append_assoc]
  rfl
 rw[e]
 obtain⟨nm,rl,rm,ht⟩:=f
 simp only at hn ⊢
 obtain⟨h1,h2⟩:=hn
 have h4:(⟨#[32,97,115,32]⟩:ByteArray).size=4:=rfl
 have h5:=fp nm ⟨#[32,97,115,32]⟩
 refine ag ao { l:=0,f:=117} mixed EE Tryz.func117 (by kernel_rfl) ?_
 conv=>whnf
 repeat(any_goals(first|exact ab|(refine ap ?_ ?_<;>intro _<;>first|exact aq|conv=>whnf)|((first|refine ac ?_|refine bi ?_ ?_|intro _)<;>conv=>whnf)))
 (refine⟨⟨?_⟩,trivial⟩;rfl)
theorem Bh{s:Bill}{i:Nat}{x:Ent}(ha:s.whoW x.a≠[])(hb:s.whoW x.b≠[]) :
  aM (s.entW i x)=num ((i:Int)+1)++(32::FJ x.says++[32])++aC (s.whoW x.a)++(if x.says=1 then 32::wOr++32::aC (s.whoW x.b)else [])++[10]:=by
 have one:∀(w:Bs) (l:List Bs),l≠[]→aC (w::l)=w++32::aC l:=fun w l h=>by cases l with|nil=>exact absurd rfl h|cons=>rfl
 unfold aM
 rw[fh ha hb,one _ _ (by simp),one _ _ (by simp)]
 by_cases e:x.says=1
 ·rw[if_pos e,if_pos e,one _ _ (by simp),one _ _ (by simp)]
  simp[aC]
 ·rw[if_neg e,if_neg e]
  simp[aC]
def ji(h r:Int)(n:Bs)(y:Int)(wa wb:Bs):Bs :=
 (if h=2 then aY r else if h=1 then cq r else [])++(n++(32::FJ y++[32])++wa++(if y=1 then 32::wOr++32::wb else [])++[10])
theorem yJ{s:Bill}{c:List Ent}{i:Nat}{x:Ent}{top:Bool}(hx:c[i]?=some x)(ha:s.whoW x.a≠[])(hb:s.whoW x.b≠[]) :
  (s.entR c i top).flatMap aM=ji (s.heading c i top) (s.roomAt x.a) (num ((i:Int)+1)) x.says (aC (s.whoW x.a)) (aC (s.whoW x.b)):=by
 unfold Bill.entR Bill.headW ji
 rw[hx]
 simp only
 rw[List.flatMap_append,List.flatMap_cons,List.flatMap_nil,List.append_nil,Bh ha hb]
 congr 1
 split
 ·simp[aY]
 ·split
  ·simp[cq]
  ·simp
theorem Fq(s:Bill)(c:List Ent)(j k:Nat):(s.pgR c j (k+1)).flatMap aM=(s.pgR c j k).flatMap aM++(s.entR c (j+k) (decide (k=0))).flatMap aM:=by
 unfold Bill.pgR
 rw[List.range_succ,List.flatMap_append,List.flatMap_append]
 simp
theorem t8(s:Bill)(c:List Ent)(p j:Nat)(l:List Nat):(s.refRows c p (j::l)).flatMap aM=aT p++(s.pgR c j (bV c l-j)).flatMap aM++(s.refRows c (p+1) l).flatMap aM:=by
 show((mU p::s.pgR c j (bV c l-j))++s.refRows c (p+1) l).flatMap aM=_
 rw[List.flatMap_append,List.flatMap_cons]
 rfl
theorem Dc{s:Bill}(hg:s.Good){c:List Ent}(hc:∀x∈c,s.OkE x)(h6:c.length≤6):(s.textL c).length≤1200:=by
 have:=cW hg hc (mA (s.press c 0)) c.length
 rw[qt]at this
 omega
end Go.Proofs.YtgncapdjheghfaaGreatDoor
namespace Go.Proofs.YtgncapdjheghfaaGreatDoor
open Go.Am Go.Proofs Go
def LV(c:List Ent):Option Int→Int
 | none=>(c.length:Int)
 | some y=>y
theorem Kp(c:List Ent)(p:List Int)(i:Nat)(hl:p.length≤1048576)(hi:i<p.length):PureA Tryz.prog 105 [aJ c,aD p,aj i] (aj (LV c p[i+1]?)):=by
 have:=Kq c p i hl hi
 cases h:p[i+1]? with
 | none=>rw[h]at this;exact this
 | some y=>rw[h]at this;exact this
structure TxS where
 p:Nat
 acc:Bs
structure TiS where
 k:Nat
 acc:Bs
theorem bA(l:Bs):(aH l).data.toList=l:=rfl
theorem rO:FJ 0=[105,115]:=rfl
theorem rP:FJ 1=[105,115]:=rfl
theorem rQ:FJ 2=[109,97,121,32,98,101]:=rfl
set_option maxHeartbeats 4000000 in
theorem ub(s:Bill)(hg:s.Good)(c:List Ent)(hok:∀x∈c,s.OkE x)(h6:c.length≤6):PureA Tryz.prog 80 [aI s,aJ c] (aG (aH (s.textL c))):=by
 have hp:=tS s hg c hok h6
 have hW:=w5 hg hok
 have hWl:=Dc hg hok h6
 obtain⟨l,w,e,hpg,_⟩:=(kK hg hok).is
 have hn:mA (s.press c 0)=l:=by rw[e];exact ed l
 rw[hn]at hW
 rw[e]at hp
 have hp:PureA Tryz.prog 77 [aI s,aJ c] (.tuple [aD (bz l),aj w]):=hp
 have hll:=cG hpg
 have hcl:(c.map bB).length=c.length:=List.length_map ..
 have hcast:(bz l).length=l.length:=List.length_map ..
 have hcm:((bz l).map aj).length=l.length:=by rw[List.length_map,hcast]
 have hend:=fun(i:Nat) (hi:i<l.length)=>Kp c (bz l) i (by rw[hcast];omega) (by rw[hcast];exact hi)
 have hhd:=fun(i:Nat) (hi:i<c.length) top=>mE s c (fun x hx=>(hok x hx).inn) h6 i hi top
 have hrg:=fun(i:Nat) top=>eE s c i top
 have hfig:=fun(a:Int) (h:0≤a∧a<s.figs.length)=>jk hg h
 have hfl:(s.figs.map dS).length=s.figs.length:=List.length_map ..
 have hrm:=fun(x:Ent) (h:0≤x.a∧x.a≤(s.figs.length:Int)-1)=>oK s x h
 have hlen6:=hg.len
 unfold aI at hp hhd hrm
 generalize s.textL c=W at *
 clear hn e
 refine ag ao { l:=0,f:=80} mixed H1 Tryz.func80 (by kernel_rfl) ?_
 conv=>whnf
 repeat(any_goals(first|exact ab|(refine ap ?_ ?_<;>intro _<;>first|exact aq|conv=>whnf)|((first|refine aa hp ?_|refine af hp rfl ?_|refine ac ?_|refine bi ?_ ?_|intro _)<;>conv=>whnf)))
 refine aO ao { l:=0,f:=80} mixed (fun u:TxS=>[(8,aj u.p),(7,aG (aH u.acc))]) (fun _=>[]) (fun _=>[]) (fun u=>u.p≤l.length∧(∃i,bK c i (l.drop u.p))∧W=u.acc++(s.refRows c u.p (l.drop u.p)).flatMap aM) (fun u=>l.length-u.p) (⟨0,[]⟩:TxS) (by kernel_rfl)
  ⟨Nat.zero_le _,⟨0,hpg⟩,hW⟩ ?_
 conv=>whnf
 refine⟨⟨ai rfl (ai rfl trivial),trivial,trivial⟩,?_⟩
 clear hW hpg hp
 rintro u ⟨hu,⟨i0,hpg⟩,H⟩
 generalize u.p=p at *
 generalize u.acc=A at *
 clear u
 by_cases hlt:p<l.length
 ·obtain⟨j,hj,hd⟩:=ay (l:=l) (i:=p) hlt
  rw[hd]at hpg H
  rw[t8]at H
  obtain⟨rfl,hje,hpg⟩:=hpg
  have hele:=hpg.le
  have hen:=hend p hlt
  have hev:LV c (bz l)[p+1]?=((bV c (l.drop (p+1)):Nat):Int):=by
   unfold bz
   rw[List.getElem?_map]
   cases hq:l[p+1]? with
   | none =>
    rw[List.drop_of_length_le (List.getElem?_eq_none_iff.1 hq)]
    rfl
   | some y =>
    obtain⟨hlt2,rfl⟩:=List.getElem?_eq_some_iff.1 hq
    rw[List.drop_eq_getElem_cons hlt2]
    rfl
  rw[hev]at hen
  have hjc:(bz l)[p]?=some (i0:Int):=by unfold bz;rw[List.getElem?_map,hj];rfl
  have hwp:=pk (p+1) (by omega)
  have hpn:num ((p+1:Nat):Int)=num ((p:Int)+1):=by rw[Int.natCast_add];rfl
  have hps:=Fq s c i0
  have hz:(s.pgR c i0 0).flatMap aM=[]:=rfl
  generalize bV c (l.drop (p+1))=E at *
  obtain⟨Rst,hRst⟩:∃R,(s.refRows c (p+1) (l.drop (p+1))).flatMap aM=R:=⟨_,rfl⟩
  rw[hRst]at H
  obtain⟨G,hG⟩:∃G:Nat→Bs,G=fun k=>(s.pgR c i0 k).flatMap aM:=⟨_,rfl⟩
  have hps:∀k,G (k+1)=G k++(s.entR c (i0+k) (decide (k=0))).flatMap aM:=by rw[hG];exact hps
  have hz:G 0=[]:=by rw[hG];exact hz
  have H:W=A++(aT p++G (E-i0)++Rst):=by rw[hG];exact H
  have hlA:A.length≤W.length:=by rw[H,List.length_append];omega
  have hGm:∀k,k≤E-i0→(G k).length≤(G (E-i0)).length:=by
   intro k hk
   obtain⟨d,hd⟩:∃d,E-i0=k+d:=⟨E-i0-k,by omega⟩
   rw[hd]
   clear hd hk
   induction d with
   | zero=>exact Nat.le_refl _
   | succ d ih=>rw[←Nat.add_assoc,hps,List.length_append];omega
  have hlG:∀k,k≤E-i0→(A++aT p++G k).length≤1200:=by
   intro k hk
   have:=hGm k hk
   rw[H]at hWl
   simp only[List.length_append]at hWl ⊢
   omega
  clear hG hd hGm
  have hsA:(aH A).size=A.length:=rfl
  have hs1:=fp (aH A) ⟨#[112,97,103,101,32]⟩
  have hs2:=fp (aH A++⟨#[112,97,103,101,32]⟩) (aH (num ((p+1:Nat):Int)))
  have hs3:(⟨#[112,97,103,101,32]⟩:ByteArray).size=5:=rfl
  have hs4:(aH (num ((p+1:Nat):Int))).size=1:=rfl
  have hs5:(⟨#[10]⟩:ByteArray).size=1:=rfl
  conv=>whnf
  repeat(any_goals(first|exact ab|(refine ap ?_ ?_<;>intro _<;>first|exact aq|conv=>whnf)|((first|refine aa hwp ?_|refine af hwp rfl ?_|refine ae hjc rfl ?_|refine ac ?_|refine bi ?_ ?_|intro _)<;>conv=>whnf)))
  refine aO ao { l:=0,f:=80} mixed (fun u:TiS=>[(9,aj ((i0+u.k:Nat):Int)),(7,aG (aH u.acc))]) (fun _=>[]) (fun _=>[]) (fun u=>u.k≤E-i0∧u.acc=A++aT p++G u.k) (fun u=>E-i0-u.k) (⟨0,A++aT p⟩:TiS) (by kernel_rfl)
   ⟨Nat.zero_le _,by rw[hz,List.append_nil]⟩ ?_
  conv=>whnf
  refine⟨⟨ai rfl (ai (by refine congrArg (fun z=>some (aG z)) (aR ?_);simp[aF,aX,bA,bytes,ji,aY,cq,aT,mU,aM,aC,cJ,a7,cY,wOr,rO,rP,rQ]) trivial),trivial,trivial⟩,?_⟩
  rintro u ⟨hk,hacc⟩
  generalize u.k=k at *
  generalize u.acc=B at *
  clear u
  by_cases hlt2:k<E-i0
  ·have hic:i0+k<c.length:=by omega
   obtain⟨x,hx,_⟩:=ay (l:=c) (i:=i0+k) hic
   have hxo:=hok x (List.mem_of_getElem? hx)
   obtain⟨f,hf,hfn,hfr,hr0,hr9⟩:=hfig x.a hxo.a
   obtain⟨g,hgf,hgn,_⟩:=hfig x.b hxo.b
   have hwf:=yc f hfn
   have hwg:=yc g hgn
   have hea:=md hf
   have heb:=md hgf
   have hlf:=df hf hfn
   have hlg:=df hgf hgn
   have hps:=hps k
   rw[yJ hx hlf.2 hlg.2]at hps
   have hhd:=hhd (i0+k) hic (decide (k=0))
   have hrg:=hrg (i0+k) (decide (k=0))
   have hrm:=hrm x (by have:=hxo.a;omega)
   have hwr:=pk (s.roomAt x.a).toNat (by omega)
   rw[show(((s.roomAt x.a).toNat:Nat):Int)=s.roomAt x.a by omega]at hwr
   have hwi:=pk (i0+k+1) (by omega)
   rw[←hea]at hwf
   rw[←heb]at hwg
   have hBl:B.length≤1200:=by rw[hacc];exact hlG k hk
   have hBs:(aH B).size=B.length:=rfl
   have hacc2:A++aT p++G (k+1)=B++ji (s.heading c (i0+k) (decide (k=0))) (s.roomAt x.a) (num (((i0+k:Nat):Int)+1)) x.says (aC (s.whoW x.a)) (aC (s.whoW x.b)):=by rw[hps,hacc];simp
   have hws:(aH (aC (s.whoW x.a))).size≤36:=hlf.1
   have hws2:(aH (aC (s.whoW x.b))).size≤36:=hlg.1
   have hdec:decide (((i0+k:Nat):Int)=(i0:Int))=decide (k=0):=by
    rw[Bool.eq_iff_iff,decide_eq_true_eq,decide_eq_true_eq];omega
   have hni:num (((i0+k+1:Nat):Int))=num (((i0+k:Nat):Int)+1):=rfl
   have hsn:∀n,(aH (num n)).size=1:=fun n=>rfl
   have hsz:=fp
   generalize s.heading c (i0+k) (decide (k=0))=h at *
   generalize s.roomAt x.a=r at *
   generalize aC (s.whoW x.a)=wa at *
   generalize aC (s.whoW x.b)=wb at *
   obtain⟨y,xa,xb⟩:=x
   obtain⟨hsy,hxa,hxb,_⟩:=hxo
   simp only at hsy hacc2
   clear hps hend hlG H hWl
   have hh:h=0∨h=1∨h=2:=by omega
   rw[hdec.symm]at hhd
   have l1:(⟨#[114,111,111,109,32]⟩:ByteArray).size=5:=rfl
   have l2:(⟨#[32,99,111,110,116,105,110,117,101,100,10]⟩:ByteArray).size=11:=rfl
   have l3:(⟨#[32,105,115,32]⟩:ByteArray).size=4:=rfl
   have l4:(⟨#[32,109,97,121,32,98,101,32]⟩:ByteArray).size=8:=rfl
   have l5:(⟨#[32,111,114,32]⟩:ByteArray).size=4:=rfl
   have l6:(⟨#[10]⟩:ByteArray).size=1:=rfl
   rcases hh with rfl|rfl|rfl
   ·rcases hsy with rfl|rfl|rfl
    ·conv=>whnf
     repeat(any_goals(first|exact ab|(refine ap ?_ ?_<;>intro _<;>first|exact aq|conv=>whnf)|((first|refine aa hen ?_|refine af hen rfl ?_|refine ae hx (by omega) ?_|refine ae hjc rfl ?_|refine aa hhd ?_|refine af hhd rfl ?_|refine aa hrm ?_|refine af hrm rfl ?_|refine aa hwr ?_|refine af hwr rfl ?_|refine aa hwi ?_|refine af hwi rfl ?_|refine ae hf (by omega) ?_|refine ae hgf (by omega) ?_|refine aa hwf ?_|refine af hwf rfl ?_|refine aa hwg ?_|refine af hwg rfl ?_|refine And.intro (by show(_:Int)≤9223372036854775807;simp only[hsz,hsn,hBs,l1,l2,l3,l4,l5,l6];omega) ?_|refine ac ?_|refine bi ?_ ?_|intro _)<;>conv=>whnf)))
     (refine⟨⟨k+1,B++ji 0 r (num (((i0+k:Nat):Int)+1)) 0 wa wb⟩,⟨by show k+1≤_;omega,hacc2.symm⟩,(by show _-(k+1)<_-k;omega),?_⟩;(conv=>whnf);refine⟨?_,?_,?_⟩<;>repeat(first|exact trivial|refine sc rfl ?_|refine kn ?_|refine kc rfl ?_|refine sc (by first|rfl|(refine congrArg (fun z=>some (aG z)) (aR ?_);simp[aF,aX,bA,bytes,ji,aY,cq,aM,aC,a7,cY,wOr,rO,rP,rQ,hni];done)) ?_|refine kc (by first|rfl|(refine congrArg (fun z=>some (aG z)) (aR ?_);simp[aF,aX,bA,bytes,ji,aY,cq,aM,aC,a7,cY,wOr,rO,rP,rQ,hni];done)) ?_))
    ·conv=>whnf
     repeat(any_goals(first|exact ab|(refine ap ?_ ?_<;>intro _<;>first|exact aq|conv=>whnf)|((first|refine aa hen ?_|refine af hen rfl ?_|refine ae hx (by omega) ?_|refine ae hjc rfl ?_|refine aa hhd ?_|refine af hhd rfl ?_|refine aa hrm ?_|refine af hrm rfl ?_|refine aa hwr ?_|refine af hwr rfl ?_|refine aa hwi ?_|refine af hwi rfl ?_|refine ae hf (by omega) ?_|refine ae hgf (by omega) ?_|refine aa hwf ?_|refine af hwf rfl ?_|refine aa hwg ?_|refine af hwg rfl ?_|refine And.intro (by show(_:Int)≤9223372036854775807;simp only[hsz,hsn,hBs,l1,l2,l3,l4,l5,l6];omega) ?_|refine ac ?_|refine bi ?_ ?_|intro _)<;>conv=>whnf)))
     (refine⟨⟨k+1,B++ji 0 r (num (((i0+k:Nat):Int)+1)) 1 wa wb⟩,⟨by show k+1≤_;omega,hacc2.symm⟩,(by show _-(k+1)<_-k;omega),?_⟩;(conv=>whnf);refine⟨?_,?_,?_⟩<;>repeat(first|exact trivial|refine sc rfl ?_|refine kn ?_|refine kc rfl ?_|refine sc (by first|rfl|(refine congrArg (fun z=>some (aG z)) (aR ?_);simp[aF,aX,bA,bytes,ji,aY,cq,aM,aC,a7,cY,wOr,rO,rP,rQ,hni];done)) ?_|refine kc (by first|rfl|(refine congrArg (fun z=>some (aG z)) (aR ?_);simp[aF,aX,bA,bytes,ji,aY,cq,aM,aC,a7,cY,wOr,rO,rP,rQ,hni];done)) ?_))
    ·conv=>whnf
     repeat(any_goals(first|exact ab|(refine ap ?_ ?_<;>intro _<;>first|exact aq|conv=>whnf)|((first|refine aa hen ?_|refine af hen rfl ?_|refine ae hx (by omega) ?_|refine ae hjc rfl ?_|refine aa hhd ?_|refine af hhd rfl ?_|refine aa hrm ?_|refine af hrm rfl ?_|refine aa hwr ?_|refine af hwr rfl ?_|refine aa hwi ?_|refine af hwi rfl ?_|refine ae hf (by omega) ?_|refine ae hgf (by omega) ?_|refine aa hwf ?_|refine af hwf rfl ?_|refine aa hwg ?_|refine af hwg rfl ?_|refine And.intro (by show(_:Int)≤9223372036854775807;simp only[hsz,hsn,hBs,l1,l2,l3,l4,l5,l6];omega) ?_|refine ac ?_|refine bi ?_ ?_|intro _)<;>conv=>whnf)))
     (refine⟨⟨k+1,B++ji 0 r (num (((i0+k:Nat):Int)+1)) 2 wa wb⟩,⟨by show k+1≤_;omega,hacc2.symm⟩,(by show _-(k+1)<_-k;omega),?_⟩;(conv=>whnf);refine⟨?_,?_,?_⟩<;>repeat(first|exact trivial|refine sc rfl ?_|refine kn ?_|refine kc rfl ?_|refine sc (by first|rfl|(refine congrArg (fun z=>some (aG z)) (aR ?_);simp[aF,aX,bA,bytes,ji,aY,cq,aM,aC,a7,cY,wOr,rO,rP,rQ,hni];done)) ?_|refine kc (by first|rfl|(refine congrArg (fun z=>some (aG z)) (aR ?_);simp[aF,aX,bA,bytes,ji,aY,cq,aM,aC,a7,cY,wOr,rO,rP,rQ,hni];done)) ?_))
   ·rcases hsy with rfl|rfl|rfl
    ·conv=>whnf
     repeat(any_goals(first|exact ab|(refine ap ?_ ?_<;>intro _<;>first|exact aq|conv=>whnf)|((first|refine aa hen ?_|refine af hen rfl ?_|refine ae hx (by omega) ?_|refine ae hjc rfl ?_|refine aa hhd ?_|refine af hhd rfl ?_|refine aa hrm ?_|refine af hrm rfl ?_|refine aa hwr ?_|refine af hwr rfl ?_|refine aa hwi ?_|refine af hwi rfl ?_|refine ae hf (by omega) ?_|refine ae hgf (by omega) ?_|refine aa hwf ?_|refine af hwf rfl ?_|refine aa hwg ?_|refine af hwg rfl ?_|refine And.intro (by show(_:Int)≤9223372036854775807;simp only[hsz,hsn,hBs,l1,l2,l3,l4,l5,l6];omega) ?_|refine ac ?_|refine bi ?_ ?_|intro _)<;>conv=>whnf)))
     (refine⟨⟨k+1,B++ji 1 r (num (((i0+k:Nat):Int)+1)) 0 wa wb⟩,⟨by show k+1≤_;omega,hacc2.symm⟩,(by show _-(k+1)<_-k;omega),?_⟩;(conv=>whnf);refine⟨?_,?_,?_⟩<;>repeat(first|exact trivial|refine sc rfl ?_|refine kn ?_|refine kc rfl ?_|refine sc (by first|rfl|(refine congrArg (fun z=>some (aG z)) (aR ?_);simp[aF,aX,bA,bytes,ji,aY,cq,aM,aC,a7,cY,wOr,rO,rP,rQ,hni];done)) ?_|refine kc (by first|rfl|(refine congrArg (fun z=>some (aG z)) (aR ?_);simp[aF,aX,bA,bytes,ji,aY,cq,aM,aC,a7,cY,wOr,rO,rP,rQ,hni];done)) ?_))
    ·conv=>whnf
     repeat(any_goals(first|exact ab|(refine ap ?_ ?_<;>intro _<;>first|exact aq|conv=>whnf)|((first|refine aa hen ?_|refine af hen rfl ?_|refine ae hx (by omega) ?_|refine ae hjc rfl ?_|refine aa hhd ?_|refine af hhd rfl ?_|refine aa hrm ?_|refine af hrm rfl ?_|refine aa hwr ?_|refine af hwr rfl ?_|refine aa hwi ?_|refine af hwi rfl ?_|refine ae hf (by omega) ?_|refine ae hgf (by omega) ?_|refine aa hwf ?_|refine af hwf rfl ?_|refine aa hwg ?_|refine af hwg rfl ?_|refine And.intro (by show(_:Int)≤9223372036854775807;simp only[hsz,hsn,hBs,l1,l2,l3,l4,l5,l6];omega) ?_|refine ac ?_|refine bi ?_ ?_|intro _)<;>conv=>whnf)))
     (refine⟨⟨k+1,B++ji 1 r (num (((i0+k:Nat):Int)+1)) 1 wa wb⟩,⟨by show k+1≤_;omega,hacc2.symm⟩,(by show _-(k+1)<_-k;omega),?_⟩;(conv=>whnf);refine⟨?_,?_,?_⟩<;>repeat(first|exact trivial|refine sc rfl ?_|refine kn ?_|refine kc rfl ?_|refine sc (by first|rfl|(refine congrArg (fun z=>some (aG z)) (aR ?_);simp[aF,aX,bA,bytes,ji,aY,cq,aM,aC,a7,cY,wOr,rO,rP,rQ,hni];done)) ?_|refine kc (by first|rfl|(refine congrArg (fun z=>some (aG z)) (aR ?_);simp[aF,aX,bA,bytes,ji,aY,cq,aM,aC,a7,cY,wOr,rO,rP,rQ,hni];done)) ?_))
    ·conv=>whnf
     repeat(any_goals(first|exact ab|(refine ap ?_ ?_<;>intro _<;>first|exact aq|conv=>whnf)|((first|refine aa hen ?_|refine af hen rfl ?_|refine ae hx (by omega) ?_|refine ae hjc rfl ?_|refine aa hhd ?_|refine af hhd rfl ?_|refine aa hrm ?_|refine af hrm rfl ?_|refine aa hwr ?_|refine af hwr rfl ?_|refine aa hwi ?_|refine af hwi rfl ?_|refine ae hf (by omega) ?_|refine ae hgf (by omega) ?_|refine aa hwf ?_|refine af hwf rfl ?_|refine aa hwg ?_|refine af hwg rfl ?_|refine And.intro (by show(_:Int)≤9223372036854775807;simp only[hsz,hsn,hBs,l1,l2,l3,l4,l5,l6];omega) ?_|refine ac ?_|refine bi ?_ ?_|intro _)<;>conv=>whnf)))
     (refine⟨⟨k+1,B++ji 1 r (num (((i0+k:Nat):Int)+1)) 2 wa wb⟩,⟨by show k+1≤_;omega,hacc2.symm⟩,(by show _-(k+1)<_-k;omega),?_⟩;(conv=>whnf);refine⟨?_,?_,?_⟩<;>repeat(first|exact trivial|refine sc rfl ?_|refine kn ?_|refine kc rfl ?_|refine sc (by first|rfl|(refine congrArg (fun z=>some (aG z)) (aR ?_);simp[aF,aX,bA,bytes,ji,aY,cq,aM,aC,a7,cY,wOr,rO,rP,rQ,hni];done)) ?_|refine kc (by first|rfl|(refine congrArg (fun z=>some (aG z)) (aR ?_);simp[aF,aX,bA,bytes,ji,aY,cq,aM,aC,a7,cY,wOr,rO,rP,rQ,hni];done)) ?_))
   ·rcases hsy with rfl|rfl|rfl
    ·conv=>whnf
     repeat(any_goals(first|exact ab|(refine ap ?_ ?_<;>intro _<;>first|exact aq|conv=>whnf)|((first|refine aa hen ?_|refine af hen rfl ?_|refine ae hx (by omega) ?_|refine ae hjc rfl ?_|refine aa hhd ?_|refine af hhd rfl ?_|refine aa hrm ?_|refine af hrm rfl ?_|refine aa hwr ?_|refine af hwr rfl ?_|refine aa hwi ?_|refine af hwi rfl ?_|refine ae hf (by omega) ?_|refine ae hgf (by omega) ?_|refine aa hwf ?_|refine af hwf rfl ?_|refine aa hwg ?_|refine af hwg rfl ?_|refine And.intro (by show(_:Int)≤9223372036854775807;simp only[hsz,hsn,hBs,l1,l2,l3,l4,l5,l6];omega) ?_|refine ac ?_|refine bi ?_ ?_|intro _)<;>conv=>whnf)))
     (refine⟨⟨k+1,B++ji 2 r (num (((i0+k:Nat):Int)+1)) 0 wa wb⟩,⟨by show k+1≤_;omega,hacc2.symm⟩,(by show _-(k+1)<_-k;omega),?_⟩;(conv=>whnf);refine⟨?_,?_,?_⟩<;>repeat(first|exact trivial|refine sc rfl ?_|refine kn ?_|refine kc rfl ?_|refine sc (by first|rfl|(refine congrArg (fun z=>some (aG z)) (aR ?_);simp[aF,aX,bA,bytes,ji,aY,cq,aM,aC,a7,cY,wOr,rO,rP,rQ,hni];done)) ?_|refine kc (by first|rfl|(refine congrArg (fun z=>some (aG z)) (aR ?_);simp[aF,aX,bA,bytes,ji,aY,cq,aM,aC,a7,cY,wOr,rO,rP,rQ,hni];done)) ?_))
    ·conv=>whnf
     repeat(any_goals(first|exact ab|(refine ap ?_ ?_<;>intro _<;>first|exact aq|conv=>whnf)|((first|refine aa hen ?_|refine af hen rfl ?_|refine ae hx (by omega) ?_|refine ae hjc rfl ?_|refine aa hhd ?_|refine af hhd rfl ?_|refine aa hrm ?_|refine af hrm rfl ?_|refine aa hwr ?_|refine af hwr rfl ?_|refine aa hwi ?_|refine af hwi rfl ?_|refine ae hf (by omega) ?_|refine ae hgf (by omega) ?_|refine aa hwf ?_|refine af hwf rfl ?_|refine aa hwg ?_|refine af hwg rfl ?_|refine And.intro (by show(_:Int)≤9223372036854775807;simp only[hsz,hsn,hBs,l1,l2,l3,l4,l5,l6];omega) ?_|refine ac ?_|refine bi ?_ ?_|intro _)<;>conv=>whnf)))
     (refine⟨⟨k+1,B++ji 2 r (num (((i0+k:Nat):Int)+1)) 1 wa wb⟩,⟨by show k+1≤_;omega,hacc2.symm⟩,(by show _-(k+1)<_-k;omega),?_⟩;(conv=>whnf);refine⟨?_,?_,?_⟩<;>repeat(first|exact trivial|refine sc rfl ?_|refine kn ?_|refine kc rfl ?_|refine sc (by first|rfl|(refine congrArg (fun z=>some (aG z)) (aR ?_);simp[aF,aX,bA,bytes,ji,aY,cq,aM,aC,a7,cY,wOr,rO,rP,rQ,hni];done)) ?_|refine kc (by first|rfl|(refine congrArg (fun z=>some (aG z)) (aR ?_);simp[aF,aX,bA,bytes,ji,aY,cq,aM,aC,a7,cY,wOr,rO,rP,rQ,hni];done)) ?_))
    ·conv=>whnf
     repeat(any_goals(first|exact ab|(refine ap ?_ ?_<;>intro _<;>first|exact aq|conv=>whnf)|((first|refine aa hen ?_|refine af hen rfl ?_|refine ae hx (by omega) ?_|refine ae hjc rfl ?_|refine aa hhd ?_|refine af hhd rfl ?_|refine aa hrm ?_|refine af hrm rfl ?_|refine aa hwr ?_|refine af hwr rfl ?_|refine aa hwi ?_|refine af hwi rfl ?_|refine ae hf (by omega) ?_|refine ae hgf (by omega) ?_|refine aa hwf ?_|refine af hwf rfl ?_|refine aa hwg ?_|refine af hwg rfl ?_|refine And.intro (by show(_:Int)≤9223372036854775807;simp only[hsz,hsn,hBs,l1,l2,l3,l4,l5,l6];omega) ?_|refine ac ?_|refine bi ?_ ?_|intro _)<;>conv=>whnf)))
     (refine⟨⟨k+1,B++ji 2 r (num (((i0+k:Nat):Int)+1)) 2 wa wb⟩,⟨by show k+1≤_;omega,hacc2.symm⟩,(by show _-(k+1)<_-k;omega),?_⟩;(conv=>whnf);refine⟨?_,?_,?_⟩<;>repeat(first|exact trivial|refine sc rfl ?_|refine kn ?_|refine kc rfl ?_|refine sc (by first|rfl|(refine congrArg (fun z=>some (aG z)) (aR ?_);simp[aF,aX,bA,bytes,ji,aY,cq,aM,aC,a7,cY,wOr,rO,rP,rQ,hni];done)) ?_|refine kc (by first|rfl|(refine congrArg (fun z=>some (aG z)) (aR ?_);simp[aF,aX,bA,bytes,ji,aY,cq,aM,aC,a7,cY,wOr,rO,rP,rQ,hni];done)) ?_))
  ·have hkn:k=E-i0:=by omega
   subst hkn
   conv=>whnf
   repeat(any_goals(first|exact ab|(refine ap ?_ ?_<;>intro _<;>first|exact aq|conv=>whnf)|((first|refine aa hen ?_|refine af hen rfl ?_|refine ac ?_|refine bi ?_ ?_|intro _)<;>conv=>whnf)))
   (refine⟨⟨p+1,B⟩,⟨by show p+1≤_;omega,⟨E,hpg⟩,by show W=B++(s.refRows c (p+1) (l.drop (p+1))).flatMap aM;rw[hRst,H,hacc];simp⟩,(by show _-(p+1)<_-p;omega),?_⟩;(conv=>whnf);refine⟨?_,?_,?_⟩<;>repeat(first|exact trivial|refine sc rfl ?_|refine kn ?_|refine kc rfl ?_|refine sc (by rfl) ?_|refine kc (by rfl) ?_))
 ·have hin:p=l.length:=by omega
  subst hin
  rw[List.drop_length]at H
  have H:W=A++[]:=H
  rw[List.append_nil]at H
  subst H
  conv=>whnf
  repeat(any_goals(first|exact ab|(refine ap ?_ ?_<;>intro _<;>first|exact aq|conv=>whnf)|((first|refine ac ?_|refine bi ?_ ?_|intro _)<;>conv=>whnf)))
  (refine⟨⟨?_⟩,trivial⟩;rfl)
end Go.Proofs.YtgncapdjheghfaaGreatDoor
namespace Go.Proofs.YtgncapdjheghfaaGreatDoor
open Go.Am Go.Proofs Go
noncomputable def LS:Code:=((Tryz.f79.body.bind s8)).getD .skip
def cxX:Cx:={ l:=0,f:=79,mat:=[76,109,113],ty:=[5]}
def K0(s:Bill)(c:List Ent)(R:Press)(M:cj)(u:Nat×BSt):SS :=
 Iv [(21,aj u.1)] [(kB,some (1,some (2,[u.2.av]))),(kBr,some u.2.row)] [] [cxX.key 9,cxX.key 88] [cxX.key 88]
  [(20,.v (.int .i64 ((c.map bB).length:Nat))),(19,aJ c),(7,aD R.pages),(18,aD R.pages),(17,gD R),(16,.mp kTx 1),(15,aJ c),(14,dp s),(6,.ptr (cxX.key 6) 1 6 0 0),(13,.agg gn),
   (5,.ptr kB 1 2 0 0),(4,ofValue (.string ⟨#[]⟩)),(0,dp s),(1,aJ c)]
  [(kTx,some (1,some (0,lA M))),(cxX.key 6,some (1,some (6,[.agg gn])))] []
def G8(s:Bill)(c:List Ent)(l:List Nat)(u:Nat×BSt):Prop:=u.1≤c.length∧(u.1=0→u.2 = .fresh)∧(0<u.1→∃g,u.2 = .used g (s.textTo c l u.1))
def uK(s:Bill)(c:List Ent)(l:List Nat)(R:Press)(M:cj)(k:Nat)(st:BSt):Prop :=
 ∀Q:Exit→SS→Prop,eU Tryz.prog tab cxX Tryz.f79.ntmps LS
  (ut (fun ss'=>∃a':Nat×BSt,G8 s c l a'∧c.length-a'.1<c.length-k∧uB ss' (K0 s c R M a')) Q) (K0 s c R M (k,st))
theorem Cf{o:Option (Option jd)}{K:Prop}(h:o=some (some (0,none)))(k:K):za o K:=by subst h;exact k
theorem jn{s:Bill}{c:List Ent}{i:Nat}{x:Ent}(hx:c[i]?=some x):(s.heading c i true=2∨s.heading c i true=1)∧(s.heading c i false=2∨s.heading c i false=0):=by
 unfold Bill.heading
 rw[hx]
 simp only
 split
 ·exact⟨.inl rfl,.inl rfl⟩
 ·split
  ·exact⟨.inl rfl,.inl rfl⟩
  ·exact⟨.inr rfl,.inr rfl⟩
theorem f8{s:Bill}{c:List Ent}{x:Ent}(hx:c[0]?=some x)(t:Bool):s.heading c 0 t=2:=by
 unfold Bill.heading
 rw[hx]
 rfl
end Go.Proofs.YtgncapdjheghfaaGreatDoor
namespace Go.Proofs.YtgncapdjheghfaaGreatDoor
open Go.Am Go.Proofs Go
set_option maxHeartbeats 8000000 in
theorem Jf(s:Bill)(hg:s.Good)(c:List Ent)(hc:∀x∈c,s.OkE x)(h6:c.length≤6)(l:List Nat)(hll:l.length≤6)(i:Nat)(R:Press)(hR:R.pages=bz l)(M:cj)(xa xb:Int)(hx:c[i]?=some ⟨0,xa,xb⟩)(g:Nat) :
  uK s c l R M i (.used g (s.textTo c l i)):=by
 have hi:i<c.length:=(List.getElem?_eq_some_iff.1 hx).1
 have hok:=hc _ (List.mem_of_getElem? hx)
 obtain⟨f,hf,hn,hroom,hr0⟩:=jk hg hok.a
 obtain⟨f2,hf2,hn2,_⟩:=jk hg hok.b
 have hlt:=cW hg hc l i
 have hsu:=cT s c l i
 have hwa:=mX s xa f hok.a.1 hf hn
 have hwb:=mX s xb f2 hok.b.1 hf2 hn2
 obtain⟨wl,wn⟩:=df hf hn
 obtain⟨wl2,wn2⟩:=df hf2 hn2
 have hej:=fh (s:=s) (i:=i) (x:=⟨0,xa,xb⟩) wn wn2
 have hel:=jj hg hok i
 have hidx:=f9 R.pages i (by rw[hR];unfold bz;rw[List.length_map];omega)
 rw[hR,iz, ←hR]at hidx
 have hhd:=fun t=>eW s c (fun x hx=>(hc x hx).inn) h6 i hi t
 have hlw:=fun {o} ho {h} hh=>fl (s:=s) (pages:=l) hx (o:=o) ho (h:=h) hh
 have hitr:=dh f.room hr0
 have hite:=dh ((i:Int)+1) (by omega)
 have hax:=hok.a
 have hbx:=hok.b
 have hfl:(s.figs.map dS).length=s.figs.length:=List.length_map ..
 have hcl:(c.map bB).length=c.length:=List.length_map ..
 simp only at hroom hlw hax hbx hwa hwb wl wl2 wn wn2 hej hf
 rw[hroom]at hlw
 generalize aC (s.whoW xa)=W at *
 generalize aC (s.whoW xb)=W2 at *
 have hE:aM (s.entW i ⟨0,xa,xb⟩)=aM [num ((i:Int)+1),wIs,W]:=by unfold aM;rw[hej];rfl
 have hle:PureA Tryz.prog 110 [.slice 1 [aG (aH (num ((i:Int)+1))),aG isB,aG (aH W)] .no] (aG (aH (aM (s.entW i ⟨0,xa,xb⟩)))):=by
  rw[hE]
  refine cC [num ((i:Int)+1),wIs,W] (by simp) (by simp) ?_
  rw[hE]at hel
  unfold aM at hel
  rw[List.length_append]at hel
  omega
 have hEn:=da (s.entW i ⟨0,xa,xb⟩)
 clear hej hE hn hn2 wl wl2 wn wn2 hf2
 generalize aM (s.entW i ⟨0,xa,xb⟩)=E at *
 have hht:=jn (s:=s) hx
 generalize s.textTo c l i=t at *
 intro Q
 cases ho:l.findIdx? (· ==i)with
 | none =>
  simp only[ho]at hidx
  have hhd:=hhd false
  rcases hht.2 with h2|h2
  ·rw[h2]at hhd
   have hlr:PureA Tryz.prog 110 [.slice 1 [aG (aH a7),aG (aH (num f.room))] .no] (aG (aH (aY f.room))):=cC [a7,num f.room] (by simp) (by simp) (by simp[aC,a7,num])
   have hrl:=dj f.room
   have hlw:=hlw (o:=none) ho (h:=2) h2
   have hT:s.textTo c l (i+1)=t++aY f.room++E:=by rw[hsu,hlw];simp[eG]
   have hw1:=aP g (t) (aY f.room) (by(try simp only[List.length_append]);omega) (by omega)
   have hw2:=aP (g+1) (t++aY f.room) (E) (by(try simp only[List.length_append]);omega) (by omega)
   clear hsu hlw h2
   generalize aY f.room=B at *
   conv=>whnf
   repeat(any_goals(first|exact ab|(refine ap ?_ ?_<;>intro _<;>first|exact aq|conv=>whnf)|((first|refine ae hx rfl ?_|refine ae hf (by show xa=_;omega) ?_|refine aa hidx ?_|refine aa hitp ?_|refine aa hlp ?_|refine aa hitr ?_|refine aa hhd ?_|refine aa hlr ?_|refine aa hite ?_|refine aa hwa ?_|refine aa hwb ?_|refine aa hle ?_|refine ac ?_|refine bi ?_ ?_|intro _)<;>conv=>whnf)))
   refine⟨[kB,kBr],?_⟩
   conv=>whnf
   repeat(refine ah (ax _ _) ?_<;>(conv=>whnf))
   refine⟨_,_,hw1,?_⟩
   conv=>whnf
   repeat(refine ah (ax _ _) ?_<;>(conv=>whnf))
   repeat(any_goals(first|exact ab|(refine ap ?_ ?_<;>intro _<;>first|exact aq|conv=>whnf)|((first|refine ae hx rfl ?_|refine ae hf (by show xa=_;omega) ?_|refine aa hidx ?_|refine aa hitp ?_|refine aa hlp ?_|refine aa hitr ?_|refine aa hhd ?_|refine aa hlr ?_|refine aa hite ?_|refine aa hwa ?_|refine aa hwb ?_|refine aa hle ?_|refine ac ?_|refine bi ?_ ?_|intro _)<;>conv=>whnf)))
   refine⟨[kB,kBr],?_⟩
   conv=>whnf
   repeat(refine ah (ax _ _) ?_<;>(conv=>whnf))
   refine⟨_,_,hw2,?_⟩
   conv=>whnf
   repeat(refine ah (ax _ _) ?_<;>(conv=>whnf))
   repeat(any_goals(first|exact ab|(refine ap ?_ ?_<;>intro _<;>first|exact aq|conv=>whnf)|((first|refine ae hx rfl ?_|refine ae hf (by show xa=_;omega) ?_|refine aa hidx ?_|refine aa hitp ?_|refine aa hlp ?_|refine aa hitr ?_|refine aa hhd ?_|refine aa hlr ?_|refine aa hite ?_|refine aa hwa ?_|refine aa hwb ?_|refine aa hle ?_|refine ac ?_|refine bi ?_ ?_|intro _)<;>conv=>whnf)))
   (refine⟨⟨i+1,.used (g+1+1) (t++B++E)⟩,⟨by show i+1≤_;omega,(fun h=>by cases h),fun _=>⟨_,congrArg (BSt.used _) hT.symm⟩⟩,(by show _-(i+1)<_-i;omega),?_⟩;(conv=>whnf);refine⟨?_,?_,?_⟩<;>repeat(first|exact trivial|refine sc rfl ?_|refine kn ?_|refine kc rfl ?_|refine sc (by rfl) ?_|refine kc (by rfl) ?_))
  ·rw[h2]at hhd
   have hlw:=hlw (o:=none) ho (h:=0) h2
   have hT:s.textTo c l (i+1)=t++E:=by rw[hsu,hlw];simp[eG]
   have hw1:=aP g (t) (E) (by(try simp only[List.length_append]);omega) (by omega)
   clear hsu hlw h2
   conv=>whnf
   repeat(any_goals(first|exact ab|(refine ap ?_ ?_<;>intro _<;>first|exact aq|conv=>whnf)|((first|refine ae hx rfl ?_|refine ae hf (by show xa=_;omega) ?_|refine aa hidx ?_|refine aa hitp ?_|refine aa hlp ?_|refine aa hitr ?_|refine aa hhd ?_|refine aa hlr ?_|refine aa hite ?_|refine aa hwa ?_|refine aa hwb ?_|refine aa hle ?_|refine ac ?_|refine bi ?_ ?_|intro _)<;>conv=>whnf)))
   refine⟨[kB,kBr],?_⟩
   conv=>whnf
   repeat(refine ah (ax _ _) ?_<;>(conv=>whnf))
   refine⟨_,_,hw1,?_⟩
   conv=>whnf
   repeat(refine ah (ax _ _) ?_<;>(conv=>whnf))
   repeat(any_goals(first|exact ab|(refine ap ?_ ?_<;>intro _<;>first|exact aq|conv=>whnf)|((first|refine ae hx rfl ?_|refine ae hf (by show xa=_;omega) ?_|refine aa hidx ?_|refine aa hitp ?_|refine aa hlp ?_|refine aa hitr ?_|refine aa hhd ?_|refine aa hlr ?_|refine aa hite ?_|refine aa hwa ?_|refine aa hwb ?_|refine aa hle ?_|refine ac ?_|refine bi ?_ ?_|intro _)<;>conv=>whnf)))
   (refine⟨⟨i+1,.used (g+1) (t++E)⟩,⟨by show i+1≤_;omega,(fun h=>by cases h),fun _=>⟨_,congrArg (BSt.used _) hT.symm⟩⟩,(by show _-(i+1)<_-i;omega),?_⟩;(conv=>whnf);refine⟨?_,?_,?_⟩<;>repeat(first|exact trivial|refine sc rfl ?_|refine kn ?_|refine kc rfl ?_|refine sc (by rfl) ?_|refine kc (by rfl) ?_))
 | some p =>
  simp only[ho]at hidx
  have hp6:=iw ho
  have hhd:=hhd true
  rcases hht.1 with h2|h2
  ·rw[h2]at hhd
   have hitp:=dh ((p:Int)+1) (by omega)
   have hlp:PureA Tryz.prog 110 [.slice 1 [aG (aH cJ),aG (aH (num ((p:Int)+1)))] .no] (aG (aH (aT p))):=cC [cJ,num ((p:Int)+1)] (by simp) (by simp) (by simp[aC,cJ,num])
   have hpl:=di p
   have hpn:aT p≠[]:=da _
   have hlr:PureA Tryz.prog 110 [.slice 1 [aG (aH a7),aG (aH (num f.room))] .no] (aG (aH (aY f.room))):=cC [a7,num f.room] (by simp) (by simp) (by simp[aC,a7,num])
   have hrl:=dj f.room
   have hlw:=hlw (o:=(some p)) ho (h:=2) h2
   have hT:s.textTo c l (i+1)=t++aT p++aY f.room++E:=by rw[hsu,hlw];simp[eG]
   have hw1:=aP g (t) (aT p) (by(try simp only[List.length_append]);omega) (by omega)
   have hw2:=aP (g+1) (t++aT p) (aY f.room) (by(try simp only[List.length_append]);omega) (by omega)
   have hw3:=aP (g+2) (t++aT p++aY f.room) (E) (by(try simp only[List.length_append]);omega) (by omega)
   clear hsu hlw h2
   generalize aT p=A at *
   generalize aY f.room=B at *
   conv=>whnf
   repeat(any_goals(first|exact ab|(refine ap ?_ ?_<;>intro _<;>first|exact aq|conv=>whnf)|((first|refine ae hx rfl ?_|refine ae hf (by show xa=_;omega) ?_|refine aa hidx ?_|refine aa hitp ?_|refine aa hlp ?_|refine aa hitr ?_|refine aa hhd ?_|refine aa hlr ?_|refine aa hite ?_|refine aa hwa ?_|refine aa hwb ?_|refine aa hle ?_|refine ac ?_|refine bi ?_ ?_|intro _)<;>conv=>whnf)))
   refine⟨[kB,kBr],?_⟩
   conv=>whnf
   repeat(refine ah (ax _ _) ?_<;>(conv=>whnf))
   refine⟨_,_,hw1,?_⟩
   conv=>whnf
   repeat(refine ah (ax _ _) ?_<;>(conv=>whnf))
   repeat(any_goals(first|exact ab|(refine ap ?_ ?_<;>intro _<;>first|exact aq|conv=>whnf)|((first|refine ae hx rfl ?_|refine ae hf (by show xa=_;omega) ?_|refine aa hidx ?_|refine aa hitp ?_|refine aa hlp ?_|refine aa hitr ?_|refine aa hhd ?_|refine aa hlr ?_|refine aa hite ?_|refine aa hwa ?_|refine aa hwb ?_|refine aa hle ?_|refine ac ?_|refine bi ?_ ?_|intro _)<;>conv=>whnf)))
   refine⟨[kB,kBr],?_⟩
   conv=>whnf
   repeat(refine ah (ax _ _) ?_<;>(conv=>whnf))
   refine⟨_,_,hw2,?_⟩
   conv=>whnf
   repeat(refine ah (ax _ _) ?_<;>(conv=>whnf))
   repeat(any_goals(first|exact ab|(refine ap ?_ ?_<;>intro _<;>first|exact aq|conv=>whnf)|((first|refine ae hx rfl ?_|refine ae hf (by show xa=_;omega) ?_|refine aa hidx ?_|refine aa hitp ?_|refine aa hlp ?_|refine aa hitr ?_|refine aa hhd ?_|refine aa hlr ?_|refine aa hite ?_|refine aa hwa ?_|refine aa hwb ?_|refine aa hle ?_|refine ac ?_|refine bi ?_ ?_|intro _)<;>conv=>whnf)))
   refine⟨[kB,kBr],?_⟩
   conv=>whnf
   repeat(refine ah (ax _ _) ?_<;>(conv=>whnf))
   refine⟨_,_,hw3,?_⟩
   conv=>whnf
   repeat(refine ah (ax _ _) ?_<;>(conv=>whnf))
   repeat(any_goals(first|exact ab|(refine ap ?_ ?_<;>intro _<;>first|exact aq|conv=>whnf)|((first|refine ae hx rfl ?_|refine ae hf (by show xa=_;omega) ?_|refine aa hidx ?_|refine aa hitp ?_|refine aa hlp ?_|refine aa hitr ?_|refine aa hhd ?_|refine aa hlr ?_|refine aa hite ?_|refine aa hwa ?_|refine aa hwb ?_|refine aa hle ?_|refine ac ?_|refine bi ?_ ?_|intro _)<;>conv=>whnf)))
   (refine⟨⟨i+1,.used (g+1+1+1) (t++A++B++E)⟩,⟨by show i+1≤_;omega,(fun h=>by cases h),fun _=>⟨_,congrArg (BSt.used _) hT.symm⟩⟩,(by show _-(i+1)<_-i;omega),?_⟩;(conv=>whnf);refine⟨?_,?_,?_⟩<;>repeat(first|exact trivial|refine sc rfl ?_|refine kn ?_|refine kc rfl ?_|refine sc (by rfl) ?_|refine kc (by rfl) ?_))
  ·rw[h2]at hhd
   have hitp:=dh ((p:Int)+1) (by omega)
   have hlp:PureA Tryz.prog 110 [.slice 1 [aG (aH cJ),aG (aH (num ((p:Int)+1)))] .no] (aG (aH (aT p))):=cC [cJ,num ((p:Int)+1)] (by simp) (by simp) (by simp[aC,cJ,num])
   have hpl:=di p
   have hpn:aT p≠[]:=da _
   have hlr:PureA Tryz.prog 110 [.slice 1 [aG (aH a7),aG (aH (num f.room)),aG (aH cY)] .no] (aG (aH (cq f.room))):=cC [a7,num f.room,cY] (by simp) (by simp) (by simp[aC,a7,num,cY])
   have hrl:=jT f.room
   have hlw:=hlw (o:=(some p)) ho (h:=1) h2
   have hT:s.textTo c l (i+1)=t++aT p++cq f.room++E:=by rw[hsu,hlw];simp[eG]
   have hw1:=aP g (t) (aT p) (by(try simp only[List.length_append]);omega) (by omega)
   have hw2:=aP (g+1) (t++aT p) (cq f.room) (by(try simp only[List.length_append]);omega) (by omega)
   have hw3:=aP (g+2) (t++aT p++cq f.room) (E) (by(try simp only[List.length_append]);omega) (by omega)
   clear hsu hlw h2
   generalize aT p=A at *
   generalize cq f.room=B at *
   conv=>whnf
   repeat(any_goals(first|exact ab|(refine ap ?_ ?_<;>intro _<;>first|exact aq|conv=>whnf)|((first|refine ae hx rfl ?_|refine ae hf (by show xa=_;omega) ?_|refine aa hidx ?_|refine aa hitp ?_|refine aa hlp ?_|refine aa hitr ?_|refine aa hhd ?_|refine aa hlr ?_|refine aa hite ?_|refine aa hwa ?_|refine aa hwb ?_|refine aa hle ?_|refine ac ?_|refine bi ?_ ?_|intro _)<;>conv=>whnf)))
   refine⟨[kB,kBr],?_⟩
   conv=>whnf
   repeat(refine ah (ax _ _) ?_<;>(conv=>whnf))
   refine⟨_,_,hw1,?_⟩
   conv=>whnf
   repeat(refine ah (ax _ _) ?_<;>(conv=>whnf))
   repeat(any_goals(first|exact ab|(refine ap ?_ ?_<;>intro _<;>first|exact aq|conv=>whnf)|((first|refine ae hx rfl ?_|refine ae hf (by show xa=_;omega) ?_|refine aa hidx ?_|refine aa hitp ?_|refine aa hlp ?_|refine aa hitr ?_|refine aa hhd ?_|refine aa hlr ?_|refine aa hite ?_|refine aa hwa ?_|refine aa hwb ?_|refine aa hle ?_|refine ac ?_|refine bi ?_ ?_|intro _)<;>conv=>whnf)))
   refine⟨[kB,kBr],?_⟩
   conv=>whnf
   repeat(refine ah (ax _ _) ?_<;>(conv=>whnf))
   refine⟨_,_,hw2,?_⟩
   conv=>whnf
   repeat(refine ah (ax _ _) ?_<;>(conv=>whnf))
   repeat(any_goals(first|exact ab|(refine ap ?_ ?_<;>intro _<;>first|exact aq|conv=>whnf)|((first|refine ae hx rfl ?_|refine ae hf (by show xa=_;omega) ?_|refine aa hidx ?_|refine aa hitp ?_|refine aa hlp ?_|refine aa hitr ?_|refine aa hhd ?_|refine aa hlr ?_|refine aa hite ?_|refine aa hwa ?_|refine aa hwb ?_|refine aa hle ?_|refine ac ?_|refine bi ?_ ?_|intro _)<;>conv=>whnf)))
   refine⟨[kB,kBr],?_⟩
   conv=>whnf
   repeat(refine ah (ax _ _) ?_<;>(conv=>whnf))
   refine⟨_,_,hw3,?_⟩
   conv=>whnf
   repeat(refine ah (ax _ _) ?_<;>(conv=>whnf))
   repeat(any_goals(first|exact ab|(refine ap ?_ ?_<;>intro _<;>first|exact aq|conv=>whnf)|((first|refine ae hx rfl ?_|refine ae hf (by show xa=_;omega) ?_|refine aa hidx ?_|refine aa hitp ?_|refine aa hlp ?_|refine aa hitr ?_|refine aa hhd ?_|refine aa hlr ?_|refine aa hite ?_|refine aa hwa ?_|refine aa hwb ?_|refine aa hle ?_|refine ac ?_|refine bi ?_ ?_|intro _)<;>conv=>whnf)))
   (refine⟨⟨i+1,.used (g+1+1+1) (t++A++B++E)⟩,⟨by show i+1≤_;omega,(fun h=>by cases h),fun _=>⟨_,congrArg (BSt.used _) hT.symm⟩⟩,(by show _-(i+1)<_-i;omega),?_⟩;(conv=>whnf);refine⟨?_,?_,?_⟩<;>repeat(first|exact trivial|refine sc rfl ?_|refine kn ?_|refine kc rfl ?_|refine sc (by rfl) ?_|refine kc (by rfl) ?_))
end Go.Proofs.YtgncapdjheghfaaGreatDoor
namespace Go.Proofs.YtgncapdjheghfaaGreatDoor
open Go.Am Go.Proofs Go
set_option maxHeartbeats 8000000 in
theorem Jh(s:Bill)(hg:s.Good)(c:List Ent)(hc:∀x∈c,s.OkE x)(h6:c.length≤6)(l:List Nat)(hll:l.length≤6)(i:Nat)(R:Press)(hR:R.pages=bz l)(M:cj)(xa xb:Int)(hx:c[i]?=some ⟨1,xa,xb⟩)(g:Nat) :
  uK s c l R M i (.used g (s.textTo c l i)):=by
 have hi:i<c.length:=(List.getElem?_eq_some_iff.1 hx).1
 have hok:=hc _ (List.mem_of_getElem? hx)
 obtain⟨f,hf,hn,hroom,hr0⟩:=jk hg hok.a
 obtain⟨f2,hf2,hn2,_⟩:=jk hg hok.b
 have hlt:=cW hg hc l i
 have hsu:=cT s c l i
 have hwa:=mX s xa f hok.a.1 hf hn
 have hwb:=mX s xb f2 hok.b.1 hf2 hn2
 obtain⟨wl,wn⟩:=df hf hn
 obtain⟨wl2,wn2⟩:=df hf2 hn2
 have hej:=fh (s:=s) (i:=i) (x:=⟨1,xa,xb⟩) wn wn2
 have hel:=jj hg hok i
 have hidx:=f9 R.pages i (by rw[hR];unfold bz;rw[List.length_map];omega)
 rw[hR,iz, ←hR]at hidx
 have hhd:=fun t=>eW s c (fun x hx=>(hc x hx).inn) h6 i hi t
 have hlw:=fun {o} ho {h} hh=>fl (s:=s) (pages:=l) hx (o:=o) ho (h:=h) hh
 have hitr:=dh f.room hr0
 have hite:=dh ((i:Int)+1) (by omega)
 have hax:=hok.a
 have hbx:=hok.b
 have hfl:(s.figs.map dS).length=s.figs.length:=List.length_map ..
 have hcl:(c.map bB).length=c.length:=List.length_map ..
 simp only at hroom hlw hax hbx hwa hwb wl wl2 wn wn2 hej hf
 rw[hroom]at hlw
 generalize aC (s.whoW xa)=W at *
 generalize aC (s.whoW xb)=W2 at *
 have hE:aM (s.entW i ⟨1,xa,xb⟩)=aM [num ((i:Int)+1),wIs,W,wOr,W2]:=by unfold aM;rw[hej];rfl
 have hle:PureA Tryz.prog 110 [.slice 1 [aG (aH (num ((i:Int)+1))),aG isB,aG (aH W),aG (aH wOr),aG (aH W2)] .no] (aG (aH (aM (s.entW i ⟨1,xa,xb⟩)))):=by
  rw[hE]
  refine cC [num ((i:Int)+1),wIs,W,wOr,W2] (by simp) (by simp) ?_
  rw[hE]at hel
  unfold aM at hel
  rw[List.length_append]at hel
  omega
 have hEn:=da (s.entW i ⟨1,xa,xb⟩)
 clear hej hE hn hn2 wl wl2 wn wn2 hf2
 generalize aM (s.entW i ⟨1,xa,xb⟩)=E at *
 have hht:=jn (s:=s) hx
 generalize s.textTo c l i=t at *
 intro Q
 cases ho:l.findIdx? (· ==i)with
 | none =>
  simp only[ho]at hidx
  have hhd:=hhd false
  rcases hht.2 with h2|h2
  ·rw[h2]at hhd
   have hlr:PureA Tryz.prog 110 [.slice 1 [aG (aH a7),aG (aH (num f.room))] .no] (aG (aH (aY f.room))):=cC [a7,num f.room] (by simp) (by simp) (by simp[aC,a7,num])
   have hrl:=dj f.room
   have hlw:=hlw (o:=none) ho (h:=2) h2
   have hT:s.textTo c l (i+1)=t++aY f.room++E:=by rw[hsu,hlw];simp[eG]
   have hw1:=aP g (t) (aY f.room) (by(try simp only[List.length_append]);omega) (by omega)
   have hw2:=aP (g+1) (t++aY f.room) (E) (by(try simp only[List.length_append]);omega) (by omega)
   clear hsu hlw h2
   generalize aY f.room=B at *
   conv=>whnf
   repeat(any_goals(first|exact ab|(refine ap ?_ ?_<;>intro _<;>first|exact aq|conv=>whnf)|((first|refine ae hx rfl ?_|refine ae hf (by show xa=_;omega) ?_|refine aa hidx ?_|refine aa hitp ?_|refine aa hlp ?_|refine aa hitr ?_|refine aa hhd ?_|refine aa hlr ?_|refine aa hite ?_|refine aa hwa ?_|refine aa hwb ?_|refine aa hle ?_|refine ac ?_|refine bi ?_ ?_|intro _)<;>conv=>whnf)))
   refine⟨[kB,kBr],?_⟩
   conv=>whnf
   repeat(refine ah (ax _ _) ?_<;>(conv=>whnf))
   refine⟨_,_,hw1,?_⟩
   conv=>whnf
   repeat(refine ah (ax _ _) ?_<;>(conv=>whnf))
   repeat(any_goals(first|exact ab|(refine ap ?_ ?_<;>intro _<;>first|exact aq|conv=>whnf)|((first|refine ae hx rfl ?_|refine ae hf (by show xa=_;omega) ?_|refine aa hidx ?_|refine aa hitp ?_|refine aa hlp ?_|refine aa hitr ?_|refine aa hhd ?_|refine aa hlr ?_|refine aa hite ?_|refine aa hwa ?_|refine aa hwb ?_|refine aa hle ?_|refine ac ?_|refine bi ?_ ?_|intro _)<;>conv=>whnf)))
   refine⟨[kB,kBr],?_⟩
   conv=>whnf
   repeat(refine ah (ax _ _) ?_<;>(conv=>whnf))
   refine⟨_,_,hw2,?_⟩
   conv=>whnf
   repeat(refine ah (ax _ _) ?_<;>(conv=>whnf))
   repeat(any_goals(first|exact ab|(refine ap ?_ ?_<;>intro _<;>first|exact aq|conv=>whnf)|((first|refine ae hx rfl ?_|refine ae hf (by show xa=_;omega) ?_|refine aa hidx ?_|refine aa hitp ?_|refine aa hlp ?_|refine aa hitr ?_|refine aa hhd ?_|refine aa hlr ?_|refine aa hite ?_|refine aa hwa ?_|refine aa hwb ?_|refine aa hle ?_|refine ac ?_|refine bi ?_ ?_|intro _)<;>conv=>whnf)))
   (refine⟨⟨i+1,.used (g+1+1) (t++B++E)⟩,⟨by show i+1≤_;omega,(fun h=>by cases h),fun _=>⟨_,congrArg (BSt.used _) hT.symm⟩⟩,(by show _-(i+1)<_-i;omega),?_⟩;(conv=>whnf);refine⟨?_,?_,?_⟩<;>repeat(first|exact trivial|refine sc rfl ?_|refine kn ?_|refine kc rfl ?_|refine sc (by rfl) ?_|refine kc (by rfl) ?_))
  ·rw[h2]at hhd
   have hlw:=hlw (o:=none) ho (h:=0) h2
   have hT:s.textTo c l (i+1)=t++E:=by rw[hsu,hlw];simp[eG]
   have hw1:=aP g (t) (E) (by(try simp only[List.length_append]);omega) (by omega)
   clear hsu hlw h2
   conv=>whnf
   repeat(any_goals(first|exact ab|(refine ap ?_ ?_<;>intro _<;>first|exact aq|conv=>whnf)|((first|refine ae hx rfl ?_|refine ae hf (by show xa=_;omega) ?_|refine aa hidx ?_|refine aa hitp ?_|refine aa hlp ?_|refine aa hitr ?_|refine aa hhd ?_|refine aa hlr ?_|refine aa hite ?_|refine aa hwa ?_|refine aa hwb ?_|refine aa hle ?_|refine ac ?_|refine bi ?_ ?_|intro _)<;>conv=>whnf)))
   refine⟨[kB,kBr],?_⟩
   conv=>whnf
   repeat(refine ah (ax _ _) ?_<;>(conv=>whnf))
   refine⟨_,_,hw1,?_⟩
   conv=>whnf
   repeat(refine ah (ax _ _) ?_<;>(conv=>whnf))
   repeat(any_goals(first|exact ab|(refine ap ?_ ?_<;>intro _<;>first|exact aq|conv=>whnf)|((first|refine ae hx rfl ?_|refine ae hf (by show xa=_;omega) ?_|refine aa hidx ?_|refine aa hitp ?_|refine aa hlp ?_|refine aa hitr ?_|refine aa hhd ?_|refine aa hlr ?_|refine aa hite ?_|refine aa hwa ?_|refine aa hwb ?_|refine aa hle ?_|refine ac ?_|refine bi ?_ ?_|intro _)<;>conv=>whnf)))
   (refine⟨⟨i+1,.used (g+1) (t++E)⟩,⟨by show i+1≤_;omega,(fun h=>by cases h),fun _=>⟨_,congrArg (BSt.used _) hT.symm⟩⟩,(by show _-(i+1)<_-i;omega),?_⟩;(conv=>whnf);refine⟨?_,?_,?_⟩<;>repeat(first|exact trivial|refine sc rfl ?_|refine kn ?_|refine kc rfl ?_|refine sc (by rfl) ?_|refine kc (by rfl) ?_))
 | some p =>
  simp only[ho]at hidx
  have hp6:=iw ho
  have hhd:=hhd true
  rcases hht.1 with h2|h2
  ·rw[h2]at hhd
   have hitp:=dh ((p:Int)+1) (by omega)
   have hlp:PureA Tryz.prog 110 [.slice 1 [aG (aH cJ),aG (aH (num ((p:Int)+1)))] .no] (aG (aH (aT p))):=cC [cJ,num ((p:Int)+1)] (by simp) (by simp) (by simp[aC,cJ,num])
   have hpl:=di p
   have hpn:aT p≠[]:=da _
   have hlr:PureA Tryz.prog 110 [.slice 1 [aG (aH a7),aG (aH (num f.room))] .no] (aG (aH (aY f.room))):=cC [a7,num f.room] (by simp) (by simp) (by simp[aC,a7,num])
   have hrl:=dj f.room
   have hlw:=hlw (o:=(some p)) ho (h:=2) h2
   have hT:s.textTo c l (i+1)=t++aT p++aY f.room++E:=by rw[hsu,hlw];simp[eG]
   have hw1:=aP g (t) (aT p) (by(try simp only[List.length_append]);omega) (by omega)
   have hw2:=aP (g+1) (t++aT p) (aY f.room) (by(try simp only[List.length_append]);omega) (by omega)
   have hw3:=aP (g+2) (t++aT p++aY f.room) (E) (by(try simp only[List.length_append]);omega) (by omega)
   clear hsu hlw h2
   generalize aT p=A at *
   generalize aY f.room=B at *
   conv=>whnf
   repeat(any_goals(first|exact ab|(refine ap ?_ ?_<;>intro _<;>first|exact aq|conv=>whnf)|((first|refine ae hx rfl ?_|refine ae hf (by show xa=_;omega) ?_|refine aa hidx ?_|refine aa hitp ?_|refine aa hlp ?_|refine aa hitr ?_|refine aa hhd ?_|refine aa hlr ?_|refine aa hite ?_|refine aa hwa ?_|refine aa hwb ?_|refine aa hle ?_|refine ac ?_|refine bi ?_ ?_|intro _)<;>conv=>whnf)))
   refine⟨[kB,kBr],?_⟩
   conv=>whnf
   repeat(refine ah (ax _ _) ?_<;>(conv=>whnf))
   refine⟨_,_,hw1,?_⟩
   conv=>whnf
   repeat(refine ah (ax _ _) ?_<;>(conv=>whnf))
   repeat(any_goals(first|exact ab|(refine ap ?_ ?_<;>intro _<;>first|exact aq|conv=>whnf)|((first|refine ae hx rfl ?_|refine ae hf (by show xa=_;omega) ?_|refine aa hidx ?_|refine aa hitp ?_|refine aa hlp ?_|refine aa hitr ?_|refine aa hhd ?_|refine aa hlr ?_|refine aa hite ?_|refine aa hwa ?_|refine aa hwb ?_|refine aa hle ?_|refine ac ?_|refine bi ?_ ?_|intro _)<;>conv=>whnf)))
   refine⟨[kB,kBr],?_⟩
   conv=>whnf
   repeat(refine ah (ax _ _) ?_<;>(conv=>whnf))
   refine⟨_,_,hw2,?_⟩
   conv=>whnf
   repeat(refine ah (ax _ _) ?_<;>(conv=>whnf))
   repeat(any_goals(first|exact ab|(refine ap ?_ ?_<;>intro _<;>first|exact aq|conv=>whnf)|((first|refine ae hx rfl ?_|refine ae hf (by show xa=_;omega) ?_|refine aa hidx ?_|refine aa hitp ?_|refine aa hlp ?_|refine aa hitr ?_|refine aa hhd ?_|refine aa hlr ?_|refine aa hite ?_|refine aa hwa ?_|refine aa hwb ?_|refine aa hle ?_|refine ac ?_|refine bi ?_ ?_|intro _)<;>conv=>whnf)))
   refine⟨[kB,kBr],?_⟩
   conv=>whnf
   repeat(refine ah (ax _ _) ?_<;>(conv=>whnf))
   refine⟨_,_,hw3,?_⟩
   conv=>whnf
   repeat(refine ah (ax _ _) ?_<;>(conv=>whnf))
   repeat(any_goals(first|exact ab|(refine ap ?_ ?_<;>intro _<;>first|exact aq|conv=>whnf)|((first|refine ae hx rfl ?_|refine ae hf (by show xa=_;omega) ?_|refine aa hidx ?_|refine aa hitp ?_|refine aa hlp ?_|refine aa hitr ?_|refine aa hhd ?_|refine aa hlr ?_|refine aa hite ?_|refine aa hwa ?_|refine aa hwb ?_|refine aa hle ?_|refine ac ?_|refine bi ?_ ?_|intro _)<;>conv=>whnf)))
   (refine⟨⟨i+1,.used (g+1+1+1) (t++A++B++E)⟩,⟨by show i+1≤_;omega,(fun h=>by cases h),fun _=>⟨_,congrArg (BSt.used _) hT.symm⟩⟩,(by show _-(i+1)<_-i;omega),?_⟩;(conv=>whnf);refine⟨?_,?_,?_⟩<;>repeat(first|exact trivial|refine sc rfl ?_|refine kn ?_|refine kc rfl ?_|refine sc (by rfl) ?_|refine kc (by rfl) ?_))
  ·rw[h2]at hhd
   have hitp:=dh ((p:Int)+1) (by omega)
   have hlp:PureA Tryz.prog 110 [.slice 1 [aG (aH cJ),aG (aH (num ((p:Int)+1)))] .no] (aG (aH (aT p))):=cC [cJ,num ((p:Int)+1)] (by simp) (by simp) (by simp[aC,cJ,num])
   have hpl:=di p
   have hpn:aT p≠[]:=da _
   have hlr:PureA Tryz.prog 110 [.slice 1 [aG (aH a7),aG (aH (num f.room)),aG (aH cY)] .no] (aG (aH (cq f.room))):=cC [a7,num f.room,cY] (by simp) (by simp) (by simp[aC,a7,num,cY])
   have hrl:=jT f.room
   have hlw:=hlw (o:=(some p)) ho (h:=1) h2
   have hT:s.textTo c l (i+1)=t++aT p++cq f.room++E:=by rw[hsu,hlw];simp[eG]
   have hw1:=aP g (t) (aT p) (by(try simp only[List.length_append]);omega) (by omega)
   have hw2:=aP (g+1) (t++aT p) (cq f.room) (by(try simp only[List.length_append]);omega) (by omega)
   have hw3:=aP (g+2) (t++aT p++cq f.room) (E) (by(try simp only[List.length_append]);omega) (by omega)
   clear hsu hlw h2
   generalize aT p=A at *
   generalize cq f.room=B at *
   conv=>whnf
   repeat(any_goals(first|exact ab|(refine ap ?_ ?_<;>intro _<;>first|exact aq|conv=>whnf)|((first|refine ae hx rfl ?_|refine ae hf (by show xa=_;omega) ?_|refine aa hidx ?_|refine aa hitp ?_|refine aa hlp ?_|refine aa hitr ?_|refine aa hhd ?_|refine aa hlr ?_|refine aa hite ?_|refine aa hwa ?_|refine aa hwb ?_|refine aa hle ?_|refine ac ?_|refine bi ?_ ?_|intro _)<;>conv=>whnf)))
   refine⟨[kB,kBr],?_⟩
   conv=>whnf
   repeat(refine ah (ax _ _) ?_<;>(conv=>whnf))
   refine⟨_,_,hw1,?_⟩
   conv=>whnf
   repeat(refine ah (ax _ _) ?_<;>(conv=>whnf))
   repeat(any_goals(first|exact ab|(refine ap ?_ ?_<;>intro _<;>first|exact aq|conv=>whnf)|((first|refine ae hx rfl ?_|refine ae hf (by show xa=_;omega) ?_|refine aa hidx ?_|refine aa hitp ?_|refine aa hlp ?_|refine aa hitr ?_|refine aa hhd ?_|refine aa hlr ?_|refine aa hite ?_|refine aa hwa ?_|refine aa hwb ?_|refine aa hle ?_|refine ac ?_|refine bi ?_ ?_|intro _)<;>conv=>whnf)))
   refine⟨[kB,kBr],?_⟩
   conv=>whnf
   repeat(refine ah (ax _ _) ?_<;>(conv=>whnf))
   refine⟨_,_,hw2,?_⟩
   conv=>whnf
   repeat(refine ah (ax _ _) ?_<;>(conv=>whnf))
   repeat(any_goals(first|exact ab|(refine ap ?_ ?_<;>intro _<;>first|exact aq|conv=>whnf)|((first|refine ae hx rfl ?_|refine ae hf (by show xa=_;omega) ?_|refine aa hidx ?_|refine aa hitp ?_|refine aa hlp ?_|refine aa hitr ?_|refine aa hhd ?_|refine aa hlr ?_|refine aa hite ?_|refine aa hwa ?_|refine aa hwb ?_|refine aa hle ?_|refine ac ?_|refine bi ?_ ?_|intro _)<;>conv=>whnf)))
   refine⟨[kB,kBr],?_⟩
   conv=>whnf
   repeat(refine ah (ax _ _) ?_<;>(conv=>whnf))
   refine⟨_,_,hw3,?_⟩
   conv=>whnf
   repeat(refine ah (ax _ _) ?_<;>(conv=>whnf))
   repeat(any_goals(first|exact ab|(refine ap ?_ ?_<;>intro _<;>first|exact aq|conv=>whnf)|((first|refine ae hx rfl ?_|refine ae hf (by show xa=_;omega) ?_|refine aa hidx ?_|refine aa hitp ?_|refine aa hlp ?_|refine aa hitr ?_|refine aa hhd ?_|refine aa hlr ?_|refine aa hite ?_|refine aa hwa ?_|refine aa hwb ?_|refine aa hle ?_|refine ac ?_|refine bi ?_ ?_|intro _)<;>conv=>whnf)))
   (refine⟨⟨i+1,.used (g+1+1+1) (t++A++B++E)⟩,⟨by show i+1≤_;omega,(fun h=>by cases h),fun _=>⟨_,congrArg (BSt.used _) hT.symm⟩⟩,(by show _-(i+1)<_-i;omega),?_⟩;(conv=>whnf);refine⟨?_,?_,?_⟩<;>repeat(first|exact trivial|refine sc rfl ?_|refine kn ?_|refine kc rfl ?_|refine sc (by rfl) ?_|refine kc (by rfl) ?_))
end Go.Proofs.YtgncapdjheghfaaGreatDoor
namespace Go.Proofs.YtgncapdjheghfaaGreatDoor
open Go.Am Go.Proofs Go
set_option maxHeartbeats 8000000 in
theorem Jj(s:Bill)(hg:s.Good)(c:List Ent)(hc:∀x∈c,s.OkE x)(h6:c.length≤6)(l:List Nat)(hll:l.length≤6)(i:Nat)(R:Press)(hR:R.pages=bz l)(M:cj)(xa xb:Int)(hx:c[i]?=some ⟨2,xa,xb⟩)(g:Nat) :
  uK s c l R M i (.used g (s.textTo c l i)):=by
 have hi:i<c.length:=(List.getElem?_eq_some_iff.1 hx).1
 have hok:=hc _ (List.mem_of_getElem? hx)
 obtain⟨f,hf,hn,hroom,hr0⟩:=jk hg hok.a
 obtain⟨f2,hf2,hn2,_⟩:=jk hg hok.b
 have hlt:=cW hg hc l i
 have hsu:=cT s c l i
 have hwa:=mX s xa f hok.a.1 hf hn
 have hwb:=mX s xb f2 hok.b.1 hf2 hn2
 obtain⟨wl,wn⟩:=df hf hn
 obtain⟨wl2,wn2⟩:=df hf2 hn2
 have hej:=fh (s:=s) (i:=i) (x:=⟨2,xa,xb⟩) wn wn2
 have hel:=jj hg hok i
 have hidx:=f9 R.pages i (by rw[hR];unfold bz;rw[List.length_map];omega)
 rw[hR,iz, ←hR]at hidx
 have hhd:=fun t=>eW s c (fun x hx=>(hc x hx).inn) h6 i hi t
 have hlw:=fun {o} ho {h} hh=>fl (s:=s) (pages:=l) hx (o:=o) ho (h:=h) hh
 have hitr:=dh f.room hr0
 have hite:=dh ((i:Int)+1) (by omega)
 have hax:=hok.a
 have hbx:=hok.b
 have hfl:(s.figs.map dS).length=s.figs.length:=List.length_map ..
 have hcl:(c.map bB).length=c.length:=List.length_map ..
 simp only at hroom hlw hax hbx hwa hwb wl wl2 wn wn2 hej hf
 rw[hroom]at hlw
 generalize aC (s.whoW xa)=W at *
 generalize aC (s.whoW xb)=W2 at *
 have hE:aM (s.entW i ⟨2,xa,xb⟩)=aM [num ((i:Int)+1),aC [Ag,wBe],W]:=by unfold aM;rw[hej];rfl
 have hle:PureA Tryz.prog 110 [.slice 1 [aG (aH (num ((i:Int)+1))),aG LE,aG (aH W)] .no] (aG (aH (aM (s.entW i ⟨2,xa,xb⟩)))):=by
  rw[hE]
  refine cC [num ((i:Int)+1),aC [Ag,wBe],W] (by simp) (by simp) ?_
  rw[hE]at hel
  unfold aM at hel
  rw[List.length_append]at hel
  omega
 have hEn:=da (s.entW i ⟨2,xa,xb⟩)
 clear hej hE hn hn2 wl wl2 wn wn2 hf2
 generalize aM (s.entW i ⟨2,xa,xb⟩)=E at *
 have hht:=jn (s:=s) hx
 generalize s.textTo c l i=t at *
 intro Q
 cases ho:l.findIdx? (· ==i)with
 | none =>
  simp only[ho]at hidx
  have hhd:=hhd false
  rcases hht.2 with h2|h2
  ·rw[h2]at hhd
   have hlr:PureA Tryz.prog 110 [.slice 1 [aG (aH a7),aG (aH (num f.room))] .no] (aG (aH (aY f.room))):=cC [a7,num f.room] (by simp) (by simp) (by simp[aC,a7,num])
   have hrl:=dj f.room
   have hlw:=hlw (o:=none) ho (h:=2) h2
   have hT:s.textTo c l (i+1)=t++aY f.room++E:=by rw[hsu,hlw];simp[eG]
   have hw1:=aP g (t) (aY f.room) (by(try simp only[List.length_append]);omega) (by omega)
   have hw2:=aP (g+1) (t++aY f.room) (E) (by(try simp only[List.length_append]);omega) (by omega)
   clear hsu hlw h2
   generalize aY f.room=B at *
   conv=>whnf
   repeat(any_goals(first|exact ab|(refine ap ?_ ?_<;>intro _<;>first|exact aq|conv=>whnf)|((first|refine ae hx rfl ?_|refine ae hf (by show xa=_;omega) ?_|refine aa hidx ?_|refine aa hitp ?_|refine aa hlp ?_|refine aa hitr ?_|refine aa hhd ?_|refine aa hlr ?_|refine aa hite ?_|refine aa hwa ?_|refine aa hwb ?_|refine aa hle ?_|refine ac ?_|refine bi ?_ ?_|intro _)<;>conv=>whnf)))
   refine⟨[kB,kBr],?_⟩
   conv=>whnf
   repeat(refine ah (ax _ _) ?_<;>(conv=>whnf))
   refine⟨_,_,hw1,?_⟩
   conv=>whnf
   repeat(refine ah (ax _ _) ?_<;>(conv=>whnf))
   repeat(any_goals(first|exact ab|(refine ap ?_ ?_<;>intro _<;>first|exact aq|conv=>whnf)|((first|refine ae hx rfl ?_|refine ae hf (by show xa=_;omega) ?_|refine aa hidx ?_|refine aa hitp ?_|refine aa hlp ?_|refine aa hitr ?_|refine aa hhd ?_|refine aa hlr ?_|refine aa hite ?_|refine aa hwa ?_|refine aa hwb ?_|refine aa hle ?_|refine ac ?_|refine bi ?_ ?_|intro _)<;>conv=>whnf)))
   refine⟨[kB,kBr],?_⟩
   conv=>whnf
   repeat(refine ah (ax _ _) ?_<;>(conv=>whnf))
   refine⟨_,_,hw2,?_⟩
   conv=>whnf
   repeat(refine ah (ax _ _) ?_<;>(conv=>whnf))
   repeat(any_goals(first|exact ab|(refine ap ?_ ?_<;>intro _<;>first|exact aq|conv=>whnf)|((first|refine ae hx rfl ?_|refine ae hf (by show xa=_;omega) ?_|refine aa hidx ?_|refine aa hitp ?_|refine aa hlp ?_|refine aa hitr ?_|refine aa hhd ?_|refine aa hlr ?_|refine aa hite ?_|refine aa hwa ?_|refine aa hwb ?_|refine aa hle ?_|refine ac ?_|refine bi ?_ ?_|intro _)<;>conv=>whnf)))
   (refine⟨⟨i+1,.used (g+1+1) (t++B++E)⟩,⟨by show i+1≤_;omega,(fun h=>by cases h),fun _=>⟨_,congrArg (BSt.used _) hT.symm⟩⟩,(by show _-(i+1)<_-i;omega),?_⟩;(conv=>whnf);refine⟨?_,?_,?_⟩<;>repeat(first|exact trivial|refine sc rfl ?_|refine kn ?_|refine kc rfl ?_|refine sc (by rfl) ?_|refine kc (by rfl) ?_))
  ·rw[h2]at hhd
   have hlw:=hlw (o:=none) ho (h:=0) h2
   have hT:s.textTo c l (i+1)=t++E:=by rw[hsu,hlw];simp[eG]
   have hw1:=aP g (t) (E) (by(try simp only[List.length_append]);omega) (by omega)
   clear hsu hlw h2
   conv=>whnf
   repeat(any_goals(first|exact ab|(refine ap ?_ ?_<;>intro _<;>first|exact aq|conv=>whnf)|((first|refine ae hx rfl ?_|refine ae hf (by show xa=_;omega) ?_|refine aa hidx ?_|refine aa hitp ?_|refine aa hlp ?_|refine aa hitr ?_|refine aa hhd ?_|refine aa hlr ?_|refine aa hite ?_|refine aa hwa ?_|refine aa hwb ?_|refine aa hle ?_|refine ac ?_|refine bi ?_ ?_|intro _)<;>conv=>whnf)))
   refine⟨[kB,kBr],?_⟩
   conv=>whnf
   repeat(refine ah (ax _ _) ?_<;>(conv=>whnf))
   refine⟨_,_,hw1,?_⟩
   conv=>whnf
   repeat(refine ah (ax _ _) ?_<;>(conv=>whnf))
   repeat(any_goals(first|exact ab|(refine ap ?_ ?_<;>intro _<;>first|exact aq|conv=>whnf)|((first|refine ae hx rfl ?_|refine ae hf (by show xa=_;omega) ?_|refine aa hidx ?_|refine aa hitp ?_|refine aa hlp ?_|refine aa hitr ?_|refine aa hhd ?_|refine aa hlr ?_|refine aa hite ?_|refine aa hwa ?_|refine aa hwb ?_|refine aa hle ?_|refine ac ?_|refine bi ?_ ?_|intro _)<;>conv=>whnf)))
   (refine⟨⟨i+1,.used (g+1) (t++E)⟩,⟨by show i+1≤_;omega,(fun h=>by cases h),fun _=>⟨_,congrArg (BSt.used _) hT.symm⟩⟩,(by show _-(i+1)<_-i;omega),?_⟩;(conv=>whnf);refine⟨?_,?_,?_⟩<;>repeat(first|exact trivial|refine sc rfl ?_|refine kn ?_|refine kc rfl ?_|refine sc (by rfl) ?_|refine kc (by rfl) ?_))
 | some p =>
  simp only[ho]at hidx
  have hp6:=iw ho
  have hhd:=hhd true
  rcases hht.1 with h2|h2
  ·rw[h2]at hhd
   have hitp:=dh ((p:Int)+1) (by omega)
   have hlp:PureA Tryz.prog 110 [.slice 1 [aG (aH cJ),aG (aH (num ((p:Int)+1)))] .no] (aG (aH (aT p))):=cC [cJ,num ((p:Int)+1)] (by simp) (by simp) (by simp[aC,cJ,num])
   have hpl:=di p
   have hpn:aT p≠[]:=da _
   have hlr:PureA Tryz.prog 110 [.slice 1 [aG (aH a7),aG (aH (num f.room))] .no] (aG (aH (aY f.room))):=cC [a7,num f.room] (by simp) (by simp) (by simp[aC,a7,num])
   have hrl:=dj f.room
   have hlw:=hlw (o:=(some p)) ho (h:=2) h2
   have hT:s.textTo c l (i+1)=t++aT p++aY f.room++E:=by rw[hsu,hlw];simp[eG]
   have hw1:=aP g (t) (aT p) (by(try simp only[List.length_append]);omega) (by omega)
   have hw2:=aP (g+1) (t++aT p) (aY f.room) (by(try simp only[List.length_append]);omega) (by omega)
   have hw3:=aP (g+2) (t++aT p++aY f.room) (E) (by(try simp only[List.length_append]);omega) (by omega)
   clear hsu hlw h2
   generalize aT p=A at *
   generalize aY f.room=B at *
   conv=>whnf
   repeat(any_goals(first|exact ab|(refine ap ?_ ?_<;>intro _<;>first|exact aq|conv=>whnf)|((first|refine ae hx rfl ?_|refine ae hf (by show xa=_;omega) ?_|refine aa hidx ?_|refine aa hitp ?_|refine aa hlp ?_|refine aa hitr ?_|refine aa hhd ?_|refine aa hlr ?_|refine aa hite ?_|refine aa hwa ?_|refine aa hwb ?_|refine aa hle ?_|refine ac ?_|refine bi ?_ ?_|intro _)<;>conv=>whnf)))
   refine⟨[kB,kBr],?_⟩
   conv=>whnf
   repeat(refine ah (ax _ _) ?_<;>(conv=>whnf))
   refine⟨_,_,hw1,?_⟩
   conv=>whnf
   repeat(refine ah (ax _ _) ?_<;>(conv=>whnf))
   repeat(any_goals(first|exact ab|(refine ap ?_ ?_<;>intro _<;>first|exact aq|conv=>whnf)|((first|refine ae hx rfl ?_|refine ae hf (by show xa=_;omega) ?_|refine aa hidx ?_|refine aa hitp ?_|refine aa hlp ?_|refine aa hitr ?_|refine aa hhd ?_|refine aa hlr ?_|refine aa hite ?_|refine aa hwa ?_|refine aa hwb ?_|refine aa hle ?_|refine ac ?_|refine bi ?_ ?_|intro _)<;>conv=>whnf)))
   refine⟨[kB,kBr],?_⟩
   conv=>whnf
   repeat(refine ah (ax _ _) ?_<;>(conv=>whnf))
   refine⟨_,_,hw2,?_⟩
   conv=>whnf
   repeat(refine ah (ax _ _) ?_<;>(conv=>whnf))
   repeat(any_goals(first|exact ab|(refine ap ?_ ?_<;>intro _<;>first|exact aq|conv=>whnf)|((first|refine ae hx rfl ?_|refine ae hf (by show xa=_;omega) ?_|refine aa hidx ?_|refine aa hitp ?_|refine aa hlp ?_|refine aa hitr ?_|refine aa hhd ?_|refine aa hlr ?_|refine aa hite ?_|refine aa hwa ?_|refine aa hwb ?_|refine aa hle ?_|refine ac ?_|refine bi ?_ ?_|intro _)<;>conv=>whnf)))
   refine⟨[kB,kBr],?_⟩
   conv=>whnf
   repeat(refine ah (ax _ _) ?_<;>(conv=>whnf))
   refine⟨_,_,hw3,?_⟩
   conv=>whnf
   repeat(refine ah (ax _ _) ?_<;>(conv=>whnf))
   repeat(any_goals(first|exact ab|(refine ap ?_ ?_<;>intro _<;>first|exact aq|conv=>whnf)|((first|refine ae hx rfl ?_|refine ae hf (by show xa=_;omega) ?_|refine aa hidx ?_|refine aa hitp ?_|refine aa hlp ?_|refine aa hitr ?_|refine aa hhd ?_|refine aa hlr ?_|refine aa hite ?_|refine aa hwa ?_|refine aa hwb ?_|refine aa hle ?_|refine ac ?_|refine bi ?_ ?_|intro _)<;>conv=>whnf)))
   (refine⟨⟨i+1,.used (g+1+1+1) (t++A++B++E)⟩,⟨by show i+1≤_;omega,(fun h=>by cases h),fun _=>⟨_,congrArg (BSt.used _) hT.symm⟩⟩,(by show _-(i+1)<_-i;omega),?_⟩;(conv=>whnf);refine⟨?_,?_,?_⟩<;>repeat(first|exact trivial|refine sc rfl ?_|refine kn ?_|refine kc rfl ?_|refine sc (by rfl) ?_|refine kc (by rfl) ?_))
  ·rw[h2]at hhd
   have hitp:=dh ((p:Int)+1) (by omega)
   have hlp:PureA Tryz.prog 110 [.slice 1 [aG (aH cJ),aG (aH (num ((p:Int)+1)))] .no] (aG (aH (aT p))):=cC [cJ,num ((p:Int)+1)] (by simp) (by simp) (by simp[aC,cJ,num])
   have hpl:=di p
   have hpn:aT p≠[]:=da _
   have hlr:PureA Tryz.prog 110 [.slice 1 [aG (aH a7),aG (aH (num f.room)),aG (aH cY)] .no] (aG (aH (cq f.room))):=cC [a7,num f.room,cY] (by simp) (by simp) (by simp[aC,a7,num,cY])
   have hrl:=jT f.room
   have hlw:=hlw (o:=(some p)) ho (h:=1) h2
   have hT:s.textTo c l (i+1)=t++aT p++cq f.room++E:=by rw[hsu,hlw];simp[eG]
   have hw1:=aP g (t) (aT p) (by(try simp only[List.length_append]);omega) (by omega)
   have hw2:=aP (g+1) (t++aT p) (cq f.room) (by(try simp only[List.length_append]);omega) (by omega)
   have hw3:=aP (g+2) (t++aT p++cq f.room) (E) (by(try simp only[List.length_append]);omega) (by omega)
   clear hsu hlw h2
   generalize aT p=A at *
   generalize cq f.room=B at *
   conv=>whnf
   repeat(any_goals(first|exact ab|(refine ap ?_ ?_<;>intro _<;>first|exact aq|conv=>whnf)|((first|refine ae hx rfl ?_|refine ae hf (by show xa=_;omega) ?_|refine aa hidx ?_|refine aa hitp ?_|refine aa hlp ?_|refine aa hitr ?_|refine aa hhd ?_|refine aa hlr ?_|refine aa hite ?_|refine aa hwa ?_|refine aa hwb ?_|refine aa hle ?_|refine ac ?_|refine bi ?_ ?_|intro _)<;>conv=>whnf)))
   refine⟨[kB,kBr],?_⟩
   conv=>whnf
   repeat(refine ah (ax _ _) ?_<;>(conv=>whnf))
   refine⟨_,_,hw1,?_⟩
   conv=>whnf
   repeat(refine ah (ax _ _) ?_<;>(conv=>whnf))
   repeat(any_goals(first|exact ab|(refine ap ?_ ?_<;>intro _<;>first|exact aq|conv=>whnf)|((first|refine ae hx rfl ?_|refine ae hf (by show xa=_;omega) ?_|refine aa hidx ?_|refine aa hitp ?_|refine aa hlp ?_|refine aa hitr ?_|refine aa hhd ?_|refine aa hlr ?_|refine aa hite ?_|refine aa hwa ?_|refine aa hwb ?_|refine aa hle ?_|refine ac ?_|refine bi ?_ ?_|intro _)<;>conv=>whnf)))
   refine⟨[kB,kBr],?_⟩
   conv=>whnf
   repeat(refine ah (ax _ _) ?_<;>(conv=>whnf))
   refine⟨_,_,hw2,?_⟩
   conv=>whnf
   repeat(refine ah (ax _ _) ?_<;>(conv=>whnf))
   repeat(any_goals(first|exact ab|(refine ap ?_ ?_<;>intro _<;>first|exact aq|conv=>whnf)|((first|refine ae hx rfl ?_|refine ae hf (by show xa=_;omega) ?_|refine aa hidx ?_|refine aa hitp ?_|refine aa hlp ?_|refine aa hitr ?_|refine aa hhd ?_|refine aa hlr ?_|refine aa hite ?_|refine aa hwa ?_|refine aa hwb ?_|refine aa hle ?_|refine ac ?_|refine bi ?_ ?_|intro _)<;>conv=>whnf)))
   refine⟨[kB,kBr],?_⟩
   conv=>whnf
   repeat(refine ah (ax _ _) ?_<;>(conv=>whnf))
   refine⟨_,_,hw3,?_⟩
   conv=>whnf
   repeat(refine ah (ax _ _) ?_<;>(conv=>whnf))
   repeat(any_goals(first|exact ab|(refine ap ?_ ?_<;>intro _<;>first|exact aq|conv=>whnf)|((first|refine ae hx rfl ?_|refine ae hf (by show xa=_;omega) ?_|refine aa hidx ?_|refine aa hitp ?_|refine aa hlp ?_|refine aa hitr ?_|refine aa hhd ?_|refine aa hlr ?_|refine aa hite ?_|refine aa hwa ?_|refine aa hwb ?_|refine aa hle ?_|refine ac ?_|refine bi ?_ ?_|intro _)<;>conv=>whnf)))
   (refine⟨⟨i+1,.used (g+1+1+1) (t++A++B++E)⟩,⟨by show i+1≤_;omega,(fun h=>by cases h),fun _=>⟨_,congrArg (BSt.used _) hT.symm⟩⟩,(by show _-(i+1)<_-i;omega),?_⟩;(conv=>whnf);refine⟨?_,?_,?_⟩<;>repeat(first|exact trivial|refine sc rfl ?_|refine kn ?_|refine kc rfl ?_|refine sc (by rfl) ?_|refine kc (by rfl) ?_))
end Go.Proofs.YtgncapdjheghfaaGreatDoor
namespace Go.Proofs.YtgncapdjheghfaaGreatDoor
open Go.Am Go.Proofs Go
set_option maxHeartbeats 8000000 in
theorem Je(s:Bill)(hg:s.Good)(c:List Ent)(hc:∀x∈c,s.OkE x)(h6:c.length≤6)(l:List Nat)(hll:l.length≤6)(i:Nat)(hi0:i=0)(hl0:l.findIdx? (· ==i)=some 0)(R:Press)(hR:R.pages=bz l)(M:cj)(xa xb:Int)(hx:c[i]?=some ⟨0,xa,xb⟩) :
  uK s c l R M i .fresh:=by
 have hi:i<c.length:=(List.getElem?_eq_some_iff.1 hx).1
 have hok:=hc _ (List.mem_of_getElem? hx)
 obtain⟨f,hf,hn,hroom,hr0⟩:=jk hg hok.a
 obtain⟨f2,hf2,hn2,_⟩:=jk hg hok.b
 have hlt:=cW hg hc l i
 have hsu:=cT s c l i
 have hwa:=mX s xa f hok.a.1 hf hn
 have hwb:=mX s xb f2 hok.b.1 hf2 hn2
 obtain⟨wl,wn⟩:=df hf hn
 obtain⟨wl2,wn2⟩:=df hf2 hn2
 have hej:=fh (s:=s) (i:=i) (x:=⟨0,xa,xb⟩) wn wn2
 have hel:=jj hg hok i
 have hidx:=f9 R.pages i (by rw[hR];unfold bz;rw[List.length_map];omega)
 rw[hR,iz, ←hR]at hidx
 have hhd:=fun t=>eW s c (fun x hx=>(hc x hx).inn) h6 i hi t
 have hlw:=fun {o} ho {h} hh=>fl (s:=s) (pages:=l) hx (o:=o) ho (h:=h) hh
 have hitr:=dh f.room hr0
 have hite:=dh ((i:Int)+1) (by omega)
 have hax:=hok.a
 have hbx:=hok.b
 have hfl:(s.figs.map dS).length=s.figs.length:=List.length_map ..
 have hcl:(c.map bB).length=c.length:=List.length_map ..
 simp only at hroom hlw hax hbx hwa hwb wl wl2 wn wn2 hej hf
 rw[hroom]at hlw
 generalize aC (s.whoW xa)=W at *
 generalize aC (s.whoW xb)=W2 at *
 have hE:aM (s.entW i ⟨0,xa,xb⟩)=aM [num ((i:Int)+1),wIs,W]:=by unfold aM;rw[hej];rfl
 have hle:PureA Tryz.prog 110 [.slice 1 [aG (aH (num ((i:Int)+1))),aG isB,aG (aH W)] .no] (aG (aH (aM (s.entW i ⟨0,xa,xb⟩)))):=by
  rw[hE]
  refine cC [num ((i:Int)+1),wIs,W] (by simp) (by simp) ?_
  rw[hE]at hel
  unfold aM at hel
  rw[List.length_append]at hel
  omega
 have hEn:=da (s.entW i ⟨0,xa,xb⟩)
 clear hej hE hn hn2 wl wl2 wn wn2 hf2
 generalize aM (s.entW i ⟨0,xa,xb⟩)=E at *
 obtain⟨p,hp⟩:∃p:Nat,p=0:=⟨_,rfl⟩
 have ho:l.findIdx? (· ==i)=some p:=by rw[hp];exact hl0
 simp only[ho]at hidx
 have hhd:=hhd true
 have h2:s.heading c i true=2:=by subst hi0;exact f8 hx true
 rw[h2]at hhd
 have ht0:s.textTo c l i=[]:=by rw[hi0];rfl
 rw[ht0,List.nil_append]at hsu
 intro Q
 have hitp:=dh ((p:Int)+1) (by omega)
 have hlp:PureA Tryz.prog 110 [.slice 1 [aG (aH cJ),aG (aH (num ((p:Int)+1)))] .no] (aG (aH (aT p))):=cC [cJ,num ((p:Int)+1)] (by simp) (by simp) (by simp[aC,cJ,num])
 have hpl:=di p
 have hpn:aT p≠[]:=da _
 have hlr:PureA Tryz.prog 110 [.slice 1 [aG (aH a7),aG (aH (num f.room))] .no] (aG (aH (aY f.room))):=cC [a7,num f.room] (by simp) (by simp) (by simp[aC,a7,num])
 have hrl:=dj f.room
 have hlw:=hlw (o:=(some p)) ho (h:=2) h2
 have hT:s.textTo c l (i+1)=aT p++aY f.room++E:=by rw[hsu,hlw];simp[eG]
 have hw1:=r5 (aT p) hpn (by omega)
 have hw2:=aP 1 (aT p) (aY f.room) (by(try simp only[List.length_append]);omega) (by omega)
 have hw3:=aP 2 (aT p++aY f.room) (E) (by(try simp only[List.length_append]);omega) (by omega)
 clear hsu hlw h2
 generalize aT p=A at *
 generalize aY f.room=B at *
 conv=>whnf
 repeat(any_goals(first|exact ab|(refine ap ?_ ?_<;>intro _<;>first|exact aq|conv=>whnf)|((first|refine ae hx rfl ?_|refine ae hf (by show xa=_;omega) ?_|refine aa hidx ?_|refine aa hitp ?_|refine aa hlp ?_|refine aa hitr ?_|refine aa hhd ?_|refine aa hlr ?_|refine aa hite ?_|refine aa hwa ?_|refine aa hwb ?_|refine aa hle ?_|refine ac ?_|refine bi ?_ ?_|intro _)<;>conv=>whnf)))
 refine⟨[kB],?_⟩
 conv=>whnf
 refine⟨_,_,hw1,?_⟩
 refine(?_:za _ _)
 refine Cf rfl ?_
 refine(?_:okP _ _)
 refine kg rfl ?_
 refine(?_:jL _ _)
 refine ah rfl ?_
 refine(?_:jL _ _)
 refine ah rfl ?_
 refine(?_:jL _ _)
 refine ah (ax _ _) ?_
 conv=>whnf
 repeat(any_goals(first|exact ab|(refine ap ?_ ?_<;>intro _<;>first|exact aq|conv=>whnf)|((first|refine ae hx rfl ?_|refine ae hf (by show xa=_;omega) ?_|refine aa hidx ?_|refine aa hitp ?_|refine aa hlp ?_|refine aa hitr ?_|refine aa hhd ?_|refine aa hlr ?_|refine aa hite ?_|refine aa hwa ?_|refine aa hwb ?_|refine aa hle ?_|refine ac ?_|refine bi ?_ ?_|intro _)<;>conv=>whnf)))
 refine⟨[kB,kBr],?_⟩
 conv=>whnf
 repeat(refine ah (ax _ _) ?_<;>(conv=>whnf))
 refine⟨_,_,hw2,?_⟩
 conv=>whnf
 repeat(refine ah (ax _ _) ?_<;>(conv=>whnf))
 repeat(any_goals(first|exact ab|(refine ap ?_ ?_<;>intro _<;>first|exact aq|conv=>whnf)|((first|refine ae hx rfl ?_|refine ae hf (by show xa=_;omega) ?_|refine aa hidx ?_|refine aa hitp ?_|refine aa hlp ?_|refine aa hitr ?_|refine aa hhd ?_|refine aa hlr ?_|refine aa hite ?_|refine aa hwa ?_|refine aa hwb ?_|refine aa hle ?_|refine ac ?_|refine bi ?_ ?_|intro _)<;>conv=>whnf)))
 refine⟨[kB,kBr],?_⟩
 conv=>whnf
 repeat(refine ah (ax _ _) ?_<;>(conv=>whnf))
 refine⟨_,_,hw3,?_⟩
 conv=>whnf
 repeat(refine ah (ax _ _) ?_<;>(conv=>whnf))
 repeat(any_goals(first|exact ab|(refine ap ?_ ?_<;>intro _<;>first|exact aq|conv=>whnf)|((first|refine ae hx rfl ?_|refine ae hf (by show xa=_;omega) ?_|refine aa hidx ?_|refine aa hitp ?_|refine aa hlp ?_|refine aa hitr ?_|refine aa hhd ?_|refine aa hlr ?_|refine aa hite ?_|refine aa hwa ?_|refine aa hwb ?_|refine aa hle ?_|refine ac ?_|refine bi ?_ ?_|intro _)<;>conv=>whnf)))
 (refine⟨⟨i+1,.used 3 (A++B++E)⟩,⟨by show i+1≤_;omega,(fun h=>by cases h),fun _=>⟨_,congrArg (BSt.used _) hT.symm⟩⟩,(by show _-(i+1)<_-i;omega),?_⟩;(conv=>whnf);refine⟨?_,?_,?_⟩<;>repeat(first|exact trivial|refine sc rfl ?_|refine kn ?_|refine kc rfl ?_|refine sc (by rfl) ?_|refine kc (by rfl) ?_))
end Go.Proofs.YtgncapdjheghfaaGreatDoor
namespace Go.Proofs.YtgncapdjheghfaaGreatDoor
open Go.Am Go.Proofs Go
set_option maxHeartbeats 8000000 in
theorem Jg(s:Bill)(hg:s.Good)(c:List Ent)(hc:∀x∈c,s.OkE x)(h6:c.length≤6)(l:List Nat)(hll:l.length≤6)(i:Nat)(hi0:i=0)(hl0:l.findIdx? (· ==i)=some 0)(R:Press)(hR:R.pages=bz l)(M:cj)(xa xb:Int)(hx:c[i]?=some ⟨1,xa,xb⟩) :
  uK s c l R M i .fresh:=by
 have hi:i<c.length:=(List.getElem?_eq_some_iff.1 hx).1
 have hok:=hc _ (List.mem_of_getElem? hx)
 obtain⟨f,hf,hn,hroom,hr0⟩:=jk hg hok.a
 obtain⟨f2,hf2,hn2,_⟩:=jk hg hok.b
 have hlt:=cW hg hc l i
 have hsu:=cT s c l i
 have hwa:=mX s xa f hok.a.1 hf hn
 have hwb:=mX s xb f2 hok.b.1 hf2 hn2
 obtain⟨wl,wn⟩:=df hf hn
 obtain⟨wl2,wn2⟩:=df hf2 hn2
 have hej:=fh (s:=s) (i:=i) (x:=⟨1,xa,xb⟩) wn wn2
 have hel:=jj hg hok i
 have hidx:=f9 R.pages i (by rw[hR];unfold bz;rw[List.length_map];omega)
 rw[hR,iz, ←hR]at hidx
 have hhd:=fun t=>eW s c (fun x hx=>(hc x hx).inn) h6 i hi t
 have hlw:=fun {o} ho {h} hh=>fl (s:=s) (pages:=l) hx (o:=o) ho (h:=h) hh
 have hitr:=dh f.room hr0
 have hite:=dh ((i:Int)+1) (by omega)
 have hax:=hok.a
 have hbx:=hok.b
 have hfl:(s.figs.map dS).length=s.figs.length:=List.length_map ..
 have hcl:(c.map bB).length=c.length:=List.length_map ..
 simp only at hroom hlw hax hbx hwa hwb wl wl2 wn wn2 hej hf
 rw[hroom]at hlw
 generalize aC (s.whoW xa)=W at *
 generalize aC (s.whoW xb)=W2 at *
 have hE:aM (s.entW i ⟨1,xa,xb⟩)=aM [num ((i:Int)+1),wIs,W,wOr,W2]:=by unfold aM;rw[hej];rfl
 have hle:PureA Tryz.prog 110 [.slice 1 [aG (aH (num ((i:Int)+1))),aG isB,aG (aH W),aG (aH wOr),aG (aH W2)] .no] (aG (aH (aM (s.entW i ⟨1,xa,xb⟩)))):=by
  rw[hE]
  refine cC [num ((i:Int)+1),wIs,W,wOr,W2] (by simp) (by simp) ?_
  rw[hE]at hel
  unfold aM at hel
  rw[List.length_append]at hel
  omega
 have hEn:=da (s.entW i ⟨1,xa,xb⟩)
 clear hej hE hn hn2 wl wl2 wn wn2 hf2
 generalize aM (s.entW i ⟨1,xa,xb⟩)=E at *
 obtain⟨p,hp⟩:∃p:Nat,p=0:=⟨_,rfl⟩
 have ho:l.findIdx? (· ==i)=some p:=by rw[hp];exact hl0
 simp only[ho]at hidx
 have hhd:=hhd true
 have h2:s.heading c i true=2:=by subst hi0;exact f8 hx true
 rw[h2]at hhd
 have ht0:s.textTo c l i=[]:=by rw[hi0];rfl
 rw[ht0,List.nil_append]at hsu
 intro Q
 have hitp:=dh ((p:Int)+1) (by omega)
 have hlp:PureA Tryz.prog 110 [.slice 1 [aG (aH cJ),aG (aH (num ((p:Int)+1)))] .no] (aG (aH (aT p))):=cC [cJ,num ((p:Int)+1)] (by simp) (by simp) (by simp[aC,cJ,num])
 have hpl:=di p
 have hpn:aT p≠[]:=da _
 have hlr:PureA Tryz.prog 110 [.slice 1 [aG (aH a7),aG (aH (num f.room))] .no] (aG (aH (aY f.room))):=cC [a7,num f.room] (by simp) (by simp) (by simp[aC,a7,num])
 have hrl:=dj f.room
 have hlw:=hlw (o:=(some p)) ho (h:=2) h2
 have hT:s.textTo c l (i+1)=aT p++aY f.room++E:=by rw[hsu,hlw];simp[eG]
 have hw1:=r5 (aT p) hpn (by omega)
 have hw2:=aP 1 (aT p) (aY f.room) (by(try simp only[List.length_append]);omega) (by omega)
 have hw3:=aP 2 (aT p++aY f.room) (E) (by(try simp only[List.length_append]);omega) (by omega)
 clear hsu hlw h2
 generalize aT p=A at *
 generalize aY f.room=B at *
 conv=>whnf
 repeat(any_goals(first|exact ab|(refine ap ?_ ?_<;>intro _<;>first|exact aq|conv=>whnf)|((first|refine ae hx rfl ?_|refine ae hf (by show xa=_;omega) ?_|refine aa hidx ?_|refine aa hitp ?_|refine aa hlp ?_|refine aa hitr ?_|refine aa hhd ?_|refine aa hlr ?_|refine aa hite ?_|refine aa hwa ?_|refine aa hwb ?_|refine aa hle ?_|refine ac ?_|refine bi ?_ ?_|intro _)<;>conv=>whnf)))
 refine⟨[kB],?_⟩
 conv=>whnf
 refine⟨_,_,hw1,?_⟩
 refine(?_:za _ _)
 refine Cf rfl ?_
 refine(?_:okP _ _)
 refine kg rfl ?_
 refine(?_:jL _ _)
 refine ah rfl ?_
 refine(?_:jL _ _)
 refine ah rfl ?_
 refine(?_:jL _ _)
 refine ah (ax _ _) ?_
 conv=>whnf
 repeat(any_goals(first|exact ab|(refine ap ?_ ?_<;>intro _<;>first|exact aq|conv=>whnf)|((first|refine ae hx rfl ?_|refine ae hf (by show xa=_;omega) ?_|refine aa hidx ?_|refine aa hitp ?_|refine aa hlp ?_|refine aa hitr ?_|refine aa hhd ?_|refine aa hlr ?_|refine aa hite ?_|refine aa hwa ?_|refine aa hwb ?_|refine aa hle ?_|refine ac ?_|refine bi ?_ ?_|intro _)<;>conv=>whnf)))
 refine⟨[kB,kBr],?_⟩
 conv=>whnf
 repeat(refine ah (ax _ _) ?_<;>(conv=>whnf))
 refine⟨_,_,hw2,?_⟩
 conv=>whnf
 repeat(refine ah (ax _ _) ?_<;>(conv=>whnf))
 repeat(any_goals(first|exact ab|(refine ap ?_ ?_<;>intro _<;>first|exact aq|conv=>whnf)|((first|refine ae hx rfl ?_|refine ae hf (by show xa=_;omega) ?_|refine aa hidx ?_|refine aa hitp ?_|refine aa hlp ?_|refine aa hitr ?_|refine aa hhd ?_|refine aa hlr ?_|refine aa hite ?_|refine aa hwa ?_|refine aa hwb ?_|refine aa hle ?_|refine ac ?_|refine bi ?_ ?_|intro _)<;>conv=>whnf)))
 refine⟨[kB,kBr],?_⟩
 conv=>whnf
 repeat(refine ah (ax _ _) ?_<;>(conv=>whnf))
 refine⟨_,_,hw3,?_⟩
 conv=>whnf
 repeat(refine ah (ax _ _) ?_<;>(conv=>whnf))
 repeat(any_goals(first|exact ab|(refine ap ?_ ?_<;>intro _<;>first|exact aq|conv=>whnf)|((first|refine ae hx rfl ?_|refine ae hf (by show xa=_;omega) ?_|refine aa hidx ?_|refine aa hitp ?_|refine aa hlp ?_|refine aa hitr ?_|refine aa hhd ?_|refine aa hlr ?_|refine aa hite ?_|refine aa hwa ?_|refine aa hwb ?_|refine aa hle ?_|refine ac ?_|refine bi ?_ ?_|intro _)<;>conv=>whnf)))
 (refine⟨⟨i+1,.used 3 (A++B++E)⟩,⟨by show i+1≤_;omega,(fun h=>by cases h),fun _=>⟨_,congrArg (BSt.used _) hT.symm⟩⟩,(by show _-(i+1)<_-i;omega),?_⟩;(conv=>whnf);refine⟨?_,?_,?_⟩<;>repeat(first|exact trivial|refine sc rfl ?_|refine kn ?_|refine kc rfl ?_|refine sc (by rfl) ?_|refine kc (by rfl) ?_))
end Go.Proofs.YtgncapdjheghfaaGreatDoor
namespace Go.Proofs.YtgncapdjheghfaaGreatDoor
open Go.Am Go.Proofs Go
set_option maxHeartbeats 8000000 in
theorem Ji(s:Bill)(hg:s.Good)(c:List Ent)(hc:∀x∈c,s.OkE x)(h6:c.length≤6)(l:List Nat)(hll:l.length≤6)(i:Nat)(hi0:i=0)(hl0:l.findIdx? (· ==i)=some 0)(R:Press)(hR:R.pages=bz l)(M:cj)(xa xb:Int)(hx:c[i]?=some ⟨2,xa,xb⟩) :
  uK s c l R M i .fresh:=by
 have hi:i<c.length:=(List.getElem?_eq_some_iff.1 hx).1
 have hok:=hc _ (List.mem_of_getElem? hx)
 obtain⟨f,hf,hn,hroom,hr0⟩:=jk hg hok.a
 obtain⟨f2,hf2,hn2,_⟩:=jk hg hok.b
 have hlt:=cW hg hc l i
 have hsu:=cT s c l i
 have hwa:=mX s xa f hok.a.1 hf hn
 have hwb:=mX s xb f2 hok.b.1 hf2 hn2
 obtain⟨wl,wn⟩:=df hf hn
 obtain⟨wl2,wn2⟩:=df hf2 hn2
 have hej:=fh (s:=s) (i:=i) (x:=⟨2,xa,xb⟩) wn wn2
 have hel:=jj hg hok i
 have hidx:=f9 R.pages i (by rw[hR];unfold bz;rw[List.length_map];omega)
 rw[hR,iz, ←hR]at hidx
 have hhd:=fun t=>eW s c (fun x hx=>(hc x hx).inn) h6 i hi t
 have hlw:=fun {o} ho {h} hh=>fl (s:=s) (pages:=l) hx (o:=o) ho (h:=h) hh
 have hitr:=dh f.room hr0
 have hite:=dh ((i:Int)+1) (by omega)
 have hax:=hok.a
 have hbx:=hok.b
 have hfl:(s.figs.map dS).length=s.figs.length:=List.length_map ..
 have hcl:(c.map bB).length=c.length:=List.length_map ..
 simp only at hroom hlw hax hbx hwa hwb wl wl2 wn wn2 hej hf
 rw[hroom]at hlw
 generalize aC (s.whoW xa)=W at *
 generalize aC (s.whoW xb)=W2 at *
 have hE:aM (s.entW i ⟨2,xa,xb⟩)=aM [num ((i:Int)+1),aC [Ag,wBe],W]:=by unfold aM;rw[hej];rfl
 have hle:PureA Tryz.prog 110 [.slice 1 [aG (aH (num ((i:Int)+1))),aG LE,aG (aH W)] .no] (aG (aH (aM (s.entW i ⟨2,xa,xb⟩)))):=by
  rw[hE]
  refine cC [num ((i:Int)+1),aC [Ag,wBe],W] (by simp) (by simp) ?_
  rw[hE]at hel
  unfold aM at hel
  rw[List.length_append]at hel
  omega
 have hEn:=da (s.entW i ⟨2,xa,xb⟩)
 clear hej hE hn hn2 wl wl2 wn wn2 hf2
 generalize aM (s.entW i ⟨2,xa,xb⟩)=E at *
 obtain⟨p,hp⟩:∃p:Nat,p=0:=⟨_,rfl⟩
 have ho:l.findIdx? (· ==i)=some p:=by rw[hp];exact hl0
 simp only[ho]at hidx
 have hhd:=hhd true
 have h2:s.heading c i true=2:=by subst hi0;exact f8 hx true
 rw[h2]at hhd
 have ht0:s.textTo c l i=[]:=by rw[hi0];rfl
 rw[ht0,List.nil_append]at hsu
 intro Q
 have hitp:=dh ((p:Int)+1) (by omega)
 have hlp:PureA Tryz.prog 110 [.slice 1 [aG (aH cJ),aG (aH (num ((p:Int)+1)))] .no] (aG (aH (aT p))):=cC [cJ,num ((p:Int)+1)] (by simp) (by simp) (by simp[aC,cJ,num])
 have hpl:=di p
 have hpn:aT p≠[]:=da _
 have hlr:PureA Tryz.prog 110 [.slice 1 [aG (aH a7),aG (aH (num f.room))] .no] (aG (aH (aY f.room))):=cC [a7,num f.room] (by simp) (by simp) (by simp[aC,a7,num])
 have hrl:=dj f.room
 have hlw:=hlw (o:=(some p)) ho (h:=2) h2
 have hT:s.textTo c l (i+1)=aT p++aY f.room++E:=by rw[hsu,hlw];simp[eG]
 have hw1:=r5 (aT p) hpn (by omega)
 have hw2:=aP 1 (aT p) (aY f.room) (by(try simp only[List.length_append]);omega) (by omega)
 have hw3:=aP 2 (aT p++aY f.room) (E) (by(try simp only[List.length_append]);omega) (by omega)
 clear hsu hlw h2
 generalize aT p=A at *
 generalize aY f.room=B at *
 conv=>whnf
 repeat(any_goals(first|exact ab|(refine ap ?_ ?_<;>intro _<;>first|exact aq|conv=>whnf)|((first|refine ae hx rfl ?_|refine ae hf (by show xa=_;omega) ?_|refine aa hidx ?_|refine aa hitp ?_|refine aa hlp ?_|refine aa hitr ?_|refine aa hhd ?_|refine aa hlr ?_|refine aa hite ?_|refine aa hwa ?_|refine aa hwb ?_|refine aa hle ?_|refine ac ?_|refine bi ?_ ?_|intro _)<;>conv=>whnf)))
 refine⟨[kB],?_⟩
 conv=>whnf
 refine⟨_,_,hw1,?_⟩
 refine(?_:za _ _)
 refine Cf rfl ?_
 refine(?_:okP _ _)
 refine kg rfl ?_
 refine(?_:jL _ _)
 refine ah rfl ?_
 refine(?_:jL _ _)
 refine ah rfl ?_
 refine(?_:jL _ _)
 refine ah (ax _ _) ?_
 conv=>whnf
 repeat(any_goals(first|exact ab|(refine ap ?_ ?_<;>intro _<;>first|exact aq|conv=>whnf)|((first|refine ae hx rfl ?_|refine ae hf (by show xa=_;omega) ?_|refine aa hidx ?_|refine aa hitp ?_|refine aa hlp ?_|refine aa hitr ?_|refine aa hhd ?_|refine aa hlr ?_|refine aa hite ?_|refine aa hwa ?_|refine aa hwb ?_|refine aa hle ?_|refine ac ?_|refine bi ?_ ?_|intro _)<;>conv=>whnf)))
 refine⟨[kB,kBr],?_⟩
 conv=>whnf
 repeat(refine ah (ax _ _) ?_<;>(conv=>whnf))
 refine⟨_,_,hw2,?_⟩
 conv=>whnf
 repeat(refine ah (ax _ _) ?_<;>(conv=>whnf))
 repeat(any_goals(first|exact ab|(refine ap ?_ ?_<;>intro _<;>first|exact aq|conv=>whnf)|((first|refine ae hx rfl ?_|refine ae hf (by show xa=_;omega) ?_|refine aa hidx ?_|refine aa hitp ?_|refine aa hlp ?_|refine aa hitr ?_|refine aa hhd ?_|refine aa hlr ?_|refine aa hite ?_|refine aa hwa ?_|refine aa hwb ?_|refine aa hle ?_|refine ac ?_|refine bi ?_ ?_|intro _)<;>conv=>whnf)))
 refine⟨[kB,kBr],?_⟩
 conv=>whnf
 repeat(refine ah (ax _ _) ?_<;>(conv=>whnf))
 refine⟨_,_,hw3,?_⟩
 conv=>whnf
 repeat(refine ah (ax _ _) ?_<;>(conv=>whnf))
 repeat(any_goals(first|exact ab|(refine ap ?_ ?_<;>intro _<;>first|exact aq|conv=>whnf)|((first|refine ae hx rfl ?_|refine ae hf (by show xa=_;omega) ?_|refine aa hidx ?_|refine aa hitp ?_|refine aa hlp ?_|refine aa hitr ?_|refine aa hhd ?_|refine aa hlr ?_|refine aa hite ?_|refine aa hwa ?_|refine aa hwb ?_|refine aa hle ?_|refine ac ?_|refine bi ?_ ?_|intro _)<;>conv=>whnf)))
 (refine⟨⟨i+1,.used 3 (A++B++E)⟩,⟨by show i+1≤_;omega,(fun h=>by cases h),fun _=>⟨_,congrArg (BSt.used _) hT.symm⟩⟩,(by show _-(i+1)<_-i;omega),?_⟩;(conv=>whnf);refine⟨?_,?_,?_⟩<;>repeat(first|exact trivial|refine sc rfl ?_|refine kn ?_|refine kc rfl ?_|refine sc (by rfl) ?_|refine kc (by rfl) ?_))
end Go.Proofs.YtgncapdjheghfaaGreatDoor
namespace Go.Proofs.YtgncapdjheghfaaGreatDoor
open Go.Am Go.Proofs Go
theorem LH(s:Bill)(hg:s.Good)(c:List Ent)(hc:∀x∈c,s.OkE x)(h6:c.length≤6)(l:List Nat)(hll:l.length≤6)(hl0:l.findIdx? (· ==0)=some 0)(R:Press)(hR:R.pages=bz l)(M:cj)(i:Nat)(hi:i<c.length)(st:BSt)(hI:G8 s c l (i,st)) :
  uK s c l R M i st:=by
 obtain⟨x,hx⟩:∃x,c[i]?=some x:=⟨_,List.getElem?_eq_getElem hi⟩
 obtain⟨h1,h2,h3⟩:=hI
 simp only at h1 h2 h3
 have hok:=hc _ (List.mem_of_getElem? hx)
 obtain⟨says,xa,xb⟩:=x
 have hs:=hok.says
 simp only at hs
 by_cases h0:i=0
 ·have e:=h2 h0
  subst e
  have hl0':l.findIdx? (· ==i)=some 0:=by rw[h0];exact hl0
  rcases hs with rfl|rfl|rfl
  ·exact Je s hg c hc h6 l hll i h0 hl0' R hR M xa xb hx
  ·exact Jg s hg c hc h6 l hll i h0 hl0' R hR M xa xb hx
  ·exact Ji s hg c hc h6 l hll i h0 hl0' R hR M xa xb hx
 ·obtain⟨g,e⟩:=h3 (by omega)
  subst e
  rcases hs with rfl|rfl|rfl
  ·exact Jf s hg c hc h6 l hll i R hR M xa xb hx g
  ·exact Jh s hg c hc h6 l hll i R hR M xa xb hx g
  ·exact Jj s hg c hc h6 l hll i R hR M xa xb hx g
theorem Br{c:List Ent}{l:List Nat}(h:bK c 0 l)(h0:0<c.length):l.findIdx? (· ==0)=some 0:=by
 cases l with
 | nil=>have:0=c.length:=h;omega
 | cons j l =>
  have e:=h.1
  subst e
  rfl
set_option maxHeartbeats 4000000 in
theorem JA(s:Bill)(hg:s.Good)(c:List Ent)(hc:∀x∈c,s.OkE x)(h6:c.length≤6)(h0:0<c.length):PureA Tryz.prog 79 [dp s,aJ c] (aG (aH (s.textL c))):=by
 have hp:=G4 s hg c hc h6 c.length 0 [] (Nat.zero_le _) (by omega) (fun e h=>by cases h)
 rw[eo s h0]at hp
 obtain⟨l,w,hpr,hpn,hpg,_⟩:=oB hg hc
 have hll:l.length≤6:=by have:=cG hpg;omega
 have hend:=qt s c
 rw[hpn]at hend
 have hlen:=cW hg hc l c.length
 have hne:(s.textTo c l c.length).length≠0:=by
  obtain⟨n,hn⟩:∃n,c.length=n+1:=⟨c.length-1,by omega⟩
  rw[hn,cT]
  obtain⟨x,hx⟩:∃x,c[n]?=some x:=⟨_,List.getElem?_eq_getElem (by omega)⟩
  rw[fl hx rfl rfl]
  have:=da (s.entW n x)
  simp[this]
 have hrow:=fun M i hi st hI=>LH s hg c hc h6 l hll (Br hpg h0) (s.press c 0) (by rw[hpr];rfl) M i hi st hI
 rw[←hend]
 have hcl:(c.map bB).length=c.length:=List.length_map ..
 generalize s.memoN c c.length 0 []=M at *
 have hrow:=hrow M
 generalize s.press c 0=R at *
 unfold gD tP at hp
 refine ag ao { l:=0,f:=79,mat:=[76,109,113],ty:=[5]} mixed A5 Tryz.func79 (by kernel_rfl) ?_
 conv=>whnf
 repeat(any_goals(first|exact ab|(refine ap ?_ ?_<;>intro _<;>first|exact aq|conv=>whnf)|((first|refine aa fU ?_|refine af fU rfl ?_|refine ac ?_|refine bi ?_ ?_|intro _)<;>conv=>whnf)))
 refine⟨[kTx],?_⟩
 conv=>whnf
 refine⟨_,_,hp,?_⟩
 conv=>whnf
 repeat(any_goals(first|exact ab|(refine ap ?_ ?_<;>intro _<;>first|exact aq|conv=>whnf)|((first|refine ac ?_|refine bi ?_ ?_|intro _)<;>conv=>whnf)))
 refine aO ao { l:=0,f:=79,mat:=[76,109,113],ty:=[5]} mixed (fun u:Nat×BSt=>[(21,aj u.1)]) (fun u=>[(kB,some (1,some (2,[u.2.av]))),(kBr,some u.2.row)]) (fun _=>[]) (G8 s c l) (fun u=>c.length-u.1) ((0,.fresh):Nat×BSt) (by kernel_rfl)
  ⟨Nat.zero_le _,fun _=>rfl,fun h=>absurd h (Nat.lt_irrefl _)⟩ ?_
 conv=>whnf
 refine⟨⟨ai rfl trivial,?_,trivial⟩,?_⟩
 ·repeat(first|exact trivial|refine kc rfl ?_|refine bW rfl ?_)
 rintro⟨i,st⟩ hI
 by_cases hi:i<c.length
 ·exact hrow i hi st hI _
 ·obtain⟨h1,_,h3⟩:=hI
  simp only at h1 h3
  have hic:i=c.length:=by omega
  obtain⟨g,e⟩:=h3 (by omega)
  subst e
  rw[←hic]at hne ⊢
  have hst:=FS (k:=kB) (kr:=kBr) (g:=1) (gr:=g) (c0:=0) (p:= .ptr kB 1 2 0 0) (s:=aH (s.textTo c l i)) rfl rfl hne
  clear hrow hp hlen hpg hpn hpr
  generalize s.textTo c l i=t at *
  conv=>whnf
  repeat(any_goals(first|exact ab|(refine ap ?_ ?_<;>intro _<;>first|exact aq|conv=>whnf)|((first|refine ac ?_|refine bi ?_ ?_|intro _)<;>conv=>whnf)))
  refine⟨[kB,kBr],?_⟩
  conv=>whnf
  repeat(refine ah (ax _ _) ?_<;>(conv=>whnf))
  refine⟨_,_,hst,?_⟩
  conv=>whnf
  repeat(any_goals(first|exact ab|(refine ap ?_ ?_<;>intro _<;>first|exact aq|conv=>whnf)|((first|refine ac ?_|refine bi ?_ ?_|intro _)<;>conv=>whnf)))
  (refine⟨⟨?_⟩,trivial⟩;rfl)
theorem Jy(s:Bill)(hg:s.Good)(c:List Ent)(hc:∀x∈c,s.OkE x)(h6:c.length≤6)(h0:c.length=0):PureA Tryz.prog 79 [dp s,aJ c] (aG (aH (s.textL c))):=by
 have e:c=[]:=List.length_eq_zero_iff.1 h0
 subst e
 have hp:=G4 s hg [] hc h6 0 0 [] (Nat.zero_le _) (by simp) (fun e h=>by cases h)
 rw[show en s [] 0 = .agg [.slice 0 [] .tight,aj 0]from eO s []]at hp
 have ht:aH (s.textL [])=⟨#[]⟩:=rfl
 rw[ht]
 have hst:=w4 (k:=kB) (g:=1) (p:= .v (.pointer none)) rfl
 generalize s.memoN [] 0 0 []=M at *
 refine ag ao { l:=0,f:=79,mat:=[76,109,113],ty:=[5]} mixed A5 Tryz.func79 (by kernel_rfl) ?_
 conv=>whnf
 repeat(any_goals(first|exact ab|(refine ap ?_ ?_<;>intro _<;>first|exact aq|conv=>whnf)|((first|refine aa fU ?_|refine af fU rfl ?_|refine ac ?_|refine bi ?_ ?_|intro _)<;>conv=>whnf)))
 refine⟨[kTx],?_⟩
 conv=>whnf
 refine⟨_,_,hp,?_⟩
 conv=>whnf
 repeat(any_goals(first|exact ab|(refine ap ?_ ?_<;>intro _<;>first|exact aq|conv=>whnf)|((first|refine ac ?_|refine bi ?_ ?_|intro _)<;>conv=>whnf)))
 refine aO ao { l:=0,f:=79,mat:=[76,109,113],ty:=[5]} mixed (fun i:Nat=>[(21,aj i)]) (fun _=>[(kB,some (1,some (2,[BSt.fresh.av])))]) (fun _=>[]) (fun i=>i=0) (fun i=>i) 0 (by kernel_rfl)
  rfl ?_
 conv=>whnf
 refine⟨⟨ai rfl trivial,?_,trivial⟩,?_⟩
 ·repeat(first|exact trivial|refine kc rfl ?_|refine bW rfl ?_)
 rintro i rfl
 conv=>whnf
 repeat(any_goals(first|exact ab|(refine ap ?_ ?_<;>intro _<;>first|exact aq|conv=>whnf)|((first|refine ac ?_|refine bi ?_ ?_|intro _)<;>conv=>whnf)))
 refine⟨[kB],?_⟩
 conv=>whnf
 refine⟨_,_,hst,?_⟩
 conv=>whnf
 repeat(any_goals(first|exact ab|(refine ap ?_ ?_<;>intro _<;>first|exact aq|conv=>whnf)|((first|refine ac ?_|refine bi ?_ ?_|intro _)<;>conv=>whnf)))
 (refine⟨⟨?_⟩,trivial⟩;rfl)
theorem Dd(s:Bill)(hg:s.Good)(c:List Ent)(hc:∀x∈c,s.OkE x)(h6:c.length≤6):PureA Tryz.prog 79 [dp s,aJ c] (aG (aH (s.textL c))):=by
 by_cases h0:c.length=0
 ·exact Jy s hg c hc h6 h0
 ·exact JA s hg c hc h6 (by omega)
end Go.Proofs.YtgncapdjheghfaaGreatDoor
namespace Go.Proofs.YtgncapdjheghfaaGreatDoor
open Go.Am Go.Proofs Go
def Bill.writeR(s:Bill)(c:List Ent):Bs×Int:=if bZ s c≠0 then([],bZ s c)else(s.textL c,0)
theorem qA(s:Bill)(hr:s.small)(c:List Ent)(hl:c.length≤1048576):PureA Tryz.prog 32 [aI s,aJ c] (.tuple [aG (aH (s.writeR c).1),aj (s.writeR c).2]):=by
 unfold Bill.writeR
 by_cases hk:bZ s c=0
 ·rw[if_neg (fun h=>h hk)]
  have he:=ea s hr c hl hk
  obtain⟨hg,hok,h6⟩:=bQ hk
  have ht:=Dd s hg c hok h6
  unfold cQ at he
  generalize s.textL c=T at *
  refine ag ao { l:=0,f:=32,mat:=[71]} mixed AZ Tryz.func32 (by kernel_rfl) ?_
  conv=>whnf
  repeat(any_goals(first|exact ab|(refine ap ?_ ?_<;>intro _<;>first|exact aq|conv=>whnf)|((first|refine ac ?_|refine bi ?_ ?_|intro _)<;>conv=>whnf)))
  refine⟨[],?_⟩
  conv=>whnf
  refine⟨_,_,he,?_⟩
  conv=>whnf
  repeat(any_goals(first|exact ab|(refine ap ?_ ?_<;>intro _<;>first|exact aq|conv=>whnf)|((first|refine af ht rfl ?_|refine aa ht ?_|refine ac ?_|refine bi ?_ ?_|intro _)<;>conv=>whnf)))
  (refine⟨⟨?_⟩,trivial⟩;rfl)
 ·rw[if_pos hk]
  have he:=jU s hr c hl _ rfl hk
  generalize bZ s c=e at *
  have hn:(aH [])=⟨#[]⟩:=rfl
  simp only[hn]
  refine ag ao { l:=0,f:=32,mat:=[71]} mixed AZ Tryz.func32 (by kernel_rfl) ?_
  conv=>whnf
  repeat(any_goals(first|exact ab|(refine ap ?_ ?_<;>intro _<;>first|exact aq|conv=>whnf)|((first|refine ac ?_|refine bi ?_ ?_|intro _)<;>conv=>whnf)))
  refine⟨[],?_⟩
  conv=>whnf
  refine⟨_,_,he,?_⟩
  conv=>whnf
  repeat(any_goals(first|exact ab|(refine ap ?_ ?_<;>intro _<;>first|exact aq|conv=>whnf)|((first|refine ac ?_|refine bi ?_ ?_|intro _)<;>conv=>whnf)))
  (refine⟨⟨?_⟩,trivial⟩;rfl)
end Go.Proofs.YtgncapdjheghfaaGreatDoor
namespace Go.Proofs.YtgncapdjheghfaaGreatDoor
open Go.Am Go.Proofs Go
theorem FI(b:UInt8)(hb:b.toNat<128):Utf8.encode (b.toNat:Int)=⟨#[b]⟩:=by
 have hv:Utf8.valid (b.toNat:Int)=true:=by unfold Utf8.valid;simp;left;omega
 unfold Utf8.encode
 simp only[hv,if_true,Int.toNat_natCast]
 rw[if_pos (by omega)]
 simp
structure SpSt where
 i:Nat
 ws:List Bs
 w:Bs
def fx(ws:List Bs):List AV:=ws.map fun w=>aG (aH w)
theorem mg(ws:List Bs)(w:Bs):fx ws++[aG (aH w)]=fx (ws++[w]):=by unfold fx;rw[List.map_append];rfl
def C5:Option (List Bs)→AV
 | none=> .tuple [lE,aB false]
 | some ws=> .tuple [.slice 1 (fx ws) .no,aB true]
theorem jD(w:Bs)(b:UInt8)(l:Bs):bM w (b::l)=if b=32 then(bM [] l).map (w:: ·)else if okB b=true then bM (w++[b]) l else none:=rfl
set_option maxRecDepth 100000 in
theorem Js(s:ByteArray)(hl:s.size≤1048576):PureA Tryz.prog 82 [aG s] (C5 (bM [] (bytes s))):=by
 have hsz:=rT s
 obtain⟨R,hR⟩:∃R,R=bM [] (bytes s):=⟨_,rfl⟩
 rw[←hR]
 have hlen:∀ws:List Bs,(fx ws).length=ws.length:=fun ws=>List.length_map ..
 refine ag ao { l:=0,f:=82} mixed H3 Tryz.func82 (by kernel_rfl) ?_
 conv=>whnf
 refine fC 2 1 ⟨0,82,18⟩ ?_
 conv=>whnf
 refine aO ao { l:=0,f:=82} mixed (fun u:SpSt=>[(4,aG (aH u.w)),(2,.slice 1 (fx u.ws) (.own ⟨0,82,18⟩ 1))]) (fun u=>[(⟨0,82,8⟩,(1,some (0,[aG s,aj u.i])))]) (fun u=>[(⟨0,82,18⟩,some (1,u.ws.length))]) (fun u=>(u.i≤s.size∧u.ws.length≤u.i∧u.w.length≤u.i)∧R=(bM u.w (s.data.toList.drop u.i)).map (u.ws++ ·)) (fun u=>s.size-u.i) (⟨0,[],[]⟩:SpSt) (by kernel_rfl)
  ⟨⟨Nat.zero_le _,Nat.zero_le _,Nat.zero_le _⟩,by rw[hR];show _=(bM [] (bytes s)).map ([]++ ·);cases bM [] (bytes s)<;>rfl⟩ ?_
 conv=>whnf
 refine⟨⟨ai rfl (ai rfl trivial),aL rfl trivial,aL rfl trivial⟩,?_⟩
 clear hR
 rintro u ⟨⟨hi,hws,hw⟩,H⟩
 generalize u.i=i at *
 generalize u.ws=ws at *
 generalize u.w=w at *
 clear u
 have hwl:=hlen ws
 have hsw:(aH w).size=w.length:=rfl
 conv=>whnf
 refine bH (fun h1=>?_) (fun h1=>?_)
 ·obtain⟨b,hb,hd⟩:=ay (l:=s.data.toList) (i:=i) (by omega)
  rw[hd,jD]at H
  have hlt:=b.toNat_lt
  by_cases h128:b.toNat<128
  ·have hdec:Utf8.decode s (i:Int).toNat=(b.toNat,1):=by rw[Int.toNat_natCast];exact pC hb h128
   have hc:((Utf8.decode s (i:Int).toNat).1:Int)=b.toNat:=by rw[hdec]
   have hcv:=FI b h128
   rw[←hc]at hcv
   have hes:(Utf8.encode ((Utf8.decode s (i:Int).toNat).1:Int)).size=1:=by rw[hcv];rfl
   by_cases h32:b=32
   ·rw[if_pos h32]at H
    have hb32:b.toNat=32:=by rw[h32];rfl
    have hH:R=(bM [] (s.data.toList.drop (i+1))).map ((ws++[w])++ ·):=by rw[H];cases bM [] (s.data.toList.drop (i+1))<;>simp
    conv=>whnf
    repeat(any_goals(first|exact ab|(refine ap ?_ ?_<;>intro _<;>first|exact aq|conv=>whnf)|((first|refine ac ?_|refine bi ?_ ?_|intro _)<;>conv=>whnf)))
    (refine⟨⟨i+1,ws++[w],[]⟩,⟨⟨by show i+1≤_;omega,by show(ws++[w]).length≤i+1;simp;omega,Nat.zero_le _⟩,hH⟩,(by show _-(i+1)<_-i;omega),?_⟩;(conv=>whnf);refine⟨?_,?_,?_⟩<;>repeat(first|exact trivial|refine sc rfl ?_|refine kn ?_|refine kc rfl ?_|refine sc (by first|(simp only[hdec];rfl)|(show some (AV.slice 1 (fx ws++[aG (aH w)]) _)=some (AV.slice 1 (fx (ws++[w])) _);rw[mg])|(show some (some (1,(fx ws).length+1))=some (some (1,(ws++[w]).length));rw[hwl,List.length_append];rfl)) ?_|refine kc (by first|(simp only[hdec];rfl)|(show some (AV.slice 1 (fx ws++[aG (aH w)]) _)=some (AV.slice 1 (fx (ws++[w])) _);rw[mg])|(show some (some (1,(fx ws).length+1))=some (some (1,(ws++[w]).length));rw[hwl,List.length_append];rfl)) ?_))
   ·rw[if_neg h32]at H
    have hb32:¬b.toNat=32:=fun e=>h32 (UInt8.toNat_inj.1 e)
    by_cases hok:okB b=true
    ·rw[if_pos hok]at H
     have hcond:b.toNat=46∨(48≤b.toNat∧b.toNat≤57)∨(97≤b.toNat∧b.toNat≤122):=by
      unfold okB dw fJ at hok
      simp at hok
      omega
     have hcat:=o7 w [b]
     conv=>whnf
     repeat(any_goals(first|exact ab|(refine ap ?_ ?_<;>intro _<;>first|exact aq|conv=>whnf)|((first|refine ac ?_|refine bi ?_ ?_|intro _)<;>conv=>whnf)))
     all_goals(try(exfalso;omega))
     all_goals
      refine⟨⟨i+1,ws,w++[b]⟩,⟨⟨by show i+1≤_;omega,by show ws.length≤i+1;omega,by show(w++[b]).length≤i+1;simp;omega⟩,H⟩,(by show _-(i+1)<_-i;omega),?_⟩
      conv=>whnf
      refine⟨ai (by show some (aG (aH w++Utf8.encode ((Utf8.decode s (i:Int).toNat).1:Int)))=some (aG (aH (w++[b])));rw[hcv, ←hcat];rfl) ?_,?_,?_⟩
      all_goals repeat(first|exact trivial|refine kn ?_|refine kc (by simp only[hdec];rfl) ?_|refine sc rfl ?_|refine kc rfl ?_)
    ·rw[if_neg hok]at H
     simp only[Option.map_none]at H
     have hcond:¬b.toNat=46∧¬(48≤b.toNat∧b.toNat≤57)∧¬(97≤b.toNat∧b.toNat≤122):=by
      unfold okB dw fJ at hok
      simp at hok
      omega
     subst H
     conv=>whnf
     repeat(any_goals(first|exact ab|(refine ap ?_ ?_<;>intro _<;>first|exact aq|conv=>whnf)|((first|refine ac ?_|refine bi ?_ ?_|intro _)<;>conv=>whnf)))
     all_goals(try(exfalso;omega))
     all_goals(refine⟨⟨?_⟩,trivial⟩;rfl)
  ·have hdec:128≤(Utf8.decode s (i:Int).toNat).1:=by rw[Int.toNat_natCast];exact nB hb h128
   have hno:¬okB b=true:=by
    unfold okB dw fJ
    simp
    omega
   rw[if_neg (fun e=>by subst e;exact h128 (by decide)),if_neg hno]at H
   simp only[Option.map_none]at H
   subst H
   conv=>whnf
   repeat(any_goals(first|exact ab|(refine ap ?_ ?_<;>intro _<;>first|exact aq|conv=>whnf)|((first|refine ac ?_|refine bi ?_ ?_|intro _)<;>conv=>whnf)))
   all_goals(try(exfalso;omega))
   all_goals(refine⟨⟨?_⟩,trivial⟩;rfl)
 ·have hdr:s.data.toList.drop i=[]:=List.drop_eq_nil_of_le (by omega)
  rw[hdr]at H
  simp only[bM,Option.map_some]at H
  subst H
  conv=>whnf
  repeat(any_goals(first|exact ab|(refine ap ?_ ?_<;>intro _<;>first|exact aq|conv=>whnf)|((first|refine ac ?_|refine bi ?_ ?_|intro _)<;>conv=>whnf)))
  (refine⟨⟨?_⟩,trivial⟩;exact congrArg (fun z=>AV.tuple [.slice 1 z .no,aB true]) (mg ws w).symm)
end Go.Proofs.YtgncapdjheghfaaGreatDoor
