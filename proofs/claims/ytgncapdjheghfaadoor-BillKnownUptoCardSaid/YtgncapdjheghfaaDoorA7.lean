/- Part 7 of the texts that the last one stands on. -/
import Derived.Shelf.Strings.OnBuilder
import Derived.Shelf.Strconv.Itoa3
import Derived.Shelf.Strings.Prefix
import Derived.Shelf.Strings.Search1
import Derived.Test.YtgncapdjheghfaaDoorChecked
import Derived.Shelf.Strings.Builder1
import Derived.Laws.Slices
import Derived.Test.YtgncapdjheghfaaDoorA6
set_option linter.unusedVariables false
set_option linter.unusedSimpArgs false
namespace Go.Proofs.YtgncapdjheghfaaDoor
open Go.Am Go.Proofs Go
set_option maxHeartbeats 8000000 in
theorem FE(s S:Bill)(hg:s.Good)(hSg:S.Good)(ts:List Int)(K U:List Int)(i:Nat)(us:List Int)(v0 v1 v2 v3 v4 v5:Int)
  (hul:us.length≤i) (hi:i<s.figs.length) (HU:U=us++cz S [v0,v1,v2,v3,v4,v5] (s.figs.length-i) i) (hA:S.inAll i=true) (hV:¬ [v0,v1,v2,v3,v4,v5].getD i 0=1):SuR s S ts K [v0,v1,v2,v3,v4,v5] U ⟨i,us⟩:=by
 have hz:=s4 S i (by have:=hg.len;omega)
 have hfl6:=hg.len
 have hcl:(s.figs.map eR).length=s.figs.length:=List.length_map ..
 have hkm:(us.map ak).length=us.length:=List.length_map ..
 obtain⟨f,hf⟩:∃f,s.figs.length-i=f+1:=⟨s.figs.length-i-1,by omega⟩
 have hf2:s.figs.length-(i+1)=f:=by omega
 rw[hf,gh,if_pos ⟨hA,hV⟩]at HU
 unfold eb js at hz
 have hq0:=dg v0
 have hq1:=dg v1
 have hq2:=dg v2
 have hq3:=dg v3
 have hq4:=dg v4
 have hq5:=dg v5
 have hjI:(i:Int)<((s.figs.map eR).length:Nat):=by omega
 clear hSg hg hf
 intro Q
 rw[hA,decide_eq_true_eq]at hz
 have hH:U=(us++[(i:Int)])++cz S [v0,v1,v2,v3,v4,v5] (s.figs.length-(i+1)) (i+1):=by rw[HU,hf2];simp
 clear HU hf2
 rcases(by omega:i=0∨i=1∨i=2∨i=3∨i=4∨i=5)with rfl|rfl|rfl|rfl|rfl|rfl
 ·have hv:¬v0=1:=hV
  rw[decide_eq_false hv]at hq0
  have hqn:(!eqL [.int .i64 v0,.int .i64 0,.int .i64 0] [.int .i64 1,.int .i64 0,.int .i64 0])=true:=by rw[hq0];rfl
  conv=>whnf
  repeat(any_goals(first|exact ac|(refine ao ?_ ?_<;>intro _<;>first|exact ap|conv=>whnf)|((first|refine bO hqn ?_|refine bW hq0 ?_|refine ae ?_|refine bi ?_ ?_|intro _)<;>conv=>whnf)))
  all_goals(try(first|exact absurd hjI (by assumption)|exact absurd hz (by assumption)|exact absurd (by assumption) hz))
  all_goals(refine⟨⟨0+1,us++[((0:Nat):Int)]⟩,⟨⟨by show 0+1≤_;omega,by show(us++[((0:Nat):Int)]).length≤0+1;rw[List.length_append];simp only[List.length_cons,List.length_nil];omega⟩,hH⟩,(by show _-(0+1)<_-0;omega),?_⟩;(conv=>whnf);refine⟨?_,?_,?_⟩<;>repeat(first|exact trivial|refine sc rfl ?_|refine kn ?_|refine kc rfl ?_|refine sc (by first|(show some (AV.slice 1 (us.map ak++[ak ((0:Nat):Int)]) _)=some (AV.slice 1 ((us++[((0:Nat):Int)]).map ak) _);rw[List.map_append];rfl)|(show some (some (1,(us.map ak).length+1))=some (some (1,(us++[((0:Nat):Int)]).length));rw[hkm,List.length_append];rfl)) ?_|refine kc (by first|(show some (AV.slice 1 (us.map ak++[ak ((0:Nat):Int)]) _)=some (AV.slice 1 ((us++[((0:Nat):Int)]).map ak) _);rw[List.map_append];rfl)|(show some (some (1,(us.map ak).length+1))=some (some (1,(us++[((0:Nat):Int)]).length));rw[hkm,List.length_append];rfl)) ?_))
 ·have hv:¬v1=1:=hV
  rw[decide_eq_false hv]at hq1
  have hqn:(!eqL [.int .i64 v1,.int .i64 0,.int .i64 0] [.int .i64 1,.int .i64 0,.int .i64 0])=true:=by rw[hq1];rfl
  conv=>whnf
  repeat(any_goals(first|exact ac|(refine ao ?_ ?_<;>intro _<;>first|exact ap|conv=>whnf)|((first|refine bO hqn ?_|refine bW hq1 ?_|refine ae ?_|refine bi ?_ ?_|intro _)<;>conv=>whnf)))
  all_goals(try(first|exact absurd hjI (by assumption)|exact absurd hz (by assumption)|exact absurd (by assumption) hz))
  all_goals(refine⟨⟨1+1,us++[((1:Nat):Int)]⟩,⟨⟨by show 1+1≤_;omega,by show(us++[((1:Nat):Int)]).length≤1+1;rw[List.length_append];simp only[List.length_cons,List.length_nil];omega⟩,hH⟩,(by show _-(1+1)<_-1;omega),?_⟩;(conv=>whnf);refine⟨?_,?_,?_⟩<;>repeat(first|exact trivial|refine sc rfl ?_|refine kn ?_|refine kc rfl ?_|refine sc (by first|(show some (AV.slice 1 (us.map ak++[ak ((1:Nat):Int)]) _)=some (AV.slice 1 ((us++[((1:Nat):Int)]).map ak) _);rw[List.map_append];rfl)|(show some (some (1,(us.map ak).length+1))=some (some (1,(us++[((1:Nat):Int)]).length));rw[hkm,List.length_append];rfl)) ?_|refine kc (by first|(show some (AV.slice 1 (us.map ak++[ak ((1:Nat):Int)]) _)=some (AV.slice 1 ((us++[((1:Nat):Int)]).map ak) _);rw[List.map_append];rfl)|(show some (some (1,(us.map ak).length+1))=some (some (1,(us++[((1:Nat):Int)]).length));rw[hkm,List.length_append];rfl)) ?_))
 ·have hv:¬v2=1:=hV
  rw[decide_eq_false hv]at hq2
  have hqn:(!eqL [.int .i64 v2,.int .i64 0,.int .i64 0] [.int .i64 1,.int .i64 0,.int .i64 0])=true:=by rw[hq2];rfl
  conv=>whnf
  repeat(any_goals(first|exact ac|(refine ao ?_ ?_<;>intro _<;>first|exact ap|conv=>whnf)|((first|refine bO hqn ?_|refine bW hq2 ?_|refine ae ?_|refine bi ?_ ?_|intro _)<;>conv=>whnf)))
  all_goals(try(first|exact absurd hjI (by assumption)|exact absurd hz (by assumption)|exact absurd (by assumption) hz))
  all_goals(refine⟨⟨2+1,us++[((2:Nat):Int)]⟩,⟨⟨by show 2+1≤_;omega,by show(us++[((2:Nat):Int)]).length≤2+1;rw[List.length_append];simp only[List.length_cons,List.length_nil];omega⟩,hH⟩,(by show _-(2+1)<_-2;omega),?_⟩;(conv=>whnf);refine⟨?_,?_,?_⟩<;>repeat(first|exact trivial|refine sc rfl ?_|refine kn ?_|refine kc rfl ?_|refine sc (by first|(show some (AV.slice 1 (us.map ak++[ak ((2:Nat):Int)]) _)=some (AV.slice 1 ((us++[((2:Nat):Int)]).map ak) _);rw[List.map_append];rfl)|(show some (some (1,(us.map ak).length+1))=some (some (1,(us++[((2:Nat):Int)]).length));rw[hkm,List.length_append];rfl)) ?_|refine kc (by first|(show some (AV.slice 1 (us.map ak++[ak ((2:Nat):Int)]) _)=some (AV.slice 1 ((us++[((2:Nat):Int)]).map ak) _);rw[List.map_append];rfl)|(show some (some (1,(us.map ak).length+1))=some (some (1,(us++[((2:Nat):Int)]).length));rw[hkm,List.length_append];rfl)) ?_))
 ·have hv:¬v3=1:=hV
  rw[decide_eq_false hv]at hq3
  have hqn:(!eqL [.int .i64 v3,.int .i64 0,.int .i64 0] [.int .i64 1,.int .i64 0,.int .i64 0])=true:=by rw[hq3];rfl
  conv=>whnf
  repeat(any_goals(first|exact ac|(refine ao ?_ ?_<;>intro _<;>first|exact ap|conv=>whnf)|((first|refine bO hqn ?_|refine bW hq3 ?_|refine ae ?_|refine bi ?_ ?_|intro _)<;>conv=>whnf)))
  all_goals(try(first|exact absurd hjI (by assumption)|exact absurd hz (by assumption)|exact absurd (by assumption) hz))
  all_goals(refine⟨⟨3+1,us++[((3:Nat):Int)]⟩,⟨⟨by show 3+1≤_;omega,by show(us++[((3:Nat):Int)]).length≤3+1;rw[List.length_append];simp only[List.length_cons,List.length_nil];omega⟩,hH⟩,(by show _-(3+1)<_-3;omega),?_⟩;(conv=>whnf);refine⟨?_,?_,?_⟩<;>repeat(first|exact trivial|refine sc rfl ?_|refine kn ?_|refine kc rfl ?_|refine sc (by first|(show some (AV.slice 1 (us.map ak++[ak ((3:Nat):Int)]) _)=some (AV.slice 1 ((us++[((3:Nat):Int)]).map ak) _);rw[List.map_append];rfl)|(show some (some (1,(us.map ak).length+1))=some (some (1,(us++[((3:Nat):Int)]).length));rw[hkm,List.length_append];rfl)) ?_|refine kc (by first|(show some (AV.slice 1 (us.map ak++[ak ((3:Nat):Int)]) _)=some (AV.slice 1 ((us++[((3:Nat):Int)]).map ak) _);rw[List.map_append];rfl)|(show some (some (1,(us.map ak).length+1))=some (some (1,(us++[((3:Nat):Int)]).length));rw[hkm,List.length_append];rfl)) ?_))
 ·have hv:¬v4=1:=hV
  rw[decide_eq_false hv]at hq4
  have hqn:(!eqL [.int .i64 v4,.int .i64 0,.int .i64 0] [.int .i64 1,.int .i64 0,.int .i64 0])=true:=by rw[hq4];rfl
  conv=>whnf
  repeat(any_goals(first|exact ac|(refine ao ?_ ?_<;>intro _<;>first|exact ap|conv=>whnf)|((first|refine bO hqn ?_|refine bW hq4 ?_|refine ae ?_|refine bi ?_ ?_|intro _)<;>conv=>whnf)))
  all_goals(try(first|exact absurd hjI (by assumption)|exact absurd hz (by assumption)|exact absurd (by assumption) hz))
  all_goals(refine⟨⟨4+1,us++[((4:Nat):Int)]⟩,⟨⟨by show 4+1≤_;omega,by show(us++[((4:Nat):Int)]).length≤4+1;rw[List.length_append];simp only[List.length_cons,List.length_nil];omega⟩,hH⟩,(by show _-(4+1)<_-4;omega),?_⟩;(conv=>whnf);refine⟨?_,?_,?_⟩<;>repeat(first|exact trivial|refine sc rfl ?_|refine kn ?_|refine kc rfl ?_|refine sc (by first|(show some (AV.slice 1 (us.map ak++[ak ((4:Nat):Int)]) _)=some (AV.slice 1 ((us++[((4:Nat):Int)]).map ak) _);rw[List.map_append];rfl)|(show some (some (1,(us.map ak).length+1))=some (some (1,(us++[((4:Nat):Int)]).length));rw[hkm,List.length_append];rfl)) ?_|refine kc (by first|(show some (AV.slice 1 (us.map ak++[ak ((4:Nat):Int)]) _)=some (AV.slice 1 ((us++[((4:Nat):Int)]).map ak) _);rw[List.map_append];rfl)|(show some (some (1,(us.map ak).length+1))=some (some (1,(us++[((4:Nat):Int)]).length));rw[hkm,List.length_append];rfl)) ?_))
 ·have hv:¬v5=1:=hV
  rw[decide_eq_false hv]at hq5
  have hqn:(!eqL [.int .i64 v5,.int .i64 0,.int .i64 0] [.int .i64 1,.int .i64 0,.int .i64 0])=true:=by rw[hq5];rfl
  conv=>whnf
  repeat(any_goals(first|exact ac|(refine ao ?_ ?_<;>intro _<;>first|exact ap|conv=>whnf)|((first|refine bO hqn ?_|refine bW hq5 ?_|refine ae ?_|refine bi ?_ ?_|intro _)<;>conv=>whnf)))
  all_goals(try(first|exact absurd hjI (by assumption)|exact absurd hz (by assumption)|exact absurd (by assumption) hz))
  all_goals(refine⟨⟨5+1,us++[((5:Nat):Int)]⟩,⟨⟨by show 5+1≤_;omega,by show(us++[((5:Nat):Int)]).length≤5+1;rw[List.length_append];simp only[List.length_cons,List.length_nil];omega⟩,hH⟩,(by show _-(5+1)<_-5;omega),?_⟩;(conv=>whnf);refine⟨?_,?_,?_⟩<;>repeat(first|exact trivial|refine sc rfl ?_|refine kn ?_|refine kc rfl ?_|refine sc (by first|(show some (AV.slice 1 (us.map ak++[ak ((5:Nat):Int)]) _)=some (AV.slice 1 ((us++[((5:Nat):Int)]).map ak) _);rw[List.map_append];rfl)|(show some (some (1,(us.map ak).length+1))=some (some (1,(us++[((5:Nat):Int)]).length));rw[hkm,List.length_append];rfl)) ?_|refine kc (by first|(show some (AV.slice 1 (us.map ak++[ak ((5:Nat):Int)]) _)=some (AV.slice 1 ((us++[((5:Nat):Int)]).map ak) _);rw[List.map_append];rfl)|(show some (some (1,(us.map ak).length+1))=some (some (1,(us++[((5:Nat):Int)]).length));rw[hkm,List.length_append];rfl)) ?_))
end Go.Proofs.YtgncapdjheghfaaDoor
namespace Go.Proofs.YtgncapdjheghfaaDoor
open Go.Am Go.Proofs Go
set_option maxHeartbeats 8000000 in
theorem FF(s S:Bill)(hg:s.Good)(hSg:S.Good)(ts:List Int)(K U:List Int)(i:Nat)(us:List Int)(v0 v1 v2 v3 v4 v5:Int)
  (hul:us.length≤i) (hi:i<s.figs.length) (HU:U=us++cz S [v0,v1,v2,v3,v4,v5] (s.figs.length-i) i) (hA:S.inAll i=true) (hV:[v0,v1,v2,v3,v4,v5].getD i 0=1):SuR s S ts K [v0,v1,v2,v3,v4,v5] U ⟨i,us⟩:=by
 have hz:=s4 S i (by have:=hg.len;omega)
 have hfl6:=hg.len
 have hcl:(s.figs.map eR).length=s.figs.length:=List.length_map ..
 have hkm:(us.map ak).length=us.length:=List.length_map ..
 obtain⟨f,hf⟩:∃f,s.figs.length-i=f+1:=⟨s.figs.length-i-1,by omega⟩
 have hf2:s.figs.length-(i+1)=f:=by omega
 rw[hf,gh,if_neg (fun h=>h.2 hV)]at HU
 unfold eb js at hz
 have hq0:=dg v0
 have hq1:=dg v1
 have hq2:=dg v2
 have hq3:=dg v3
 have hq4:=dg v4
 have hq5:=dg v5
 have hjI:(i:Int)<((s.figs.map eR).length:Nat):=by omega
 clear hSg hg hf
 intro Q
 rw[hA,decide_eq_true_eq]at hz
 have hH:U=us++cz S [v0,v1,v2,v3,v4,v5] (s.figs.length-(i+1)) (i+1):=by rw[HU,hf2]
 clear HU hf2
 rcases(by omega:i=0∨i=1∨i=2∨i=3∨i=4∨i=5)with rfl|rfl|rfl|rfl|rfl|rfl
 ·have hv:v0=1:=hV
  rw[decide_eq_true hv]at hq0
  have hqn:(!eqL [.int .i64 v0,.int .i64 0,.int .i64 0] [.int .i64 1,.int .i64 0,.int .i64 0])=false:=by rw[hq0];rfl
  conv=>whnf
  repeat(any_goals(first|exact ac|(refine ao ?_ ?_<;>intro _<;>first|exact ap|conv=>whnf)|((first|refine bW hqn ?_|refine bO hq0 ?_|refine ae ?_|refine bi ?_ ?_|intro _)<;>conv=>whnf)))
  all_goals(try(first|exact absurd hjI (by assumption)|exact absurd hz (by assumption)|exact absurd (by assumption) hz))
  all_goals(refine⟨⟨0+1,us⟩,⟨⟨by show 0+1≤_;omega,by show us.length≤0+1;omega⟩,hH⟩,(by show _-(0+1)<_-0;omega),?_⟩;(conv=>whnf);refine⟨?_,?_,?_⟩<;>repeat(first|exact trivial|refine sc rfl ?_|refine kn ?_|refine kc rfl ?_|refine sc (by rfl) ?_|refine kc (by rfl) ?_))
 ·have hv:v1=1:=hV
  rw[decide_eq_true hv]at hq1
  have hqn:(!eqL [.int .i64 v1,.int .i64 0,.int .i64 0] [.int .i64 1,.int .i64 0,.int .i64 0])=false:=by rw[hq1];rfl
  conv=>whnf
  repeat(any_goals(first|exact ac|(refine ao ?_ ?_<;>intro _<;>first|exact ap|conv=>whnf)|((first|refine bW hqn ?_|refine bO hq1 ?_|refine ae ?_|refine bi ?_ ?_|intro _)<;>conv=>whnf)))
  all_goals(try(first|exact absurd hjI (by assumption)|exact absurd hz (by assumption)|exact absurd (by assumption) hz))
  all_goals(refine⟨⟨1+1,us⟩,⟨⟨by show 1+1≤_;omega,by show us.length≤1+1;omega⟩,hH⟩,(by show _-(1+1)<_-1;omega),?_⟩;(conv=>whnf);refine⟨?_,?_,?_⟩<;>repeat(first|exact trivial|refine sc rfl ?_|refine kn ?_|refine kc rfl ?_|refine sc (by rfl) ?_|refine kc (by rfl) ?_))
 ·have hv:v2=1:=hV
  rw[decide_eq_true hv]at hq2
  have hqn:(!eqL [.int .i64 v2,.int .i64 0,.int .i64 0] [.int .i64 1,.int .i64 0,.int .i64 0])=false:=by rw[hq2];rfl
  conv=>whnf
  repeat(any_goals(first|exact ac|(refine ao ?_ ?_<;>intro _<;>first|exact ap|conv=>whnf)|((first|refine bW hqn ?_|refine bO hq2 ?_|refine ae ?_|refine bi ?_ ?_|intro _)<;>conv=>whnf)))
  all_goals(try(first|exact absurd hjI (by assumption)|exact absurd hz (by assumption)|exact absurd (by assumption) hz))
  all_goals(refine⟨⟨2+1,us⟩,⟨⟨by show 2+1≤_;omega,by show us.length≤2+1;omega⟩,hH⟩,(by show _-(2+1)<_-2;omega),?_⟩;(conv=>whnf);refine⟨?_,?_,?_⟩<;>repeat(first|exact trivial|refine sc rfl ?_|refine kn ?_|refine kc rfl ?_|refine sc (by rfl) ?_|refine kc (by rfl) ?_))
 ·have hv:v3=1:=hV
  rw[decide_eq_true hv]at hq3
  have hqn:(!eqL [.int .i64 v3,.int .i64 0,.int .i64 0] [.int .i64 1,.int .i64 0,.int .i64 0])=false:=by rw[hq3];rfl
  conv=>whnf
  repeat(any_goals(first|exact ac|(refine ao ?_ ?_<;>intro _<;>first|exact ap|conv=>whnf)|((first|refine bW hqn ?_|refine bO hq3 ?_|refine ae ?_|refine bi ?_ ?_|intro _)<;>conv=>whnf)))
  all_goals(try(first|exact absurd hjI (by assumption)|exact absurd hz (by assumption)|exact absurd (by assumption) hz))
  all_goals(refine⟨⟨3+1,us⟩,⟨⟨by show 3+1≤_;omega,by show us.length≤3+1;omega⟩,hH⟩,(by show _-(3+1)<_-3;omega),?_⟩;(conv=>whnf);refine⟨?_,?_,?_⟩<;>repeat(first|exact trivial|refine sc rfl ?_|refine kn ?_|refine kc rfl ?_|refine sc (by rfl) ?_|refine kc (by rfl) ?_))
 ·have hv:v4=1:=hV
  rw[decide_eq_true hv]at hq4
  have hqn:(!eqL [.int .i64 v4,.int .i64 0,.int .i64 0] [.int .i64 1,.int .i64 0,.int .i64 0])=false:=by rw[hq4];rfl
  conv=>whnf
  repeat(any_goals(first|exact ac|(refine ao ?_ ?_<;>intro _<;>first|exact ap|conv=>whnf)|((first|refine bW hqn ?_|refine bO hq4 ?_|refine ae ?_|refine bi ?_ ?_|intro _)<;>conv=>whnf)))
  all_goals(try(first|exact absurd hjI (by assumption)|exact absurd hz (by assumption)|exact absurd (by assumption) hz))
  all_goals(refine⟨⟨4+1,us⟩,⟨⟨by show 4+1≤_;omega,by show us.length≤4+1;omega⟩,hH⟩,(by show _-(4+1)<_-4;omega),?_⟩;(conv=>whnf);refine⟨?_,?_,?_⟩<;>repeat(first|exact trivial|refine sc rfl ?_|refine kn ?_|refine kc rfl ?_|refine sc (by rfl) ?_|refine kc (by rfl) ?_))
 ·have hv:v5=1:=hV
  rw[decide_eq_true hv]at hq5
  have hqn:(!eqL [.int .i64 v5,.int .i64 0,.int .i64 0] [.int .i64 1,.int .i64 0,.int .i64 0])=false:=by rw[hq5];rfl
  conv=>whnf
  repeat(any_goals(first|exact ac|(refine ao ?_ ?_<;>intro _<;>first|exact ap|conv=>whnf)|((first|refine bW hqn ?_|refine bO hq5 ?_|refine ae ?_|refine bi ?_ ?_|intro _)<;>conv=>whnf)))
  all_goals(try(first|exact absurd hjI (by assumption)|exact absurd hz (by assumption)|exact absurd (by assumption) hz))
  all_goals(refine⟨⟨5+1,us⟩,⟨⟨by show 5+1≤_;omega,by show us.length≤5+1;omega⟩,hH⟩,(by show _-(5+1)<_-5;omega),?_⟩;(conv=>whnf);refine⟨?_,?_,?_⟩<;>repeat(first|exact trivial|refine sc rfl ?_|refine kn ?_|refine kc rfl ?_|refine sc (by rfl) ?_|refine kc (by rfl) ?_))
end Go.Proofs.YtgncapdjheghfaaDoor
namespace Go.Proofs.YtgncapdjheghfaaDoor
open Go.Am Go.Proofs Go
set_option maxHeartbeats 8000000 in
theorem FG(s S:Bill)(hg:s.Good)(hSg:S.Good)(ts:List Int)(K U:List Int)(i:Nat)(us:List Int)(v0 v1 v2 v3 v4 v5:Int)
  (hul:us.length≤i) (hi:i<s.figs.length) (HU:U=us++cz S [v0,v1,v2,v3,v4,v5] (s.figs.length-i) i) (hA:¬S.inAll i=true):SuR s S ts K [v0,v1,v2,v3,v4,v5] U ⟨i,us⟩:=by
 have hz:=s4 S i (by have:=hg.len;omega)
 have hfl6:=hg.len
 have hcl:(s.figs.map eR).length=s.figs.length:=List.length_map ..
 have hkm:(us.map ak).length=us.length:=List.length_map ..
 obtain⟨f,hf⟩:∃f,s.figs.length-i=f+1:=⟨s.figs.length-i-1,by omega⟩
 have hf2:s.figs.length-(i+1)=f:=by omega
 rw[hf,gh,if_neg (fun h=>hA h.1)]at HU
 unfold eb js at hz
 have hq0:=dg v0
 have hq1:=dg v1
 have hq2:=dg v2
 have hq3:=dg v3
 have hq4:=dg v4
 have hq5:=dg v5
 have hjI:(i:Int)<((s.figs.map eR).length:Nat):=by omega
 clear hSg hg hf
 intro Q
 rw[Bool.eq_false_iff.2 hA,decide_eq_false_iff_not]at hz
 have hH:U=us++cz S [v0,v1,v2,v3,v4,v5] (s.figs.length-(i+1)) (i+1):=by rw[HU,hf2]
 clear HU hf2
 rcases(by omega:i=0∨i=1∨i=2∨i=3∨i=4∨i=5)with rfl|rfl|rfl|rfl|rfl|rfl
 ·conv=>whnf
  repeat(any_goals(first|exact ac|(refine ao ?_ ?_<;>intro _<;>first|exact ap|conv=>whnf)|((first|refine ae ?_|refine bi ?_ ?_|intro _)<;>conv=>whnf)))
  all_goals(try(first|exact absurd hjI (by assumption)|exact absurd hz (by assumption)|exact absurd (by assumption) hz))
  all_goals(refine⟨⟨0+1,us⟩,⟨⟨by show 0+1≤_;omega,by show us.length≤0+1;omega⟩,hH⟩,(by show _-(0+1)<_-0;omega),?_⟩;(conv=>whnf);refine⟨?_,?_,?_⟩<;>repeat(first|exact trivial|refine sc rfl ?_|refine kn ?_|refine kc rfl ?_|refine sc (by rfl) ?_|refine kc (by rfl) ?_))
 ·conv=>whnf
  repeat(any_goals(first|exact ac|(refine ao ?_ ?_<;>intro _<;>first|exact ap|conv=>whnf)|((first|refine ae ?_|refine bi ?_ ?_|intro _)<;>conv=>whnf)))
  all_goals(try(first|exact absurd hjI (by assumption)|exact absurd hz (by assumption)|exact absurd (by assumption) hz))
  all_goals(refine⟨⟨1+1,us⟩,⟨⟨by show 1+1≤_;omega,by show us.length≤1+1;omega⟩,hH⟩,(by show _-(1+1)<_-1;omega),?_⟩;(conv=>whnf);refine⟨?_,?_,?_⟩<;>repeat(first|exact trivial|refine sc rfl ?_|refine kn ?_|refine kc rfl ?_|refine sc (by rfl) ?_|refine kc (by rfl) ?_))
 ·conv=>whnf
  repeat(any_goals(first|exact ac|(refine ao ?_ ?_<;>intro _<;>first|exact ap|conv=>whnf)|((first|refine ae ?_|refine bi ?_ ?_|intro _)<;>conv=>whnf)))
  all_goals(try(first|exact absurd hjI (by assumption)|exact absurd hz (by assumption)|exact absurd (by assumption) hz))
  all_goals(refine⟨⟨2+1,us⟩,⟨⟨by show 2+1≤_;omega,by show us.length≤2+1;omega⟩,hH⟩,(by show _-(2+1)<_-2;omega),?_⟩;(conv=>whnf);refine⟨?_,?_,?_⟩<;>repeat(first|exact trivial|refine sc rfl ?_|refine kn ?_|refine kc rfl ?_|refine sc (by rfl) ?_|refine kc (by rfl) ?_))
 ·conv=>whnf
  repeat(any_goals(first|exact ac|(refine ao ?_ ?_<;>intro _<;>first|exact ap|conv=>whnf)|((first|refine ae ?_|refine bi ?_ ?_|intro _)<;>conv=>whnf)))
  all_goals(try(first|exact absurd hjI (by assumption)|exact absurd hz (by assumption)|exact absurd (by assumption) hz))
  all_goals(refine⟨⟨3+1,us⟩,⟨⟨by show 3+1≤_;omega,by show us.length≤3+1;omega⟩,hH⟩,(by show _-(3+1)<_-3;omega),?_⟩;(conv=>whnf);refine⟨?_,?_,?_⟩<;>repeat(first|exact trivial|refine sc rfl ?_|refine kn ?_|refine kc rfl ?_|refine sc (by rfl) ?_|refine kc (by rfl) ?_))
 ·conv=>whnf
  repeat(any_goals(first|exact ac|(refine ao ?_ ?_<;>intro _<;>first|exact ap|conv=>whnf)|((first|refine ae ?_|refine bi ?_ ?_|intro _)<;>conv=>whnf)))
  all_goals(try(first|exact absurd hjI (by assumption)|exact absurd hz (by assumption)|exact absurd (by assumption) hz))
  all_goals(refine⟨⟨4+1,us⟩,⟨⟨by show 4+1≤_;omega,by show us.length≤4+1;omega⟩,hH⟩,(by show _-(4+1)<_-4;omega),?_⟩;(conv=>whnf);refine⟨?_,?_,?_⟩<;>repeat(first|exact trivial|refine sc rfl ?_|refine kn ?_|refine kc rfl ?_|refine sc (by rfl) ?_|refine kc (by rfl) ?_))
 ·conv=>whnf
  repeat(any_goals(first|exact ac|(refine ao ?_ ?_<;>intro _<;>first|exact ap|conv=>whnf)|((first|refine ae ?_|refine bi ?_ ?_|intro _)<;>conv=>whnf)))
  all_goals(try(first|exact absurd hjI (by assumption)|exact absurd hz (by assumption)|exact absurd (by assumption) hz))
  all_goals(refine⟨⟨5+1,us⟩,⟨⟨by show 5+1≤_;omega,by show us.length≤5+1;omega⟩,hH⟩,(by show _-(5+1)<_-5;omega),?_⟩;(conv=>whnf);refine⟨?_,?_,?_⟩<;>repeat(first|exact trivial|refine sc rfl ?_|refine kn ?_|refine kc rfl ?_|refine sc (by rfl) ?_|refine kc (by rfl) ?_))
end Go.Proofs.YtgncapdjheghfaaDoor
namespace Go.Proofs.YtgncapdjheghfaaDoor
open Go.Am Go.Proofs Go
set_option maxHeartbeats 8000000 in
theorem Dv(s:Bill)(hr:s.small)(c:List Ent)(hl:c.length≤1048576)(hk:cj s c=0)(left:Nat)(h1:1≤left)(h2:left<2^s.truths.length) :
  PureA Tryd.prog 10 [ci s,bg c,ak left] (Dw (s.leftT left) c s.figs.length):=by
 have he:=dp s hr c hl hk
 obtain⟨hg,hok,h6⟩:=eF hk
 have hT:=hg.lenT
 obtain⟨p1,p2⟩:=fk hT.2
 have h64:left<64:=Nat.lt_of_lt_of_le h2 (Nat.le_trans (Nat.pow_le_pow_right (by omega) hT.2) (by decide))
 have hsh:=pf s.truths.length hT.2
 have htl:(s.truths.map ak).length=s.truths.length:=List.length_map ..
 have hpn:((2:Int)^s.truths.length)=((2^s.truths.length:Nat):Int):=by push_cast;rfl
 have hb:PureA Tryd.prog 15 [ak 1,ak (IntKind.i64.wrap (1 * 2^min (((s.truths.map ak).length:Int)).toNat IntKind.i64.bits)-1),ak left] (aH false):=by
  have:=cT left 1 (2^s.truths.length-1)
  rw[htl,hsh]
  rwa [(a7 _ _ _).2 (by omega)]at this
 rw[←htl]at hsh
 have hbit:=fun i (hi:i≤64)=>Fo left i h64 hi
 unfold eb js at hbit
 obtain⟨B,hB⟩:∃B,bA left 0 s.truths=B:=⟨_,rfl⟩
 have hBS:s.leftT left={ s with truths:=B}:=by unfold Bill.leftT;rw[hB]
 rw[hBS]
 have hBne:B≠[]:=by rw[←hB];exact BI rfl (by omega) h2
 have hBg:({ s with truths:=B}:Bill).Good:=by rw[←hB];exact uu hg (by rw[hB];exact hBne)
 unfold co at he
 refine ag ax { l:=0,f:=10,mat:=[17,20],ow:=[59],fz:=[(13,9)]} mixed q9 Tryd.func10 (by kernel_rfl) ?_
 conv=>whnf
 repeat(any_goals(first|exact ac|(refine ao ?_ ?_<;>intro _<;>first|exact ap|conv=>whnf)|((first|refine ae ?_|refine bi ?_ ?_|intro _)<;>conv=>whnf)))
 refine⟨[],?_⟩
 conv=>whnf
 refine⟨_,_,he,?_⟩
 conv=>whnf
 repeat(any_goals(first|exact ac|(refine ao ?_ ?_<;>intro _<;>first|exact ap|conv=>whnf)|((first|refine aa hb ?_|refine ae ?_|refine bi ?_ ?_|intro _)<;>conv=>whnf)))
 refine bS ax { l:=0,f:=10,mat:=[17,20],ow:=[59],fz:=[(13,9)]} mixed (fun u:TrSt=>[(41,ak u.i)]) (fun u=>[(b6,some (1,some (5,[.agg [ak s.lines,iK s.figs,FT u.ts,ak s.allN,ak s.someN]]))),(kTr,some (trS u.ts))]) (fun _=>[]) (fun u=>(u.i≤s.truths.length∧u.ts.length≤u.i)∧B=u.ts++bA left u.i (s.truths.drop u.i)) (fun u=>s.truths.length-u.i) (⟨0,[]⟩:TrSt) (by kernel_rfl)
  ⟨⟨Nat.zero_le _,Nat.zero_le _⟩,hB.symm⟩ ?_
 conv=>whnf
 refine⟨⟨aj rfl trivial,?_,trivial⟩,?_⟩
 ·repeat(first|exact trivial|refine kc rfl ?_|refine bC rfl ?_)
 clear hB
 rintro u ⟨⟨hi,hts⟩,H⟩
 generalize u.i=i at *
 generalize u.ts=ts at *
 clear u
 by_cases hlt:i<s.truths.length
 ·obtain⟨x,hx,hd⟩:=aF (l:=s.truths) (i:=i) hlt
  rw[hd,oe]at H
  have hbi:=hbit i (by omega)
  by_cases hbb:left.testBit i=true
  ·rw[if_pos hbb]at H
   rw[hbb,decide_eq_true_eq]at hbi
   cases ts with
   | nil =>
    conv=>whnf
    repeat(any_goals(first|exact ac|(refine ao ?_ ?_<;>intro _<;>first|exact ap|conv=>whnf)|((first|refine af hx rfl ?_|refine ae ?_|refine bi ?_ ?_|intro _)<;>conv=>whnf)))
    (refine⟨⟨i+1,[x]⟩,⟨⟨by show i+1≤_;omega,by show 1≤i+1;omega⟩,H⟩,(by show _-(i+1)<_-i;omega),?_⟩;(conv=>whnf);refine⟨?_,?_,?_⟩<;>repeat(first|exact trivial|refine sc rfl ?_|refine kn ?_|refine kc rfl ?_|refine sc (by rfl) ?_|refine kc (by rfl) ?_))
   | cons y l =>
    obtain⟨e1,e2⟩:=DH y l x
    simp only[List.length_cons]at hts
    have hel:((y::l).map ak).length=l.length+1:=by simp
    conv=>whnf
    repeat(any_goals(first|exact ac|(refine ao ?_ ?_<;>intro _<;>first|exact ap|conv=>whnf)|((first|refine af hx rfl ?_|refine ae ?_|refine bi ?_ ?_|intro _)<;>conv=>whnf)))
    (refine⟨⟨i+1,(y::l)++[x]⟩,⟨⟨by show i+1≤_;omega,by show((y::l)++[x]).length≤i+1;simp;omega⟩,by rw[H];simp⟩,(by show _-(i+1)<_-i;omega),?_⟩;(conv=>whnf);refine⟨?_,?_,?_⟩<;>repeat(first|exact trivial|refine sc rfl ?_|refine kn ?_|refine kc rfl ?_|refine sc (by first|(rw[e1];rfl)|(rw[e2];rfl)) ?_|refine kc (by first|(rw[e1];rfl)|(rw[e2];rfl)) ?_))
  ·rw[if_neg hbb]at H
   rw[Bool.eq_false_iff.2 hbb,decide_eq_false_iff_not]at hbi
   cases ts with
   | nil =>
    conv=>whnf
    repeat(any_goals(first|exact ac|(refine ao ?_ ?_<;>intro _<;>first|exact ap|conv=>whnf)|((first|refine af hx rfl ?_|refine ae ?_|refine bi ?_ ?_|intro _)<;>conv=>whnf)))
    (refine⟨⟨i+1,[]⟩,⟨⟨by show i+1≤_;omega,by show 0≤i+1;omega⟩,H⟩,(by show _-(i+1)<_-i;omega),?_⟩;(conv=>whnf);refine⟨?_,?_,?_⟩<;>repeat(first|exact trivial|refine sc rfl ?_|refine kn ?_|refine kc rfl ?_|refine sc (by rfl) ?_|refine kc (by rfl) ?_))
   | cons y l =>
    conv=>whnf
    repeat(any_goals(first|exact ac|(refine ao ?_ ?_<;>intro _<;>first|exact ap|conv=>whnf)|((first|refine af hx rfl ?_|refine ae ?_|refine bi ?_ ?_|intro _)<;>conv=>whnf)))
    (refine⟨⟨i+1,y::l⟩,⟨⟨by show i+1≤_;omega,by show(y::l).length≤i+1;omega⟩,H⟩,(by show _-(i+1)<_-i;omega),?_⟩;(conv=>whnf);refine⟨?_,?_,?_⟩<;>repeat(first|exact trivial|refine sc rfl ?_|refine kn ?_|refine kc rfl ?_|refine sc (by rfl) ?_|refine kc (by rfl) ?_))
 ·have hin:i=s.truths.length:=by omega
  subst hin
  rw[List.drop_length]at H
  simp only[bA,List.append_nil]at H
  subst H
  cases B with
  | nil=>exact absurd rfl hBne
  | cons y l =>
   obtain⟨S,hS⟩:∃S:Bill,S={ s with truths:=y::l}:=⟨_,rfl⟩
   have hSg:S.Good:=by rw[hS];exact hBg
   have hkn:=wS S s.allN s.someN hSg.lenT.2 fun t ht=>hSg.lt ht
   have e1:kL S S.truths.length=S.allN:=by
    unfold kL
    have:=hSg.lenT
    rw[if_neg (by omega),List.take_length];rfl
   have e2:vG S S.truths.length=S.someN:=by
    unfold vG
    rw[List.take_length];rfl
   rw[e1,e2]at hkn
   have hkn:BoxA Tryd.prog (.fn 20) [(b6,1,5,[.agg [ak s.lines,iK s.figs,bU (y::l),ak s.allN,ak s.someN]])] [.ptr b6 1 5 0 0] (.tuple []) [(b6,1,5,[.agg [ak s.lines,iK s.figs,bU (y::l),ak S.allN,ak S.someN]])]:=by
    have e3:∀a b:Int,xT S a b = .agg [ak s.lines,iK s.figs,bU (y::l),ak a,ak b]:=fun a b=>by rw[hS];rfl
    rw[←e3, ←e3];exact hkn
   clear e1 e2 hbit hb
   conv=>whnf
   repeat(any_goals(first|exact ac|(refine ao ?_ ?_<;>intro _<;>first|exact ap|conv=>whnf)|((first|refine ab (mg (y::l) _ rfl) ?_|refine ae ?_|refine bi ?_ ?_|intro _)<;>conv=>whnf)))
   refine⟨[b6],?_⟩
   conv=>whnf
   refine⟨_,_,hkn,?_⟩
   conv=>whnf
   repeat(any_goals(first|exact ac|(refine ao ?_ ?_<;>intro _<;>first|exact ap|conv=>whnf)|((first|refine ae ?_|refine bi ?_ ?_|intro _)<;>conv=>whnf)))
   have hcl:(c.map bK).length=c.length:=List.length_map ..
   have hfl:S.figs=s.figs:=by rw[hS]
   rw[←hS]
   unfold Dw
   obtain⟨K,hK⟩:∃K,c9 S 0 c=K:=⟨_,rfl⟩
   obtain⟨D,hD⟩:∃D,jm [0,0,0,0,0,0] c=D:=⟨_,rfl⟩
   rw[hK,hD]
   refine r7 6 1 ⟨0,10,91⟩ ?_
   conv=>whnf
   refine tq (⟨(69,ak 0)::(6,.slice 1 [] (.own k91 1))::FO c,(kSd,some (1,some (18,[.agg (sdC [0,0,0,0,0,0])])))::FN s S (y::l),(k91,some (1,0))::FP⟩:SS) ?_ ?_
   ·conv=>whnf
    refine⟨?_,?_,?_⟩<;>repeat(first|exact trivial|refine sc rfl ?_|refine kn ?_|refine kc rfl ?_|refine bC rfl ?_)
   refine bS ax { l:=0,f:=10,mat:=[17,20],ow:=[59],fz:=[(13,9)]} mixed (fun u:SdSt=>[(69,ak u.j),(6,.slice 1 (u.ks.map ak) (.own k91 1))]) (fun u=>[(kSd,some (1,some (18,[.agg (sdC u.sd)])))]) (fun u=>[(k91,some (1,u.ks.length))]) (SdI S c K D) (fun u=>c.length-u.j) (⟨0,[],[0,0,0,0,0,0]⟩:SdSt) (by kernel_rfl)
    ⟨⟨Nat.zero_le _,Nat.zero_le _,rfl⟩,hK.symm,hD.symm⟩ ?_
   conv=>whnf
   refine⟨⟨?_,?_,?_⟩,?_⟩
   ·repeat(first|exact trivial|refine sc rfl ?_)
   ·repeat(first|exact trivial|refine kc rfl ?_|refine bC rfl ?_)
   ·repeat(first|exact trivial|refine kc rfl ?_|refine bC rfl ?_)
   clear hK hD hkn
   rintro⟨j,ks,sd⟩ hI
   obtain⟨⟨hj,hkl,hsl⟩,HK,HD⟩:=hI
   simp only at hj hkl hsl HK HD
   obtain⟨v0,v1,v2,v3,v4,v5,rfl⟩:=six sd hsl
   by_cases hjl:j<c.length
   ·obtain⟨⟨sy,xa,xb⟩,hx⟩:∃x,c[j]?=some x:=⟨_,List.getElem?_eq_getElem hjl⟩
    by_cases q2:sy=2
    ·by_cases qs:S.inSome xa.toNat=false
     ·exact Fz s S hg hSg (y::l) c hok h6 K D j ks v0 v1 v2 v3 v4 v5 hkl HK HD sy xa xb hx q2 qs _
     ·exact FA s S hg hSg (y::l) c hok h6 K D j ks v0 v1 v2 v3 v4 v5 hkl HK HD sy xa xb hx q2 qs _
    ·exact FB s S hg hSg (y::l) c hok h6 K D j ks v0 v1 v2 v3 v4 v5 hkl HK HD sy xa xb hx q2 _
   ·have hjc:j=c.length:=by omega
    subst hjc
    rw[List.drop_length]at HK HD
    simp only[c9,jm,List.append_nil]at HK HD
    subst HK
    subst HD
    have hkm:(K.map ak).length=K.length:=List.length_map ..
    have hqe:=AL v0 v1 v2 v3 v4 v5
    unfold AK at hqe
    have hnj:¬((c.length:Int)<((c.map bK).length:Nat)):=by omega
    by_cases hz0:[v0,v1,v2,v3,v4,v5]=[0,0,0,0,0,0]
    ·rw[if_pos hz0]
     rw[decide_eq_true hz0]at hqe
     conv=>whnf
     repeat(any_goals(first|exact ac|(refine ao ?_ ?_<;>intro _<;>first|exact ap|conv=>whnf)|((first|refine bO hqe ?_|refine ae ?_|refine bi ?_ ?_|intro _)<;>conv=>whnf)))
     all_goals(try(exact absurd (by assumption) hnj))
     (refine⟨⟨?_⟩,trivial⟩;rfl)
    ·rw[if_neg hz0]
     rw[decide_eq_false hz0]at hqe
     conv=>whnf
     repeat(any_goals(first|exact ac|(refine ao ?_ ?_<;>intro _<;>first|exact ap|conv=>whnf)|((first|refine bW hqe ?_|refine ae ?_|refine bi ?_ ?_|intro _)<;>conv=>whnf)))
     all_goals(try(exact absurd (by assumption) hnj))
     refine r7 7 1 ⟨0,10,128⟩ ?_
     conv=>whnf
     refine tq (⟨(107,ak 0)::(7,.slice 1 [] (.own D2 1))::FR s K,FQ s S (y::l) [v0,v1,v2,v3,v4,v5],(D2,some (1,0))::FS K⟩:SS) ?_ ?_
     ·conv=>whnf
      refine⟨?_,?_,?_⟩<;>repeat(first|exact trivial|refine sc rfl ?_|refine kn ?_|refine kc rfl ?_|refine bC rfl ?_)
     obtain⟨U,hU⟩:∃U,cz S [v0,v1,v2,v3,v4,v5] s.figs.length 0=U:=⟨_,rfl⟩
     rw[hU]
     refine bS ax { l:=0,f:=10,mat:=[17,20],ow:=[59],fz:=[(13,9)]} mixed (fun u:SuSt=>[(107,ak u.i),(7,.slice 1 (u.us.map ak) (.own D2 1))]) (fun _=>[]) (fun u=>[(D2,some (1,u.us.length))]) (SuI s S [v0,v1,v2,v3,v4,v5] U) (fun u=>s.figs.length-u.i) (⟨0,[]⟩:SuSt) (by kernel_rfl)
      ⟨⟨Nat.zero_le _,Nat.zero_le _⟩,hU.symm⟩ ?_
     conv=>whnf
     refine⟨⟨?_,trivial,?_⟩,?_⟩
     ·repeat(first|exact trivial|refine sc rfl ?_)
     ·repeat(first|exact trivial|refine kc rfl ?_|refine bC rfl ?_)
     clear hU hqe
     rintro⟨i,us⟩ hI
     obtain⟨⟨hi,hul⟩,HU⟩:=hI
     simp only at hi hul HU
     by_cases hil:i<s.figs.length
     ·by_cases hA:S.inAll i=true
      ·by_cases hV:[v0,v1,v2,v3,v4,v5].getD i 0=1
       ·exact FF s S hg hSg (y::l) K U i us v0 v1 v2 v3 v4 v5 hul hil HU hA hV _
       ·exact FE s S hg hSg (y::l) K U i us v0 v1 v2 v3 v4 v5 hul hil HU hA hV _
      ·exact FG s S hg hSg (y::l) K U i us v0 v1 v2 v3 v4 v5 hul hil HU hA _
     ·have hin:i=s.figs.length:=by omega
      subst hin
      rw[Nat.sub_self]at HU
      simp only[cz,List.append_nil]at HU
      subst HU
      have hcf:(s.figs.map eR).length=s.figs.length:=List.length_map ..
      have hni:¬((s.figs.length:Int)<((s.figs.map eR).length:Nat)):=by omega
      conv=>whnf
      repeat(any_goals(first|exact ac|(refine ao ?_ ?_<;>intro _<;>first|exact ap|conv=>whnf)|((first|refine ae ?_|refine bi ?_ ?_|intro _)<;>conv=>whnf)))
      all_goals(try(exact absurd (by assumption) hni))
      (refine⟨⟨?_⟩,trivial⟩;rfl)
end Go.Proofs.YtgncapdjheghfaaDoor
namespace Go.Proofs.YtgncapdjheghfaaDoor
open Go.Am Go.Proofs Go
def Bill.slipL(s:Bill)(c:List Ent):List Int:=if jm [0,0,0,0,0,0] c=[0,0,0,0,0,0]then []else cz s (jm [0,0,0,0,0,0] c) s.figs.length 0
def Bill.slipR(s:Bill)(c:List Ent)(left:Int):List Int×List Int×Int :=
 if cj s c≠0 then([],[],cj s c)else if aS 1 (2^s.truths.length-1) left=true then([],[],7)
 else(c9 (s.leftT left.toNat) 0 c,(s.leftT left.toNat).slipL c,0)
def xV(x:List Int×List Int×Int):AV:= .tuple [bU x.1,bU x.2.1,ak x.2.2]
theorem tF{P:Program}{f:FuncId}{args:List AV}{e:Int}(h:PureA P f args (.tuple [nw,nw,ak e])):PureA P f args (xV ([],[],e)) :=
 h.wk (Wk.tuple (.cons (Wk.nil 1) (.cons (Wk.nil 1) (WkL.refl _))))
theorem Du(s:Bill)(hr:s.small)(c:List Ent)(hl:c.length≤1048576)(left e:Int)(hk:cj s c=e)(h0:e≠0):PureA Tryd.prog 10 [ci s,bg c,ak left] (.tuple [nw,nw,ak e]):=by
 have he:=iG s hr c hl e hk h0
 refine ag ax { l:=0,f:=10,mat:=[17,20],ow:=[59],fz:=[(13,9)]} mixed q9 Tryd.func10 (by kernel_rfl) ?_
 conv=>whnf
 repeat(any_goals(first|exact ac|(refine ao ?_ ?_<;>intro _<;>first|exact ap|conv=>whnf)|((first|refine ae ?_|refine bi ?_ ?_|intro _)<;>conv=>whnf)))
 refine⟨[],?_⟩
 conv=>whnf
 refine⟨_,_,he,?_⟩
 conv=>whnf
 repeat(any_goals(first|exact ac|(refine ao ?_ ?_<;>intro _<;>first|exact ap|conv=>whnf)|((first|refine ae ?_|refine bi ?_ ?_|intro _)<;>conv=>whnf)))
 (refine⟨⟨?_⟩,trivial⟩;rfl)
theorem Dt(s:Bill)(hr:s.small)(c:List Ent)(hl:c.length≤1048576)(left:Int)(hk:cj s c=0)(ho:aS 1 (2^s.truths.length-1) left=true):PureA Tryd.prog 10 [ci s,bg c,ak left] (.tuple [nw,nw,ak 7]):=by
 have he:=dp s hr c hl hk
 obtain⟨hg,_,_⟩:=eF hk
 have hT:=hg.lenT
 obtain⟨p1,p2⟩:=fk hT.2
 have hsh:=pf s.truths.length hT.2
 have htl:(s.truths.map ak).length=s.truths.length:=List.length_map ..
 have hb:PureA Tryd.prog 15 [ak 1,ak (IntKind.i64.wrap (1 * 2^min (((s.truths.map ak).length:Int)).toNat IntKind.i64.bits)-1),ak left] (aH true):=by
  have:=cT left 1 (2^s.truths.length-1)
  rw[htl,hsh]
  rwa [ho]at this
 rw[←htl]at hsh
 unfold co at he
 refine ag ax { l:=0,f:=10,mat:=[17,20],ow:=[59],fz:=[(13,9)]} mixed q9 Tryd.func10 (by kernel_rfl) ?_
 conv=>whnf
 repeat(any_goals(first|exact ac|(refine ao ?_ ?_<;>intro _<;>first|exact ap|conv=>whnf)|((first|refine ae ?_|refine bi ?_ ?_|intro _)<;>conv=>whnf)))
 refine⟨[],?_⟩
 conv=>whnf
 refine⟨_,_,he,?_⟩
 conv=>whnf
 repeat(any_goals(first|exact ac|(refine ao ?_ ?_<;>intro _<;>first|exact ap|conv=>whnf)|((first|refine aa hb ?_|refine ae ?_|refine bi ?_ ?_|intro _)<;>conv=>whnf)))
 (refine⟨⟨?_⟩,trivial⟩;rfl)
theorem mw(s:Bill)(hr:s.small)(c:List Ent)(hl:c.length≤1048576)(left:Int):PureA Tryd.prog 10 [ci s,bg c,ak left] (xV (s.slipR c left)):=by
 unfold Bill.slipR
 by_cases hk:cj s c=0
 ·rw[if_neg (fun h=>h hk)]
  by_cases ho:aS 1 (2^s.truths.length-1) left=true
  ·rw[if_pos ho]
   exact tF (Dt s hr c hl left hk ho)
  ·rw[if_neg ho]
   rw[Bool.not_eq_true,a7]at ho
   obtain⟨n,rfl⟩:∃n:Nat,left=n:=⟨left.toNat,by omega⟩
   rw[Int.toNat_natCast]
   have hp:((2:Int)^s.truths.length)=((2^s.truths.length:Nat):Int):=by push_cast;rfl
   have h:=Dv s hr c hl hk n (by omega) (by omega)
   unfold Dw at h
   unfold xV Bill.slipL
   by_cases hz:jm [0,0,0,0,0,0] c=[0,0,0,0,0,0]
   ·rw[if_pos hz]at h ⊢
    exact h.wk (Wk.tuple (.cons (Wk.refl _) (.cons (Wk.nil 1) (WkL.refl _))))
   ·rw[if_neg hz]at h ⊢
    exact h
 ·rw[if_pos hk]
  exact tF (Du s hr c hl left _ rfl hk)
end Go.Proofs.YtgncapdjheghfaaDoor
namespace Go.Proofs.YtgncapdjheghfaaDoor
open Go.Am Go.Proofs Go
end Go.Proofs.YtgncapdjheghfaaDoor
namespace Go.Proofs.YtgncapdjheghfaaDoor
open Go.Shelf Go.Proofs Go
def r5:Go.Shelf.Ren:=⟨(fun|171=>59|243=>74|246=>80|283=>83|284=>84|285=>85|286=>86|129=>89|317=>88|318=>90|319=>91|320=>92|337=>93|338=>94|n=>n),(fun|3=>3|9=>9|2=>2|4=>4|171=>132|0=>0|53=>133|37=>110|5=>5|173=>136|212=>141|51=>142|20=>20|213=>143|46=>144|232=>147|233=>148|n=>n),(fun|17=>1|18=>2|19=>3|n=>n)⟩
theorem CO:Go.Proofs.Lays.n171 Tryd.prog r5:={
 mixed:=by kernel_rfl,
 f129:=Tryd.func89.trans (congrArg some (by kernel_rfl)),
 f171:=Tryd.func59.trans (congrArg some (by kernel_rfl)),
 f243:=Tryd.func74.trans (congrArg some (by kernel_rfl)),
 f246:=Tryd.func80.trans (congrArg some (by kernel_rfl)),
 f283:=Tryd.func83.trans (congrArg some (by kernel_rfl)),
 f284:=Tryd.func84.trans (congrArg some (by kernel_rfl)),
 f285:=Tryd.func85.trans (congrArg some (by kernel_rfl)),
 f286:=Tryd.func86.trans (congrArg some (by kernel_rfl)),
 f317:=Tryd.func88.trans (congrArg some (by kernel_rfl)),
 f318:=Tryd.func90.trans (congrArg some (by kernel_rfl)),
 f319:=Tryd.func91.trans (congrArg some (by kernel_rfl)),
 f320:=Tryd.func92.trans (congrArg some (by kernel_rfl)),
 f337:=Tryd.func93.trans (congrArg some (by kernel_rfl)),
 f338:=Tryd.func94.trans (congrArg some (by kernel_rfl)),
 t0:=Tryd.underlying0,
 a0:=Tryd.isAgg0,
 z0:=Tryd.sizeOf0,
 v0:=Tryd.zeroValue0,
 t2:=Tryd.underlying2,
 a2:=Tryd.isAgg2,
 z2:=Tryd.sizeOf2,
 v2:=Tryd.zeroValue2,
 t3:=Tryd.underlying3,
 a3:=Tryd.isAgg3,
 z3:=Tryd.sizeOf3,
 v3:=Tryd.zeroValue3,
 t4:=Tryd.underlying4,
 a4:=Tryd.isAgg4,
 z4:=Tryd.sizeOf4,
 v4:=Tryd.zeroValue4,
 t5:=Tryd.underlying5,
 a5:=Tryd.isAgg5,
 z5:=Tryd.sizeOf5,
 v5:=Tryd.zeroValue5,
 t9:=Tryd.underlying9,
 a9:=Tryd.isAgg9,
 z9:=Tryd.sizeOf9,
 v9:=Tryd.zeroValue9,
 t20:=Tryd.underlying20,
 a20:=Tryd.isAgg20,
 z20:=Tryd.sizeOf20,
 v20:=Tryd.zeroValue20,
 t37:=Tryd.underlying110,
 a37:=Tryd.isAgg110,
 z37:=Tryd.sizeOf110,
 v37:=Tryd.zeroValue110,
 t46:=Tryd.underlying144,
 a46:=Tryd.isAgg144,
 z46:=Tryd.sizeOf144,
 v46:=Tryd.zeroValue144,
 t51:=Tryd.underlying142,
 a51:=Tryd.isAgg142,
 z51:=Tryd.sizeOf142,
 v51:=Tryd.zeroValue142,
 t53:=Tryd.underlying133,
 a53:=Tryd.isAgg133,
 z53:=Tryd.sizeOf133,
 v53:=Tryd.zeroValue133,
 t171:=Tryd.underlying132,
 a171:=Tryd.isAgg132,
 z171:=Tryd.sizeOf132,
 v171:=Tryd.zeroValue132,
 t173:=Tryd.underlying136,
 a173:=Tryd.isAgg136,
 z173:=Tryd.sizeOf136,
 v173:=Tryd.zeroValue136,
 t212:=Tryd.underlying141,
 a212:=Tryd.isAgg141,
 z212:=Tryd.sizeOf141,
 v212:=Tryd.zeroValue141,
 t213:=Tryd.underlying143,
 a213:=Tryd.isAgg143,
 z213:=Tryd.sizeOf143,
 t232:=Tryd.underlying147,
 a232:=Tryd.isAgg147,
 z232:=Tryd.sizeOf147,
 v232:=Tryd.zeroValue147,
 t233:=Tryd.underlying148,
 a233:=Tryd.isAgg148,
 z233:=Tryd.sizeOf148,
 v233:=Tryd.zeroValue148,
 g17:=by kernel_rfl,
 g18:=by kernel_rfl,
 g19:=by kernel_rfl}
def lO:Go.Shelf.Ren:=⟨(fun|156=>73|165=>79|166=>57|169=>61|240=>72|241=>82|276=>78|277=>87|n=>n),(fun|31=>84|9=>9|3=>3|4=>4|0=>0|20=>20|72=>112|76=>116|70=>109|37=>110|75=>115|127=>126|164=>128|5=>5|80=>120|n=>n),(fun|n=>n)⟩
theorem lN:Go.Proofs.Lays.n156 Tryd.prog lO:={
 mixed:=by kernel_rfl,
 f156:=Tryd.func73.trans (congrArg some (by kernel_rfl)),
 f165:=Tryd.func79.trans (congrArg some (by kernel_rfl)),
 f166:=Tryd.func57.trans (congrArg some (by kernel_rfl)),
 f169:=Tryd.func61.trans (congrArg some (by kernel_rfl)),
 f240:=Tryd.func72.trans (congrArg some (by kernel_rfl)),
 f241:=Tryd.func82.trans (congrArg some (by kernel_rfl)),
 f276:=Tryd.func78.trans (congrArg some (by kernel_rfl)),
 f277:=Tryd.func87.trans (congrArg some (by kernel_rfl)),
 t0:=Tryd.underlying0,
 a0:=Tryd.isAgg0,
 z0:=Tryd.sizeOf0,
 v0:=Tryd.zeroValue0,
 t3:=Tryd.underlying3,
 a3:=Tryd.isAgg3,
 z3:=Tryd.sizeOf3,
 v3:=Tryd.zeroValue3,
 t4:=Tryd.underlying4,
 a4:=Tryd.isAgg4,
 z4:=Tryd.sizeOf4,
 v4:=Tryd.zeroValue4,
 t9:=Tryd.underlying9,
 a9:=Tryd.isAgg9,
 z9:=Tryd.sizeOf9,
 v9:=Tryd.zeroValue9,
 t20:=Tryd.underlying20,
 a20:=Tryd.isAgg20,
 z20:=Tryd.sizeOf20,
 v20:=Tryd.zeroValue20,
 t31:=Tryd.underlying84,
 a31:=Tryd.isAgg84,
 z31:=Tryd.sizeOf84,
 v31:=Tryd.zeroValue84,
 t37:=Tryd.underlying110,
 a37:=Tryd.isAgg110,
 z37:=Tryd.sizeOf110,
 v37:=Tryd.zeroValue110,
 t70:=Tryd.underlying109,
 a70:=Tryd.isAgg109,
 z70:=Tryd.sizeOf109,
 v70:=Tryd.zeroValue109,
 t72:=Tryd.underlying112,
 a72:=Tryd.isAgg112,
 z72:=Tryd.sizeOf112,
 v72:=Tryd.zeroValue112,
 t75:=Tryd.underlying115,
 a75:=Tryd.isAgg115,
 z75:=Tryd.sizeOf115,
 v75:=Tryd.zeroValue115,
 t76:=Tryd.underlying116,
 a76:=Tryd.isAgg116,
 z76:=Tryd.sizeOf116,
 v76:=Tryd.zeroValue116,
 t127:=Tryd.underlying126,
 a127:=Tryd.isAgg126,
 z127:=Tryd.sizeOf126,
 v127:=Tryd.zeroValue126,
 t164:=Tryd.underlying128,
 a164:=Tryd.isAgg128,
 z164:=Tryd.sizeOf128,
 v164:=Tryd.zeroValue128}
def r4:Go.Shelf.Ren:=⟨(fun|102=>38|209=>64|207=>76|n=>n),(fun|9=>9|4=>4|3=>3|n=>n),(fun|n=>n)⟩
theorem CN:Go.Proofs.Lays.n102 Tryd.prog r4:={
 mixed:=by kernel_rfl,
 f102:=Tryd.func38.trans (congrArg some (by kernel_rfl)),
 f207:=Tryd.func76.trans (congrArg some (by kernel_rfl)),
 f209:=Tryd.func64.trans (congrArg some (by kernel_rfl)),
 t3:=Tryd.underlying3,
 a3:=Tryd.isAgg3,
 z3:=Tryd.sizeOf3,
 v3:=Tryd.zeroValue3,
 t4:=Tryd.underlying4,
 a4:=Tryd.isAgg4,
 z4:=Tryd.sizeOf4,
 v4:=Tryd.zeroValue4,
 t9:=Tryd.underlying9,
 a9:=Tryd.isAgg9,
 z9:=Tryd.sizeOf9,
 v9:=Tryd.zeroValue9}
def r6:Go.Shelf.Ren:=⟨(fun|217=>75|266=>81|n=>n),(fun|9=>9|5=>5|3=>3|n=>n),(fun|n=>n)⟩
theorem CP:Go.Proofs.Lays.n217 Tryd.prog r6:={
 mixed:=by kernel_rfl,
 f217:=Tryd.func75.trans (congrArg some (by kernel_rfl)),
 f266:=Tryd.func81.trans (congrArg some (by kernel_rfl)),
 t3:=Tryd.underlying3,
 a3:=Tryd.isAgg3,
 z3:=Tryd.sizeOf3,
 v3:=Tryd.zeroValue3,
 t5:=Tryd.underlying5,
 a5:=Tryd.isAgg5,
 z5:=Tryd.sizeOf5,
 v5:=Tryd.zeroValue5,
 t9:=Tryd.underlying9,
 a9:=Tryd.isAgg9,
 z9:=Tryd.sizeOf9,
 v9:=Tryd.zeroValue9}
theorem iI:Builder.Extra Tryd.prog lO:={
 sizeBuilder:=by kernel_rfl,
 liesBuilder:=by kernel_rfl,
 t5:=Tryd.underlying5,
 a5:=Tryd.isAgg5,
 z5:=Tryd.sizeOf5,
 v5:=Tryd.zeroValue5,
 infoByte:=by kernel_rfl,
 cellsByte:=by kernel_rfl,
 sizeByte:=by kernel_rfl,
 neB5:=by decide}
end Go.Proofs.YtgncapdjheghfaaDoor
namespace Go.Am
open Go.Shelf Go.RowKit Go.Proofs
variable {P:Program} {ρ:Ren}
def D5(r:Nat)(w w':World):Prop:=(∀b',b'≠r→w'.heap[b']?=w.heap[b']?)∧w'.heap.size=w.heap.size∧w'.os=w.os∧w'.tape=w.tape∧w'.output=w.output
theorem ul(r:Nat)(n:Nat)(w:World):D5 r w (w.drew.freeze ⟨r,0,none⟩ n):=by
 unfold World.freeze
 split
 ·exact⟨fun _ _=>rfl,rfl,rfl,rfl,rfl⟩
 ·refine⟨fun b' hb=>?_,by simp,rfl,rfl,rfl⟩
  simp only[Array.getElem?_modify]
  rw[if_neg (by simpa using fun e=>hb e.symm)]
  rfl
set_option maxHeartbeats 2000000 in
set_option maxRecDepth 100000 in
theorem vr(L:Lays.n169 P ρ)(X:Builder.Extra P ρ){b g cap:Nat}{p:Value}{cur:Array Value}{w:World}{s:ByteArray}(h0:s.size≠0)(hbk:w.heap[b]?=some (.cells #[p,.slice (some ⟨g,0,none⟩) s.size cap] (ρ.t 72) (0,0)))(hbg:w.heap[g]?=some (.cells cur (ρ.t 5) (0,0)))
  (hnc:s.size≤cap) (hcm:cap≤maxLen) (hcs:cap≤cur.size) (hcells:∀(j:Nat) (x:UInt8),s.data.toList[j]?=some x→cur[j]?=some (.int .u8 x.toNat)) :
  Calls P (ρ.f 169) #[.pointer (some ⟨b,0,none⟩)] w fun e w'=>e = .returned (.string s)∧D5 g w w':=by
 obtain⟨⟨l⟩⟩:=s
 change l.length≠0 at h0
 change l.length≤cap at hnc
 change w.heap[b]?=some (.cells #[p,.slice (some ⟨g,0,none⟩) l.length cap] (ρ.t 72) (0,0))at hbk
 change ∀(j:Nat) (x:UInt8),l[j]?=some x→cur[j]?=some (.int .u8 x.toNat)at hcells
 have hne:l≠[]:=fun e=>h0 (by rw[e];rfl)
 have c1:w.drew.cell? ⟨b,1,none⟩=some (.slice (some ⟨g,0,none⟩) l.length cap):=by
  have:w.drew.heap[b]?=some (.cells #[p,.slice (some ⟨g,0,none⟩) l.length cap] (ρ.t 72) (0,0)):=hbk
  rw[Lib.cell_of_heap this];rfl
 have hSD:(Builtin.unsafeSliceData_ #[(ρ.t 37)] (ρ.t 127) #[.slice (some ⟨g,0,none⟩) l.length cap]).run P w.drew = .ok (.pointer (some ⟨g,0,none⟩)) w.drew :=
  Lib.run_unsafeSliceData_row _ _ _ _ _ _ (by omega)
 have hUS:(Builtin.unsafeString_ #[(ρ.t 127),(ρ.t 3)] (ρ.t 9) #[.pointer (some ⟨g,0,none⟩),.int .i64 l.length]).run P w.drew = .ok (.string ⟨l.toArray⟩) (w.drew.freeze ⟨g,0,none⟩ l.length):=by
  refine Lib.run_unsafeString_row w.drew (ρ.t 127) (ρ.t 3) (ρ.t 9) (ρ.t 5) L.t127 X.cellsByte g cur.size (by have hg':w.drew.heap[g]?=some (.cells cur (ρ.t 5) (0,0)):=hbg;simp[World.shape?,hg']) l hne (by omega) (by unfold maxLen at hcm;omega) ?_
  intro j x hx
  have:=hcells j x hx
  have hg':w.drew.heap[g]?=some (.cells cur (ρ.t 5) (0,0)):=hbg
  rw[show(⟨g,0,none⟩:Addr).add j=⟨g,j,none⟩ by cases j<;>simp[Addr.add],Lib.cell_of_heap hg']
  exact this
 have mixed:=L.mixed
 have t72:=L.t72;have a72:=L.a72;have z72:=L.z72;have v72:=L.v72;have u72:=run_underlying L.t72
 have t70:=L.t70;have a70:=L.a70;have z70:=L.z70;have v70:=L.v70;have u70:=run_underlying L.t70
 have t37:=L.t37;have a37:=L.a37;have z37:=L.z37;have v37:=L.v37;have u37:=run_underlying L.t37
 have t127:=L.t127;have a127:=L.a127;have z127:=L.z127;have v127:=L.v127;have u127:=run_underlying L.t127
 have t3:=L.t3;have a3:=L.a3;have z3:=L.z3;have v3:=L.v3;have u3:=run_underlying L.t3
 have t9:=L.t9;have a9:=L.a9;have z9:=L.z9;have v9:=L.v9;have u9:=run_underlying L.t9
 have t5:=X.t5;have a5:=X.a5;have z5:=X.z5;have v5:=X.v5;have u5:=run_underlying X.t5
 clear hcells hcs hne hbg
 go_enter L.f169,Body.n169_ntmps ρ
 go_wp2
 go_region_o
 all_goals(go_wp2;go_ret;exact⟨rfl,ul ..⟩)
set_option maxHeartbeats 2000000 in
set_option maxRecDepth 100000 in
theorem pk(L:Lays.n169 P ρ)(X:Builder.Extra P ρ){b:Nat}{p:Value}{w:World}(hbk:w.heap[b]?=some (.cells #[p,.slice none 0 0] (ρ.t 72) (0,0))) :
  Calls P (ρ.f 169) #[.pointer (some ⟨b,0,none⟩)] w fun e w'=>e = .returned (.string ⟨#[]⟩)∧w'.heap=w.heap∧w'.os=w.os∧w'.tape=w.tape∧w'.output=w.output:=by
 have hUS:=Any.unsafeString_none L X
 have c1:w.drew.cell? ⟨b,1,none⟩=some (.slice none 0 0):=by
  have:w.drew.heap[b]?=some (.cells #[p,.slice none 0 0] (ρ.t 72) (0,0)):=hbk
  rw[Lib.cell_of_heap this];rfl
 have hSD:(Builtin.unsafeSliceData_ #[(ρ.t 37)] (ρ.t 127) #[.slice none 0 0]).run P w.drew = .ok (.pointer none) w.drew:=rfl
 have mixed:=L.mixed
 have t72:=L.t72;have a72:=L.a72;have z72:=L.z72;have v72:=L.v72;have u72:=run_underlying L.t72
 have t70:=L.t70;have a70:=L.a70;have z70:=L.z70;have v70:=L.v70;have u70:=run_underlying L.t70
 have t37:=L.t37;have a37:=L.a37;have z37:=L.z37;have v37:=L.v37;have u37:=run_underlying L.t37
 have t127:=L.t127;have a127:=L.a127;have z127:=L.z127;have v127:=L.v127;have u127:=run_underlying L.t127
 have t3:=L.t3;have a3:=L.a3;have z3:=L.z3;have v3:=L.v3;have u3:=run_underlying L.t3
 have t9:=L.t9;have a9:=L.a9;have z9:=L.z9;have v9:=L.v9;have u9:=run_underlying L.t9
 have t5:=X.t5;have a5:=X.a5;have z5:=X.z5;have v5:=X.v5;have u5:=run_underlying X.t5
 go_enter L.f169,Body.n169_ntmps ρ
 go_wp2
 go_region_o
 all_goals(go_wp2;go_ret;exact⟨rfl,rfl,rfl,rfl,rfl⟩)
theorem pq{f:FuncId}{T:TypeId}{k:Key}{g:Nat}{p:AV}(hl:k.l=1000+2 * T)(hc:al P f)
  (hrun:∀(b:Nat) (y0:Value) (w:World),w.heap[b]?=some (.cells #[y0,.slice none 0 0] T (0,0))→Calls P f #[.pointer (some ⟨b,0,none⟩)] w fun e w'=>e = .returned (.string ⟨#[]⟩)∧w'.heap=w.heap∧w'.os=w.os∧w'.tape=w.tape∧w'.output=w.output) :
  BoxA P (.fn f) [(k,g,2,[.agg [p,.v (.slice none 0 0)]])] [.ptr k g 2 0 0] (.v (.string ⟨#[]⟩)) [(k,g,2,[.agg [p,.v (.slice none 0 0)]])]:=by
 refine⟨hc,fun C w cargs hR hown hk=>?_⟩
 obtain⟨y,rfl,hy⟩:=iO hk
 obtain⟨hgb,o,y0,y1,hh,⟨h0,_⟩,h1,h2⟩:=og (k:=k) hl hR (g:=g) (p:=p) (x:= .v (.slice none 0 0)) (by simp[b8])
 obtain rfl:=lu hR hgb hy
 obtain rfl:y1 = .slice none 0 0:=h1.val (z:= .slice none 0 0) rfl
 refine Calls.mono (hrun _ _ w hh) fun e w' ⟨he,hheap,hos,ht,hout⟩=>?_
 obtain⟨hle,hR2⟩:=hR.world (w':=w') hheap hos ht hout
 refine⟨_,_,_,he,hle,hR2,.pure (.v _),fun p hp=>?_⟩
 rcases List.mem_singleton.1 hp with rfl
 simp[eL,b8]
theorem gK{f:FuncId}{T:TypeId}{k kr:Key}{g gr sz:Nat}{x:AV}{es:List AV}(hl:k.l=1000+2 * T)(hkk:¬kr=k)(hc:al P f)
  (hrun:∀(b:Nat) (y:Value) (w:World),w.heap[b]?=some (.cells #[.pointer (some ⟨b,0,none⟩),y] T (0,0))→Calls P f #[.pointer (some ⟨b,0,none⟩)] w fun e w'=>e = .returned (.tuple #[])∧w'=w) :
  BoxA P (.fn f) [(k,g,2,[.agg [.ptr k g 2 0 0,x]]),(kr,gr,sz,es)] [.ptr k g 2 0 0] (.tuple []) [(k,g,2,[.agg [.ptr k g 2 0 0,x]]),(kr,gr,sz,es)]:=by
 refine⟨hc,fun C w cargs hR hown hk=>?_⟩
 obtain⟨y,rfl,hy⟩:=iO hk
 obtain⟨hgb,o,y0,y1,hh,⟨h0,_⟩,h1,h2⟩:=og (k:=k) hl hR (g:=g) (p:= .ptr k g 2 0 0) (x:=x) (by simp[b8])
 obtain rfl:=lu hR hgb hy
 obtain rfl:=lu hR hgb h0
 refine Calls.mono (hrun _ _ w hh) fun e w' ⟨he,hw'⟩=>?_
 subst hw'
 refine⟨_,_,C,he,Ctx.le.refl C,hR,.tuple (by rfl) (fun i x y hx=>by simp at hx),fun p hp=>?_⟩
 simp only[List.mem_cons,List.not_mem_nil,or_false]at hp
 rcases hp with rfl|rfl
 ·simp[eL,b8]
 ·simp[eL,b8,hkk]
end Go.Am
namespace Go.Proofs.YtgncapdjheghfaaDoor
open Go.Am Go.Proofs Go Go.RowKit
theorem qm{w:World}{imm:Nat→Nat→Prop}{x y:Value}(h:PRel w imm (.v x) y):y=x:=by cases h;rfl
theorem xD{w:World}{imm:Nat→Nat→Prop}{x:AV}{ys:Array Value}(h:kK w imm [x] ys):∃y,ys=#[y]∧PRel w imm x y:=by
 obtain⟨h1,h2⟩:=h
 obtain⟨l⟩:=ys
 obtain⟨y,rfl⟩:=List.length_eq_one_iff.1 (by simpa using h1)
 exact⟨y,rfl,h2 0 x y rfl rfl⟩
theorem qn{w:World}{imm:Nat→Nat→Prop}{x z:AV}{ys:Array Value}(h:kK w imm [x,z] ys):∃y u,ys=#[y,u]∧PRel w imm x y∧PRel w imm z u:=by
 obtain⟨h1,h2⟩:=h
 obtain⟨l⟩:=ys
 match l,h1 with
 | [y,u],_=>exact⟨y,u,rfl,h2 0 x y rfl rfl,h2 1 z u rfl rfl⟩
 | [],h1=>simp at h1
 | [_],h1=>simp at h1
 | _::_::_::_,h1=>simp at h1
theorem zV{P:Program}{f:FuncId}{x r:Value}(hc:al P f)(h:∀w,Calls P f #[x] w fun e w'=>e = .returned r∧w'=w):PureA P f [.v x] (.v r):=by
 refine⟨hc,fun w imm cargs hi hp=>?_⟩
 obtain⟨y,rfl,hy⟩:=xD hp
 obtain rfl:=qm hy
 refine(h w).mono ?_
 rintro e w' ⟨rfl,rfl⟩
 exact⟨_,imm,rfl,fun b i hb=>⟨hi.lt b i hb,fun _=>hb⟩,.v _,Below.refl _ _⟩
theorem tB{P:Program}{f:FuncId}{x z r:Value}(hc:al P f)(h:∀w,Calls P f #[x,z] w fun e w'=>e = .returned r∧w'=w):PureA P f [.v x,.v z] (.v r):=by
 refine⟨hc,fun w imm cargs hi hp=>?_⟩
 obtain⟨y,u,rfl,hy,hu⟩:=qn hp
 obtain rfl:=qm hy
 obtain rfl:=qm hu
 refine(h w).mono ?_
 rintro e w' ⟨rfl,rfl⟩
 exact⟨_,imm,rfl,fun b i hb=>⟨hi.lt b i hb,fun _=>hb⟩,.v _,Below.refl _ _⟩
def aC(l:Bs):ByteArray:=⟨l.toArray⟩
theorem dP(l:Bs):bytes (aC l)=l:=rfl
theorem t8(s:ByteArray):aC (bytes s)=s:=rfl
theorem ua:∀n:Nat,n<10→Lib.decDigits n=num n:=by
 intro n hn
 unfold Lib.decDigits
 rw[dif_pos hn]
 unfold num
 rw[Int.toNat_natCast]
theorem cD(n:Int)(h:0≤n∧n≤9):PureA Tryd.prog 59 [ak n] (aI (aC (num n))):=by
 obtain⟨k,rfl⟩:∃k:Nat,n=k:=⟨n.toNat,by omega⟩
 refine zV Cj fun w=>?_
 rw[←ua k (by omega)]
 exact Any.strconv_Itoa_small CO k (by omega) w
theorem rX(s:ByteArray)(c:Nat):PureA Tryd.prog 75 [aI s,.v (.int .u8 c)] (ak (Lib.indexByte s.data.toList (c:Int).toNat.toUInt8)) :=
 tB Cr fun w=>Any.stringslite_IndexByte CP s c w
theorem E2(s p:ByteArray)(hs:s.size≤1048576):PureA Tryd.prog 38 [aI s,aI p] (aI (aC (Lib.trimSuffix s.data.toList p.data.toList))) :=
 tB B3 fun w=>Any.strings_TrimSuffix CN s p w (by omega)
set_option maxRecDepth 100000 in
theorem EA(xs:List ByteArray)(sep:ByteArray)(hne:xs≠[])(hn:xs.length≤1000)(hl:(Lib.join (xs.map (·.data.toList)) sep.data.toList).length≤100000000) :
  PureA Tryd.prog 73 [EX xs,aI sep] (aI (aC (Lib.join (xs.map (·.data.toList)) sep.data.toList))):=by
 refine⟨Cq,fun w imm cargs hi hp=>?_⟩
 obtain⟨y,u,rfl,hy,hu⟩:=qn hp
 obtain rfl:=qm hu
 cases xs with
 | nil=>exact absurd rfl hne
 | cons x xs =>
  cases hy with
  | @slice sz es tok b off cap ys hcap ht hm hsz hc hq =>
   have hcell:∀(j:Nat) z,(x::xs)[j]?=some z→w.cell? ⟨b,off+j,none⟩=some (.string z)∧imm b (off+j):=by
    intro j z hz
    have e:((x::xs).map aI)[j]?=some (aI z):=by rw[List.getElem?_map,hz];rfl
    obtain⟨h1,h2,_⟩:=hc j (aI z) 0 (aI z) e rfl
    have:=qm (hq j (aI z) 0 (aI z) e rfl)
    rw[this]at h1
    simp only[Nat.mul_one,Nat.add_zero]at h1 h2
    exact⟨h1,h2⟩
   have hb:=hi.lt _ _ (hcell 0 x rfl).2
   have hlen:((x::xs).map aI).length=(x::xs).length:=List.length_map ..
   have hN:(x::xs).length≤140737488355328:=Nat.le_trans hn (by decide)
   have hC:(x::xs).length≤cap:=hlen▸hcap
   have hL:(Lib.join ((x::xs).map (·.data.toList)) sep.data.toList).length≤140737488355328:=Nat.le_trans hl (by decide)
   have hz:∀(j:Nat) z,(x::xs)[j]?=some z→w.cell? ⟨b,off+j,none⟩=some (.string z):=fun j z hz=>(hcell j z hz).1
   rw[hlen]
   clear hcell hc hq hm hcap hsz hlen hn hl
   generalize x::xs=l at *
   have:=Any.strings_Join lN iI b off cap l sep w hz hb hN hC hL
   refine this.mono ?_
   rintro e w' ⟨rfl,hbel⟩
   refine⟨_,fun b i=>b<w.heap.size∧imm b i,rfl,fun b i hb=>⟨?_,fun _=>hb.2⟩,.v _,hbel⟩
   have:=hbel.size
   omega
theorem ro{k:Key}{g:Nat}{x:AV}(hl:k.l=1000+2 * 112) :
  BoxA Tryd.prog (.fn 72) [(k,g,2,[.agg [.v (.pointer none),x]])] [.ptr k g 2 0 0] (.tuple []) [(k,g,2,[.agg [.ptr k g 2 0 0,x]])] :=
 gJ hl wo fun b y w h =>
  Any.Builder_copyCheck_fresh { lN with} iI.toX72 b w (by rw[Lib.cell_of_heap h];rfl) (by simp[World.shape?,h];rfl) (Lib.frozen_of_heap h 0)
theorem rp{k kr:Key}{g gr sz:Nat}{x:AV}{es:List AV}(hl:k.l=1000+2 * 112)(hkk:¬kr=k) :
  BoxA Tryd.prog (.fn 72) [(k,g,2,[.agg [.ptr k g 2 0 0,x]]),(kr,gr,sz,es)] [.ptr k g 2 0 0] (.tuple []) [(k,g,2,[.agg [.ptr k g 2 0 0,x]]),(kr,gr,sz,es)] :=
 gK hl hkk wo fun b y w h =>
  Any.Builder_copyCheck_used { lN with} iI.toX72 b w (by rw[Lib.cell_of_heap h];rfl)
theorem Af{k kr:Key}{g gr c0:Nat}{p:AV}{s:ByteArray}(hl:k.l=1000+2 * 112)(hlr:kr.l=1001+2 * 5)(hne:s.size≠0) :
  BoxA Tryd.prog (.fn 61) [(k,g,2,[.agg [p,.own kr gr 1 s.size c0]]),(kr,gr,1,bP s)] [.ptr k g 2 0 0] (.v (.string s)) [(k,g,2,[.agg [p,.own kr gr 1 s.size c0]]),(kr,gr+1,1000,[])] :=
 q7 hl hlr hne wg fun b r cap y0 cur w h1 h2 h3 h4 h5 h6=>vr { lN with} iI hne h1 h2 h3 h4 h5 h6
theorem sR{k:Key}{g:Nat}{p:AV}(hl:k.l=1000+2 * 112) :
  BoxA Tryd.prog (.fn 61) [(k,g,2,[.agg [p,.v (.slice none 0 0)]])] [.ptr k g 2 0 0] (.v (.string ⟨#[]⟩)) [(k,g,2,[.agg [p,.v (.slice none 0 0)]])] :=
 pq hl wg fun b y0 w h=>pk { lN with} iI h
end Go.Proofs.YtgncapdjheghfaaDoor
namespace Go.Proofs.YtgncapdjheghfaaDoor
open Go.Am Go.Proofs Go
theorem fC(a b:ByteArray):bytes (a++b)=bytes a++bytes b:=by
 unfold bytes
 rw[ByteArray.data_append,Array.toList_append]
theorem mG(a b:Bs):aC a++aC b=aC (a++b):=iB (by rw[fC];rfl)
theorem nn:∀(ws:List Bs) (w:Bs),aL (w::ws)=w++Lib.joinTail [32] ws
 | [],w=>by simp[aL,Lib.joinTail]
 | v::vs,w=>by
  show w++32::aL (v::vs)=_
  rw[nn vs v]
  simp[Lib.joinTail]
theorem wQ(ws:List Bs):Lib.join ws [32]=aL ws:=by
 cases ws with
 | nil=>rfl
 | cons w ws=>rw[Lib.join_cons,nn]
theorem iN:∀(a b:List Bs),a≠[]→b≠[]→aL (a++b)=aL a++32::aL b
 | [w],b,_,hb=>by
  cases b with
  | nil=>exact absurd rfl hb
  | cons v vs=>rfl
 | w::u::a,b,_,hb=>by
  show w++32::aL ((u::a)++b)=(w++32::aL (u::a))++32::aL b
  rw[iN (u::a) b (by simp) hb]
  simp
theorem b7(ws:List Bs)(hne:ws≠[])(hn:ws.length≤1000)(hl:(aL ws).length≤1000000):PureA Tryd.prog 58 [EX (ws.map aC)] (aI (aC (bm ws))):=by
 have h:=EA (ws.map aC) ⟨#[32]⟩ (by simpa using hne) (by rw[List.length_map];exact hn) (by
  rw[show(ws.map aC).map (·.data.toList)=ws by rw[List.map_map];exact List.map_id _,wQ]
  omega)
 rw[show(ws.map aC).map (·.data.toList)=ws by rw[List.map_map];exact List.map_id _,wQ]at h
 have e:aC (aL ws)++(⟨#[10]⟩:ByteArray)=aC (bm ws):=mG (aL ws) [10]
 have hsz:(aC (aL ws)).size=(aL ws).length:=rfl
 rw[←e]
 generalize aC (aL ws)=J at *
 generalize ws.map aC=W at *
 have h10:(⟨#[10]⟩:ByteArray).size=1:=rfl
 refine ag ax { l:=0,f:=58} mixed Ci Tryd.func58 (by kernel_rfl) ?_
 conv=>whnf
 repeat(any_goals(first|exact ac|(refine ao ?_ ?_<;>intro _<;>first|exact ap|conv=>whnf)|((first|refine aa h ?_|refine ae ?_|refine bi ?_ ?_|intro _)<;>conv=>whnf)))
 (refine⟨⟨?_⟩,trivial⟩;rfl)
def kB:Key:=⟨1000+2 * 112,35,5⟩
def kBr:Key:=⟨1001+2 * 5,57,14⟩
inductive BSt where
 | fresh
 | used (g:Nat) (t:Bs)
def BSt.av:BSt→AV
 | .fresh=> .agg [.v (.pointer none),.v (.slice none 0 0)]
 | .used g t=> .agg [.ptr kB 1 2 0 0,.own kBr g 1 t.length 0]
def BSt.row:BSt→gT
 | .fresh=>(0,none)
 | .used g t=>(g,some (1,bP (aC t)))
theorem t6(t l:Bs):(bP (aC t)).take t.length++bP (aC l)=bP (aC (t++l)):=by
 have e:∀x:Bs,bP (aC x)=x.map fun b=> .v (.int .u8 b.toNat):=fun _=>rfl
 rw[e,e,e,List.map_append,List.take_of_length_le (by rw[List.length_map];omega)]
theorem q8(t:Bs):(bP (aC t)).length=t.length:=by
 rw[ju];rfl
theorem au(ks:List Key)(s:ByteArray):tkL (tk2 ks) (bP s)=some (bP s):=by
 unfold bP
 induction s.data.toList with
 | nil=>rfl
 | cons b l ih=>simp only[List.map_cons,tkL,ih];rfl
theorem pn(l:Bs)(hl:l≠[])(hn:l.length≤1000000) :
  BoxA Tryd.prog (.fn 57) [(kB,1,2,[BSt.fresh.av])] [.ptr kB 1 2 0 0,aI (aC l)] (.tuple [ak l.length,.v .nilIface]) [(kB,1,2,[(BSt.used 1 l).av]),(kBr,1,1,bP (aC l))]:=by
 have hc:=ro (k:=kB) (g:=1) (x:= .v (.slice none 0 0)) rfl
 have hsz:(aC l).size=l.length:=rfl
 have h0:0<l.length:=by cases l with|nil=>exact absurd rfl hl|cons=>simp
 unfold BSt.av
 refine aD ax { l:=0,f:=57,mat:=[72],ow:=[14],ty:=[14]} mixed wb Tryd.func57 (by kernel_rfl) ?_
 conv=>whnf
 refine⟨[kB],?_⟩
 conv=>whnf
 refine⟨_,_,hc,?_⟩
 conv=>whnf
 repeat(any_goals(first|exact ac|(refine ao ?_ ?_<;>intro _<;>first|exact ap|conv=>whnf)|((first|refine ae ?_|refine bi ?_ ?_|intro _)<;>conv=>whnf)))
 refine And.intro ?_ ?_
 ·conv=>whnf
  refine⟨⟨?_⟩,trivial⟩
  rfl
 ·repeat(first|exact trivial|refine And.intro rfl ?_|refine And.intro (by first|rfl|skip) ?_)
theorem aE(g:Nat)(t l:Bs)(ht:t.length≤1000000)(hn:l.length≤1000000) :
  BoxA Tryd.prog (.fn 57) [(kB,1,2,[(BSt.used g t).av]),(kBr,g,1,bP (aC t))] [.ptr kB 1 2 0 0,aI (aC l)] (.tuple [ak l.length,.v .nilIface]) [(kB,1,2,[(BSt.used (g+1) (t++l)).av]),(kBr,g+1,1,bP (aC (t++l)))]:=by
 have hc:=rp (k:=kB) (kr:=kBr) (g:=1) (gr:=g) (sz:=1) (x:= .own kBr g 1 t.length 0) (es:=bP (aC t)) rfl (by decide)
 have hsz:(aC l).size=l.length:=rfl
 have hbl:=q8 t
 have hrow:=t6 t l
 have hlen:(t++l).length=t.length+(aC l).size:=by rw[List.length_append];rfl
 show BoxA _ _ [(kB,1,2,[.agg [.ptr kB 1 2 0 0,.own kBr g 1 t.length 0]]),(kBr,g,1,bP (aC t))] _ _ [(kB,1,2,[.agg [.ptr kB 1 2 0 0,.own kBr (g+1) 1 (t++l).length 0]]),(kBr,g+1,1,bP (aC (t++l)))]
 rw[hlen, ←hrow]
 have htk:=fun ks=>au ks (aC t)
 generalize hB:bP (aC t)=B at *
 refine aD ax { l:=0,f:=57,mat:=[72],ow:=[14],ty:=[14]} mixed wb Tryd.func57 (by kernel_rfl) ?_
 conv=>whnf
 refine⟨[kB,kBr],?_⟩
 conv=>whnf
 refine ab (htk _) ?_
 conv=>whnf
 refine⟨_,_,hc,?_⟩
 conv=>whnf
 refine ab (htk _) ?_
 conv=>whnf
 repeat(any_goals(first|exact ac|(refine ao ?_ ?_<;>intro _<;>first|exact ap|conv=>whnf)|((first|refine ae ?_|refine bi ?_ ?_|intro _)<;>conv=>whnf)))
 refine And.intro ?_ ?_
 ·conv=>whnf
  refine⟨⟨?_⟩,trivial⟩
  rfl
 ·repeat(first|exact trivial|refine And.intro rfl ?_|refine And.intro (by rfl) ?_)
end Go.Proofs.YtgncapdjheghfaaDoor
namespace Go.Proofs.YtgncapdjheghfaaDoor
open Go.Am Go.Proofs Go
theorem kV(s:Bill)(a:Int)(f:Fig)(h0:0≤a)(h:s.figs[a.toNat]?=some f)(hn:f.name.size≤16∧f.role.size≤16):PureA Tryd.prog 60 [cL s,ak a] (aI (aC (aL (s.whoW a)))):=by
 have e:f.name++(⟨#[32,97,115,32]⟩:ByteArray)++f.role=aC (aL (s.whoW a)):=by
  rw[yB h]
  refine iB ?_
  rw[fC,fC]
  show _=bytes f.name++32::(wAs++32::bytes f.role)
  simp[wAs,bytes]
 rw[←e]
 have hlt:=(List.getElem?_eq_some_iff.1 h).1
 have hfl:(s.figs.map eR).length=s.figs.length:=List.length_map ..
 have hz:(⟨#[32,97,115,32]⟩:ByteArray).size=4:=rfl
 have hz1:(f.name++(⟨#[32,97,115,32]⟩:ByteArray)).size=f.name.size+4:=by rw[ByteArray.size_append,hz]
 refine ag ax { l:=0,f:=60} mixed Ck Tryd.func60 (by kernel_rfl) ?_
 conv=>whnf
 repeat(any_goals(first|exact ac|(refine ao ?_ ?_<;>intro _<;>first|exact ap|conv=>whnf)|((first|refine af h (by omega) ?_|refine ae ?_|refine bi ?_ ?_|intro _)<;>conv=>whnf)))
 (refine⟨⟨?_⟩,trivial⟩;rfl)
def kTx:Key:=⟨0,35,16⟩
theorem Da(s:Bill)(c:List Ent)(h6:c.length≤6)(i:Nat)(hi:i≤c.length)(m:bN)(hm:cR s c m)(hmet:(m.any fun e=>decide (e.1=(i:Int)))=true) :
  BoxA Tryd.prog (.fn 19) [(kTx,1,0,jH m)] [cL s,bg c,ak i,.mp kTx 1] (du s c i) [(kTx,1,0,jH m)]:=by
 obtain⟨n,hn⟩:=lD m i (s.press c i) 0 (nv hm) hmet
 have hlt:i<c.length:=by
  rw[List.any_eq_true]at hmet
  obtain⟨e,he,h1⟩:=hmet
  obtain⟨j,h2,h3,_⟩:=hm e he
  have h1:=of_decide_eq_true h1
  omega
 rw[dv s hlt]
 generalize s.press c i=R at *
 unfold fu qo
 refine aD ax { l:=0,f:=19} mixed jx Tryd.func19 (by kernel_rfl) ?_
 conv=>whnf
 repeat(any_goals(first|exact ac|(refine ao ?_ ?_<;>intro _<;>first|exact ap|conv=>whnf)|((first|rw[hn]|refine ae ?_|refine bi ?_ ?_|intro _)<;>conv=>whnf)))
 refine And.intro ?_ ?_
 ·conv=>whnf
  refine⟨⟨?_⟩,trivial⟩
  rfl
 ·repeat(first|exact trivial|refine And.intro rfl ?_|refine And.intro (by skip) ?_)
theorem xF(s:Bill)(c:List Ent)(h6:c.length≤6)(m:bN)(hm:cR s c m) :
  BoxA Tryd.prog (.fn 19) [(kTx,1,0,jH m)] [cL s,bg c,ak c.length,.mp kTx 1] (du s c c.length) [(kTx,1,0,jH m)]:=by
 have hcl:(c.map bK).length=c.length:=List.length_map ..
 have hn:=dV m c.length 0 (by
  rw[List.any_eq_false]
  intro e he
  obtain⟨j,h2,h3,_⟩:=hm e he
  simp only[decide_eq_true_eq]
  omega)
 rw[dN]
 refine aD ax { l:=0,f:=19} mixed jx Tryd.func19 (by kernel_rfl) ?_
 conv=>whnf
 repeat(any_goals(first|exact ac|(refine ao ?_ ?_<;>intro _<;>first|exact ap|conv=>whnf)|((first|rw[hn]|refine ae ?_|refine bi ?_ ?_|intro _)<;>conv=>whnf)))
 refine And.intro ?_ ?_
 ·conv=>whnf
  refine⟨⟨?_⟩,trivial⟩
  rfl
 ·repeat(first|exact trivial|refine And.intro rfl ?_|refine And.intro (by skip) ?_)
set_option maxHeartbeats 8000000 in
theorem Db(s:Bill)(hg:s.Good)(c:List Ent)(hc:∀x∈c,s.OkE x)(h6:c.length≤6)(f i:Nat)(hi:i<c.length)(m:bN)(hm:cR s c m)(hmet:(m.any fun e=>decide (e.1=(i:Int)))=false)
  (ih:∀(j:Nat) (m':bN),i<j→j≤c.length→cR s c m'→BoxA Tryd.prog (.fn 19) [(kTx,1,0,jH m')] [cL s,bg c,ak j,.mp kTx 1] (du s c j) [(kTx,1,0,jH (s.memoN c f j m'))]) :
  BoxA Tryd.prog (.fn 19) [(kTx,1,0,jH m)] [cL s,bg c,ak i,.mp kTx 1] (du s c i) [(kTx,1,0,jH (s.memoTo c (s.memoN c f) i (c.length-i) (i+1) m++[((i:Int),s.press c i)]))]:=by
 rw[dv s hi]
 have hn0:=dV m i 0 hmet
 have hnot:=tr (s:=s) (c:=c) (f:=f) (g:=c.length-i) hmet
 have hR:=nD hg hc hi
 have hlf:=fun j hij hj=>tm s hg c hc h6 i j hij hj
 have hfit:=fun j (hj:j≤c.length)=>qq hg hc h6 hj
 have hle:=fun j (h1:i≤j) (h2:j≤c.length)=>oE hg hc h1 h2
 have hmok:=fun j m' (hj:j≤c.length) hm'=>oH (s:=s) (c:=c) f j m' hj hm'
 have hcl:(c.map bK).length=c.length:=List.length_map ..
 have hpt:∀n j b,s.pressTo c (s.press c) i (n+1) j b=if s.left c i j<0 then b else s.pressTo c (s.press c) i n (j+1) (some (dF b (iC s c (s.press c) i j))):=fun _ _ _=>rfl
 have hpt0:∀j b,s.pressTo c (s.press c) i 0 j b=b:=fun _ _=>rfl
 have hmt:=e5 s c (s.memoN c f) i
 have hmt0:∀j m',s.memoTo c (s.memoN c f) i 0 j m'=m':=fun _ _=>rfl
 obtain⟨M,hM⟩:∃M,s.memoTo c (s.memoN c f) i (c.length-i) (i+1) m=M:=⟨_,rfl⟩
 rw[hM]at hnot ⊢
 have hn1:=dV M i 0 hnot
 generalize s.memoN c f=N at *
 generalize s.memoTo c N i=MT at *
 generalize s.pressTo c (s.press c) i=PT at *
 unfold iC at hpt
 have hend:s.press c c.length=⟨[],0⟩:=ji s c
 generalize hP:s.press c=P at *
 generalize s.left c i=L at *
 clear hg hc
 refine aD ax { l:=0,f:=19,mat:=[19]} mixed jx Tryd.func19 (by kernel_rfl) ?_
 conv=>whnf
 repeat(any_goals(first|exact ac|(refine ao ?_ ?_<;>intro _<;>first|exact ap|conv=>whnf)|((first|rw[hn0]|refine ae ?_|refine bi ?_ ?_|intro _)<;>conv=>whnf)))
 refine bS ax { l:=0,f:=19,mat:=[19]} mixed (fun u:PrSt=>[(11,ak u.j),(10,aH u.best.isSome)]) (fun u=>[(⟨0,19,8⟩,some (1,some (2,[Ea u.best]))),(kTx,some (1,some (0,jH u.m)))]) (fun _=>[]) (fun u=>(i<u.j∧u.j≤c.length+1)∧(cR s c u.m∧∀p,u.best=some p→yV p)∧some (P i)=PT (c.length+1-u.j) u.j u.best∧M=MT (c.length+1-u.j) u.j u.m) (fun u=>c.length+1-u.j) (⟨i+1,none,m⟩:PrSt) (by kernel_rfl)
  ⟨⟨Nat.lt_succ_self _,by show i+1≤_;omega⟩,⟨hm,fun p h=>by cases h⟩,by rw[show c.length+1-(i+1)=c.length-i by omega];exact hR.symm,by rw[show c.length+1-(i+1)=c.length-i by omega];exact hM.symm⟩ ?_
 conv=>whnf
 refine⟨⟨aj rfl (aj rfl trivial),bv rfl (bv rfl trivial),trivial⟩,?_⟩
 clear hR hM hm hmet hn0 hnot
 rintro u ⟨⟨hij,hj⟩,⟨hm,hbf⟩,HR,HM⟩
 generalize u.j=j at *
 generalize u.best=best at *
 generalize u.m=m at *
 clear u
 by_cases hjl:j≤c.length
 ·obtain⟨n,hn⟩:∃n,c.length+1-j=n+1:=⟨c.length-j,by omega⟩
  have hn2:c.length+1-(j+1)=n:=by omega
  rw[hn,hpt]at HR
  rw[hn,hmt]at HM
  have hlj:=hlf j (by omega) hjl
  have hL:=hle j (by omega) hjl
  by_cases q:L j<0
  ·rw[if_pos q]at HR HM
   subst HM
   subst HR
   clear hlf hle hpt hmt hpt0 hmt0 ih hmok hfit
   generalize L j=y at *
   conv=>whnf
   repeat(any_goals(first|exact ac|(refine ao ?_ ?_<;>intro _<;>first|exact ap|conv=>whnf)|((first|refine ah hlj rfl ?_|refine aa hlj ?_|rw[hn1]|refine ae ?_|refine bi ?_ ?_|intro _)<;>conv=>whnf)))
   refine And.intro ?_ ?_
   ·conv=>whnf
    refine⟨⟨?_⟩,trivial⟩
    rfl
   ·repeat(first|exact trivial|refine And.intro rfl ?_|refine And.intro (by(simp only[jH,List.map_append];rfl)) ?_)
  ·rw[if_neg q]at HR HM
   have hih:=ih j m hij hjl hm
   have hmk:=hmok j m hjl hm
   have hf:=hfit j hjl
   clear hlf hle hpt hmt hpt0 hmt0 ih hmok hfit hn1 hm
   generalize N j m=m2 at *
   by_cases hjc:j<c.length
   ·rw[dv s hjc,hP]at hih
    rw[if_pos hjc]at HR
    generalize P j=pj at *
    obtain⟨ps,w⟩:=pj
    simp only at hf HR
    have hcat:=td (i:Int) ps (by omega)
    have hsq:0≤L j * L j∧L j * L j≤900:=sqP (by omega) hL
    generalize L j=y at *
    cases best with
    | none =>
     rw[show dF none ⟨(i:Int)::ps,w+y * y⟩=⟨(i:Int)::ps,w+y * y⟩from rfl]at HR
     have hbn:∀p,some (⟨(i:Int)::ps,w+y * y⟩:Press)=some p→yV p:=fun p hp=>by cases hp;exact⟨by simp only[List.length_cons];omega,by simp only;omega⟩
     conv=>whnf
     repeat(any_goals(first|exact ac|(refine ao ?_ ?_<;>intro _<;>first|exact ap|conv=>whnf)|((first|refine ah hlj rfl ?_|refine aa hlj ?_|refine ae ?_|refine bi ?_ ?_|intro _)<;>conv=>whnf)))
     refine⟨[kTx],?_⟩
     conv=>whnf
     refine⟨_,_,hih,?_⟩
     conv=>whnf
     repeat(any_goals(first|exact ac|(refine ao ?_ ?_<;>intro _<;>first|exact ap|conv=>whnf)|((first|refine aa hcat ?_|fail|refine ae ?_|refine bi ?_ ?_|intro _)<;>conv=>whnf)))
     (refine⟨⟨j+1,some ⟨(i:Int)::ps,w+y * y⟩,m2⟩,⟨⟨by show i<j+1;omega,by show j+1≤_;omega⟩,⟨hmk,hbn⟩,by show some (P i)=PT (c.length+1-(j+1)) (j+1) _;rw[hn2];exact HR,by show M=MT (c.length+1-(j+1)) (j+1) _;rw[hn2];exact HM⟩,(by show _-(j+1)<_-j;omega),?_⟩;(conv=>whnf);refine⟨?_,?_,?_⟩<;>repeat(first|exact trivial|refine sc rfl ?_|refine kn ?_|refine kc rfl ?_|refine sc (by rfl) ?_|refine kc (by rfl) ?_))
    | some b =>
     have hb:=hbf b rfl
     have hbt:=kW ⟨(i:Int)::ps,w+y * y⟩ b (by simp only[List.length_cons];omega) (by have:=hb.1;omega) (by simp only;omega) (by have:=hb.2;omega)
     by_cases hbb:bu ⟨(i:Int)::ps,w+y * y⟩ b=true
     ·rw[show dF (some b) ⟨(i:Int)::ps,w+y * y⟩=⟨(i:Int)::ps,w+y * y⟩from if_pos hbb]at HR
      rw[hbb]at hbt
      have hbn:∀p,some (⟨(i:Int)::ps,w+y * y⟩:Press)=some p→yV p:=fun p hp=>by cases hp;exact⟨by simp only[List.length_cons];omega,by simp only;omega⟩
      conv=>whnf
      repeat(any_goals(first|exact ac|(refine ao ?_ ?_<;>intro _<;>first|exact ap|conv=>whnf)|((first|refine ah hlj rfl ?_|refine aa hlj ?_|refine ae ?_|refine bi ?_ ?_|intro _)<;>conv=>whnf)))
      refine⟨[kTx],?_⟩
      conv=>whnf
      refine⟨_,_,hih,?_⟩
      conv=>whnf
      repeat(any_goals(first|exact ac|(refine ao ?_ ?_<;>intro _<;>first|exact ap|conv=>whnf)|((first|refine aa hcat ?_|refine aa hbt ?_|refine ae ?_|refine bi ?_ ?_|intro _)<;>conv=>whnf)))
      (refine⟨⟨j+1,some ⟨(i:Int)::ps,w+y * y⟩,m2⟩,⟨⟨by show i<j+1;omega,by show j+1≤_;omega⟩,⟨hmk,hbn⟩,by show some (P i)=PT (c.length+1-(j+1)) (j+1) _;rw[hn2];exact HR,by show M=MT (c.length+1-(j+1)) (j+1) _;rw[hn2];exact HM⟩,(by show _-(j+1)<_-j;omega),?_⟩;(conv=>whnf);refine⟨?_,?_,?_⟩<;>repeat(first|exact trivial|refine sc rfl ?_|refine kn ?_|refine kc rfl ?_|refine sc (by rfl) ?_|refine kc (by rfl) ?_))
     ·rw[show dF (some b) ⟨(i:Int)::ps,w+y * y⟩=b from if_neg hbb]at HR
      rw[Bool.eq_false_iff.2 hbb]at hbt
      have hbn:=hbf
      conv=>whnf
      repeat(any_goals(first|exact ac|(refine ao ?_ ?_<;>intro _<;>first|exact ap|conv=>whnf)|((first|refine ah hlj rfl ?_|refine aa hlj ?_|refine ae ?_|refine bi ?_ ?_|intro _)<;>conv=>whnf)))
      refine⟨[kTx],?_⟩
      conv=>whnf
      refine⟨_,_,hih,?_⟩
      conv=>whnf
      repeat(any_goals(first|exact ac|(refine ao ?_ ?_<;>intro _<;>first|exact ap|conv=>whnf)|((first|refine aa hcat ?_|refine aa hbt ?_|refine ae ?_|refine bi ?_ ?_|intro _)<;>conv=>whnf)))
      (refine⟨⟨j+1,some b,m2⟩,⟨⟨by show i<j+1;omega,by show j+1≤_;omega⟩,⟨hmk,hbn⟩,by show some (P i)=PT (c.length+1-(j+1)) (j+1) _;rw[hn2];exact HR,by show M=MT (c.length+1-(j+1)) (j+1) _;rw[hn2];exact HM⟩,(by show _-(j+1)<_-j;omega),?_⟩;(conv=>whnf);refine⟨?_,?_,?_⟩<;>repeat(first|exact trivial|refine sc rfl ?_|refine kn ?_|refine kc rfl ?_|refine sc (by rfl) ?_|refine kc (by rfl) ?_))
   ·have hjc:j=c.length:=by omega
    rw[show du s c j = .agg [.slice 0 [] .tight,ak 0] by rw[hjc];exact dN s c]at hih
    rw[if_neg (by omega),show P j=⟨[],0⟩ by rw[hjc];exact hend]at HR
    simp only[Int.add_zero]at HR
    have hcat:=py (i:Int)
    generalize L j=y at *
    cases best with
    | none =>
     rw[show dF none ⟨[(i:Int)],0⟩=⟨[(i:Int)],0⟩from rfl]at HR
     have hbn:∀p,some (⟨[(i:Int)],0⟩:Press)=some p→yV p:=fun p hp=>by cases hp;exact⟨by simp,by simp⟩
     conv=>whnf
     repeat(any_goals(first|exact ac|(refine ao ?_ ?_<;>intro _<;>first|exact ap|conv=>whnf)|((first|refine ah hlj rfl ?_|refine aa hlj ?_|refine ae ?_|refine bi ?_ ?_|intro _)<;>conv=>whnf)))
     refine⟨[kTx],?_⟩
     conv=>whnf
     refine⟨_,_,hih,?_⟩
     conv=>whnf
     repeat(any_goals(first|exact ac|(refine ao ?_ ?_<;>intro _<;>first|exact ap|conv=>whnf)|((first|refine aa hcat ?_|fail|refine ae ?_|refine bi ?_ ?_|intro _)<;>conv=>whnf)))
     (refine⟨⟨j+1,some ⟨[(i:Int)],0⟩,m2⟩,⟨⟨by show i<j+1;omega,by show j+1≤_;omega⟩,⟨hmk,hbn⟩,by show some (P i)=PT (c.length+1-(j+1)) (j+1) _;rw[hn2];exact HR,by show M=MT (c.length+1-(j+1)) (j+1) _;rw[hn2];exact HM⟩,(by show _-(j+1)<_-j;omega),?_⟩;(conv=>whnf);refine⟨?_,?_,?_⟩<;>repeat(first|exact trivial|refine sc rfl ?_|refine kn ?_|refine kc rfl ?_|refine sc (by rfl) ?_|refine kc (by rfl) ?_))
    | some b =>
     have hb:=hbf b rfl
     have hbt:=kW ⟨[(i:Int)],0⟩ b (by simp) (by have:=hb.1;omega) (by simp) (by have:=hb.2;omega)
     by_cases hbb:bu ⟨[(i:Int)],0⟩ b=true
     ·rw[show dF (some b) ⟨[(i:Int)],0⟩=⟨[(i:Int)],0⟩from if_pos hbb]at HR
      rw[hbb]at hbt
      have hbn:∀p,some (⟨[(i:Int)],0⟩:Press)=some p→yV p:=fun p hp=>by cases hp;exact⟨by simp,by simp⟩
      conv=>whnf
      repeat(any_goals(first|exact ac|(refine ao ?_ ?_<;>intro _<;>first|exact ap|conv=>whnf)|((first|refine ah hlj rfl ?_|refine aa hlj ?_|refine ae ?_|refine bi ?_ ?_|intro _)<;>conv=>whnf)))
      refine⟨[kTx],?_⟩
      conv=>whnf
      refine⟨_,_,hih,?_⟩
      conv=>whnf
      repeat(any_goals(first|exact ac|(refine ao ?_ ?_<;>intro _<;>first|exact ap|conv=>whnf)|((first|refine aa hcat ?_|refine aa hbt ?_|refine ae ?_|refine bi ?_ ?_|intro _)<;>conv=>whnf)))
      (refine⟨⟨j+1,some ⟨[(i:Int)],0⟩,m2⟩,⟨⟨by show i<j+1;omega,by show j+1≤_;omega⟩,⟨hmk,hbn⟩,by show some (P i)=PT (c.length+1-(j+1)) (j+1) _;rw[hn2];exact HR,by show M=MT (c.length+1-(j+1)) (j+1) _;rw[hn2];exact HM⟩,(by show _-(j+1)<_-j;omega),?_⟩;(conv=>whnf);refine⟨?_,?_,?_⟩<;>repeat(first|exact trivial|refine sc rfl ?_|refine kn ?_|refine kc rfl ?_|refine sc (by rfl) ?_|refine kc (by rfl) ?_))
     ·rw[show dF (some b) ⟨[(i:Int)],0⟩=b from if_neg hbb]at HR
      rw[Bool.eq_false_iff.2 hbb]at hbt
      have hbn:=hbf
      conv=>whnf
      repeat(any_goals(first|exact ac|(refine ao ?_ ?_<;>intro _<;>first|exact ap|conv=>whnf)|((first|refine ah hlj rfl ?_|refine aa hlj ?_|refine ae ?_|refine bi ?_ ?_|intro _)<;>conv=>whnf)))
      refine⟨[kTx],?_⟩
      conv=>whnf
      refine⟨_,_,hih,?_⟩
      conv=>whnf
      repeat(any_goals(first|exact ac|(refine ao ?_ ?_<;>intro _<;>first|exact ap|conv=>whnf)|((first|refine aa hcat ?_|refine aa hbt ?_|refine ae ?_|refine bi ?_ ?_|intro _)<;>conv=>whnf)))
      (refine⟨⟨j+1,some b,m2⟩,⟨⟨by show i<j+1;omega,by show j+1≤_;omega⟩,⟨hmk,hbn⟩,by show some (P i)=PT (c.length+1-(j+1)) (j+1) _;rw[hn2];exact HR,by show M=MT (c.length+1-(j+1)) (j+1) _;rw[hn2];exact HM⟩,(by show _-(j+1)<_-j;omega),?_⟩;(conv=>whnf);refine⟨?_,?_,?_⟩<;>repeat(first|exact trivial|refine sc rfl ?_|refine kn ?_|refine kc rfl ?_|refine sc (by rfl) ?_|refine kc (by rfl) ?_))
 ·obtain rfl:j=c.length+1:=by omega
  rw[Nat.sub_self,hpt0]at HR
  rw[Nat.sub_self,hmt0]at HM
  subst HM
  subst HR
  clear hlf hle hpt hmt hpt0 hmt0 ih hmok hfit
  conv=>whnf
  repeat(any_goals(first|exact ac|(refine ao ?_ ?_<;>intro _<;>first|exact ap|conv=>whnf)|((first|rw[hn1]|refine ae ?_|refine bi ?_ ?_|intro _)<;>conv=>whnf)))
  refine And.intro ?_ ?_
  ·conv=>whnf
   refine⟨⟨?_⟩,trivial⟩
   rfl
  ·repeat(first|exact trivial|refine And.intro rfl ?_|refine And.intro (by(simp only[jH,List.map_append];rfl)) ?_)
theorem Bt(s:Bill)(hg:s.Good)(c:List Ent)(hc:∀x∈c,s.OkE x)(h6:c.length≤6):∀(f i:Nat) (m:bN),i≤c.length→c.length-i≤f→cR s c m →
  BoxA Tryd.prog (.fn 19) [(kTx,1,0,jH m)] [cL s,bg c,ak i,.mp kTx 1] (du s c i) [(kTx,1,0,jH (s.memoN c f i m))]:=by
 intro f
 induction f with
 | zero =>
  intro i m hi hf hm
  obtain rfl:i=c.length:=by omega
  rw[show s.memoN c 0 c.length m=m from rfl]
  exact xF s c h6 m hm
 | succ f ih =>
  intro i m hi hf hm
  rw[gx]
  by_cases hmet:(m.any fun e=>decide (e.1=(i:Int)))=true
  ·rw[if_pos hmet]
   exact Da s c h6 i hi m hm hmet
  ·rw[if_neg hmet]
   by_cases hie:i=c.length
   ·rw[if_pos hie]
    subst hie
    exact xF s c h6 m hm
   ·rw[if_neg hie]
    exact Db s hg c hc h6 f i (by omega) m hm (Bool.eq_false_iff.2 hmet) fun j m' h1 h2 h3=>ih j m' h2 (by omega) h3
end Go.Proofs.YtgncapdjheghfaaDoor
namespace Go.Proofs.YtgncapdjheghfaaDoor
open Go.Am Go.Proofs Go
def Bill.lineW(s:Bill)(c:List Ent)(pages:List Nat)(i:Nat):Bs:=(s.rowW c pages i).flatMap bm
def Bill.textTo(s:Bill)(c:List Ent)(pages:List Nat)(i:Nat):Bs:=((List.range i).flatMap (s.rowW c pages)).flatMap bm
theorem sS(s:Bill)(c:List Ent)(pages:List Nat):s.textTo c pages 0=[]:=rfl
theorem cp(s:Bill)(c:List Ent)(pages:List Nat)(i:Nat):s.textTo c pages (i+1)=s.textTo c pages i++s.lineW c pages i:=by
 unfold Bill.textTo Bill.lineW
 rw[List.range_succ,List.flatMap_append,List.flatMap_append]
 simp
theorem vt(s:Bill)(c:List Ent):s.textTo c (xz (s.press c 0)) c.length=s.textL c:=rfl
theorem ki(i:Nat):∀(l:List Nat) (k:Nat),cn (fun x=>decide ((i:Int)=x)) k (fw l)=match l.findIdx? (· ==i)with
  | none=> -1
  | some p=>(k:Int)+p
 | [],k=>rfl
 | x::l,k=>by
  have ih:=ki i l (k+1)
  show(if decide ((i:Int)=(x:Int))=true then(k:Int)else cn _ (k+1) (fw l))=_
  rw[List.findIdx?_cons,ih]
  by_cases h:x=i
  ·subst h;simp
  ·rw[if_neg (by simp only[decide_eq_true_eq];omega),if_neg (by simpa using h)]
   cases l.findIdx? (· ==i)with
   | none=>rfl
   | some p=>show((k+1:Nat):Int)+(p:Int)=(k:Int)+((p+1:Nat):Int);omega
theorem gn(i:Nat)(l:List Nat):idx (fun x=>decide ((i:Int)=x)) (fw l)=match l.findIdx? (· ==i)with
  | none=> -1
  | some p=>(p:Int):=by
 have:=ki i l 0
 unfold idx
 rw[this]
 cases l.findIdx? (· ==i)with
 | none=>rfl
 | some p=>simp
theorem xh{s:ByteArray}(h:d4 s=true):s.size≤16:=by
 unfold d4 at h
 simp only[Bool.and_eq_true,decide_eq_true_eq]at h
 exact h.1.2
theorem iJ{s:Bill}(hg:s.Good){a:Int}(h:0≤a∧a<s.figs.length):∃f,s.figs[a.toNat]?=some f∧(f.name.size≤16∧f.role.size≤16)∧s.roomAt a=f.room∧0≤f.room∧f.room≤9:=by
 have hlt:a.toNat<s.figs.length:=by omega
 refine⟨_,List.getElem?_eq_getElem hlt,?_⟩
 have hf:=hg.figs _ (List.getElem_mem hlt)
 refine⟨⟨xh hf.1.1,xh hf.1.2⟩,?_,hf.2.1⟩
 unfold Bill.roomAt
 rw[List.getElem?_eq_getElem hlt]
theorem da{s:Bill}{a:Int}{f:Fig}(h:s.figs[a.toNat]?=some f)(hn:f.name.size≤16∧f.role.size≤16):(aL (s.whoW a)).length≤36∧s.whoW a≠[]:=by
 rw[yB h]
 refine⟨?_,by simp⟩
 show(bytes f.name++32::(wAs++32::bytes f.role)).length≤36
 have h1:(bytes f.name).length=f.name.size:=rfl
 have h2:(bytes f.role).length=f.role.size:=rfl
 simp only[List.length_append,List.length_cons,wAs,List.length_nil,h1,h2]
 omega
def Fh(n:Int):Bs:=aL (if n=2 then [yA,wBe]else [wIs])
theorem eV{s:Bill}{i:Nat}{x:Ent}(ha:s.whoW x.a≠[])(hb:s.whoW x.b≠[]):aL (s.entW i x)=aL (num ((i:Int)+1)::Fh x.says::aL (s.whoW x.a)::if x.says=1 then [wOr,aL (s.whoW x.b)]else []):=by
 have one:∀(w:Bs) (l:List Bs),l≠[]→aL (w::l)=w++32::aL l:=fun w l h=>by cases l with|nil=>exact absurd rfl h|cons=>rfl
 unfold Bill.entW Fh
 by_cases h1:x.says=1
 ·have h2:¬x.says=2:=by omega
  simp only[if_pos h1,if_neg h2]
  rw[List.append_assoc,one _ _ (by simp),iN _ _ (by simp) (by simp[ha]),iN _ _ ha (by simp),one wOr _ hb]
  simp[aL]
 ·simp only[if_neg h1,List.append_nil]
  rw[one _ _ (by simp[ha]),iN _ _ (by split<;>simp) ha]
  simp[aL]
def aO(p:Nat):Bs:=bm (C6 p)
def bw(r:Int):Bs:=bm [bI,num r]
def ez(r:Int):Bs:=bm [bI,num r,kU]
def dE:Option Nat→Bs
 | none=>[]
 | some p=>aO p
theorem cy(ws:List Bs):bm ws≠[]:=by unfold bm;simp
theorem cG(p:Nat):(aO p).length=7:=by simp[aO,bm,C6,aL,cB,num]
theorem cH(r:Int):(bw r).length=7:=by simp[bw,bm,aL,bI,num]
theorem iE(r:Int):(ez r).length=17:=by simp[ez,bm,aL,bI,num,kU]
theorem ei{s:Bill}{c:List Ent}{pages:List Nat}{i:Nat}{x:Ent}(hx:c[i]?=some x){o:Option Nat}(ho:pages.findIdx? (· ==i)=o){h:Int}(hh:s.heading c i o.isSome=h) :
  s.lineW c pages i=dE o++((if h=2 then bw (s.roomAt x.a)else if h=1 then ez (s.roomAt x.a)else [])++bm (s.entW i x)):=by
 unfold Bill.lineW Bill.rowW
 rw[hx]
 simp only[ho]
 unfold Bill.headW
 rw[hh]
 cases o with
 | none =>
  by_cases h2:h=2
  ·simp[h2,bw,dE]
  ·by_cases h1:h=1
   ·simp[h1,ez,dE]
   ·simp[h2,h1,dE]
 | some p =>
  by_cases h2:h=2
  ·simp[h2,bw,aO,dE]
  ·by_cases h1:h=1
   ·simp[h1,ez,aO,dE]
   ·simp[h2,h1,aO,dE]
theorem gX{s:Bill}(hg:s.Good){x:Ent}(hx:s.OkE x)(i:Nat):(bm (s.entW i x)).length≤100:=by
 obtain⟨f,hf,hn,_⟩:=iJ hg hx.a
 obtain⟨g,hg',hm,_⟩:=iJ hg hx.b
 obtain⟨h1,h2⟩:=da hf hn
 obtain⟨h3,h4⟩:=da hg' hm
 unfold bm
 rw[eV h2 h4,List.length_append]
 have hs:(Fh x.says).length≤6:=by unfold Fh;split<;>simp[aL,yA,wBe,wIs]
 have hn:(num ((i:Int)+1)).length=1:=rfl
 have one:∀(w:Bs) (l:List Bs),l≠[]→aL (w::l)=w++32::aL l:=fun w l h=>by cases l with|nil=>exact absurd rfl h|cons=>rfl
 rw[one _ _ (by simp),one _ _ (by simp)]
 by_cases e:x.says=1
 ·rw[if_pos e,one _ _ (by simp),one _ _ (by simp)]
  simp only[List.length_append,List.length_cons,List.length_nil,aL,wOr,hn]
  omega
 ·rw[if_neg e]
  simp only[List.length_append,List.length_cons,List.length_nil,aL,hn]
  omega
theorem w4{s:Bill}(hg:s.Good){c:List Ent}(hc:∀x∈c,s.OkE x)(pages:List Nat)(i:Nat):(s.lineW c pages i).length≤200:=by
 cases hx:c[i]? with
 | none=>unfold Bill.lineW Bill.rowW;rw[hx];simp
 | some x =>
  rw[ei hx rfl rfl]
  have h1:=gX hg (hc x (List.mem_of_getElem? hx)) i
  have h2:=cH (s.roomAt x.a)
  have h3:=iE (s.roomAt x.a)
  simp only[List.length_append]
  have hp:(dE (pages.findIdx? (· ==i))).length≤7:=by
   cases pages.findIdx? (· ==i)with
   | none=>simp[dE]
   | some p=>show(aO p).length≤7;rw[cG];omega
  have hr:∀h:Int,(if h=2 then bw (s.roomAt x.a)else if h=1 then ez (s.roomAt x.a)else []).length≤17:=fun h=>by
   split
   ·omega
   ·split
    ·omega
    ·simp
  have:=hr (s.heading c i (pages.findIdx? (· ==i)).isSome)
  omega
theorem cQ{s:Bill}(hg:s.Good){c:List Ent}(hc:∀x∈c,s.OkE x)(pages:List Nat):∀i:Nat,(s.textTo c pages i).length≤200 * i
 | 0=>by rw[sS];simp
 | i+1=>by
  rw[cp,List.length_append]
  have:=cQ hg hc pages i
  have:=w4 hg hc pages i
  omega
end Go.Proofs.YtgncapdjheghfaaDoor
namespace Go.Proofs.YtgncapdjheghfaaDoor
open Go.Am Go.Proofs Go
end Go.Proofs.YtgncapdjheghfaaDoor
namespace Go.Proofs.YtgncapdjheghfaaDoor
open Go.Am Go.Proofs Go
end Go.Proofs.YtgncapdjheghfaaDoor
namespace Go.Proofs.YtgncapdjheghfaaDoor
open Go.Am Go.Proofs Go
noncomputable def FH:Code:=((Tryd.f35.body.bind pW)).getD .skip
def cxX:Cx:={ l:=0,f:=35,mat:=[19,57,61],ty:=[5]}
def EY(s:Bill)(c:List Ent)(R:Press)(M:bN)(u:Nat×BSt):SS :=
 CG [(21,ak u.1)] [(kB,some (1,some (2,[u.2.av]))),(kBr,some u.2.row)] [] [cxX.key 9,cxX.key 88] [cxX.key 88]
  [(20,.v (.int .i64 ((c.map bK).length:Nat))),(19,bg c),(7,bU R.pages),(18,bU R.pages),(17,fu R),(16,.mp kTx 1),(15,bg c),(14,cL s),(6,.ptr (cxX.key 6) 1 6 0 0),(13,.agg fb),
   (5,.ptr kB 1 2 0 0),(4,ofValue (.string ⟨#[]⟩)),(0,cL s),(1,bg c)]
  [(kTx,some (1,some (0,jH M))),(cxX.key 6,some (1,some (6,[.agg fb])))] []
def Bz(s:Bill)(c:List Ent)(l:List Nat)(u:Nat×BSt):Prop:=u.1≤c.length∧(u.1=0→u.2 = .fresh)∧(0<u.1→∃g,u.2 = .used g (s.textTo c l u.1))
def qX(s:Bill)(c:List Ent)(l:List Nat)(R:Press)(M:bN)(k:Nat)(st:BSt):Prop :=
 ∀Q:Exit→SS→Prop,dU Tryd.prog tab cxX Tryd.f35.ntmps FH
  (qL (fun ss'=>∃a':Nat×BSt,Bz s c l a'∧c.length-a'.1<c.length-k∧qS ss' (EY s c R M a')) Q) (EY s c R M (k,st))
theorem xm{o:Option (Option gT)}{K:Prop}(h:o=some (some (0,none)))(k:K):uA o K:=by subst h;exact k
theorem g3{s:Bill}{c:List Ent}{i:Nat}{x:Ent}(hx:c[i]?=some x):(s.heading c i true=2∨s.heading c i true=1)∧(s.heading c i false=2∨s.heading c i false=0):=by
 unfold Bill.heading
 rw[hx]
 simp only
 split
 ·exact⟨.inl rfl,.inl rfl⟩
 ·split
  ·exact⟨.inl rfl,.inl rfl⟩
  ·exact⟨.inr rfl,.inr rfl⟩
theorem eX{s:Bill}{c:List Ent}{x:Ent}(hx:c[0]?=some x)(t:Bool):s.heading c 0 t=2:=by
 unfold Bill.heading
 rw[hx]
 rfl
end Go.Proofs.YtgncapdjheghfaaDoor
namespace Go.Proofs.YtgncapdjheghfaaDoor
open Go.Am Go.Proofs Go
set_option maxHeartbeats 8000000 in
theorem Dl(s:Bill)(hg:s.Good)(c:List Ent)(hc:∀x∈c,s.OkE x)(h6:c.length≤6)(l:List Nat)(hll:l.length≤6)(i:Nat)(R:Press)(hR:R.pages=fw l)(M:bN)(xa xb:Int)(hx:c[i]?=some ⟨0,xa,xb⟩)(g:Nat) :
  qX s c l R M i (.used g (s.textTo c l i)):=by
 have hi:i<c.length:=(List.getElem?_eq_some_iff.1 hx).1
 have hok:=hc _ (List.mem_of_getElem? hx)
 obtain⟨f,hf,hn,hroom,hr0⟩:=iJ hg hok.a
 obtain⟨f2,hf2,hn2,_⟩:=iJ hg hok.b
 have hlt:=cQ hg hc l i
 have hsu:=cp s c l i
 have hwa:=kV s xa f hok.a.1 hf hn
 have hwb:=kV s xb f2 hok.b.1 hf2 hn2
 obtain⟨wl,wn⟩:=da hf hn
 obtain⟨wl2,wn2⟩:=da hf2 hn2
 have hej:=eV (s:=s) (i:=i) (x:=⟨0,xa,xb⟩) wn wn2
 have hel:=gX hg hok i
 have hidx:=eY R.pages i (by rw[hR];unfold fw;rw[List.length_map];omega)
 rw[hR,gn, ←hR]at hidx
 have hhd:=fun t=>dW s c (fun x hx=>(hc x hx).inn) h6 i hi t
 have hlw:=fun {o} ho {h} hh=>ei (s:=s) (pages:=l) hx (o:=o) ho (h:=h) hh
 have hitr:=cD f.room hr0
 have hite:=cD ((i:Int)+1) (by omega)
 have hax:=hok.a
 have hbx:=hok.b
 have hfl:(s.figs.map eR).length=s.figs.length:=List.length_map ..
 have hcl:(c.map bK).length=c.length:=List.length_map ..
 simp only at hroom hlw hax hbx hwa hwb wl wl2 wn wn2 hej hf
 rw[hroom]at hlw
 generalize aL (s.whoW xa)=W at *
 generalize aL (s.whoW xb)=W2 at *
 have hE:bm (s.entW i ⟨0,xa,xb⟩)=bm [num ((i:Int)+1),wIs,W]:=by unfold bm;rw[hej];rfl
 have hle:PureA Tryd.prog 58 [.slice 1 [aI (aC (num ((i:Int)+1))),aI isB,aI (aC W)] .no] (aI (aC (bm (s.entW i ⟨0,xa,xb⟩)))):=by
  rw[hE]
  refine b7 [num ((i:Int)+1),wIs,W] (by simp) (by simp) ?_
  rw[hE]at hel
  unfold bm at hel
  rw[List.length_append]at hel
  omega
 have hEn:=cy (s.entW i ⟨0,xa,xb⟩)
 clear hej hE hn hn2 wl wl2 wn wn2 hf2
 generalize bm (s.entW i ⟨0,xa,xb⟩)=E at *
 have hht:=g3 (s:=s) hx
 generalize s.textTo c l i=t at *
 intro Q
 cases ho:l.findIdx? (· ==i)with
 | none =>
  simp only[ho]at hidx
  have hhd:=hhd false
  rcases hht.2 with h2|h2
  ·rw[h2]at hhd
   have hlr:PureA Tryd.prog 58 [.slice 1 [aI (aC bI),aI (aC (num f.room))] .no] (aI (aC (bw f.room))):=b7 [bI,num f.room] (by simp) (by simp) (by simp[aL,bI,num])
   have hrl:=cH f.room
   have hlw:=hlw (o:=none) ho (h:=2) h2
   have hT:s.textTo c l (i+1)=t++bw f.room++E:=by rw[hsu,hlw];simp[dE]
   have hw1:=aE g (t) (bw f.room) (by(try simp only[List.length_append]);omega) (by omega)
   have hw2:=aE (g+1) (t++bw f.room) (E) (by(try simp only[List.length_append]);omega) (by omega)
   clear hsu hlw h2
   generalize bw f.room=B at *
   conv=>whnf
   repeat(any_goals(first|exact ac|(refine ao ?_ ?_<;>intro _<;>first|exact ap|conv=>whnf)|((first|refine af hx rfl ?_|refine af hf (by show xa=_;omega) ?_|refine aa hidx ?_|refine aa hitp ?_|refine aa hlp ?_|refine aa hitr ?_|refine aa hhd ?_|refine aa hlr ?_|refine aa hite ?_|refine aa hwa ?_|refine aa hwb ?_|refine aa hle ?_|refine ae ?_|refine bi ?_ ?_|intro _)<;>conv=>whnf)))
   refine⟨[kB,kBr],?_⟩
   conv=>whnf
   repeat(refine ab (au _ _) ?_<;>(conv=>whnf))
   refine⟨_,_,hw1,?_⟩
   conv=>whnf
   repeat(refine ab (au _ _) ?_<;>(conv=>whnf))
   repeat(any_goals(first|exact ac|(refine ao ?_ ?_<;>intro _<;>first|exact ap|conv=>whnf)|((first|refine af hx rfl ?_|refine af hf (by show xa=_;omega) ?_|refine aa hidx ?_|refine aa hitp ?_|refine aa hlp ?_|refine aa hitr ?_|refine aa hhd ?_|refine aa hlr ?_|refine aa hite ?_|refine aa hwa ?_|refine aa hwb ?_|refine aa hle ?_|refine ae ?_|refine bi ?_ ?_|intro _)<;>conv=>whnf)))
   refine⟨[kB,kBr],?_⟩
   conv=>whnf
   repeat(refine ab (au _ _) ?_<;>(conv=>whnf))
   refine⟨_,_,hw2,?_⟩
   conv=>whnf
   repeat(refine ab (au _ _) ?_<;>(conv=>whnf))
   repeat(any_goals(first|exact ac|(refine ao ?_ ?_<;>intro _<;>first|exact ap|conv=>whnf)|((first|refine af hx rfl ?_|refine af hf (by show xa=_;omega) ?_|refine aa hidx ?_|refine aa hitp ?_|refine aa hlp ?_|refine aa hitr ?_|refine aa hhd ?_|refine aa hlr ?_|refine aa hite ?_|refine aa hwa ?_|refine aa hwb ?_|refine aa hle ?_|refine ae ?_|refine bi ?_ ?_|intro _)<;>conv=>whnf)))
   (refine⟨⟨i+1,.used (g+1+1) (t++B++E)⟩,⟨by show i+1≤_;omega,(fun h=>by cases h),fun _=>⟨_,congrArg (BSt.used _) hT.symm⟩⟩,(by show _-(i+1)<_-i;omega),?_⟩;(conv=>whnf);refine⟨?_,?_,?_⟩<;>repeat(first|exact trivial|refine sc rfl ?_|refine kn ?_|refine kc rfl ?_|refine sc (by rfl) ?_|refine kc (by rfl) ?_))
  ·rw[h2]at hhd
   have hlw:=hlw (o:=none) ho (h:=0) h2
   have hT:s.textTo c l (i+1)=t++E:=by rw[hsu,hlw];simp[dE]
   have hw1:=aE g (t) (E) (by(try simp only[List.length_append]);omega) (by omega)
   clear hsu hlw h2
   conv=>whnf
   repeat(any_goals(first|exact ac|(refine ao ?_ ?_<;>intro _<;>first|exact ap|conv=>whnf)|((first|refine af hx rfl ?_|refine af hf (by show xa=_;omega) ?_|refine aa hidx ?_|refine aa hitp ?_|refine aa hlp ?_|refine aa hitr ?_|refine aa hhd ?_|refine aa hlr ?_|refine aa hite ?_|refine aa hwa ?_|refine aa hwb ?_|refine aa hle ?_|refine ae ?_|refine bi ?_ ?_|intro _)<;>conv=>whnf)))
   refine⟨[kB,kBr],?_⟩
   conv=>whnf
   repeat(refine ab (au _ _) ?_<;>(conv=>whnf))
   refine⟨_,_,hw1,?_⟩
   conv=>whnf
   repeat(refine ab (au _ _) ?_<;>(conv=>whnf))
   repeat(any_goals(first|exact ac|(refine ao ?_ ?_<;>intro _<;>first|exact ap|conv=>whnf)|((first|refine af hx rfl ?_|refine af hf (by show xa=_;omega) ?_|refine aa hidx ?_|refine aa hitp ?_|refine aa hlp ?_|refine aa hitr ?_|refine aa hhd ?_|refine aa hlr ?_|refine aa hite ?_|refine aa hwa ?_|refine aa hwb ?_|refine aa hle ?_|refine ae ?_|refine bi ?_ ?_|intro _)<;>conv=>whnf)))
   (refine⟨⟨i+1,.used (g+1) (t++E)⟩,⟨by show i+1≤_;omega,(fun h=>by cases h),fun _=>⟨_,congrArg (BSt.used _) hT.symm⟩⟩,(by show _-(i+1)<_-i;omega),?_⟩;(conv=>whnf);refine⟨?_,?_,?_⟩<;>repeat(first|exact trivial|refine sc rfl ?_|refine kn ?_|refine kc rfl ?_|refine sc (by rfl) ?_|refine kc (by rfl) ?_))
 | some p =>
  simp only[ho]at hidx
  have hp6:=jB ho
  have hhd:=hhd true
  rcases hht.1 with h2|h2
  ·rw[h2]at hhd
   have hitp:=cD ((p:Int)+1) (by omega)
   have hlp:PureA Tryd.prog 58 [.slice 1 [aI (aC cB),aI (aC (num ((p:Int)+1)))] .no] (aI (aC (aO p))):=b7 [cB,num ((p:Int)+1)] (by simp) (by simp) (by simp[aL,cB,num])
   have hpl:=cG p
   have hpn:aO p≠[]:=cy _
   have hlr:PureA Tryd.prog 58 [.slice 1 [aI (aC bI),aI (aC (num f.room))] .no] (aI (aC (bw f.room))):=b7 [bI,num f.room] (by simp) (by simp) (by simp[aL,bI,num])
   have hrl:=cH f.room
   have hlw:=hlw (o:=(some p)) ho (h:=2) h2
   have hT:s.textTo c l (i+1)=t++aO p++bw f.room++E:=by rw[hsu,hlw];simp[dE]
   have hw1:=aE g (t) (aO p) (by(try simp only[List.length_append]);omega) (by omega)
   have hw2:=aE (g+1) (t++aO p) (bw f.room) (by(try simp only[List.length_append]);omega) (by omega)
   have hw3:=aE (g+2) (t++aO p++bw f.room) (E) (by(try simp only[List.length_append]);omega) (by omega)
   clear hsu hlw h2
   generalize aO p=A at *
   generalize bw f.room=B at *
   conv=>whnf
   repeat(any_goals(first|exact ac|(refine ao ?_ ?_<;>intro _<;>first|exact ap|conv=>whnf)|((first|refine af hx rfl ?_|refine af hf (by show xa=_;omega) ?_|refine aa hidx ?_|refine aa hitp ?_|refine aa hlp ?_|refine aa hitr ?_|refine aa hhd ?_|refine aa hlr ?_|refine aa hite ?_|refine aa hwa ?_|refine aa hwb ?_|refine aa hle ?_|refine ae ?_|refine bi ?_ ?_|intro _)<;>conv=>whnf)))
   refine⟨[kB,kBr],?_⟩
   conv=>whnf
   repeat(refine ab (au _ _) ?_<;>(conv=>whnf))
   refine⟨_,_,hw1,?_⟩
   conv=>whnf
   repeat(refine ab (au _ _) ?_<;>(conv=>whnf))
   repeat(any_goals(first|exact ac|(refine ao ?_ ?_<;>intro _<;>first|exact ap|conv=>whnf)|((first|refine af hx rfl ?_|refine af hf (by show xa=_;omega) ?_|refine aa hidx ?_|refine aa hitp ?_|refine aa hlp ?_|refine aa hitr ?_|refine aa hhd ?_|refine aa hlr ?_|refine aa hite ?_|refine aa hwa ?_|refine aa hwb ?_|refine aa hle ?_|refine ae ?_|refine bi ?_ ?_|intro _)<;>conv=>whnf)))
   refine⟨[kB,kBr],?_⟩
   conv=>whnf
   repeat(refine ab (au _ _) ?_<;>(conv=>whnf))
   refine⟨_,_,hw2,?_⟩
   conv=>whnf
   repeat(refine ab (au _ _) ?_<;>(conv=>whnf))
   repeat(any_goals(first|exact ac|(refine ao ?_ ?_<;>intro _<;>first|exact ap|conv=>whnf)|((first|refine af hx rfl ?_|refine af hf (by show xa=_;omega) ?_|refine aa hidx ?_|refine aa hitp ?_|refine aa hlp ?_|refine aa hitr ?_|refine aa hhd ?_|refine aa hlr ?_|refine aa hite ?_|refine aa hwa ?_|refine aa hwb ?_|refine aa hle ?_|refine ae ?_|refine bi ?_ ?_|intro _)<;>conv=>whnf)))
   refine⟨[kB,kBr],?_⟩
   conv=>whnf
   repeat(refine ab (au _ _) ?_<;>(conv=>whnf))
   refine⟨_,_,hw3,?_⟩
   conv=>whnf
   repeat(refine ab (au _ _) ?_<;>(conv=>whnf))
   repeat(any_goals(first|exact ac|(refine ao ?_ ?_<;>intro _<;>first|exact ap|conv=>whnf)|((first|refine af hx rfl ?_|refine af hf (by show xa=_;omega) ?_|refine aa hidx ?_|refine aa hitp ?_|refine aa hlp ?_|refine aa hitr ?_|refine aa hhd ?_|refine aa hlr ?_|refine aa hite ?_|refine aa hwa ?_|refine aa hwb ?_|refine aa hle ?_|refine ae ?_|refine bi ?_ ?_|intro _)<;>conv=>whnf)))
   (refine⟨⟨i+1,.used (g+1+1+1) (t++A++B++E)⟩,⟨by show i+1≤_;omega,(fun h=>by cases h),fun _=>⟨_,congrArg (BSt.used _) hT.symm⟩⟩,(by show _-(i+1)<_-i;omega),?_⟩;(conv=>whnf);refine⟨?_,?_,?_⟩<;>repeat(first|exact trivial|refine sc rfl ?_|refine kn ?_|refine kc rfl ?_|refine sc (by rfl) ?_|refine kc (by rfl) ?_))
  ·rw[h2]at hhd
   have hitp:=cD ((p:Int)+1) (by omega)
   have hlp:PureA Tryd.prog 58 [.slice 1 [aI (aC cB),aI (aC (num ((p:Int)+1)))] .no] (aI (aC (aO p))):=b7 [cB,num ((p:Int)+1)] (by simp) (by simp) (by simp[aL,cB,num])
   have hpl:=cG p
   have hpn:aO p≠[]:=cy _
   have hlr:PureA Tryd.prog 58 [.slice 1 [aI (aC bI),aI (aC (num f.room)),aI (aC kU)] .no] (aI (aC (ez f.room))):=b7 [bI,num f.room,kU] (by simp) (by simp) (by simp[aL,bI,num,kU])
   have hrl:=iE f.room
   have hlw:=hlw (o:=(some p)) ho (h:=1) h2
   have hT:s.textTo c l (i+1)=t++aO p++ez f.room++E:=by rw[hsu,hlw];simp[dE]
   have hw1:=aE g (t) (aO p) (by(try simp only[List.length_append]);omega) (by omega)
   have hw2:=aE (g+1) (t++aO p) (ez f.room) (by(try simp only[List.length_append]);omega) (by omega)
   have hw3:=aE (g+2) (t++aO p++ez f.room) (E) (by(try simp only[List.length_append]);omega) (by omega)
   clear hsu hlw h2
   generalize aO p=A at *
   generalize ez f.room=B at *
   conv=>whnf
   repeat(any_goals(first|exact ac|(refine ao ?_ ?_<;>intro _<;>first|exact ap|conv=>whnf)|((first|refine af hx rfl ?_|refine af hf (by show xa=_;omega) ?_|refine aa hidx ?_|refine aa hitp ?_|refine aa hlp ?_|refine aa hitr ?_|refine aa hhd ?_|refine aa hlr ?_|refine aa hite ?_|refine aa hwa ?_|refine aa hwb ?_|refine aa hle ?_|refine ae ?_|refine bi ?_ ?_|intro _)<;>conv=>whnf)))
   refine⟨[kB,kBr],?_⟩
   conv=>whnf
   repeat(refine ab (au _ _) ?_<;>(conv=>whnf))
   refine⟨_,_,hw1,?_⟩
   conv=>whnf
   repeat(refine ab (au _ _) ?_<;>(conv=>whnf))
   repeat(any_goals(first|exact ac|(refine ao ?_ ?_<;>intro _<;>first|exact ap|conv=>whnf)|((first|refine af hx rfl ?_|refine af hf (by show xa=_;omega) ?_|refine aa hidx ?_|refine aa hitp ?_|refine aa hlp ?_|refine aa hitr ?_|refine aa hhd ?_|refine aa hlr ?_|refine aa hite ?_|refine aa hwa ?_|refine aa hwb ?_|refine aa hle ?_|refine ae ?_|refine bi ?_ ?_|intro _)<;>conv=>whnf)))
   refine⟨[kB,kBr],?_⟩
   conv=>whnf
   repeat(refine ab (au _ _) ?_<;>(conv=>whnf))
   refine⟨_,_,hw2,?_⟩
   conv=>whnf
   repeat(refine ab (au _ _) ?_<;>(conv=>whnf))
   repeat(any_goals(first|exact ac|(refine ao ?_ ?_<;>intro _<;>first|exact ap|conv=>whnf)|((first|refine af hx rfl ?_|refine af hf (by show xa=_;omega) ?_|refine aa hidx ?_|refine aa hitp ?_|refine aa hlp ?_|refine aa hitr ?_|refine aa hhd ?_|refine aa hlr ?_|refine aa hite ?_|refine aa hwa ?_|refine aa hwb ?_|refine aa hle ?_|refine ae ?_|refine bi ?_ ?_|intro _)<;>conv=>whnf)))
   refine⟨[kB,kBr],?_⟩
   conv=>whnf
   repeat(refine ab (au _ _) ?_<;>(conv=>whnf))
   refine⟨_,_,hw3,?_⟩
   conv=>whnf
   repeat(refine ab (au _ _) ?_<;>(conv=>whnf))
   repeat(any_goals(first|exact ac|(refine ao ?_ ?_<;>intro _<;>first|exact ap|conv=>whnf)|((first|refine af hx rfl ?_|refine af hf (by show xa=_;omega) ?_|refine aa hidx ?_|refine aa hitp ?_|refine aa hlp ?_|refine aa hitr ?_|refine aa hhd ?_|refine aa hlr ?_|refine aa hite ?_|refine aa hwa ?_|refine aa hwb ?_|refine aa hle ?_|refine ae ?_|refine bi ?_ ?_|intro _)<;>conv=>whnf)))
   (refine⟨⟨i+1,.used (g+1+1+1) (t++A++B++E)⟩,⟨by show i+1≤_;omega,(fun h=>by cases h),fun _=>⟨_,congrArg (BSt.used _) hT.symm⟩⟩,(by show _-(i+1)<_-i;omega),?_⟩;(conv=>whnf);refine⟨?_,?_,?_⟩<;>repeat(first|exact trivial|refine sc rfl ?_|refine kn ?_|refine kc rfl ?_|refine sc (by rfl) ?_|refine kc (by rfl) ?_))
end Go.Proofs.YtgncapdjheghfaaDoor
namespace Go.Proofs.YtgncapdjheghfaaDoor
open Go.Am Go.Proofs Go
set_option maxHeartbeats 8000000 in
theorem Dn(s:Bill)(hg:s.Good)(c:List Ent)(hc:∀x∈c,s.OkE x)(h6:c.length≤6)(l:List Nat)(hll:l.length≤6)(i:Nat)(R:Press)(hR:R.pages=fw l)(M:bN)(xa xb:Int)(hx:c[i]?=some ⟨1,xa,xb⟩)(g:Nat) :
  qX s c l R M i (.used g (s.textTo c l i)):=by
 have hi:i<c.length:=(List.getElem?_eq_some_iff.1 hx).1
 have hok:=hc _ (List.mem_of_getElem? hx)
 obtain⟨f,hf,hn,hroom,hr0⟩:=iJ hg hok.a
 obtain⟨f2,hf2,hn2,_⟩:=iJ hg hok.b
 have hlt:=cQ hg hc l i
 have hsu:=cp s c l i
 have hwa:=kV s xa f hok.a.1 hf hn
 have hwb:=kV s xb f2 hok.b.1 hf2 hn2
 obtain⟨wl,wn⟩:=da hf hn
 obtain⟨wl2,wn2⟩:=da hf2 hn2
 have hej:=eV (s:=s) (i:=i) (x:=⟨1,xa,xb⟩) wn wn2
 have hel:=gX hg hok i
 have hidx:=eY R.pages i (by rw[hR];unfold fw;rw[List.length_map];omega)
 rw[hR,gn, ←hR]at hidx
 have hhd:=fun t=>dW s c (fun x hx=>(hc x hx).inn) h6 i hi t
 have hlw:=fun {o} ho {h} hh=>ei (s:=s) (pages:=l) hx (o:=o) ho (h:=h) hh
 have hitr:=cD f.room hr0
 have hite:=cD ((i:Int)+1) (by omega)
 have hax:=hok.a
 have hbx:=hok.b
 have hfl:(s.figs.map eR).length=s.figs.length:=List.length_map ..
 have hcl:(c.map bK).length=c.length:=List.length_map ..
 simp only at hroom hlw hax hbx hwa hwb wl wl2 wn wn2 hej hf
 rw[hroom]at hlw
 generalize aL (s.whoW xa)=W at *
 generalize aL (s.whoW xb)=W2 at *
 have hE:bm (s.entW i ⟨1,xa,xb⟩)=bm [num ((i:Int)+1),wIs,W,wOr,W2]:=by unfold bm;rw[hej];rfl
 have hle:PureA Tryd.prog 58 [.slice 1 [aI (aC (num ((i:Int)+1))),aI isB,aI (aC W),aI (aC wOr),aI (aC W2)] .no] (aI (aC (bm (s.entW i ⟨1,xa,xb⟩)))):=by
  rw[hE]
  refine b7 [num ((i:Int)+1),wIs,W,wOr,W2] (by simp) (by simp) ?_
  rw[hE]at hel
  unfold bm at hel
  rw[List.length_append]at hel
  omega
 have hEn:=cy (s.entW i ⟨1,xa,xb⟩)
 clear hej hE hn hn2 wl wl2 wn wn2 hf2
 generalize bm (s.entW i ⟨1,xa,xb⟩)=E at *
 have hht:=g3 (s:=s) hx
 generalize s.textTo c l i=t at *
 intro Q
 cases ho:l.findIdx? (· ==i)with
 | none =>
  simp only[ho]at hidx
  have hhd:=hhd false
  rcases hht.2 with h2|h2
  ·rw[h2]at hhd
   have hlr:PureA Tryd.prog 58 [.slice 1 [aI (aC bI),aI (aC (num f.room))] .no] (aI (aC (bw f.room))):=b7 [bI,num f.room] (by simp) (by simp) (by simp[aL,bI,num])
   have hrl:=cH f.room
   have hlw:=hlw (o:=none) ho (h:=2) h2
   have hT:s.textTo c l (i+1)=t++bw f.room++E:=by rw[hsu,hlw];simp[dE]
   have hw1:=aE g (t) (bw f.room) (by(try simp only[List.length_append]);omega) (by omega)
   have hw2:=aE (g+1) (t++bw f.room) (E) (by(try simp only[List.length_append]);omega) (by omega)
   clear hsu hlw h2
   generalize bw f.room=B at *
   conv=>whnf
   repeat(any_goals(first|exact ac|(refine ao ?_ ?_<;>intro _<;>first|exact ap|conv=>whnf)|((first|refine af hx rfl ?_|refine af hf (by show xa=_;omega) ?_|refine aa hidx ?_|refine aa hitp ?_|refine aa hlp ?_|refine aa hitr ?_|refine aa hhd ?_|refine aa hlr ?_|refine aa hite ?_|refine aa hwa ?_|refine aa hwb ?_|refine aa hle ?_|refine ae ?_|refine bi ?_ ?_|intro _)<;>conv=>whnf)))
   refine⟨[kB,kBr],?_⟩
   conv=>whnf
   repeat(refine ab (au _ _) ?_<;>(conv=>whnf))
   refine⟨_,_,hw1,?_⟩
   conv=>whnf
   repeat(refine ab (au _ _) ?_<;>(conv=>whnf))
   repeat(any_goals(first|exact ac|(refine ao ?_ ?_<;>intro _<;>first|exact ap|conv=>whnf)|((first|refine af hx rfl ?_|refine af hf (by show xa=_;omega) ?_|refine aa hidx ?_|refine aa hitp ?_|refine aa hlp ?_|refine aa hitr ?_|refine aa hhd ?_|refine aa hlr ?_|refine aa hite ?_|refine aa hwa ?_|refine aa hwb ?_|refine aa hle ?_|refine ae ?_|refine bi ?_ ?_|intro _)<;>conv=>whnf)))
   refine⟨[kB,kBr],?_⟩
   conv=>whnf
   repeat(refine ab (au _ _) ?_<;>(conv=>whnf))
   refine⟨_,_,hw2,?_⟩
   conv=>whnf
   repeat(refine ab (au _ _) ?_<;>(conv=>whnf))
   repeat(any_goals(first|exact ac|(refine ao ?_ ?_<;>intro _<;>first|exact ap|conv=>whnf)|((first|refine af hx rfl ?_|refine af hf (by show xa=_;omega) ?_|refine aa hidx ?_|refine aa hitp ?_|refine aa hlp ?_|refine aa hitr ?_|refine aa hhd ?_|refine aa hlr ?_|refine aa hite ?_|refine aa hwa ?_|refine aa hwb ?_|refine aa hle ?_|refine ae ?_|refine bi ?_ ?_|intro _)<;>conv=>whnf)))
   (refine⟨⟨i+1,.used (g+1+1) (t++B++E)⟩,⟨by show i+1≤_;omega,(fun h=>by cases h),fun _=>⟨_,congrArg (BSt.used _) hT.symm⟩⟩,(by show _-(i+1)<_-i;omega),?_⟩;(conv=>whnf);refine⟨?_,?_,?_⟩<;>repeat(first|exact trivial|refine sc rfl ?_|refine kn ?_|refine kc rfl ?_|refine sc (by rfl) ?_|refine kc (by rfl) ?_))
  ·rw[h2]at hhd
   have hlw:=hlw (o:=none) ho (h:=0) h2
   have hT:s.textTo c l (i+1)=t++E:=by rw[hsu,hlw];simp[dE]
   have hw1:=aE g (t) (E) (by(try simp only[List.length_append]);omega) (by omega)
   clear hsu hlw h2
   conv=>whnf
   repeat(any_goals(first|exact ac|(refine ao ?_ ?_<;>intro _<;>first|exact ap|conv=>whnf)|((first|refine af hx rfl ?_|refine af hf (by show xa=_;omega) ?_|refine aa hidx ?_|refine aa hitp ?_|refine aa hlp ?_|refine aa hitr ?_|refine aa hhd ?_|refine aa hlr ?_|refine aa hite ?_|refine aa hwa ?_|refine aa hwb ?_|refine aa hle ?_|refine ae ?_|refine bi ?_ ?_|intro _)<;>conv=>whnf)))
   refine⟨[kB,kBr],?_⟩
   conv=>whnf
   repeat(refine ab (au _ _) ?_<;>(conv=>whnf))
   refine⟨_,_,hw1,?_⟩
   conv=>whnf
   repeat(refine ab (au _ _) ?_<;>(conv=>whnf))
   repeat(any_goals(first|exact ac|(refine ao ?_ ?_<;>intro _<;>first|exact ap|conv=>whnf)|((first|refine af hx rfl ?_|refine af hf (by show xa=_;omega) ?_|refine aa hidx ?_|refine aa hitp ?_|refine aa hlp ?_|refine aa hitr ?_|refine aa hhd ?_|refine aa hlr ?_|refine aa hite ?_|refine aa hwa ?_|refine aa hwb ?_|refine aa hle ?_|refine ae ?_|refine bi ?_ ?_|intro _)<;>conv=>whnf)))
   (refine⟨⟨i+1,.used (g+1) (t++E)⟩,⟨by show i+1≤_;omega,(fun h=>by cases h),fun _=>⟨_,congrArg (BSt.used _) hT.symm⟩⟩,(by show _-(i+1)<_-i;omega),?_⟩;(conv=>whnf);refine⟨?_,?_,?_⟩<;>repeat(first|exact trivial|refine sc rfl ?_|refine kn ?_|refine kc rfl ?_|refine sc (by rfl) ?_|refine kc (by rfl) ?_))
 | some p =>
  simp only[ho]at hidx
  have hp6:=jB ho
  have hhd:=hhd true
  rcases hht.1 with h2|h2
  ·rw[h2]at hhd
   have hitp:=cD ((p:Int)+1) (by omega)
   have hlp:PureA Tryd.prog 58 [.slice 1 [aI (aC cB),aI (aC (num ((p:Int)+1)))] .no] (aI (aC (aO p))):=b7 [cB,num ((p:Int)+1)] (by simp) (by simp) (by simp[aL,cB,num])
   have hpl:=cG p
   have hpn:aO p≠[]:=cy _
   have hlr:PureA Tryd.prog 58 [.slice 1 [aI (aC bI),aI (aC (num f.room))] .no] (aI (aC (bw f.room))):=b7 [bI,num f.room] (by simp) (by simp) (by simp[aL,bI,num])
   have hrl:=cH f.room
   have hlw:=hlw (o:=(some p)) ho (h:=2) h2
   have hT:s.textTo c l (i+1)=t++aO p++bw f.room++E:=by rw[hsu,hlw];simp[dE]
   have hw1:=aE g (t) (aO p) (by(try simp only[List.length_append]);omega) (by omega)
   have hw2:=aE (g+1) (t++aO p) (bw f.room) (by(try simp only[List.length_append]);omega) (by omega)
   have hw3:=aE (g+2) (t++aO p++bw f.room) (E) (by(try simp only[List.length_append]);omega) (by omega)
   clear hsu hlw h2
   generalize aO p=A at *
   generalize bw f.room=B at *
   conv=>whnf
   repeat(any_goals(first|exact ac|(refine ao ?_ ?_<;>intro _<;>first|exact ap|conv=>whnf)|((first|refine af hx rfl ?_|refine af hf (by show xa=_;omega) ?_|refine aa hidx ?_|refine aa hitp ?_|refine aa hlp ?_|refine aa hitr ?_|refine aa hhd ?_|refine aa hlr ?_|refine aa hite ?_|refine aa hwa ?_|refine aa hwb ?_|refine aa hle ?_|refine ae ?_|refine bi ?_ ?_|intro _)<;>conv=>whnf)))
   refine⟨[kB,kBr],?_⟩
   conv=>whnf
   repeat(refine ab (au _ _) ?_<;>(conv=>whnf))
   refine⟨_,_,hw1,?_⟩
   conv=>whnf
   repeat(refine ab (au _ _) ?_<;>(conv=>whnf))
   repeat(any_goals(first|exact ac|(refine ao ?_ ?_<;>intro _<;>first|exact ap|conv=>whnf)|((first|refine af hx rfl ?_|refine af hf (by show xa=_;omega) ?_|refine aa hidx ?_|refine aa hitp ?_|refine aa hlp ?_|refine aa hitr ?_|refine aa hhd ?_|refine aa hlr ?_|refine aa hite ?_|refine aa hwa ?_|refine aa hwb ?_|refine aa hle ?_|refine ae ?_|refine bi ?_ ?_|intro _)<;>conv=>whnf)))
   refine⟨[kB,kBr],?_⟩
   conv=>whnf
   repeat(refine ab (au _ _) ?_<;>(conv=>whnf))
   refine⟨_,_,hw2,?_⟩
   conv=>whnf
   repeat(refine ab (au _ _) ?_<;>(conv=>whnf))
   repeat(any_goals(first|exact ac|(refine ao ?_ ?_<;>intro _<;>first|exact ap|conv=>whnf)|((first|refine af hx rfl ?_|refine af hf (by show xa=_;omega) ?_|refine aa hidx ?_|refine aa hitp ?_|refine aa hlp ?_|refine aa hitr ?_|refine aa hhd ?_|refine aa hlr ?_|refine aa hite ?_|refine aa hwa ?_|refine aa hwb ?_|refine aa hle ?_|refine ae ?_|refine bi ?_ ?_|intro _)<;>conv=>whnf)))
   refine⟨[kB,kBr],?_⟩
   conv=>whnf
   repeat(refine ab (au _ _) ?_<;>(conv=>whnf))
   refine⟨_,_,hw3,?_⟩
   conv=>whnf
   repeat(refine ab (au _ _) ?_<;>(conv=>whnf))
   repeat(any_goals(first|exact ac|(refine ao ?_ ?_<;>intro _<;>first|exact ap|conv=>whnf)|((first|refine af hx rfl ?_|refine af hf (by show xa=_;omega) ?_|refine aa hidx ?_|refine aa hitp ?_|refine aa hlp ?_|refine aa hitr ?_|refine aa hhd ?_|refine aa hlr ?_|refine aa hite ?_|refine aa hwa ?_|refine aa hwb ?_|refine aa hle ?_|refine ae ?_|refine bi ?_ ?_|intro _)<;>conv=>whnf)))
   (refine⟨⟨i+1,.used (g+1+1+1) (t++A++B++E)⟩,⟨by show i+1≤_;omega,(fun h=>by cases h),fun _=>⟨_,congrArg (BSt.used _) hT.symm⟩⟩,(by show _-(i+1)<_-i;omega),?_⟩;(conv=>whnf);refine⟨?_,?_,?_⟩<;>repeat(first|exact trivial|refine sc rfl ?_|refine kn ?_|refine kc rfl ?_|refine sc (by rfl) ?_|refine kc (by rfl) ?_))
  ·rw[h2]at hhd
   have hitp:=cD ((p:Int)+1) (by omega)
   have hlp:PureA Tryd.prog 58 [.slice 1 [aI (aC cB),aI (aC (num ((p:Int)+1)))] .no] (aI (aC (aO p))):=b7 [cB,num ((p:Int)+1)] (by simp) (by simp) (by simp[aL,cB,num])
   have hpl:=cG p
   have hpn:aO p≠[]:=cy _
   have hlr:PureA Tryd.prog 58 [.slice 1 [aI (aC bI),aI (aC (num f.room)),aI (aC kU)] .no] (aI (aC (ez f.room))):=b7 [bI,num f.room,kU] (by simp) (by simp) (by simp[aL,bI,num,kU])
   have hrl:=iE f.room
   have hlw:=hlw (o:=(some p)) ho (h:=1) h2
   have hT:s.textTo c l (i+1)=t++aO p++ez f.room++E:=by rw[hsu,hlw];simp[dE]
   have hw1:=aE g (t) (aO p) (by(try simp only[List.length_append]);omega) (by omega)
   have hw2:=aE (g+1) (t++aO p) (ez f.room) (by(try simp only[List.length_append]);omega) (by omega)
   have hw3:=aE (g+2) (t++aO p++ez f.room) (E) (by(try simp only[List.length_append]);omega) (by omega)
   clear hsu hlw h2
   generalize aO p=A at *
   generalize ez f.room=B at *
   conv=>whnf
   repeat(any_goals(first|exact ac|(refine ao ?_ ?_<;>intro _<;>first|exact ap|conv=>whnf)|((first|refine af hx rfl ?_|refine af hf (by show xa=_;omega) ?_|refine aa hidx ?_|refine aa hitp ?_|refine aa hlp ?_|refine aa hitr ?_|refine aa hhd ?_|refine aa hlr ?_|refine aa hite ?_|refine aa hwa ?_|refine aa hwb ?_|refine aa hle ?_|refine ae ?_|refine bi ?_ ?_|intro _)<;>conv=>whnf)))
   refine⟨[kB,kBr],?_⟩
   conv=>whnf
   repeat(refine ab (au _ _) ?_<;>(conv=>whnf))
   refine⟨_,_,hw1,?_⟩
   conv=>whnf
   repeat(refine ab (au _ _) ?_<;>(conv=>whnf))
   repeat(any_goals(first|exact ac|(refine ao ?_ ?_<;>intro _<;>first|exact ap|conv=>whnf)|((first|refine af hx rfl ?_|refine af hf (by show xa=_;omega) ?_|refine aa hidx ?_|refine aa hitp ?_|refine aa hlp ?_|refine aa hitr ?_|refine aa hhd ?_|refine aa hlr ?_|refine aa hite ?_|refine aa hwa ?_|refine aa hwb ?_|refine aa hle ?_|refine ae ?_|refine bi ?_ ?_|intro _)<;>conv=>whnf)))
   refine⟨[kB,kBr],?_⟩
   conv=>whnf
   repeat(refine ab (au _ _) ?_<;>(conv=>whnf))
   refine⟨_,_,hw2,?_⟩
   conv=>whnf
   repeat(refine ab (au _ _) ?_<;>(conv=>whnf))
   repeat(any_goals(first|exact ac|(refine ao ?_ ?_<;>intro _<;>first|exact ap|conv=>whnf)|((first|refine af hx rfl ?_|refine af hf (by show xa=_;omega) ?_|refine aa hidx ?_|refine aa hitp ?_|refine aa hlp ?_|refine aa hitr ?_|refine aa hhd ?_|refine aa hlr ?_|refine aa hite ?_|refine aa hwa ?_|refine aa hwb ?_|refine aa hle ?_|refine ae ?_|refine bi ?_ ?_|intro _)<;>conv=>whnf)))
   refine⟨[kB,kBr],?_⟩
   conv=>whnf
   repeat(refine ab (au _ _) ?_<;>(conv=>whnf))
   refine⟨_,_,hw3,?_⟩
   conv=>whnf
   repeat(refine ab (au _ _) ?_<;>(conv=>whnf))
   repeat(any_goals(first|exact ac|(refine ao ?_ ?_<;>intro _<;>first|exact ap|conv=>whnf)|((first|refine af hx rfl ?_|refine af hf (by show xa=_;omega) ?_|refine aa hidx ?_|refine aa hitp ?_|refine aa hlp ?_|refine aa hitr ?_|refine aa hhd ?_|refine aa hlr ?_|refine aa hite ?_|refine aa hwa ?_|refine aa hwb ?_|refine aa hle ?_|refine ae ?_|refine bi ?_ ?_|intro _)<;>conv=>whnf)))
   (refine⟨⟨i+1,.used (g+1+1+1) (t++A++B++E)⟩,⟨by show i+1≤_;omega,(fun h=>by cases h),fun _=>⟨_,congrArg (BSt.used _) hT.symm⟩⟩,(by show _-(i+1)<_-i;omega),?_⟩;(conv=>whnf);refine⟨?_,?_,?_⟩<;>repeat(first|exact trivial|refine sc rfl ?_|refine kn ?_|refine kc rfl ?_|refine sc (by rfl) ?_|refine kc (by rfl) ?_))
end Go.Proofs.YtgncapdjheghfaaDoor
namespace Go.Proofs.YtgncapdjheghfaaDoor
open Go.Am Go.Proofs Go
set_option maxHeartbeats 8000000 in
theorem Dp(s:Bill)(hg:s.Good)(c:List Ent)(hc:∀x∈c,s.OkE x)(h6:c.length≤6)(l:List Nat)(hll:l.length≤6)(i:Nat)(R:Press)(hR:R.pages=fw l)(M:bN)(xa xb:Int)(hx:c[i]?=some ⟨2,xa,xb⟩)(g:Nat) :
  qX s c l R M i (.used g (s.textTo c l i)):=by
 have hi:i<c.length:=(List.getElem?_eq_some_iff.1 hx).1
 have hok:=hc _ (List.mem_of_getElem? hx)
 obtain⟨f,hf,hn,hroom,hr0⟩:=iJ hg hok.a
 obtain⟨f2,hf2,hn2,_⟩:=iJ hg hok.b
 have hlt:=cQ hg hc l i
 have hsu:=cp s c l i
 have hwa:=kV s xa f hok.a.1 hf hn
 have hwb:=kV s xb f2 hok.b.1 hf2 hn2
 obtain⟨wl,wn⟩:=da hf hn
 obtain⟨wl2,wn2⟩:=da hf2 hn2
 have hej:=eV (s:=s) (i:=i) (x:=⟨2,xa,xb⟩) wn wn2
 have hel:=gX hg hok i
 have hidx:=eY R.pages i (by rw[hR];unfold fw;rw[List.length_map];omega)
 rw[hR,gn, ←hR]at hidx
 have hhd:=fun t=>dW s c (fun x hx=>(hc x hx).inn) h6 i hi t
 have hlw:=fun {o} ho {h} hh=>ei (s:=s) (pages:=l) hx (o:=o) ho (h:=h) hh
 have hitr:=cD f.room hr0
 have hite:=cD ((i:Int)+1) (by omega)
 have hax:=hok.a
 have hbx:=hok.b
 have hfl:(s.figs.map eR).length=s.figs.length:=List.length_map ..
 have hcl:(c.map bK).length=c.length:=List.length_map ..
 simp only at hroom hlw hax hbx hwa hwb wl wl2 wn wn2 hej hf
 rw[hroom]at hlw
 generalize aL (s.whoW xa)=W at *
 generalize aL (s.whoW xb)=W2 at *
 have hE:bm (s.entW i ⟨2,xa,xb⟩)=bm [num ((i:Int)+1),aL [yA,wBe],W]:=by unfold bm;rw[hej];rfl
 have hle:PureA Tryd.prog 58 [.slice 1 [aI (aC (num ((i:Int)+1))),aI Fv,aI (aC W)] .no] (aI (aC (bm (s.entW i ⟨2,xa,xb⟩)))):=by
  rw[hE]
  refine b7 [num ((i:Int)+1),aL [yA,wBe],W] (by simp) (by simp) ?_
  rw[hE]at hel
  unfold bm at hel
  rw[List.length_append]at hel
  omega
 have hEn:=cy (s.entW i ⟨2,xa,xb⟩)
 clear hej hE hn hn2 wl wl2 wn wn2 hf2
 generalize bm (s.entW i ⟨2,xa,xb⟩)=E at *
 have hht:=g3 (s:=s) hx
 generalize s.textTo c l i=t at *
 intro Q
 cases ho:l.findIdx? (· ==i)with
 | none =>
  simp only[ho]at hidx
  have hhd:=hhd false
  rcases hht.2 with h2|h2
  ·rw[h2]at hhd
   have hlr:PureA Tryd.prog 58 [.slice 1 [aI (aC bI),aI (aC (num f.room))] .no] (aI (aC (bw f.room))):=b7 [bI,num f.room] (by simp) (by simp) (by simp[aL,bI,num])
   have hrl:=cH f.room
   have hlw:=hlw (o:=none) ho (h:=2) h2
   have hT:s.textTo c l (i+1)=t++bw f.room++E:=by rw[hsu,hlw];simp[dE]
   have hw1:=aE g (t) (bw f.room) (by(try simp only[List.length_append]);omega) (by omega)
   have hw2:=aE (g+1) (t++bw f.room) (E) (by(try simp only[List.length_append]);omega) (by omega)
   clear hsu hlw h2
   generalize bw f.room=B at *
   conv=>whnf
   repeat(any_goals(first|exact ac|(refine ao ?_ ?_<;>intro _<;>first|exact ap|conv=>whnf)|((first|refine af hx rfl ?_|refine af hf (by show xa=_;omega) ?_|refine aa hidx ?_|refine aa hitp ?_|refine aa hlp ?_|refine aa hitr ?_|refine aa hhd ?_|refine aa hlr ?_|refine aa hite ?_|refine aa hwa ?_|refine aa hwb ?_|refine aa hle ?_|refine ae ?_|refine bi ?_ ?_|intro _)<;>conv=>whnf)))
   refine⟨[kB,kBr],?_⟩
   conv=>whnf
   repeat(refine ab (au _ _) ?_<;>(conv=>whnf))
   refine⟨_,_,hw1,?_⟩
   conv=>whnf
   repeat(refine ab (au _ _) ?_<;>(conv=>whnf))
   repeat(any_goals(first|exact ac|(refine ao ?_ ?_<;>intro _<;>first|exact ap|conv=>whnf)|((first|refine af hx rfl ?_|refine af hf (by show xa=_;omega) ?_|refine aa hidx ?_|refine aa hitp ?_|refine aa hlp ?_|refine aa hitr ?_|refine aa hhd ?_|refine aa hlr ?_|refine aa hite ?_|refine aa hwa ?_|refine aa hwb ?_|refine aa hle ?_|refine ae ?_|refine bi ?_ ?_|intro _)<;>conv=>whnf)))
   refine⟨[kB,kBr],?_⟩
   conv=>whnf
   repeat(refine ab (au _ _) ?_<;>(conv=>whnf))
   refine⟨_,_,hw2,?_⟩
   conv=>whnf
   repeat(refine ab (au _ _) ?_<;>(conv=>whnf))
   repeat(any_goals(first|exact ac|(refine ao ?_ ?_<;>intro _<;>first|exact ap|conv=>whnf)|((first|refine af hx rfl ?_|refine af hf (by show xa=_;omega) ?_|refine aa hidx ?_|refine aa hitp ?_|refine aa hlp ?_|refine aa hitr ?_|refine aa hhd ?_|refine aa hlr ?_|refine aa hite ?_|refine aa hwa ?_|refine aa hwb ?_|refine aa hle ?_|refine ae ?_|refine bi ?_ ?_|intro _)<;>conv=>whnf)))
   (refine⟨⟨i+1,.used (g+1+1) (t++B++E)⟩,⟨by show i+1≤_;omega,(fun h=>by cases h),fun _=>⟨_,congrArg (BSt.used _) hT.symm⟩⟩,(by show _-(i+1)<_-i;omega),?_⟩;(conv=>whnf);refine⟨?_,?_,?_⟩<;>repeat(first|exact trivial|refine sc rfl ?_|refine kn ?_|refine kc rfl ?_|refine sc (by rfl) ?_|refine kc (by rfl) ?_))
  ·rw[h2]at hhd
   have hlw:=hlw (o:=none) ho (h:=0) h2
   have hT:s.textTo c l (i+1)=t++E:=by rw[hsu,hlw];simp[dE]
   have hw1:=aE g (t) (E) (by(try simp only[List.length_append]);omega) (by omega)
   clear hsu hlw h2
   conv=>whnf
   repeat(any_goals(first|exact ac|(refine ao ?_ ?_<;>intro _<;>first|exact ap|conv=>whnf)|((first|refine af hx rfl ?_|refine af hf (by show xa=_;omega) ?_|refine aa hidx ?_|refine aa hitp ?_|refine aa hlp ?_|refine aa hitr ?_|refine aa hhd ?_|refine aa hlr ?_|refine aa hite ?_|refine aa hwa ?_|refine aa hwb ?_|refine aa hle ?_|refine ae ?_|refine bi ?_ ?_|intro _)<;>conv=>whnf)))
   refine⟨[kB,kBr],?_⟩
   conv=>whnf
   repeat(refine ab (au _ _) ?_<;>(conv=>whnf))
   refine⟨_,_,hw1,?_⟩
   conv=>whnf
   repeat(refine ab (au _ _) ?_<;>(conv=>whnf))
   repeat(any_goals(first|exact ac|(refine ao ?_ ?_<;>intro _<;>first|exact ap|conv=>whnf)|((first|refine af hx rfl ?_|refine af hf (by show xa=_;omega) ?_|refine aa hidx ?_|refine aa hitp ?_|refine aa hlp ?_|refine aa hitr ?_|refine aa hhd ?_|refine aa hlr ?_|refine aa hite ?_|refine aa hwa ?_|refine aa hwb ?_|refine aa hle ?_|refine ae ?_|refine bi ?_ ?_|intro _)<;>conv=>whnf)))
   (refine⟨⟨i+1,.used (g+1) (t++E)⟩,⟨by show i+1≤_;omega,(fun h=>by cases h),fun _=>⟨_,congrArg (BSt.used _) hT.symm⟩⟩,(by show _-(i+1)<_-i;omega),?_⟩;(conv=>whnf);refine⟨?_,?_,?_⟩<;>repeat(first|exact trivial|refine sc rfl ?_|refine kn ?_|refine kc rfl ?_|refine sc (by rfl) ?_|refine kc (by rfl) ?_))
 | some p =>
  simp only[ho]at hidx
  have hp6:=jB ho
  have hhd:=hhd true
  rcases hht.1 with h2|h2
  ·rw[h2]at hhd
   have hitp:=cD ((p:Int)+1) (by omega)
   have hlp:PureA Tryd.prog 58 [.slice 1 [aI (aC cB),aI (aC (num ((p:Int)+1)))] .no] (aI (aC (aO p))):=b7 [cB,num ((p:Int)+1)] (by simp) (by simp) (by simp[aL,cB,num])
   have hpl:=cG p
   have hpn:aO p≠[]:=cy _
   have hlr:PureA Tryd.prog 58 [.slice 1 [aI (aC bI),aI (aC (num f.room))] .no] (aI (aC (bw f.room))):=b7 [bI,num f.room] (by simp) (by simp) (by simp[aL,bI,num])
   have hrl:=cH f.room
   have hlw:=hlw (o:=(some p)) ho (h:=2) h2
   have hT:s.textTo c l (i+1)=t++aO p++bw f.room++E:=by rw[hsu,hlw];simp[dE]
   have hw1:=aE g (t) (aO p) (by(try simp only[List.length_append]);omega) (by omega)
   have hw2:=aE (g+1) (t++aO p) (bw f.room) (by(try simp only[List.length_append]);omega) (by omega)
   have hw3:=aE (g+2) (t++aO p++bw f.room) (E) (by(try simp only[List.length_append]);omega) (by omega)
   clear hsu hlw h2
   generalize aO p=A at *
   generalize bw f.room=B at *
   conv=>whnf
   repeat(any_goals(first|exact ac|(refine ao ?_ ?_<;>intro _<;>first|exact ap|conv=>whnf)|((first|refine af hx rfl ?_|refine af hf (by show xa=_;omega) ?_|refine aa hidx ?_|refine aa hitp ?_|refine aa hlp ?_|refine aa hitr ?_|refine aa hhd ?_|refine aa hlr ?_|refine aa hite ?_|refine aa hwa ?_|refine aa hwb ?_|refine aa hle ?_|refine ae ?_|refine bi ?_ ?_|intro _)<;>conv=>whnf)))
   refine⟨[kB,kBr],?_⟩
   conv=>whnf
   repeat(refine ab (au _ _) ?_<;>(conv=>whnf))
   refine⟨_,_,hw1,?_⟩
   conv=>whnf
   repeat(refine ab (au _ _) ?_<;>(conv=>whnf))
   repeat(any_goals(first|exact ac|(refine ao ?_ ?_<;>intro _<;>first|exact ap|conv=>whnf)|((first|refine af hx rfl ?_|refine af hf (by show xa=_;omega) ?_|refine aa hidx ?_|refine aa hitp ?_|refine aa hlp ?_|refine aa hitr ?_|refine aa hhd ?_|refine aa hlr ?_|refine aa hite ?_|refine aa hwa ?_|refine aa hwb ?_|refine aa hle ?_|refine ae ?_|refine bi ?_ ?_|intro _)<;>conv=>whnf)))
   refine⟨[kB,kBr],?_⟩
   conv=>whnf
   repeat(refine ab (au _ _) ?_<;>(conv=>whnf))
   refine⟨_,_,hw2,?_⟩
   conv=>whnf
   repeat(refine ab (au _ _) ?_<;>(conv=>whnf))
   repeat(any_goals(first|exact ac|(refine ao ?_ ?_<;>intro _<;>first|exact ap|conv=>whnf)|((first|refine af hx rfl ?_|refine af hf (by show xa=_;omega) ?_|refine aa hidx ?_|refine aa hitp ?_|refine aa hlp ?_|refine aa hitr ?_|refine aa hhd ?_|refine aa hlr ?_|refine aa hite ?_|refine aa hwa ?_|refine aa hwb ?_|refine aa hle ?_|refine ae ?_|refine bi ?_ ?_|intro _)<;>conv=>whnf)))
   refine⟨[kB,kBr],?_⟩
   conv=>whnf
   repeat(refine ab (au _ _) ?_<;>(conv=>whnf))
   refine⟨_,_,hw3,?_⟩
   conv=>whnf
   repeat(refine ab (au _ _) ?_<;>(conv=>whnf))
   repeat(any_goals(first|exact ac|(refine ao ?_ ?_<;>intro _<;>first|exact ap|conv=>whnf)|((first|refine af hx rfl ?_|refine af hf (by show xa=_;omega) ?_|refine aa hidx ?_|refine aa hitp ?_|refine aa hlp ?_|refine aa hitr ?_|refine aa hhd ?_|refine aa hlr ?_|refine aa hite ?_|refine aa hwa ?_|refine aa hwb ?_|refine aa hle ?_|refine ae ?_|refine bi ?_ ?_|intro _)<;>conv=>whnf)))
   (refine⟨⟨i+1,.used (g+1+1+1) (t++A++B++E)⟩,⟨by show i+1≤_;omega,(fun h=>by cases h),fun _=>⟨_,congrArg (BSt.used _) hT.symm⟩⟩,(by show _-(i+1)<_-i;omega),?_⟩;(conv=>whnf);refine⟨?_,?_,?_⟩<;>repeat(first|exact trivial|refine sc rfl ?_|refine kn ?_|refine kc rfl ?_|refine sc (by rfl) ?_|refine kc (by rfl) ?_))
  ·rw[h2]at hhd
   have hitp:=cD ((p:Int)+1) (by omega)
   have hlp:PureA Tryd.prog 58 [.slice 1 [aI (aC cB),aI (aC (num ((p:Int)+1)))] .no] (aI (aC (aO p))):=b7 [cB,num ((p:Int)+1)] (by simp) (by simp) (by simp[aL,cB,num])
   have hpl:=cG p
   have hpn:aO p≠[]:=cy _
   have hlr:PureA Tryd.prog 58 [.slice 1 [aI (aC bI),aI (aC (num f.room)),aI (aC kU)] .no] (aI (aC (ez f.room))):=b7 [bI,num f.room,kU] (by simp) (by simp) (by simp[aL,bI,num,kU])
   have hrl:=iE f.room
   have hlw:=hlw (o:=(some p)) ho (h:=1) h2
   have hT:s.textTo c l (i+1)=t++aO p++ez f.room++E:=by rw[hsu,hlw];simp[dE]
   have hw1:=aE g (t) (aO p) (by(try simp only[List.length_append]);omega) (by omega)
   have hw2:=aE (g+1) (t++aO p) (ez f.room) (by(try simp only[List.length_append]);omega) (by omega)
   have hw3:=aE (g+2) (t++aO p++ez f.room) (E) (by(try simp only[List.length_append]);omega) (by omega)
   clear hsu hlw h2
   generalize aO p=A at *
   generalize ez f.room=B at *
   conv=>whnf
   repeat(any_goals(first|exact ac|(refine ao ?_ ?_<;>intro _<;>first|exact ap|conv=>whnf)|((first|refine af hx rfl ?_|refine af hf (by show xa=_;omega) ?_|refine aa hidx ?_|refine aa hitp ?_|refine aa hlp ?_|refine aa hitr ?_|refine aa hhd ?_|refine aa hlr ?_|refine aa hite ?_|refine aa hwa ?_|refine aa hwb ?_|refine aa hle ?_|refine ae ?_|refine bi ?_ ?_|intro _)<;>conv=>whnf)))
   refine⟨[kB,kBr],?_⟩
   conv=>whnf
   repeat(refine ab (au _ _) ?_<;>(conv=>whnf))
   refine⟨_,_,hw1,?_⟩
   conv=>whnf
   repeat(refine ab (au _ _) ?_<;>(conv=>whnf))
   repeat(any_goals(first|exact ac|(refine ao ?_ ?_<;>intro _<;>first|exact ap|conv=>whnf)|((first|refine af hx rfl ?_|refine af hf (by show xa=_;omega) ?_|refine aa hidx ?_|refine aa hitp ?_|refine aa hlp ?_|refine aa hitr ?_|refine aa hhd ?_|refine aa hlr ?_|refine aa hite ?_|refine aa hwa ?_|refine aa hwb ?_|refine aa hle ?_|refine ae ?_|refine bi ?_ ?_|intro _)<;>conv=>whnf)))
   refine⟨[kB,kBr],?_⟩
   conv=>whnf
   repeat(refine ab (au _ _) ?_<;>(conv=>whnf))
   refine⟨_,_,hw2,?_⟩
   conv=>whnf
   repeat(refine ab (au _ _) ?_<;>(conv=>whnf))
   repeat(any_goals(first|exact ac|(refine ao ?_ ?_<;>intro _<;>first|exact ap|conv=>whnf)|((first|refine af hx rfl ?_|refine af hf (by show xa=_;omega) ?_|refine aa hidx ?_|refine aa hitp ?_|refine aa hlp ?_|refine aa hitr ?_|refine aa hhd ?_|refine aa hlr ?_|refine aa hite ?_|refine aa hwa ?_|refine aa hwb ?_|refine aa hle ?_|refine ae ?_|refine bi ?_ ?_|intro _)<;>conv=>whnf)))
   refine⟨[kB,kBr],?_⟩
   conv=>whnf
   repeat(refine ab (au _ _) ?_<;>(conv=>whnf))
   refine⟨_,_,hw3,?_⟩
   conv=>whnf
   repeat(refine ab (au _ _) ?_<;>(conv=>whnf))
   repeat(any_goals(first|exact ac|(refine ao ?_ ?_<;>intro _<;>first|exact ap|conv=>whnf)|((first|refine af hx rfl ?_|refine af hf (by show xa=_;omega) ?_|refine aa hidx ?_|refine aa hitp ?_|refine aa hlp ?_|refine aa hitr ?_|refine aa hhd ?_|refine aa hlr ?_|refine aa hite ?_|refine aa hwa ?_|refine aa hwb ?_|refine aa hle ?_|refine ae ?_|refine bi ?_ ?_|intro _)<;>conv=>whnf)))
   (refine⟨⟨i+1,.used (g+1+1+1) (t++A++B++E)⟩,⟨by show i+1≤_;omega,(fun h=>by cases h),fun _=>⟨_,congrArg (BSt.used _) hT.symm⟩⟩,(by show _-(i+1)<_-i;omega),?_⟩;(conv=>whnf);refine⟨?_,?_,?_⟩<;>repeat(first|exact trivial|refine sc rfl ?_|refine kn ?_|refine kc rfl ?_|refine sc (by rfl) ?_|refine kc (by rfl) ?_))
end Go.Proofs.YtgncapdjheghfaaDoor
namespace Go.Proofs.YtgncapdjheghfaaDoor
open Go.Am Go.Proofs Go
set_option maxHeartbeats 8000000 in
theorem Dk(s:Bill)(hg:s.Good)(c:List Ent)(hc:∀x∈c,s.OkE x)(h6:c.length≤6)(l:List Nat)(hll:l.length≤6)(i:Nat)(hi0:i=0)(hl0:l.findIdx? (· ==i)=some 0)(R:Press)(hR:R.pages=fw l)(M:bN)(xa xb:Int)(hx:c[i]?=some ⟨0,xa,xb⟩) :
  qX s c l R M i .fresh:=by
 have hi:i<c.length:=(List.getElem?_eq_some_iff.1 hx).1
 have hok:=hc _ (List.mem_of_getElem? hx)
 obtain⟨f,hf,hn,hroom,hr0⟩:=iJ hg hok.a
 obtain⟨f2,hf2,hn2,_⟩:=iJ hg hok.b
 have hlt:=cQ hg hc l i
 have hsu:=cp s c l i
 have hwa:=kV s xa f hok.a.1 hf hn
 have hwb:=kV s xb f2 hok.b.1 hf2 hn2
 obtain⟨wl,wn⟩:=da hf hn
 obtain⟨wl2,wn2⟩:=da hf2 hn2
 have hej:=eV (s:=s) (i:=i) (x:=⟨0,xa,xb⟩) wn wn2
 have hel:=gX hg hok i
 have hidx:=eY R.pages i (by rw[hR];unfold fw;rw[List.length_map];omega)
 rw[hR,gn, ←hR]at hidx
 have hhd:=fun t=>dW s c (fun x hx=>(hc x hx).inn) h6 i hi t
 have hlw:=fun {o} ho {h} hh=>ei (s:=s) (pages:=l) hx (o:=o) ho (h:=h) hh
 have hitr:=cD f.room hr0
 have hite:=cD ((i:Int)+1) (by omega)
 have hax:=hok.a
 have hbx:=hok.b
 have hfl:(s.figs.map eR).length=s.figs.length:=List.length_map ..
 have hcl:(c.map bK).length=c.length:=List.length_map ..
 simp only at hroom hlw hax hbx hwa hwb wl wl2 wn wn2 hej hf
 rw[hroom]at hlw
 generalize aL (s.whoW xa)=W at *
 generalize aL (s.whoW xb)=W2 at *
 have hE:bm (s.entW i ⟨0,xa,xb⟩)=bm [num ((i:Int)+1),wIs,W]:=by unfold bm;rw[hej];rfl
 have hle:PureA Tryd.prog 58 [.slice 1 [aI (aC (num ((i:Int)+1))),aI isB,aI (aC W)] .no] (aI (aC (bm (s.entW i ⟨0,xa,xb⟩)))):=by
  rw[hE]
  refine b7 [num ((i:Int)+1),wIs,W] (by simp) (by simp) ?_
  rw[hE]at hel
  unfold bm at hel
  rw[List.length_append]at hel
  omega
 have hEn:=cy (s.entW i ⟨0,xa,xb⟩)
 clear hej hE hn hn2 wl wl2 wn wn2 hf2
 generalize bm (s.entW i ⟨0,xa,xb⟩)=E at *
 obtain⟨p,hp⟩:∃p:Nat,p=0:=⟨_,rfl⟩
 have ho:l.findIdx? (· ==i)=some p:=by rw[hp];exact hl0
 simp only[ho]at hidx
 have hhd:=hhd true
 have h2:s.heading c i true=2:=by subst hi0;exact eX hx true
 rw[h2]at hhd
 have ht0:s.textTo c l i=[]:=by rw[hi0];rfl
 rw[ht0,List.nil_append]at hsu
 intro Q
 have hitp:=cD ((p:Int)+1) (by omega)
 have hlp:PureA Tryd.prog 58 [.slice 1 [aI (aC cB),aI (aC (num ((p:Int)+1)))] .no] (aI (aC (aO p))):=b7 [cB,num ((p:Int)+1)] (by simp) (by simp) (by simp[aL,cB,num])
 have hpl:=cG p
 have hpn:aO p≠[]:=cy _
 have hlr:PureA Tryd.prog 58 [.slice 1 [aI (aC bI),aI (aC (num f.room))] .no] (aI (aC (bw f.room))):=b7 [bI,num f.room] (by simp) (by simp) (by simp[aL,bI,num])
 have hrl:=cH f.room
 have hlw:=hlw (o:=(some p)) ho (h:=2) h2
 have hT:s.textTo c l (i+1)=aO p++bw f.room++E:=by rw[hsu,hlw];simp[dE]
 have hw1:=pn (aO p) hpn (by omega)
 have hw2:=aE 1 (aO p) (bw f.room) (by(try simp only[List.length_append]);omega) (by omega)
 have hw3:=aE 2 (aO p++bw f.room) (E) (by(try simp only[List.length_append]);omega) (by omega)
 clear hsu hlw h2
 generalize aO p=A at *
 generalize bw f.room=B at *
 conv=>whnf
 repeat(any_goals(first|exact ac|(refine ao ?_ ?_<;>intro _<;>first|exact ap|conv=>whnf)|((first|refine af hx rfl ?_|refine af hf (by show xa=_;omega) ?_|refine aa hidx ?_|refine aa hitp ?_|refine aa hlp ?_|refine aa hitr ?_|refine aa hhd ?_|refine aa hlr ?_|refine aa hite ?_|refine aa hwa ?_|refine aa hwb ?_|refine aa hle ?_|refine ae ?_|refine bi ?_ ?_|intro _)<;>conv=>whnf)))
 refine⟨[kB],?_⟩
 conv=>whnf
 refine⟨_,_,hw1,?_⟩
 refine(?_:uA _ _)
 refine xm rfl ?_
 refine(?_:okP _ _)
 refine iW rfl ?_
 refine(?_:iv _ _)
 refine ab rfl ?_
 refine(?_:iv _ _)
 refine ab rfl ?_
 refine(?_:iv _ _)
 refine ab (au _ _) ?_
 conv=>whnf
 repeat(any_goals(first|exact ac|(refine ao ?_ ?_<;>intro _<;>first|exact ap|conv=>whnf)|((first|refine af hx rfl ?_|refine af hf (by show xa=_;omega) ?_|refine aa hidx ?_|refine aa hitp ?_|refine aa hlp ?_|refine aa hitr ?_|refine aa hhd ?_|refine aa hlr ?_|refine aa hite ?_|refine aa hwa ?_|refine aa hwb ?_|refine aa hle ?_|refine ae ?_|refine bi ?_ ?_|intro _)<;>conv=>whnf)))
 refine⟨[kB,kBr],?_⟩
 conv=>whnf
 repeat(refine ab (au _ _) ?_<;>(conv=>whnf))
 refine⟨_,_,hw2,?_⟩
 conv=>whnf
 repeat(refine ab (au _ _) ?_<;>(conv=>whnf))
 repeat(any_goals(first|exact ac|(refine ao ?_ ?_<;>intro _<;>first|exact ap|conv=>whnf)|((first|refine af hx rfl ?_|refine af hf (by show xa=_;omega) ?_|refine aa hidx ?_|refine aa hitp ?_|refine aa hlp ?_|refine aa hitr ?_|refine aa hhd ?_|refine aa hlr ?_|refine aa hite ?_|refine aa hwa ?_|refine aa hwb ?_|refine aa hle ?_|refine ae ?_|refine bi ?_ ?_|intro _)<;>conv=>whnf)))
 refine⟨[kB,kBr],?_⟩
 conv=>whnf
 repeat(refine ab (au _ _) ?_<;>(conv=>whnf))
 refine⟨_,_,hw3,?_⟩
 conv=>whnf
 repeat(refine ab (au _ _) ?_<;>(conv=>whnf))
 repeat(any_goals(first|exact ac|(refine ao ?_ ?_<;>intro _<;>first|exact ap|conv=>whnf)|((first|refine af hx rfl ?_|refine af hf (by show xa=_;omega) ?_|refine aa hidx ?_|refine aa hitp ?_|refine aa hlp ?_|refine aa hitr ?_|refine aa hhd ?_|refine aa hlr ?_|refine aa hite ?_|refine aa hwa ?_|refine aa hwb ?_|refine aa hle ?_|refine ae ?_|refine bi ?_ ?_|intro _)<;>conv=>whnf)))
 (refine⟨⟨i+1,.used 3 (A++B++E)⟩,⟨by show i+1≤_;omega,(fun h=>by cases h),fun _=>⟨_,congrArg (BSt.used _) hT.symm⟩⟩,(by show _-(i+1)<_-i;omega),?_⟩;(conv=>whnf);refine⟨?_,?_,?_⟩<;>repeat(first|exact trivial|refine sc rfl ?_|refine kn ?_|refine kc rfl ?_|refine sc (by rfl) ?_|refine kc (by rfl) ?_))
end Go.Proofs.YtgncapdjheghfaaDoor
namespace Go.Proofs.YtgncapdjheghfaaDoor
open Go.Am Go.Proofs Go
set_option maxHeartbeats 8000000 in
theorem Dm(s:Bill)(hg:s.Good)(c:List Ent)(hc:∀x∈c,s.OkE x)(h6:c.length≤6)(l:List Nat)(hll:l.length≤6)(i:Nat)(hi0:i=0)(hl0:l.findIdx? (· ==i)=some 0)(R:Press)(hR:R.pages=fw l)(M:bN)(xa xb:Int)(hx:c[i]?=some ⟨1,xa,xb⟩) :
  qX s c l R M i .fresh:=by
 have hi:i<c.length:=(List.getElem?_eq_some_iff.1 hx).1
 have hok:=hc _ (List.mem_of_getElem? hx)
 obtain⟨f,hf,hn,hroom,hr0⟩:=iJ hg hok.a
 obtain⟨f2,hf2,hn2,_⟩:=iJ hg hok.b
 have hlt:=cQ hg hc l i
 have hsu:=cp s c l i
 have hwa:=kV s xa f hok.a.1 hf hn
 have hwb:=kV s xb f2 hok.b.1 hf2 hn2
 obtain⟨wl,wn⟩:=da hf hn
 obtain⟨wl2,wn2⟩:=da hf2 hn2
 have hej:=eV (s:=s) (i:=i) (x:=⟨1,xa,xb⟩) wn wn2
 have hel:=gX hg hok i
 have hidx:=eY R.pages i (by rw[hR];unfold fw;rw[List.length_map];omega)
 rw[hR,gn, ←hR]at hidx
 have hhd:=fun t=>dW s c (fun x hx=>(hc x hx).inn) h6 i hi t
 have hlw:=fun {o} ho {h} hh=>ei (s:=s) (pages:=l) hx (o:=o) ho (h:=h) hh
 have hitr:=cD f.room hr0
 have hite:=cD ((i:Int)+1) (by omega)
 have hax:=hok.a
 have hbx:=hok.b
 have hfl:(s.figs.map eR).length=s.figs.length:=List.length_map ..
 have hcl:(c.map bK).length=c.length:=List.length_map ..
 simp only at hroom hlw hax hbx hwa hwb wl wl2 wn wn2 hej hf
 rw[hroom]at hlw
 generalize aL (s.whoW xa)=W at *
 generalize aL (s.whoW xb)=W2 at *
 have hE:bm (s.entW i ⟨1,xa,xb⟩)=bm [num ((i:Int)+1),wIs,W,wOr,W2]:=by unfold bm;rw[hej];rfl
 have hle:PureA Tryd.prog 58 [.slice 1 [aI (aC (num ((i:Int)+1))),aI isB,aI (aC W),aI (aC wOr),aI (aC W2)] .no] (aI (aC (bm (s.entW i ⟨1,xa,xb⟩)))):=by
  rw[hE]
  refine b7 [num ((i:Int)+1),wIs,W,wOr,W2] (by simp) (by simp) ?_
  rw[hE]at hel
  unfold bm at hel
  rw[List.length_append]at hel
  omega
 have hEn:=cy (s.entW i ⟨1,xa,xb⟩)
 clear hej hE hn hn2 wl wl2 wn wn2 hf2
 generalize bm (s.entW i ⟨1,xa,xb⟩)=E at *
 obtain⟨p,hp⟩:∃p:Nat,p=0:=⟨_,rfl⟩
 have ho:l.findIdx? (· ==i)=some p:=by rw[hp];exact hl0
 simp only[ho]at hidx
 have hhd:=hhd true
 have h2:s.heading c i true=2:=by subst hi0;exact eX hx true
 rw[h2]at hhd
 have ht0:s.textTo c l i=[]:=by rw[hi0];rfl
 rw[ht0,List.nil_append]at hsu
 intro Q
 have hitp:=cD ((p:Int)+1) (by omega)
 have hlp:PureA Tryd.prog 58 [.slice 1 [aI (aC cB),aI (aC (num ((p:Int)+1)))] .no] (aI (aC (aO p))):=b7 [cB,num ((p:Int)+1)] (by simp) (by simp) (by simp[aL,cB,num])
 have hpl:=cG p
 have hpn:aO p≠[]:=cy _
 have hlr:PureA Tryd.prog 58 [.slice 1 [aI (aC bI),aI (aC (num f.room))] .no] (aI (aC (bw f.room))):=b7 [bI,num f.room] (by simp) (by simp) (by simp[aL,bI,num])
 have hrl:=cH f.room
 have hlw:=hlw (o:=(some p)) ho (h:=2) h2
 have hT:s.textTo c l (i+1)=aO p++bw f.room++E:=by rw[hsu,hlw];simp[dE]
 have hw1:=pn (aO p) hpn (by omega)
 have hw2:=aE 1 (aO p) (bw f.room) (by(try simp only[List.length_append]);omega) (by omega)
 have hw3:=aE 2 (aO p++bw f.room) (E) (by(try simp only[List.length_append]);omega) (by omega)
 clear hsu hlw h2
 generalize aO p=A at *
 generalize bw f.room=B at *
 conv=>whnf
 repeat(any_goals(first|exact ac|(refine ao ?_ ?_<;>intro _<;>first|exact ap|conv=>whnf)|((first|refine af hx rfl ?_|refine af hf (by show xa=_;omega) ?_|refine aa hidx ?_|refine aa hitp ?_|refine aa hlp ?_|refine aa hitr ?_|refine aa hhd ?_|refine aa hlr ?_|refine aa hite ?_|refine aa hwa ?_|refine aa hwb ?_|refine aa hle ?_|refine ae ?_|refine bi ?_ ?_|intro _)<;>conv=>whnf)))
 refine⟨[kB],?_⟩
 conv=>whnf
 refine⟨_,_,hw1,?_⟩
 refine(?_:uA _ _)
 refine xm rfl ?_
 refine(?_:okP _ _)
 refine iW rfl ?_
 refine(?_:iv _ _)
 refine ab rfl ?_
 refine(?_:iv _ _)
 refine ab rfl ?_
 refine(?_:iv _ _)
 refine ab (au _ _) ?_
 conv=>whnf
 repeat(any_goals(first|exact ac|(refine ao ?_ ?_<;>intro _<;>first|exact ap|conv=>whnf)|((first|refine af hx rfl ?_|refine af hf (by show xa=_;omega) ?_|refine aa hidx ?_|refine aa hitp ?_|refine aa hlp ?_|refine aa hitr ?_|refine aa hhd ?_|refine aa hlr ?_|refine aa hite ?_|refine aa hwa ?_|refine aa hwb ?_|refine aa hle ?_|refine ae ?_|refine bi ?_ ?_|intro _)<;>conv=>whnf)))
 refine⟨[kB,kBr],?_⟩
 conv=>whnf
 repeat(refine ab (au _ _) ?_<;>(conv=>whnf))
 refine⟨_,_,hw2,?_⟩
 conv=>whnf
 repeat(refine ab (au _ _) ?_<;>(conv=>whnf))
 repeat(any_goals(first|exact ac|(refine ao ?_ ?_<;>intro _<;>first|exact ap|conv=>whnf)|((first|refine af hx rfl ?_|refine af hf (by show xa=_;omega) ?_|refine aa hidx ?_|refine aa hitp ?_|refine aa hlp ?_|refine aa hitr ?_|refine aa hhd ?_|refine aa hlr ?_|refine aa hite ?_|refine aa hwa ?_|refine aa hwb ?_|refine aa hle ?_|refine ae ?_|refine bi ?_ ?_|intro _)<;>conv=>whnf)))
 refine⟨[kB,kBr],?_⟩
 conv=>whnf
 repeat(refine ab (au _ _) ?_<;>(conv=>whnf))
 refine⟨_,_,hw3,?_⟩
 conv=>whnf
 repeat(refine ab (au _ _) ?_<;>(conv=>whnf))
 repeat(any_goals(first|exact ac|(refine ao ?_ ?_<;>intro _<;>first|exact ap|conv=>whnf)|((first|refine af hx rfl ?_|refine af hf (by show xa=_;omega) ?_|refine aa hidx ?_|refine aa hitp ?_|refine aa hlp ?_|refine aa hitr ?_|refine aa hhd ?_|refine aa hlr ?_|refine aa hite ?_|refine aa hwa ?_|refine aa hwb ?_|refine aa hle ?_|refine ae ?_|refine bi ?_ ?_|intro _)<;>conv=>whnf)))
 (refine⟨⟨i+1,.used 3 (A++B++E)⟩,⟨by show i+1≤_;omega,(fun h=>by cases h),fun _=>⟨_,congrArg (BSt.used _) hT.symm⟩⟩,(by show _-(i+1)<_-i;omega),?_⟩;(conv=>whnf);refine⟨?_,?_,?_⟩<;>repeat(first|exact trivial|refine sc rfl ?_|refine kn ?_|refine kc rfl ?_|refine sc (by rfl) ?_|refine kc (by rfl) ?_))
end Go.Proofs.YtgncapdjheghfaaDoor
namespace Go.Proofs.YtgncapdjheghfaaDoor
open Go.Am Go.Proofs Go
set_option maxHeartbeats 8000000 in
theorem Do(s:Bill)(hg:s.Good)(c:List Ent)(hc:∀x∈c,s.OkE x)(h6:c.length≤6)(l:List Nat)(hll:l.length≤6)(i:Nat)(hi0:i=0)(hl0:l.findIdx? (· ==i)=some 0)(R:Press)(hR:R.pages=fw l)(M:bN)(xa xb:Int)(hx:c[i]?=some ⟨2,xa,xb⟩) :
  qX s c l R M i .fresh:=by
 have hi:i<c.length:=(List.getElem?_eq_some_iff.1 hx).1
 have hok:=hc _ (List.mem_of_getElem? hx)
 obtain⟨f,hf,hn,hroom,hr0⟩:=iJ hg hok.a
 obtain⟨f2,hf2,hn2,_⟩:=iJ hg hok.b
 have hlt:=cQ hg hc l i
 have hsu:=cp s c l i
 have hwa:=kV s xa f hok.a.1 hf hn
 have hwb:=kV s xb f2 hok.b.1 hf2 hn2
 obtain⟨wl,wn⟩:=da hf hn
 obtain⟨wl2,wn2⟩:=da hf2 hn2
 have hej:=eV (s:=s) (i:=i) (x:=⟨2,xa,xb⟩) wn wn2
 have hel:=gX hg hok i
 have hidx:=eY R.pages i (by rw[hR];unfold fw;rw[List.length_map];omega)
 rw[hR,gn, ←hR]at hidx
 have hhd:=fun t=>dW s c (fun x hx=>(hc x hx).inn) h6 i hi t
 have hlw:=fun {o} ho {h} hh=>ei (s:=s) (pages:=l) hx (o:=o) ho (h:=h) hh
 have hitr:=cD f.room hr0
 have hite:=cD ((i:Int)+1) (by omega)
 have hax:=hok.a
 have hbx:=hok.b
 have hfl:(s.figs.map eR).length=s.figs.length:=List.length_map ..
 have hcl:(c.map bK).length=c.length:=List.length_map ..
 simp only at hroom hlw hax hbx hwa hwb wl wl2 wn wn2 hej hf
 rw[hroom]at hlw
 generalize aL (s.whoW xa)=W at *
 generalize aL (s.whoW xb)=W2 at *
 have hE:bm (s.entW i ⟨2,xa,xb⟩)=bm [num ((i:Int)+1),aL [yA,wBe],W]:=by unfold bm;rw[hej];rfl
 have hle:PureA Tryd.prog 58 [.slice 1 [aI (aC (num ((i:Int)+1))),aI Fv,aI (aC W)] .no] (aI (aC (bm (s.entW i ⟨2,xa,xb⟩)))):=by
  rw[hE]
  refine b7 [num ((i:Int)+1),aL [yA,wBe],W] (by simp) (by simp) ?_
  rw[hE]at hel
  unfold bm at hel
  rw[List.length_append]at hel
  omega
 have hEn:=cy (s.entW i ⟨2,xa,xb⟩)
 clear hej hE hn hn2 wl wl2 wn wn2 hf2
 generalize bm (s.entW i ⟨2,xa,xb⟩)=E at *
 obtain⟨p,hp⟩:∃p:Nat,p=0:=⟨_,rfl⟩
 have ho:l.findIdx? (· ==i)=some p:=by rw[hp];exact hl0
 simp only[ho]at hidx
 have hhd:=hhd true
 have h2:s.heading c i true=2:=by subst hi0;exact eX hx true
 rw[h2]at hhd
 have ht0:s.textTo c l i=[]:=by rw[hi0];rfl
 rw[ht0,List.nil_append]at hsu
 intro Q
 have hitp:=cD ((p:Int)+1) (by omega)
 have hlp:PureA Tryd.prog 58 [.slice 1 [aI (aC cB),aI (aC (num ((p:Int)+1)))] .no] (aI (aC (aO p))):=b7 [cB,num ((p:Int)+1)] (by simp) (by simp) (by simp[aL,cB,num])
 have hpl:=cG p
 have hpn:aO p≠[]:=cy _
 have hlr:PureA Tryd.prog 58 [.slice 1 [aI (aC bI),aI (aC (num f.room))] .no] (aI (aC (bw f.room))):=b7 [bI,num f.room] (by simp) (by simp) (by simp[aL,bI,num])
 have hrl:=cH f.room
 have hlw:=hlw (o:=(some p)) ho (h:=2) h2
 have hT:s.textTo c l (i+1)=aO p++bw f.room++E:=by rw[hsu,hlw];simp[dE]
 have hw1:=pn (aO p) hpn (by omega)
 have hw2:=aE 1 (aO p) (bw f.room) (by(try simp only[List.length_append]);omega) (by omega)
 have hw3:=aE 2 (aO p++bw f.room) (E) (by(try simp only[List.length_append]);omega) (by omega)
 clear hsu hlw h2
 generalize aO p=A at *
 generalize bw f.room=B at *
 conv=>whnf
 repeat(any_goals(first|exact ac|(refine ao ?_ ?_<;>intro _<;>first|exact ap|conv=>whnf)|((first|refine af hx rfl ?_|refine af hf (by show xa=_;omega) ?_|refine aa hidx ?_|refine aa hitp ?_|refine aa hlp ?_|refine aa hitr ?_|refine aa hhd ?_|refine aa hlr ?_|refine aa hite ?_|refine aa hwa ?_|refine aa hwb ?_|refine aa hle ?_|refine ae ?_|refine bi ?_ ?_|intro _)<;>conv=>whnf)))
 refine⟨[kB],?_⟩
 conv=>whnf
 refine⟨_,_,hw1,?_⟩
 refine(?_:uA _ _)
 refine xm rfl ?_
 refine(?_:okP _ _)
 refine iW rfl ?_
 refine(?_:iv _ _)
 refine ab rfl ?_
 refine(?_:iv _ _)
 refine ab rfl ?_
 refine(?_:iv _ _)
 refine ab (au _ _) ?_
 conv=>whnf
 repeat(any_goals(first|exact ac|(refine ao ?_ ?_<;>intro _<;>first|exact ap|conv=>whnf)|((first|refine af hx rfl ?_|refine af hf (by show xa=_;omega) ?_|refine aa hidx ?_|refine aa hitp ?_|refine aa hlp ?_|refine aa hitr ?_|refine aa hhd ?_|refine aa hlr ?_|refine aa hite ?_|refine aa hwa ?_|refine aa hwb ?_|refine aa hle ?_|refine ae ?_|refine bi ?_ ?_|intro _)<;>conv=>whnf)))
 refine⟨[kB,kBr],?_⟩
 conv=>whnf
 repeat(refine ab (au _ _) ?_<;>(conv=>whnf))
 refine⟨_,_,hw2,?_⟩
 conv=>whnf
 repeat(refine ab (au _ _) ?_<;>(conv=>whnf))
 repeat(any_goals(first|exact ac|(refine ao ?_ ?_<;>intro _<;>first|exact ap|conv=>whnf)|((first|refine af hx rfl ?_|refine af hf (by show xa=_;omega) ?_|refine aa hidx ?_|refine aa hitp ?_|refine aa hlp ?_|refine aa hitr ?_|refine aa hhd ?_|refine aa hlr ?_|refine aa hite ?_|refine aa hwa ?_|refine aa hwb ?_|refine aa hle ?_|refine ae ?_|refine bi ?_ ?_|intro _)<;>conv=>whnf)))
 refine⟨[kB,kBr],?_⟩
 conv=>whnf
 repeat(refine ab (au _ _) ?_<;>(conv=>whnf))
 refine⟨_,_,hw3,?_⟩
 conv=>whnf
 repeat(refine ab (au _ _) ?_<;>(conv=>whnf))
 repeat(any_goals(first|exact ac|(refine ao ?_ ?_<;>intro _<;>first|exact ap|conv=>whnf)|((first|refine af hx rfl ?_|refine af hf (by show xa=_;omega) ?_|refine aa hidx ?_|refine aa hitp ?_|refine aa hlp ?_|refine aa hitr ?_|refine aa hhd ?_|refine aa hlr ?_|refine aa hite ?_|refine aa hwa ?_|refine aa hwb ?_|refine aa hle ?_|refine ae ?_|refine bi ?_ ?_|intro _)<;>conv=>whnf)))
 (refine⟨⟨i+1,.used 3 (A++B++E)⟩,⟨by show i+1≤_;omega,(fun h=>by cases h),fun _=>⟨_,congrArg (BSt.used _) hT.symm⟩⟩,(by show _-(i+1)<_-i;omega),?_⟩;(conv=>whnf);refine⟨?_,?_,?_⟩<;>repeat(first|exact trivial|refine sc rfl ?_|refine kn ?_|refine kc rfl ?_|refine sc (by rfl) ?_|refine kc (by rfl) ?_))
end Go.Proofs.YtgncapdjheghfaaDoor
namespace Go.Proofs.YtgncapdjheghfaaDoor
open Go.Am Go.Proofs Go
theorem Fy(s:Bill)(hg:s.Good)(c:List Ent)(hc:∀x∈c,s.OkE x)(h6:c.length≤6)(l:List Nat)(hll:l.length≤6)(hl0:l.findIdx? (· ==0)=some 0)(R:Press)(hR:R.pages=fw l)(M:bN)(i:Nat)(hi:i<c.length)(st:BSt)(hI:Bz s c l (i,st)) :
  qX s c l R M i st:=by
 obtain⟨x,hx⟩:∃x,c[i]?=some x:=⟨_,List.getElem?_eq_getElem hi⟩
 obtain⟨h1,h2,h3⟩:=hI
 simp only at h1 h2 h3
 have hok:=hc _ (List.mem_of_getElem? hx)
 obtain⟨says,xa,xb⟩:=x
 have hs:=hok.says
 simp only at hs
 by_cases h0:i=0
 ·have e:=h2 h0
  subst e
  have hl0':l.findIdx? (· ==i)=some 0:=by rw[h0];exact hl0
  rcases hs with rfl|rfl|rfl
  ·exact Dk s hg c hc h6 l hll i h0 hl0' R hR M xa xb hx
  ·exact Dm s hg c hc h6 l hll i h0 hl0' R hR M xa xb hx
  ·exact Do s hg c hc h6 l hll i h0 hl0' R hR M xa xb hx
 ·obtain⟨g,e⟩:=h3 (by omega)
  subst e
  rcases hs with rfl|rfl|rfl
  ·exact Dl s hg c hc h6 l hll i R hR M xa xb hx g
  ·exact Dn s hg c hc h6 l hll i R hR M xa xb hx g
  ·exact Dp s hg c hc h6 l hll i R hR M xa xb hx g
theorem wG{c:List Ent}{l:List Nat}(h:dX c 0 l)(h0:0<c.length):l.findIdx? (· ==0)=some 0:=by
 cases l with
 | nil=>have:0=c.length:=h;omega
 | cons j l =>
  have e:=h.1
  subst e
  rfl
set_option maxHeartbeats 4000000 in
theorem DE(s:Bill)(hg:s.Good)(c:List Ent)(hc:∀x∈c,s.OkE x)(h6:c.length≤6)(h0:0<c.length):PureA Tryd.prog 35 [cL s,bg c] (aI (aC (s.textL c))):=by
 have hp:=Bt s hg c hc h6 c.length 0 [] (Nat.zero_le _) (by omega) (fun e h=>by cases h)
 rw[dv s h0]at hp
 obtain⟨l,w,hpr,hpn,hpg,_⟩:=sJ hg hc
 have hll:l.length≤6:=by have:=g4 hpg;omega
 have hend:=vt s c
 rw[hpn]at hend
 have hlen:=cQ hg hc l c.length
 have hne:(s.textTo c l c.length).length≠0:=by
  obtain⟨n,hn⟩:∃n,c.length=n+1:=⟨c.length-1,by omega⟩
  rw[hn,cp]
  obtain⟨x,hx⟩:∃x,c[n]?=some x:=⟨_,List.getElem?_eq_getElem (by omega)⟩
  rw[ei hx rfl rfl]
  have:=cy (s.entW n x)
  simp[this]
 have hrow:=fun M i hi st hI=>Fy s hg c hc h6 l hll (wG hpg h0) (s.press c 0) (by rw[hpr];rfl) M i hi st hI
 rw[←hend]
 have hcl:(c.map bK).length=c.length:=List.length_map ..
 generalize s.memoN c c.length 0 []=M at *
 have hrow:=hrow M
 generalize s.press c 0=R at *
 unfold fu qo at hp
 refine ag ax { l:=0,f:=35,mat:=[19,57,61],ty:=[5]} mixed v8 Tryd.func35 (by kernel_rfl) ?_
 conv=>whnf
 repeat(any_goals(first|exact ac|(refine ao ?_ ?_<;>intro _<;>first|exact ap|conv=>whnf)|((first|refine aa eN ?_|refine ah eN rfl ?_|refine ae ?_|refine bi ?_ ?_|intro _)<;>conv=>whnf)))
 refine⟨[kTx],?_⟩
 conv=>whnf
 refine⟨_,_,hp,?_⟩
 conv=>whnf
 repeat(any_goals(first|exact ac|(refine ao ?_ ?_<;>intro _<;>first|exact ap|conv=>whnf)|((first|refine ae ?_|refine bi ?_ ?_|intro _)<;>conv=>whnf)))
 refine bS ax { l:=0,f:=35,mat:=[19,57,61],ty:=[5]} mixed (fun u:Nat×BSt=>[(21,ak u.1)]) (fun u=>[(kB,some (1,some (2,[u.2.av]))),(kBr,some u.2.row)]) (fun _=>[]) (Bz s c l) (fun u=>c.length-u.1) ((0,.fresh):Nat×BSt) (by kernel_rfl)
  ⟨Nat.zero_le _,fun _=>rfl,fun h=>absurd h (Nat.lt_irrefl _)⟩ ?_
 conv=>whnf
 refine⟨⟨aj rfl trivial,?_,trivial⟩,?_⟩
 ·repeat(first|exact trivial|refine kc rfl ?_|refine bC rfl ?_)
 rintro⟨i,st⟩ hI
 by_cases hi:i<c.length
 ·exact hrow i hi st hI _
 ·obtain⟨h1,_,h3⟩:=hI
  simp only at h1 h3
  have hic:i=c.length:=by omega
  obtain⟨g,e⟩:=h3 (by omega)
  subst e
  rw[←hic]at hne ⊢
  have hst:=Af (k:=kB) (kr:=kBr) (g:=1) (gr:=g) (c0:=0) (p:= .ptr kB 1 2 0 0) (s:=aC (s.textTo c l i)) rfl rfl hne
  clear hrow hp hlen hpg hpn hpr
  generalize s.textTo c l i=t at *
  conv=>whnf
  repeat(any_goals(first|exact ac|(refine ao ?_ ?_<;>intro _<;>first|exact ap|conv=>whnf)|((first|refine ae ?_|refine bi ?_ ?_|intro _)<;>conv=>whnf)))
  refine⟨[kB,kBr],?_⟩
  conv=>whnf
  repeat(refine ab (au _ _) ?_<;>(conv=>whnf))
  refine⟨_,_,hst,?_⟩
  conv=>whnf
  repeat(any_goals(first|exact ac|(refine ao ?_ ?_<;>intro _<;>first|exact ap|conv=>whnf)|((first|refine ae ?_|refine bi ?_ ?_|intro _)<;>conv=>whnf)))
  (refine⟨⟨?_⟩,trivial⟩;rfl)
theorem DC(s:Bill)(hg:s.Good)(c:List Ent)(hc:∀x∈c,s.OkE x)(h6:c.length≤6)(h0:c.length=0):PureA Tryd.prog 35 [cL s,bg c] (aI (aC (s.textL c))):=by
 have e:c=[]:=List.length_eq_zero_iff.1 h0
 subst e
 have hp:=Bt s hg [] hc h6 0 0 [] (Nat.zero_le _) (by simp) (fun e h=>by cases h)
 rw[show du s [] 0 = .agg [.slice 0 [] .tight,ak 0]from dN s []]at hp
 have ht:aC (s.textL [])=⟨#[]⟩:=rfl
 rw[ht]
 have hst:=sR (k:=kB) (g:=1) (p:= .v (.pointer none)) rfl
 generalize s.memoN [] 0 0 []=M at *
 refine ag ax { l:=0,f:=35,mat:=[19,57,61],ty:=[5]} mixed v8 Tryd.func35 (by kernel_rfl) ?_
 conv=>whnf
 repeat(any_goals(first|exact ac|(refine ao ?_ ?_<;>intro _<;>first|exact ap|conv=>whnf)|((first|refine aa eN ?_|refine ah eN rfl ?_|refine ae ?_|refine bi ?_ ?_|intro _)<;>conv=>whnf)))
 refine⟨[kTx],?_⟩
 conv=>whnf
 refine⟨_,_,hp,?_⟩
 conv=>whnf
 repeat(any_goals(first|exact ac|(refine ao ?_ ?_<;>intro _<;>first|exact ap|conv=>whnf)|((first|refine ae ?_|refine bi ?_ ?_|intro _)<;>conv=>whnf)))
 refine bS ax { l:=0,f:=35,mat:=[19,57,61],ty:=[5]} mixed (fun i:Nat=>[(21,ak i)]) (fun _=>[(kB,some (1,some (2,[BSt.fresh.av])))]) (fun _=>[]) (fun i=>i=0) (fun i=>i) 0 (by kernel_rfl)
  rfl ?_
 conv=>whnf
 refine⟨⟨aj rfl trivial,?_,trivial⟩,?_⟩
 ·repeat(first|exact trivial|refine kc rfl ?_|refine bC rfl ?_)
 rintro i rfl
 conv=>whnf
 repeat(any_goals(first|exact ac|(refine ao ?_ ?_<;>intro _<;>first|exact ap|conv=>whnf)|((first|refine ae ?_|refine bi ?_ ?_|intro _)<;>conv=>whnf)))
 refine⟨[kB],?_⟩
 conv=>whnf
 refine⟨_,_,hst,?_⟩
 conv=>whnf
 repeat(any_goals(first|exact ac|(refine ao ?_ ?_<;>intro _<;>first|exact ap|conv=>whnf)|((first|refine ae ?_|refine bi ?_ ?_|intro _)<;>conv=>whnf)))
 (refine⟨⟨?_⟩,trivial⟩;rfl)
theorem ya(s:Bill)(hg:s.Good)(c:List Ent)(hc:∀x∈c,s.OkE x)(h6:c.length≤6):PureA Tryd.prog 35 [cL s,bg c] (aI (aC (s.textL c))):=by
 by_cases h0:c.length=0
 ·exact DC s hg c hc h6 h0
 ·exact DE s hg c hc h6 (by omega)
end Go.Proofs.YtgncapdjheghfaaDoor
namespace Go.Proofs.YtgncapdjheghfaaDoor
open Go.Am Go.Proofs Go
def Bill.writeR(s:Bill)(c:List Ent):Bs×Int:=if cj s c≠0 then([],cj s c)else(s.textL c,0)
theorem vD(s:Bill)(hr:s.small)(c:List Ent)(hl:c.length≤1048576):PureA Tryd.prog 23 [ci s,bg c] (.tuple [aI (aC (s.writeR c).1),ak (s.writeR c).2]):=by
 unfold Bill.writeR
 by_cases hk:cj s c=0
 ·rw[if_neg (fun h=>h hk)]
  have he:=dp s hr c hl hk
  obtain⟨hg,hok,h6⟩:=eF hk
  have ht:=ya s hg c hok h6
  unfold co at he
  generalize s.textL c=T at *
  refine ag ax { l:=0,f:=23,mat:=[17]} mixed vZ Tryd.func23 (by kernel_rfl) ?_
  conv=>whnf
  repeat(any_goals(first|exact ac|(refine ao ?_ ?_<;>intro _<;>first|exact ap|conv=>whnf)|((first|refine ae ?_|refine bi ?_ ?_|intro _)<;>conv=>whnf)))
  refine⟨[],?_⟩
  conv=>whnf
  refine⟨_,_,he,?_⟩
  conv=>whnf
  repeat(any_goals(first|exact ac|(refine ao ?_ ?_<;>intro _<;>first|exact ap|conv=>whnf)|((first|refine ah ht rfl ?_|refine aa ht ?_|refine ae ?_|refine bi ?_ ?_|intro _)<;>conv=>whnf)))
  (refine⟨⟨?_⟩,trivial⟩;rfl)
 ·rw[if_pos hk]
  have he:=iG s hr c hl _ rfl hk
  generalize cj s c=e at *
  have hn:(aC [])=⟨#[]⟩:=rfl
  simp only[hn]
  refine ag ax { l:=0,f:=23,mat:=[17]} mixed vZ Tryd.func23 (by kernel_rfl) ?_
  conv=>whnf
  repeat(any_goals(first|exact ac|(refine ao ?_ ?_<;>intro _<;>first|exact ap|conv=>whnf)|((first|refine ae ?_|refine bi ?_ ?_|intro _)<;>conv=>whnf)))
  refine⟨[],?_⟩
  conv=>whnf
  refine⟨_,_,he,?_⟩
  conv=>whnf
  repeat(any_goals(first|exact ac|(refine ao ?_ ?_<;>intro _<;>first|exact ap|conv=>whnf)|((first|refine ae ?_|refine bi ?_ ?_|intro _)<;>conv=>whnf)))
  (refine⟨⟨?_⟩,trivial⟩;rfl)
end Go.Proofs.YtgncapdjheghfaaDoor
namespace Go.Proofs.YtgncapdjheghfaaDoor
open Go.Am Go.Proofs Go
theorem z8(b:UInt8)(hb:b.toNat<128):Utf8.encode (b.toNat:Int)=⟨#[b]⟩:=by
 have hv:Utf8.valid (b.toNat:Int)=true:=by unfold Utf8.valid;simp;left;omega
 unfold Utf8.encode
 simp only[hv,if_true,Int.toNat_natCast]
 rw[if_pos (by omega)]
 simp
structure SpSt where
 i:Nat
 ws:List Bs
 w:Bs
def ex(ws:List Bs):List AV:=ws.map fun w=>aI (aC w)
theorem j8(ws:List Bs)(w:Bs):ex ws++[aI (aC w)]=ex (ws++[w]):=by unfold ex;rw[List.map_append];rfl
def xY:Option (List Bs)→AV
 | none=> .tuple [nw,aH false]
 | some ws=> .tuple [.slice 1 (ex ws) .no,aH true]
theorem il(w:Bs)(b:UInt8)(l:Bs):ce w (b::l)=if b=32 then(ce [] l).map (w:: ·)else if okB b=true then ce (w++[b]) l else none:=rfl
set_option maxRecDepth 100000 in
theorem Dy(s:ByteArray)(hl:s.size≤1048576):PureA Tryd.prog 37 [aI s] (xY (ce [] (bytes s))):=by
 have hsz:=xU s
 obtain⟨R,hR⟩:∃R,R=ce [] (bytes s):=⟨_,rfl⟩
 rw[←hR]
 have hlen:∀ws:List Bs,(ex ws).length=ws.length:=fun ws=>List.length_map ..
 refine ag ax { l:=0,f:=37} mixed B2 Tryd.func37 (by kernel_rfl) ?_
 conv=>whnf
 refine r7 2 1 ⟨0,37,18⟩ ?_
 conv=>whnf
 refine bS ax { l:=0,f:=37} mixed (fun u:SpSt=>[(4,aI (aC u.w)),(2,.slice 1 (ex u.ws) (.own ⟨0,37,18⟩ 1))]) (fun u=>[(⟨0,37,8⟩,(1,some (0,[aI s,ak u.i])))]) (fun u=>[(⟨0,37,18⟩,some (1,u.ws.length))]) (fun u=>(u.i≤s.size∧u.ws.length≤u.i∧u.w.length≤u.i)∧R=(ce u.w (s.data.toList.drop u.i)).map (u.ws++ ·)) (fun u=>s.size-u.i) (⟨0,[],[]⟩:SpSt) (by kernel_rfl)
  ⟨⟨Nat.zero_le _,Nat.zero_le _,Nat.zero_le _⟩,by rw[hR];show _=(ce [] (bytes s)).map ([]++ ·);cases ce [] (bytes s)<;>rfl⟩ ?_
 conv=>whnf
 refine⟨⟨aj rfl (aj rfl trivial),bv rfl trivial,bv rfl trivial⟩,?_⟩
 clear hR
 rintro u ⟨⟨hi,hws,hw⟩,H⟩
 generalize u.i=i at *
 generalize u.ws=ws at *
 generalize u.w=w at *
 clear u
 have hwl:=hlen ws
 have hsw:(aC w).size=w.length:=rfl
 conv=>whnf
 refine bQ (fun h1=>?_) (fun h1=>?_)
 ·obtain⟨b,hb,hd⟩:=aF (l:=s.data.toList) (i:=i) (by omega)
  rw[hd,il]at H
  have hlt:=b.toNat_lt
  by_cases h128:b.toNat<128
  ·have hdec:Utf8.decode s (i:Int).toNat=(b.toNat,1):=by rw[Int.toNat_natCast];exact m8 hb h128
   have hc:((Utf8.decode s (i:Int).toNat).1:Int)=b.toNat:=by rw[hdec]
   have hcv:=z8 b h128
   rw[←hc]at hcv
   have hes:(Utf8.encode ((Utf8.decode s (i:Int).toNat).1:Int)).size=1:=by rw[hcv];rfl
   by_cases h32:b=32
   ·rw[if_pos h32]at H
    have hb32:b.toNat=32:=by rw[h32];rfl
    have hH:R=(ce [] (s.data.toList.drop (i+1))).map ((ws++[w])++ ·):=by rw[H];cases ce [] (s.data.toList.drop (i+1))<;>simp
    conv=>whnf
    repeat(any_goals(first|exact ac|(refine ao ?_ ?_<;>intro _<;>first|exact ap|conv=>whnf)|((first|refine ae ?_|refine bi ?_ ?_|intro _)<;>conv=>whnf)))
    (refine⟨⟨i+1,ws++[w],[]⟩,⟨⟨by show i+1≤_;omega,by show(ws++[w]).length≤i+1;simp;omega,Nat.zero_le _⟩,hH⟩,(by show _-(i+1)<_-i;omega),?_⟩;(conv=>whnf);refine⟨?_,?_,?_⟩<;>repeat(first|exact trivial|refine sc rfl ?_|refine kn ?_|refine kc rfl ?_|refine sc (by first|(simp only[hdec];rfl)|(show some (AV.slice 1 (ex ws++[aI (aC w)]) _)=some (AV.slice 1 (ex (ws++[w])) _);rw[j8])|(show some (some (1,(ex ws).length+1))=some (some (1,(ws++[w]).length));rw[hwl,List.length_append];rfl)) ?_|refine kc (by first|(simp only[hdec];rfl)|(show some (AV.slice 1 (ex ws++[aI (aC w)]) _)=some (AV.slice 1 (ex (ws++[w])) _);rw[j8])|(show some (some (1,(ex ws).length+1))=some (some (1,(ws++[w]).length));rw[hwl,List.length_append];rfl)) ?_))
   ·rw[if_neg h32]at H
    have hb32:¬b.toNat=32:=fun e=>h32 (UInt8.toNat_inj.1 e)
    by_cases hok:okB b=true
    ·rw[if_pos hok]at H
     have hcond:b.toNat=46∨(48≤b.toNat∧b.toNat≤57)∨(97≤b.toNat∧b.toNat≤122):=by
      unfold okB dS fx at hok
      simp at hok
      omega
     have hcat:=mG w [b]
     conv=>whnf
     repeat(any_goals(first|exact ac|(refine ao ?_ ?_<;>intro _<;>first|exact ap|conv=>whnf)|((first|refine ae ?_|refine bi ?_ ?_|intro _)<;>conv=>whnf)))
     all_goals(try(exfalso;omega))
     all_goals
      refine⟨⟨i+1,ws,w++[b]⟩,⟨⟨by show i+1≤_;omega,by show ws.length≤i+1;omega,by show(w++[b]).length≤i+1;simp;omega⟩,H⟩,(by show _-(i+1)<_-i;omega),?_⟩
      conv=>whnf
      refine⟨aj (by show some (aI (aC w++Utf8.encode ((Utf8.decode s (i:Int).toNat).1:Int)))=some (aI (aC (w++[b])));rw[hcv, ←hcat];rfl) ?_,?_,?_⟩
      all_goals repeat(first|exact trivial|refine kn ?_|refine kc (by simp only[hdec];rfl) ?_|refine sc rfl ?_|refine kc rfl ?_)
    ·rw[if_neg hok]at H
     simp only[Option.map_none]at H
     have hcond:¬b.toNat=46∧¬(48≤b.toNat∧b.toNat≤57)∧¬(97≤b.toNat∧b.toNat≤122):=by
      unfold okB dS fx at hok
      simp at hok
      omega
     subst H
     conv=>whnf
     repeat(any_goals(first|exact ac|(refine ao ?_ ?_<;>intro _<;>first|exact ap|conv=>whnf)|((first|refine ae ?_|refine bi ?_ ?_|intro _)<;>conv=>whnf)))
     all_goals(try(exfalso;omega))
     all_goals(refine⟨⟨?_⟩,trivial⟩;rfl)
  ·have hdec:128≤(Utf8.decode s (i:Int).toNat).1:=by rw[Int.toNat_natCast];exact lx hb h128
   have hno:¬okB b=true:=by
    unfold okB dS fx
    simp
    omega
   rw[if_neg (fun e=>by subst e;exact h128 (by decide)),if_neg hno]at H
   simp only[Option.map_none]at H
   subst H
   conv=>whnf
   repeat(any_goals(first|exact ac|(refine ao ?_ ?_<;>intro _<;>first|exact ap|conv=>whnf)|((first|refine ae ?_|refine bi ?_ ?_|intro _)<;>conv=>whnf)))
   all_goals(try(exfalso;omega))
   all_goals(refine⟨⟨?_⟩,trivial⟩;rfl)
 ·have hdr:s.data.toList.drop i=[]:=List.drop_eq_nil_of_le (by omega)
  rw[hdr]at H
  simp only[ce,Option.map_some]at H
  subst H
  conv=>whnf
  repeat(any_goals(first|exact ac|(refine ao ?_ ?_<;>intro _<;>first|exact ap|conv=>whnf)|((first|refine ae ?_|refine bi ?_ ?_|intro _)<;>conv=>whnf)))
  (refine⟨⟨?_⟩,trivial⟩;exact congrArg (fun z=>AV.tuple [.slice 1 z .no,aH true]) (j8 ws w).symm)
end Go.Proofs.YtgncapdjheghfaaDoor
namespace Go.Proofs.YtgncapdjheghfaaDoor
open Go.Am Go.Proofs Go
theorem Dj(x:Fig)(w:ByteArray):PureA Tryd.prog 67 [eR x,.cptr [aI w]] (aH (decide (x.name=w))):=by
 refine ag ax { l:=0,f:=67} mixed Co Tryd.func67 (by kernel_rfl) ?_
 conv=>whnf
 (refine⟨⟨?_⟩,trivial⟩;rfl)
theorem EQ(l:List Fig)(w:ByteArray)(hl:l.length≤1048576):PureA Tryd.prog 66 [iK l,.func (.func 67) [] [.cptr [aI w]]] (ak (idx (fun x=>decide (x.name=w)) l)):=by
 refine ag ax { l:=0,f:=66} mixed wh Tryd.func66 (by kernel_rfl) ?_
 conv=>whnf
 refine bS ax { l:=0,f:=66} mixed (fun i:Nat=>[(8,ak i)]) (fun _=>[]) (fun _=>[]) (fun i=>i≤l.length∧idx (fun x:Fig=>decide (x.name=w)) l=cn (fun x:Fig=>decide (x.name=w)) i (l.drop i)) (fun i=>l.length-i) 0 (by kernel_rfl)
  ⟨Nat.zero_le _,rfl⟩ ?_
 conv=>whnf
 refine⟨⟨aj rfl trivial,trivial,trivial⟩,?_⟩
 intro i ⟨hi,H⟩
 conv=>whnf
 refine bQ (fun h1=>?_) (fun h1=>?_)
 ·simp only[List.length_map]at h1
  obtain⟨x,hx,hd⟩:=aF (l:=l) (i:=i) (by omega)
  have H':=ef hd H
  conv=>whnf
  repeat(any_goals(first|exact ac|(refine ao ?_ ?_<;>intro _<;>first|exact ap|conv=>whnf)|((first|refine af hx rfl ?_|refine aa (Dj x w) ?_|refine ae ?_|refine bi ?_ ?_|intro _)<;>conv=>whnf)))
  ·rename_i he
   simp only[he,if_true]at H'
   (refine⟨⟨?_⟩,trivial⟩;simp[oneOf,ak,H'])
  ·rename_i he
   simp only[he,Bool.false_eq_true,if_false]at H'
   (refine⟨i+1,⟨by omega,H'⟩,by omega,?_⟩;(conv=>whnf);refine⟨?_,?_,?_⟩<;>repeat(first|exact trivial|refine sc rfl ?_|refine kn ?_|refine kc rfl ?_))
 ·conv=>whnf
  simp only[List.length_map]at h1
  have:i=l.length:=by omega
  subst this
  (refine⟨⟨?_⟩,trivial⟩;simp[oneOf,ak,H,cn])
theorem Dz{w:Bs}{s:ByteArray}:s=aC w↔bytes s=w:=⟨fun e=>by rw[e,dP],fun e=>by rw[←e,t8]⟩
theorem DT(s:Bill)(hl:s.figs.length≤6)(w:Bs):PureA Tryd.prog 65 [aI (aC w),.cptr [cL s]] (ak (s.whoAt w)):=by
 have h:=EQ s.figs (aC w) (by omega)
 have e:s.whoAt w=idx (fun x:Fig=>decide (x.name=aC w)) s.figs:=by
  unfold Bill.whoAt
  congr 1
  funext f
  rw[decide_eq_decide]
  exact Dz.symm
 rw[e]
 generalize idx (fun x:Fig=>decide (x.name=aC w)) s.figs=n at *
 refine ag ax { l:=0,f:=65} mixed Cn Tryd.func65 (by kernel_rfl) ?_
 conv=>whnf
 repeat(any_goals(first|exact ac|(refine ao ?_ ?_<;>intro _<;>first|exact ap|conv=>whnf)|((first|refine aa h ?_|refine ah h rfl ?_|refine ae ?_|refine bi ?_ ?_|intro _)<;>conv=>whnf)))
 (refine⟨⟨?_⟩,trivial⟩;rfl)
def Df:Option Ent→AV
 | none=> .tuple [bK ⟨0,0,0⟩,aH false]
 | some x=> .tuple [bK x,aH true]
theorem EC{α:Type}:(∀l:List α,l.length=5→∃a b c d e,l=[a,b,c,d,e])∧(∀l:List α,l.length=6→∃a b c d e f,l=[a,b,c,d,e,f])∧(∀l:List α,l.length=9→∃a b c d e f g h i,l=[a,b,c,d,e,f,g,h,i]):=by
 refine⟨fun l h=>?_,fun l h=>?_,fun l h=>?_⟩
 ·match l,h with
  | [a,b,c,d,e],_=>exact⟨_,_,_,_,_,rfl⟩
 ·match l,h with
  | [a,b,c,d,e,f],_=>exact⟨_,_,_,_,_,_,rfl⟩
 ·match l,h with
  | [a,b,c,d,e,f,g,h,i],_=>exact⟨_,_,_,_,_,_,_,_,_,rfl⟩
theorem EO(s:Bill)(hl:s.figs.length≤6)(ws:List Bs)(hn:ws.length≤1048576):PureA Tryd.prog 39 [cL s,.slice 1 (ex ws) .no] (Df (s.readE ws)):=by
 have hw:=DT s hl
 obtain⟨l5,l6,l9⟩:=EC (α:=Bs)
 have his:∀{b:Bs},¬b=wIs→¬aC b=(⟨#[105,115]⟩:ByteArray):=fun {b} h e=>h (by rw[←dP b,e];rfl)
 have hma:∀{b:Bs},¬b=yA→¬aC b=(⟨#[109,97,121]⟩:ByteArray):=fun {b} h e=>h (by rw[←dP b,e];rfl)
 by_cases h5:ws.length=5
 ·obtain⟨a,b,c,d,e,rfl⟩:=l5 ws h5
  by_cases hb:b=wIs
  ·subst hb
   have hwc:=hw c
   rw[show s.readE [a,wIs,c,d,e]=some ⟨0,s.whoAt c,0⟩from rfl]
   generalize s.whoAt c=n at *
   refine ag ax { l:=0,f:=39} mixed gW Tryd.func39 (by kernel_rfl) ?_
   conv=>whnf
   repeat(any_goals(first|exact ac|(refine ao ?_ ?_<;>intro _<;>first|exact ap|conv=>whnf)|((first|refine bO (decide_eq_true rfl) ?_|refine aa hwc ?_|refine ah hwc rfl ?_|refine ae ?_|refine bi ?_ ?_|intro _)<;>conv=>whnf)))
   (refine⟨⟨?_⟩,trivial⟩;rfl)
  ·have hb':=his hb
   rw[show s.readE [a,b,c,d,e]=none by unfold Bill.readE;simp[hb]]
   refine ag ax { l:=0,f:=39} mixed gW Tryd.func39 (by kernel_rfl) ?_
   conv=>whnf
   repeat(any_goals(first|exact ac|(refine ao ?_ ?_<;>intro _<;>first|exact ap|conv=>whnf)|((first|refine ae ?_|refine bi ?_ ?_|intro _)<;>conv=>whnf)))
   all_goals(try(exact absurd (by assumption) hb'))
   all_goals(refine⟨⟨?_⟩,trivial⟩;rfl)
 ·by_cases h9:ws.length=9
  ·obtain⟨a,b,c,d,e,f,g,h,i,rfl⟩:=l9 ws h9
   by_cases hb:b=wIs
   ·subst hb
    have hwc:=hw c
    have hwg:=hw g
    rw[show s.readE [a,wIs,c,d,e,f,g,h,i]=some ⟨1,s.whoAt c,s.whoAt g⟩from rfl]
    generalize s.whoAt c=n at *
    generalize s.whoAt g=m at *
    refine ag ax { l:=0,f:=39} mixed gW Tryd.func39 (by kernel_rfl) ?_
    conv=>whnf
    repeat(any_goals(first|exact ac|(refine ao ?_ ?_<;>intro _<;>first|exact ap|conv=>whnf)|((first|refine bO (decide_eq_true rfl) ?_|refine aa hwc ?_|refine ah hwc rfl ?_|refine aa hwg ?_|refine ah hwg rfl ?_|refine ae ?_|refine bi ?_ ?_|intro _)<;>conv=>whnf)))
    (refine⟨⟨?_⟩,trivial⟩;rfl)
   ·have hb':=his hb
    rw[show s.readE [a,b,c,d,e,f,g,h,i]=none by unfold Bill.readE;simp[hb]]
    refine ag ax { l:=0,f:=39} mixed gW Tryd.func39 (by kernel_rfl) ?_
    conv=>whnf
    repeat(any_goals(first|exact ac|(refine ao ?_ ?_<;>intro _<;>first|exact ap|conv=>whnf)|((first|refine ae ?_|refine bi ?_ ?_|intro _)<;>conv=>whnf)))
    all_goals(try(exact absurd (by assumption) hb'))
    all_goals(refine⟨⟨?_⟩,trivial⟩;rfl)
  ·by_cases h6:ws.length=6
   ·obtain⟨a,b,c,d,e,f,rfl⟩:=l6 ws h6
    by_cases hb:b=yA
    ·subst hb
     have hwd:=hw d
     rw[show s.readE [a,yA,c,d,e,f]=some ⟨2,s.whoAt d,0⟩from rfl]
     generalize s.whoAt d=n at *
     refine ag ax { l:=0,f:=39} mixed gW Tryd.func39 (by kernel_rfl) ?_
     conv=>whnf
     repeat(any_goals(first|exact ac|(refine ao ?_ ?_<;>intro _<;>first|exact ap|conv=>whnf)|((first|refine bO (decide_eq_true rfl) ?_|refine aa hwd ?_|refine ah hwd rfl ?_|refine ae ?_|refine bi ?_ ?_|intro _)<;>conv=>whnf)))
     (refine⟨⟨?_⟩,trivial⟩;rfl)
    ·have hb':=hma hb
     rw[show s.readE [a,b,c,d,e,f]=none by unfold Bill.readE;simp[hb]]
     refine ag ax { l:=0,f:=39} mixed gW Tryd.func39 (by kernel_rfl) ?_
     conv=>whnf
     repeat(any_goals(first|exact ac|(refine ao ?_ ?_<;>intro _<;>first|exact ap|conv=>whnf)|((first|refine ae ?_|refine bi ?_ ?_|intro _)<;>conv=>whnf)))
     all_goals(try(exact absurd (by assumption) hb'))
     all_goals(refine⟨⟨?_⟩,trivial⟩;rfl)
   ·have hlen:(ex ws).length=ws.length:=List.length_map ..
    rw[show s.readE ws=none by unfold Bill.readE;simp[h5,h9,h6]]
    refine ag ax { l:=0,f:=39} mixed gW Tryd.func39 (by kernel_rfl) ?_
    conv=>whnf
    repeat(any_goals(first|exact ac|(refine ao ?_ ?_<;>intro _<;>first|exact ap|conv=>whnf)|((first|refine ae ?_|refine bi ?_ ?_|intro _)<;>conv=>whnf)))
    (refine⟨⟨?_⟩,trivial⟩;rfl)
end Go.Proofs.YtgncapdjheghfaaDoor
namespace Go.Proofs.YtgncapdjheghfaaDoor
open Go.Am Go.Proofs Go
theorem kI(r:Bs)(a b:Nat):(aC r).extract a b=aC ((r.drop a).take (b-a)):=by
 refine iB ?_
 unfold bytes
 rw[ByteArray.data_extract,Array.toList_extract]
 simp[aC,List.extract_eq_take_drop]
theorem Ae(r:Bs)(n:Nat)(hn:n≤r.length)(w:World):(Instr.sliceAt 9 (.string (aC r)) none (some (.int .i64 n)) none).run Tryd.prog w = .ok (.string (aC (r.take n))) w:=by
 rw[run_sliceAt_string w 9 _ _ _ _ Tryd.underlying9]
 have hs:(aC r).size=r.length:=rfl
 simp[Instr.slice,run_underlying Tryd.underlying9,Instr.sliceBounds,run_sliceBound,hs,hn]
 rw[kI];simp
theorem Ad(r:Bs)(n:Nat)(hn:n≤r.length)(w:World):(Instr.sliceAt 9 (.string (aC r)) (some (.int .i64 n)) none none).run Tryd.prog w = .ok (.string (aC (r.drop n))) w:=by
 rw[run_sliceAt_string w 9 _ _ _ _ Tryd.underlying9]
 have hs:(aC r).size=r.length:=rfl
 simp[Instr.slice,run_underlying Tryd.underlying9,Instr.sliceBounds,run_sliceBound,hs,hn]
 rw[kI,List.take_of_length_le (by simp)]
inductive RowsOk:List Bs→Prop where
 | nil:RowsOk []
 | row (w:Bs) (rs:List Bs) (h:(10:UInt8)∉w) (k:RowsOk rs):RowsOk ((w++[10])::rs)
 | last (w:Bs) (h:(10:UInt8)∉w) (h0:w≠[]):RowsOk [w]
def eQ(r:Bs):Bs:=Lib.trimSuffix r [10]
theorem Al(w:Bs):eQ (w++[10])=w:=by
 unfold eQ Lib.trimSuffix Lib.hasSuffix
 rw[if_pos (by simp)]
 simp
theorem yi{w:Bs}(h:(10:UInt8)∉w):eQ w=w:=by
 unfold eQ Lib.trimSuffix Lib.hasSuffix
 rw[if_neg]
 intro hs
 rw[List.isSuffixOf_iff_suffix]at hs
 obtain⟨a,ha⟩:=hs
 exact h (by rw[←ha];simp)
theorem uw{w:Bs}(h:(10:UInt8)∉w):∀cur:Bs,fp cur w=if cur++w=[]then []else [cur++w]:=by
 induction w with
 | nil=>intro cur;simp[fp]
 | cons b w ih =>
  intro cur
  simp only[List.mem_cons,not_or]at h
  show(if b=10 then cur::fp [] w else fp (cur++[b]) w)=_
  rw[if_neg (fun e=>h.1 e.symm),ih h.2]
  simp
theorem nI:∀{rs:List Bs},RowsOk rs→fp [] rs.flatten=rs.map eQ
 | _,.nil=>rfl
 | _,.row w rs h k=>by
  rw[List.flatten_cons,List.append_assoc,List.singleton_append,lR w [] _ h,nI k,List.map_cons,Al,List.nil_append]
 | _,.last w h h0=>by
  simp only[List.flatten_cons,List.flatten_nil,List.append_nil,List.map_cons,List.map_nil]
  rw[uw h,yi h,if_neg (by simpa using h0),List.nil_append]
theorem xQ:∀(n:Nat) (t:Bs),t.length≤n→∃rs,RowsOk rs∧rs.flatten=t
 | 0,t,h=>⟨[],.nil,by rw[List.length_eq_zero_iff.1 (Nat.le_zero.1 h)];rfl⟩
 | n+1,t,h=>by
  by_cases h0:t=[]
  ·exact⟨[],.nil,by rw[h0];rfl⟩
  ·by_cases hm:(10:UInt8)∈t
   ·obtain⟨a,b,hab,ha⟩:∃a b,t=a++10::b∧(10:UInt8)∉a:=by
     clear h h0
     induction t with
     | nil=>simp at hm
     | cons x t ih =>
      by_cases hx:x=10
      ·exact⟨[],t,by rw[hx];rfl,by simp⟩
      ·have hm':(10:UInt8)∈t:=by
        rcases List.mem_cons.1 hm with e|e
        ·exact absurd e.symm hx
        ·exact e
       obtain⟨a,b,e,h1⟩:=ih hm'
       exact⟨x::a,b,by rw[e];rfl,by simp only[List.mem_cons,not_or];exact⟨fun e=>hx e.symm,h1⟩⟩
    obtain⟨rs,h1,h2⟩:=xQ n b (by rw[hab,List.length_append,List.length_cons]at h;omega)
    exact⟨(a++[10])::rs,.row a rs ha h1,by rw[List.flatten_cons,h2,hab];simp⟩
   ·exact⟨[t],.last t hm h0,by simp⟩
theorem pP:∀(w rest:Bs),(10:UInt8)∉w→Lib.indexByte (w++10::rest) 10=(w.length:Int)
 | [],rest,_=>rfl
 | b::w,rest,h=>by
  simp only[List.mem_cons,not_or]at h
  have ih:=pP w rest h.2
  show(if(b==10)=true then(0:Int)else if(Lib.indexByte (w++10::rest) 10== -1)=true then -1 else Lib.indexByte (w++10::rest) 10+1)=_
  rw[if_neg (by simpa using fun e=>h.1 e.symm),ih,if_neg (by simp)]
  simp
theorem nl:∀(w:Bs),(10:UInt8)∉w→Lib.indexByte w 10 = -1
 | [],_=>rfl
 | b::w,h=>by
  simp only[List.mem_cons,not_or]at h
  have ih:=nl w h.2
  show(if(b==10)=true then(0:Int)else if(Lib.indexByte w 10== -1)=true then -1 else Lib.indexByte w 10+1) = -1
  rw[if_neg (by simpa using fun e=>h.1 e.symm),ih]
  rfl
theorem wO(s:ByteArray)(c:Nat):PureA Tryd.prog 63 [aI s,.v (.int .u8 c)] (ak (Lib.indexByte s.data.toList (c:Int).toNat.toUInt8)):=by
 have h:=rX s c
 generalize Lib.indexByte s.data.toList (c:Int).toNat.toUInt8=n at *
 refine ag ax { l:=0,f:=63} mixed Cm Tryd.func63 (by kernel_rfl) ?_
 conv=>whnf
 repeat(any_goals(first|exact ac|(refine ao ?_ ?_<;>intro _<;>first|exact ap|conv=>whnf)|((first|refine aa h ?_|refine ae ?_|refine bi ?_ ?_|intro _)<;>conv=>whnf)))
 (refine⟨⟨?_⟩,trivial⟩;rfl)
def Bill.lineE(s:Bill)(w:Bs):Option (Option Ent):=match ce [] w with
 | none=>none
 | some ws=>if j0 ws=true then some none else match s.readE ws with
  | none=>none
  | some x=>some (some x)
theorem sn(s:Bill)(w:Bs)(ls:List Bs):s.parseW (w::ls)=match s.lineE w with
  | none=>none
  | some o=>match s.parseW ls with
   | none=>none
   | some l=>some (o.toList++l):=by
 show(match ce [] w with
  | none=>none
  | some ws=>if j0 ws=true then s.parseW ls else match s.readE ws with
   | none=>none
   | some x=>(s.parseW ls).map (x:: ·))=_
 unfold Bill.lineE
 cases ce [] w with
 | none=>rfl
 | some ws =>
  simp only
  by_cases hk:j0 ws=true
  ·rw[if_pos hk,if_pos hk]
   cases s.parseW ls<;>rfl
  ·rw[if_neg hk,if_neg hk]
   cases s.readE ws with
   | none=>rfl
   | some x=>cases s.parseW ls<;>rfl
theorem qG:∀{l w:Bs} {ws:List Bs},ce w l=some ws→ws≠[]
 | [],w,ws,h=>by cases h;simp
 | b::l,w,ws,h=>by
  rw[il]at h
  split at h
  ·cases hs:ce [] l with
   | none=>rw[hs]at h;cases h
   | some vs=>rw[hs]at h;cases h;simp
  ·split at h
   ·exact qG h
   ·cases h
theorem j2:∀{l w:Bs} {ws:List Bs},ce w l=some ws→ws.length≤l.length+1
 | [],w,ws,h=>by cases h;simp
 | b::l,w,ws,h=>by
  rw[il]at h
  split at h
  ·cases hs:ce [] l with
   | none=>rw[hs]at h;cases h
   | some vs=>rw[hs]at h;cases h;have:=j2 hs;simp;omega
  ·split at h
   ·have:=j2 h;simp;omega
   ·cases h
end Go.Proofs.YtgncapdjheghfaaDoor
namespace Go.Proofs.YtgncapdjheghfaaDoor
open Go.Am Go.Proofs Go
def kLr:Key:=({ l:=0,f:=24}:Cx).loopKey #[26]
def kRt:Key:=⟨0,24,4⟩
def kRe:Key:=⟨0,24,5⟩
def kRs:Key:=⟨0,24,6⟩
def kRx:Key:=⟨0,24,10⟩
def kRl:Key:=⟨0,24,56⟩
def kLn:Key:=⟨0,36,1⟩
structure RS where
 l:List Ent
 st:Nat
def ED:List Ent→AV
 | []=> .slice 0 [] .tight
 | x::l=> .own kRl (l.length+1) 3 (l.length+1) 0
def lstS:List Ent→gT
 | []=>(0,none)
 | x::l=>(l.length+1,some (3,(x::l).map bK))
def Fu:List Ent→List bV
 | []=>[]
 | x::l=>[(kRl,l.length+1,3,(x::l).map bK)]
def ut(x:Ent):List Ent→Ent
 | []=>x
 | y::l=>ut y l
def curS:RS→gT
 | ⟨l,2⟩=>(l.length+1,some (3,[bK ⟨0,0,0⟩]))
 | ⟨[],_⟩=>(0,none)
 | ⟨x::l,_⟩=>(l.length+1,some (3,[bK (ut x l)]))
def Fq:RS→List bV
 | ⟨l,2⟩=>[(kRx,l.length+1,3,[bK ⟨0,0,0⟩])]
 | ⟨[],_⟩=>[]
 | ⟨x::l,_⟩=>[(kRx,l.length+1,3,[bK (ut x l)])]
def un(s:Bill)(r:Rec)(done:Bool)(l:AV)(e:Int):List bV:=[r.box kLr #[26] done,(kRt,1,1,[l]),(kRe,1,1,[ak e]),(kRs,1,1,[.ptr b6 1 5 0 0]),co s]
def Dr(s:Bill)(r:Rec)(u:RS):List bV :=
 (match u.st with
 | 0=>un s r false (ED u.l) 0
 | _=>un s r true (.slice 0 [] .tight) 6)++(Fu u.l++Fq u)
def Bill.stepM(s:Bill)(l:List Ent)(r:Bs):RS:=match ce [] (eQ r)with
 | none=>⟨l,1⟩
 | some ws=>if j0 ws=true then⟨l,0⟩else match s.readE ws with
  | none=>⟨l,2⟩
  | some x=>⟨l++[x],0⟩
def Bill.readM(s:Bill):List Bs→List Ent→RS×List Bs
 | [],l=>(⟨l,0⟩,[])
 | r::rs,l=>if(s.stepM l r).st=0 then s.readM rs (s.stepM l r).l else(s.stepM l r,rs)
theorem hQ(s:Bill):∀(rs:List Bs) (l:List Ent),match s.parseW (rs.map eQ)with
  | none=>(s.readM rs l).1.st=1∨(s.readM rs l).1.st=2
  | some m=>s.readM rs l=(⟨l++m,0⟩,[])
 | [],l=>by show(⟨l,0⟩,[])=((⟨l++[],0⟩,[]):RS×List Bs);rw[List.append_nil]
 | r::rs,l=>by
  rw[List.map_cons,sn]
  unfold Bill.lineE
  show match(match(match ce [] (eQ r)with
   | none=>none
   | some ws=>if j0 ws=true then some none else match s.readE ws with
    | none=>none
    | some x=>some (some x))with
   | none=>none
   | some o=>match s.parseW (rs.map eQ)with
    | none=>none
    | some l=>some (o.toList++l))with
   | none=>((if(s.stepM l r).st=0 then s.readM rs (s.stepM l r).l else(s.stepM l r,rs)):RS×List Bs).1.st=1∨((if(s.stepM l r).st=0 then s.readM rs (s.stepM l r).l else(s.stepM l r,rs)):RS×List Bs).1.st=2
   | some m=>(if(s.stepM l r).st=0 then s.readM rs (s.stepM l r).l else(s.stepM l r,rs))=(⟨l++m,0⟩,[])
  unfold Bill.stepM
  cases ce [] (eQ r)with
  | none=>exact .inl rfl
  | some ws =>
   simp only
   by_cases hk:j0 ws=true
   ·rw[if_pos hk]
    simp only[if_pos hk,if_true]
    have:=hQ s rs l
    cases hp:s.parseW (rs.map eQ)with
    | none=>rw[hp]at this;simpa using this
    | some m=>rw[hp]at this;simpa using this
   ·rw[if_neg hk]
    simp only[if_neg hk]
    cases s.readE ws with
    | none=>exact .inr rfl
    | some x =>
     simp only[if_true]
     have:=hQ s rs (l++[x])
     cases hp:s.parseW (rs.map eQ)with
     | none=>rw[hp]at this;simpa using this
     | some m=>rw[hp]at this;simpa using this
theorem uv(t:ByteArray):BoxA Tryd.prog (.fn 36) [] [aI t] (.func (.func 62) [] [.ptr kLn 1 1 0 0]) [(kLn,1,1,[aI t])]:=by
 refine aD ax { l:=0,f:=36} mixed B1 Tryd.func36 (by kernel_rfl) ?_
 conv=>whnf
 repeat(any_goals(first|exact ac|(refine ao ?_ ?_<;>intro _<;>first|exact ap|conv=>whnf)|((first|refine ae ?_|refine bi ?_ ?_|intro _)<;>conv=>whnf)))
 refine And.intro ?_ ?_
 ·conv=>whnf
  refine⟨⟨?_⟩,trivial⟩
  rfl
 ·repeat(first|exact trivial|refine And.intro rfl ?_|refine And.intro (by skip) ?_)
theorem vS{P:Program}{T:Tab}(hT:T.Ok P)(cx:Cx)(hm:P.follows .mixedOrders=true){f:FuncId}{fn:Func}{pre:List bV}{bov:List (Key×Option gT)}{post:List bV}{args:List AV}{res:AV}
  (hlook:∀k,b8 pre k=match aU bov k with
   | some (some c)=>c
   | _=>(0,none))
  (hc:al P f) (hf:P.funcs[f]?=some fn) (hok:Bh fn args.length=true)
  (h:tX P T cx fn res post ⟨cd 0 args,bov,[]⟩) (hrd:cx.rd=false:=by rfl):BoxA P (.fn f) pre args res post:=by
 have kn:Knows ⟨cd 0 args,bov,[]⟩ (dh pre args):={
  slot:=fun i v h=>by
   have:=(cJ args 0 i v h).2
   simp only[Nat.sub_zero]at this
   simp[dh,List.getD,this]
  box:=fun k=>by
   have:=hlook k
   split
   ·rename_i c hc;simp only[dh,this,hc]
   ·trivial
   ·rename_i hc;simp only[dh,this,hc]
  tk:=fun k=>rfl}
 unfold tX at h
 unfold Bh at hok
 split at h
 ·rename_i c hb
  rw[hb]at hok
  simp only[Bool.and_eq_true,decide_eq_true_eq]at hok
  refine q6 hc hf hb (by rw[hok.1.2,decide_eq_true hok.1.1];rfl) (hrd▸bb cx hm c hok.2 (bp cx c (fun e S'=>?_) (ba hT cx c kn h)))
  rintro⟨ss',h1,h2⟩
  have key:((sM T fn.results.toList fun l=> .lst l fun l=> .need (Res res (oneOf l)) (Classical.propDecidable _) (.done [])).ev P ss' (fun _ _=>True)∧sm ss' fun _ bx _=>ct (0,none) bx (o7 post)) →
    D6 P fn S' res∧∀p∈post,S'.box p.1=(p.2.1,some (p.2.2.1,p.2.2.2)):=by
   rintro⟨h,hk⟩
   have h:=RB.ev_rm h1 _ h
   have h:=ga (rs:=fn.results.toList) (k':=fun l=> .need (res=oneOf l) (.done [])) hT (fun l=>ar fun hr=>az hr.eq (aq _)) _ _ h
   have h:=RM.wp_wp0 _ h
   exact⟨RM.wp0_mono _ h fun _ _=>trivial,d0 h1.box hk⟩
  cases e with
  | normal=>exact⟨.inl rfl,key h2⟩
  | ret=>exact⟨.inr rfl,key h2⟩
  | _=>exact h2.elim
 ·exact h.elim
end Go.Proofs.YtgncapdjheghfaaDoor
