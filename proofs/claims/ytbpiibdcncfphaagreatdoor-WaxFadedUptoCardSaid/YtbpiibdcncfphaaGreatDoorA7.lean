/- Part 7 of the texts that the last one stands on. -/
import Derived.Test.YtbpiibdcncfphaaGreatDoorA6
set_option linter.unusedVariables false
set_option linter.unusedSimpArgs false
namespace Go.Proofs.YtbpiibdcncfphaaGreatDoor
open Go.Am Go.Proofs Go
theorem rpourE_c (s : Store) (hr : s.small) (hc : s.check.2.2 ≠ 0) : PureA Tryz.prog 7 [storeA s] (.tuple [nilS, amtA zeroT, intA s.check.2.2]):=by
  have hk:=refCheck_c s hr
  unfold triA at hk
  generalize s.check = c at *
  obtain ⟨c1, c2, c3⟩:=c
  simp only at hk hc ⊢
  refine pureA_codeB tabOk { l:=0, f:=7 } mixed call_7 Tryz.func7 (by kernel_rfl) ?_
  conv=>whnf
  repeat (any_goals (first|exact falseI|((first|refine bd ?_ ?_|refine bn ?_ ?_)<;>intro _<;>first|(exfalso;omega)|conv=>whnf)|((first|refine callP_a hk ?_|refine dI ?_|refine okI ?_|refine bt ?_|refine bi (fun _=>?_) (fun _=>?_)|refine bndI ?_|intro _)<;>conv=>whnf)))
  (refine ⟨⟨?_⟩, trivial⟩;rfl)
theorem rpourTop_c (s : Store) (hr : s.small) : PureA Tryz.prog 7 [storeA s] (pourA s.pourR):=by
  by_cases hc : s.check.2.2 = 0
  · have h:=rpourT_c s hr hc
    rw [← rpour_all hc]
    unfold Store.rpour
    cases hF : s.allI.find? s.lok with
    | none=>rw [hF] at h;exact pureNil1 h
    | some l=>rw [hF] at h;exact h
  · have h:=rpourE_c s hr hc
    unfold Store.pourR
    rw [if_pos hc]
    exact pureNil1 h
theorem filter_allI {s : Store} (h6 : s.heads.length ≤ 6) : s.allI.filter s.lok = s.allOk.map setL:=by
  rw [allI_eq h6, List.filter_map]
  rfl
theorem any_allI {s : Store} (h6 : s.heads.length ≤ 6) : s.allI.any s.lok = s.someAt 0:=by
  rw [allI_eq h6, List.any_map]
  rfl
theorem rlistsE_c (s : Store) (hr : s.small) (hc : s.check.2.2 ≠ 0) : PureA Tryz.prog 10 [storeA s] (.tuple [nilS, intA s.check.2.2]):=by
  have hk:=refCheck_c s hr
  unfold triA at hk
  generalize s.check = c at *
  obtain ⟨c1, c2, c3⟩:=c
  simp only at hk hc ⊢
  refine pureA_codeB tabOk { l:=0, f:=10 } mixed call_10 Tryz.func10 (by kernel_rfl) ?_
  conv=>whnf
  repeat (any_goals (first|exact falseI|((first|refine bd ?_ ?_|refine bn ?_ ?_)<;>intro _<;>first|(exfalso;omega)|conv=>whnf)|((first|refine callP_a hk ?_|refine dI ?_|refine okI ?_|refine bt ?_|refine bi (fun _=>?_) (fun _=>?_)|refine bndI ?_|intro _)<;>conv=>whnf)))
  (refine ⟨⟨?_⟩, trivial⟩;rfl)
theorem rlistsT_c (s : Store) (hr : s.small) (hc : s.check.2.2 = 0) : PureA Tryz.prog 10 [storeA s] (.tuple [intssA (s.allOk.map setL), intA 0]):=by
  have hk:=refCheck_c s hr
  have hg:=Store.good hc
  have ha:=rall_c s hg
  rw [filter_allI hg.len] at ha
  unfold triA at hk
  rw [hc] at hk
  generalize s.check.1 = k1 at *
  generalize s.check.2.1 = k2 at *
  generalize s.allOk.map setL = L at *
  refine pureA_codeB tabOk { l:=0, f:=10 } mixed call_10 Tryz.func10 (by kernel_rfl) ?_
  conv=>whnf
  repeat (any_goals (first|exact falseI|((first|refine bd ?_ ?_|refine bn ?_ ?_)<;>intro _<;>first|(exfalso;omega)|conv=>whnf)|((first|refine callP_a hk ?_|refine callP_a ha ?_|refine dI ?_|refine okI ?_|refine bt ?_|refine bi (fun _=>?_) (fun _=>?_)|refine bndI ?_|intro _)<;>conv=>whnf)))
  (refine ⟨⟨?_⟩, trivial⟩;rfl)
theorem rlistsTop_c (s : Store) (hr : s.small) : PureA Tryz.prog 10 [storeA s] (listsA s.listsR):=by
  unfold Store.listsR
  by_cases hc : s.check.2.2 = 0
  · rw [if_neg (fun h=>h hc)]
    exact rlistsT_c s hr hc
  · rw [if_pos hc]
    exact pureNil1 (rlistsE_c s hr hc)
end Go.Proofs.YtbpiibdcncfphaaGreatDoor
namespace Go.Proofs.YtbpiibdcncfphaaGreatDoor
open Go.Am Go.Proofs Go
theorem rdoubtE_c (s : Store) (hr : s.small) (hc : s.check.2.2 ≠ 0) : PureA Tryz.prog 13 [storeA s] (.tuple [nilS, nilS, intA s.check.2.2]):=by
  have hk:=rlistsTop_c s hr
  unfold Store.listsR listsA at hk
  rw [if_pos hc] at hk
  generalize s.check.2.2 = c at *
  refine pureA_codeB tabOk { l:=0, f:=13 } mixed call_13 Tryz.func13 (by kernel_rfl) ?_
  conv=>whnf
  repeat (any_goals (first|exact falseI|((first|refine bd ?_ ?_|refine bn ?_ ?_)<;>intro _<;>first|(exfalso;omega)|conv=>whnf)|((first|refine callP_a hk ?_|refine dI ?_|refine okI ?_|refine bt ?_|refine bi (fun _=>?_) (fun _=>?_)|refine bndI ?_|intro _)<;>conv=>whnf)))
  (refine ⟨⟨?_⟩, trivial⟩;rfl)
theorem rdoubtN_c (s : Store) (hr : s.small) (hc : s.check.2.2 = 0) (hn : s.allOk.map setL = []) : PureA Tryz.prog 13 [storeA s] (.tuple [nilS, nilS, intA 9]):=by
  have hk:=rlistsTop_c s hr
  unfold Store.listsR listsA at hk
  rw [if_neg (fun h=>h hc), hn] at hk
  refine pureA_codeB tabOk { l:=0, f:=13 } mixed call_13 Tryz.func13 (by kernel_rfl) ?_
  conv=>whnf
  repeat (any_goals (first|exact falseI|((first|refine bd ?_ ?_|refine bn ?_ ?_)<;>intro _<;>first|(exfalso;omega)|conv=>whnf)|((first|refine callP_a hk ?_|refine dI ?_|refine okI ?_|refine bt ?_|refine bi (fun _=>?_) (fun _=>?_)|refine bndI ?_|intro _)<;>conv=>whnf)))
  (refine ⟨⟨?_⟩, trivial⟩;rfl)
theorem hasL_swap (n : Int) (l : List Int) : l.any (fun x=>decide (x = n)) = hasL n l:=by
  unfold hasL
  congr 1
  funext x
  rw [Bool.eq_iff_iff]
  simp [eq_comm]
theorem must_dec (all : List (List Int)) (n : Int) : decide ((eachN all n : Int) = all.length) = all.all (hasL n):=by
  rw [Bool.eq_iff_iff, decide_eq_true_eq, List.all_eq_true]
  unfold eachN
  constructor
  · intro h
    exact List.length_filter_eq_length_iff.1 (by omega)
  · intro h
    have:=List.length_filter_eq_length_iff.2 h
    omega
theorem may_dec (all : List (List Int)) (k : Nat) (n : Int) : decide (0 < (someN k all n : Int)) = all.any (fun l=>hasL n l && decide ((l.length : Int) = k)):=by
  rw [Bool.eq_iff_iff, decide_eq_true_eq, List.any_eq_true]
  unfold someN
  constructor
  · intro h
    obtain ⟨x, hx⟩:=List.exists_mem_of_length_pos (l:=all.filter fun l=>hasL n l && decide ((l.length : Int) = k)) (by omega)
    obtain ⟨a, b⟩:=List.mem_filter.1 hx
    exact ⟨x, a, b⟩
  · rintro ⟨x, a, b⟩
    have:=List.length_pos_of_mem (l:=all.filter fun l=>hasL n l && decide ((l.length : Int) = k)) (List.mem_filter.2 ⟨a, b⟩)
    omega
theorem any_takeB {α : Type} (p : α→Bool) {l : List α} {j : Nat} {x : α} (hx : l[j]? = some x) : (l.take (j + 1)).any p = ((l.take j).any p || p x):=by
  rw [List.take_add_one, hx, List.any_append]
  simp
theorem all_takeB {α : Type} (p : α→Bool) {l : List α} {j : Nat} {x : α} (hx : l[j]? = some x) : (l.take (j + 1)).all p = ((l.take j).all p && p x):=by
  rw [List.take_add_one, hx, List.all_append]
  simp
set_option maxHeartbeats 4000000 in
theorem rdoubtT_c (s : Store) (hr : s.small) (hc : s.check.2.2 = 0) (l0 : List Int) (all : List (List Int)) (hn : s.allOk.map setL = l0 :: all) :
    PureA Tryz.prog 13 [storeA s] (.tuple [intsA (mustL s.heads.length (l0 :: all)), intsA (mayL s.heads.length (l0 :: all)), intA 0]):=by
  have hk:=rlistsTop_c s hr
  have h6:=(Store.good hc).len
  have hll : (l0 :: all).length ≤ 64:=by
    rw [← hn, List.length_map]
    refine Nat.le_trans (List.length_filter_le ..) ?_
    rw [sorted_len, sets_eq]
    exact Nat.le_trans (upto_len _ _) (two_pow_le h6)
  have hl6 : ∀ l ∈ l0 :: all, l.length ≤ 6:=by
    intro l hl
    rw [← hn] at hl
    obtain ⟨n, _, rfl⟩:=List.mem_map.1 hl
    exact setL_len n
  unfold Store.listsR listsA at hk
  rw [if_neg (fun h=>h hc), hn] at hk
  simp only at hk
  have hhas : ∀ l ∈ l0 :: all, ∀ n, PureA Tryz.prog 32 [intsA l, intA n] (boolA (hasL n l)):=by
    intro l hl n
    have:=hasI_c l n (by have:=hl6 l hl;omega)
    rw [hasL_swap] at this
    exact this
  have em : mustL s.heads.length (l0 :: all) = pickTo (fun n=>(l0 :: all).all (hasL n)) s.heads.length:=by
    unfold mustL
    congr 1
    funext n
    exact must_dec _ _
  have ey : mayL s.heads.length (l0 :: all) = pickTo (fun n=>(l0 :: all).any (fun l=>hasL n l && decide ((l.length : Int) = l0.length))) s.heads.length:=by
    unfold mayL
    congr 1
    funext n
    exact may_dec _ _ _
  rw [em, ey]
  clear em ey
  have hM:=pickTo_succ (fun n=>(l0 :: all).all (hasL n))
  have hY:=pickTo_succ (fun n=>(l0 :: all).any (fun l=>hasL n l && decide ((l.length : Int) = l0.length)))
  have hMl:=pickTo_len (fun n=>(l0 :: all).all (hasL n))
  have hYl:=pickTo_len (fun n=>(l0 :: all).any (fun l=>hasL n l && decide ((l.length : Int) = l0.length)))
  have hM0 : pickTo (fun n=>(l0 :: all).all (hasL n)) 0 = []:=rfl
  have hY0 : pickTo (fun n=>(l0 :: all).any (fun l=>hasL n l && decide ((l.length : Int) = l0.length))) 0 = []:=rfl
  generalize pickTo (fun n=>(l0 :: all).all (hasL n)) = M at *
  generalize pickTo (fun n=>(l0 :: all).any (fun l=>hasL n l && decide ((l.length : Int) = l0.length))) = Y at *
  have hl0 : (l0 :: all)[0]? = some l0:=rfl
  have hp0 : 0 < (l0 :: all).length:=by simp
  generalize l0 :: all = A at *
  have hal : (A.map intsA).length = A.length:=List.length_map ..
  have hl0m : (l0.map intA).length = l0.length:=List.length_map ..
  have hhl : (s.heads.map headA).length = s.heads.length:=List.length_map ..
  clear hn
  refine pureA_codeB tabOk { l:=0, f:=13 } mixed call_13 Tryz.func13 (by kernel_rfl) ?_
  conv=>whnf
  repeat (any_goals (first|exact falseI|((first|refine bd ?_ ?_|refine bn ?_ ?_)<;>intro _<;>first|(exfalso;omega)|conv=>whnf)|((first|refine callP_a hk ?_|refine dI ?_|refine okI ?_|refine bt ?_|refine bi (fun _=>?_) (fun _=>?_)|refine bndI ?_|intro _)<;>conv=>whnf)))
  refine loopTok 7 1 ⟨0, 13, 72⟩ ?_
  conv=>whnf
  refine loopTok 8 1 ⟨0, 13, 77⟩ ?_
  conv=>whnf
  refine loopK tabOk { l:=0, f:=13 } mixed (fun i : Nat=>[(9, intA i), (7, .slice 1 ((M i).map intA) (.own ⟨0, 13, 72⟩ 1)), (8, .slice 1 ((Y i).map intA) (.own ⟨0, 13, 77⟩ 1))]) (fun _=>[]) (fun i=>[(⟨0, 13, 72⟩, some (1, (M i).length)), (⟨0, 13, 77⟩, some (1, (Y i).length))]) (fun i=>i ≤ s.heads.length) (fun i=>s.heads.length - i) 0 (by kernel_rfl)
    (Nat.zero_le _) ?_
  conv=>whnf
  refine ⟨⟨slotsLe_cons rfl (slotsLe_cons (by rw [hM0];rfl) (slotsLe_cons (by rw [hY0];rfl) trivial)), trivial, keysLe_cons (by rw [hM0];rfl) (keysLe_cons (by rw [hY0];rfl) trivial)⟩, ?_⟩
  intro i hi
  have hMi:=hM i
  have hYi:=hY i
  have hMli:=hMl i
  have hYli:=hYl i
  have hMm : ((M i).map intA).length = (M i).length:=List.length_map ..
  have hYm : ((Y i).map intA).length = (Y i).length:=List.length_map ..
  by_cases hlt : i < s.heads.length
  · have hB:=fun j x (hx : A[j]? = some x)=>all_takeB (hasL (i : Int)) hx
    have hC:=fun j x (hx : A[j]? = some x)=>any_takeB (fun l=>hasL (i : Int) l && decide ((l.length : Int) = l0.length)) hx
    have hBe : A.all (hasL (i : Int)) = (A.take A.length).all (hasL (i : Int)):=by rw [List.take_length]
    have hCe : A.any (fun l=>hasL (i : Int) l && decide ((l.length : Int) = l0.length)) = (A.take A.length).any (fun l=>hasL (i : Int) l && decide ((l.length : Int) = l0.length)):=by rw [List.take_length]
    rw [hBe] at hMi
    rw [hCe] at hYi
    have hB0 : (A.take 0).all (hasL (i : Int)) = true:=rfl
    have hC0 : (A.take 0).any (fun l=>hasL (i : Int) l && decide ((l.length : Int) = l0.length)) = false:=rfl
    clear hBe hCe hM hY hM0 hY0 hMl hYl
    obtain ⟨B, hBd⟩ : ∃ B : Nat→Bool, B = fun j=>(A.take j).all (hasL (i : Int)):=⟨_, rfl⟩
    obtain ⟨C, hCd⟩ : ∃ C : Nat→Bool, C = fun j=>(A.take j).any (fun l=>hasL (i : Int) l && decide ((l.length : Int) = l0.length)):=⟨_, rfl⟩
    have hBj : ∀ j, (A.take j).all (hasL (i : Int)) = B j:=fun j=>by rw [hBd]
    have hCj : ∀ j, (A.take j).any (fun l=>hasL (i : Int) l && decide ((l.length : Int) = l0.length)) = C j:=fun j=>by rw [hCd]
    simp only [hBj, hCj] at hB hC hMi hYi hB0 hC0
    clear hBj hCj hBd hCd
    conv=>whnf
    repeat (any_goals (first|exact falseI|((first|refine bd ?_ ?_|refine bn ?_ ?_)<;>intro _<;>first|(exfalso;omega)|conv=>whnf)|((first|refine dI ?_|refine okI ?_|refine bt ?_|refine bi (fun _=>?_) (fun _=>?_)|refine bndI ?_|intro _)<;>conv=>whnf)))
    refine loopK tabOk { l:=0, f:=13 } mixed (fun j : Nat=>[(12, intA j), (10, boolA (B j)), (11, boolA (C j))]) (fun _=>[]) (fun _=>[]) (fun j=>j ≤ A.length) (fun j=>A.length - j) 0 (by kernel_rfl)
      (Nat.zero_le _) ?_
    conv=>whnf
    refine ⟨⟨slotsLe_cons rfl (slotsLe_cons (by rw [hB0];rfl) (slotsLe_cons (by rw [hC0];rfl) trivial)), trivial, trivial⟩, ?_⟩
    intro j hj
    by_cases hlt2 : j < A.length
    · obtain ⟨x, hx, _⟩:=drop_cons (l:=A) (i:=j) hlt2
      have hBn:=hB j x hx
      have hCn:=hC j x hx
      have hh:=hhas x (List.mem_of_getElem? hx) i
      have hx6:=hl6 x (List.mem_of_getElem? hx)
      have h06:=hl6 l0 (List.mem_of_getElem? hl0)
      have hxl : (x.map intA).length = x.length:=List.length_map ..
      clear hB hC hhas hMi hYi
      generalize B j = Bj at *
      generalize C j = Cj at *
      generalize hasL (i : Int) x = b at *
      by_cases hq : (x.length : Int) = l0.length
      · have hD : decide (((x.map intA).length : Int) = ((l0.map intA).length : Int)) = true:=decide_eq_true (by omega)
        rw [decide_eq_true hq] at hCn
        cases Bj<;>cases Cj<;>cases b
        all_goals simp only [Bool.and_true, Bool.and_false, Bool.or_true, Bool.or_false, Bool.true_and, Bool.false_and, Bool.true_or, Bool.false_or] at hBn hCn
        all_goals conv=>whnf
        all_goals repeat (any_goals (first|exact falseI|((first|refine bd ?_ ?_|refine bn ?_ ?_)<;>intro _<;>first|(exfalso;omega)|conv=>whnf)|((first|refine optP_map hx rfl ?_|refine optP_map hl0 rfl ?_|refine callP_a hh ?_|refine dI ?_|refine okI ?_|refine bt ?_|refine bi (fun _=>?_) (fun _=>?_)|refine bndI ?_|intro _)<;>conv=>whnf)))
        all_goals ((refine ⟨j + 1, (by omega), (by omega), ?_⟩;(conv=>whnf);refine ⟨?_, ?_, ?_⟩<;>repeat (first|exact trivial|refine sc rfl ?_|refine kn ?_|refine kc rfl ?_|refine sc (by first|rfl|(rw [hBn];rfl)|(rw [hCn];rfl)|(show some (AV.v (.bool (decide (((x.map intA).length : Int) = ((l0.map intA).length : Int))))) = some (boolA (C (j + 1)));rw [hCn, hD];rfl)) ?_|refine kc (by first|rfl|(rw [hBn];rfl)|(rw [hCn];rfl)|(show some (AV.v (.bool (decide (((x.map intA).length : Int) = ((l0.map intA).length : Int))))) = some (boolA (C (j + 1)));rw [hCn, hD];rfl)) ?_)))
      · have hD : decide (((x.map intA).length : Int) = ((l0.map intA).length : Int)) = false:=decide_eq_false (by omega)
        rw [decide_eq_false hq] at hCn
        cases Bj<;>cases Cj<;>cases b
        all_goals simp only [Bool.and_true, Bool.and_false, Bool.or_true, Bool.or_false, Bool.true_and, Bool.false_and, Bool.true_or, Bool.false_or] at hBn hCn
        all_goals conv=>whnf
        all_goals repeat (any_goals (first|exact falseI|((first|refine bd ?_ ?_|refine bn ?_ ?_)<;>intro _<;>first|(exfalso;omega)|conv=>whnf)|((first|refine optP_map hx rfl ?_|refine optP_map hl0 rfl ?_|refine callP_a hh ?_|refine dI ?_|refine okI ?_|refine bt ?_|refine bi (fun _=>?_) (fun _=>?_)|refine bndI ?_|intro _)<;>conv=>whnf)))
        all_goals ((refine ⟨j + 1, (by omega), (by omega), ?_⟩;(conv=>whnf);refine ⟨?_, ?_, ?_⟩<;>repeat (first|exact trivial|refine sc rfl ?_|refine kn ?_|refine kc rfl ?_|refine sc (by first|rfl|(rw [hBn];rfl)|(rw [hCn];rfl)|(show some (AV.v (.bool (decide (((x.map intA).length : Int) = ((l0.map intA).length : Int))))) = some (boolA (C (j + 1)));rw [hCn, hD];rfl)) ?_|refine kc (by first|rfl|(rw [hBn];rfl)|(rw [hCn];rfl)|(show some (AV.v (.bool (decide (((x.map intA).length : Int) = ((l0.map intA).length : Int))))) = some (boolA (C (j + 1)));rw [hCn, hD];rfl)) ?_)))
    · have : j = A.length:=by omega
      subst this
      generalize B A.length = Be at *
      generalize C A.length = Ce at *
      cases Be<;>cases Ce
      all_goals simp only [if_true, Bool.false_eq_true, if_false, List.append_nil] at hMi hYi
      all_goals conv=>whnf
      all_goals repeat (any_goals (first|exact falseI|((first|refine bd ?_ ?_|refine bn ?_ ?_)<;>intro _<;>first|(exfalso;omega)|conv=>whnf)|((first|refine dI ?_|refine okI ?_|refine bt ?_|refine bi (fun _=>?_) (fun _=>?_)|refine bndI ?_|intro _)<;>conv=>whnf)))
      all_goals ((refine ⟨i + 1, (by omega), (by omega), ?_⟩;(conv=>whnf);refine ⟨?_, ?_, ?_⟩<;>repeat (first|exact trivial|refine sc rfl ?_|refine kn ?_|refine kc rfl ?_|refine sc (by first|rfl|(rw [hMi];rfl)|(rw [hYi];rfl)|(rw [hMi, List.map_append];rfl)|(rw [hYi, List.map_append];rfl)|(rw [hMi, List.length_append, ← hMm];rfl)|(rw [hYi, List.length_append, ← hYm];rfl)) ?_|refine kc (by first|rfl|(rw [hMi];rfl)|(rw [hYi];rfl)|(rw [hMi, List.map_append];rfl)|(rw [hYi, List.map_append];rfl)|(rw [hMi, List.length_append, ← hMm];rfl)|(rw [hYi, List.length_append, ← hYm];rfl)) ?_)))
  · have : i = s.heads.length:=by omega
    subst this
    conv=>whnf
    repeat (any_goals (first|exact falseI|((first|refine bd ?_ ?_|refine bn ?_ ?_)<;>intro _<;>first|(exfalso;omega)|conv=>whnf)|((first|refine dI ?_|refine okI ?_|refine bt ?_|refine bi (fun _=>?_) (fun _=>?_)|refine bndI ?_|intro _)<;>conv=>whnf)))
    (refine ⟨⟨?_⟩, trivial⟩;rfl)
theorem rdoubtTop_c (s : Store) (hr : s.small) : PureA Tryz.prog 13 [storeA s] (doubtA s.doubtR):=by
  unfold Store.doubtR
  by_cases hc : s.check.2.2 = 0
  · rw [if_neg (fun h=>h hc)]
    cases hn : s.allOk.map setL with
    | nil=>exact pureNil2 (rdoubtN_c s hr hc hn)
    | cons l all=>exact rdoubtT_c s hr hc l all hn
  · rw [if_pos hc]
    exact pureNil2 (rdoubtE_c s hr hc)
end Go.Proofs.YtbpiibdcncfphaaGreatDoor
namespace Go.Proofs.YtbpiibdcncfphaaGreatDoor
open Go.Am Go.Proofs Go
def u8 (a : Int) : Prop:=0 ≤ a∧a ≤ 255
end Go.Proofs.YtbpiibdcncfphaaGreatDoor
namespace Go.Proofs.YtbpiibdcncfphaaGreatDoor
open Go.Am Go.Proofs Go
theorem eqAll_self {α : Type} {p : α→α→Bool} (h : ∀ x, p x x = true) : ∀ l : List α, eqAll p l l = true
  | []=>rfl
  | x :: l=>by simp only [eqAll, h, eqAll_self h l, Bool.and_true]
set_option maxHeartbeats 4000000 in
theorem WaxPours_c (s : Store) (hr : s.small) : PureA Tryz.prog 3 [storeA s] (boolA true):=by
  have aw:=Awake_c
  have p1:=pourTop_c s hr
  have p2:=rpourTop_c s hr
  have l1:=listsTop_c s hr
  have l2:=rlistsTop_c s hr
  have d1:=doubtTop_c s hr
  have d2:=rdoubtTop_c s hr
  have h6 : s.check.2.2 = 0→s.heads.length ≤ 6:=fun h=>(Store.good h).len
  have hP : s.pourR.1.length ≤ 6:=by
    unfold Store.pourR
    split
    · simp
    · cases s.sorted.find? (s.okAt 0) with
      | none=>simp
      | some n=>exact setL_len n
  have hL : s.listsR.1.length ≤ 64∧∀ l ∈ s.listsR.1, l.length ≤ 6:=by
    unfold Store.listsR
    split
    · simp
    · rename_i hc
      have hc : s.check.2.2 = 0:=Decidable.not_not.1 hc
      refine ⟨?_, fun l hl=>?_⟩
      · show (s.allOk.map setL).length ≤ 64
        rw [List.length_map]
        refine Nat.le_trans (List.length_filter_le ..) ?_
        rw [sorted_len, sets_eq]
        exact Nat.le_trans (upto_len _ _) (two_pow_le (h6 hc))
      · obtain ⟨n, _, rfl⟩:=List.mem_map.1 hl
        exact setL_len n
  have hD : s.doubtR.1.length ≤ 6∧s.doubtR.2.1.length ≤ 6:=by
    unfold Store.doubtR
    split
    · simp
    · rename_i hc
      have hc : s.check.2.2 = 0:=Decidable.not_not.1 hc
      have:=h6 hc
      cases s.allOk.map setL with
      | nil=>simp
      | cons l all=>exact ⟨Nat.le_trans (pickTo_len _ _) this, Nat.le_trans (pickTo_len _ _) this⟩
  have i1:=ints_c s.pourR.1 s.pourR.1 (by omega) (by omega)
  have i2:=ints_c s.doubtR.1 s.doubtR.1 (by omega) (by omega)
  have i3:=ints_c s.doubtR.2.1 s.doubtR.2.1 (by omega) (by omega)
  have i4:=lists_c s.listsR.1 s.listsR.1 (by omega) (by omega) (fun l hl=>by have:=hL.2 l hl;omega) (fun l hl=>by have:=hL.2 l hl;omega)
  have se : ∀ x : Int, decide (x = x) = true:=fun x=>decide_eq_true rfl
  rw [eqAll_self se] at i1 i2 i3
  rw [eqAll_self (eqAll_self se)] at i4
  clear hP hL hD h6 se
  unfold pourA at p1 p2
  unfold listsA at l1 l2
  unfold doubtA at d1 d2
  generalize s.pourR = P at *
  generalize s.listsR = L at *
  generalize s.doubtR = D at *
  obtain ⟨P1, ⟨a1, a2, a3⟩, P3⟩:=P
  obtain ⟨L1, L2⟩:=L
  obtain ⟨D1, D2, D3⟩:=D
  simp only at *
  refine pureA_codeB tabOk { l:=0, f:=3 } mixed call_3 Tryz.func3 (by kernel_rfl) ?_
  conv=>whnf
  repeat (any_goals (first|exact falseI|((first|refine bd ?_ ?_|refine bn ?_ ?_)<;>intro _<;>first|(exfalso;omega)|conv=>whnf)|((first|refine brP_true (eqL3 _ _ _) ?_|refine brP_not (brP_true (eqL3 _ _ _) ?_)|refine callP_a p1 ?_|refine callP_a p2 ?_|refine callP_a l1 ?_|refine callP_a l2 ?_|refine callP_a d1 ?_|refine callP_a d2 ?_|refine callP_a i1 ?_|refine callP_a i2 ?_|refine callP_a i3 ?_|refine callP_a i4 ?_|refine callP_a aw ?_|refine dI ?_|refine okI ?_|refine bt ?_|refine bi (fun _=>?_) (fun _=>?_)|refine bndI ?_|intro _)<;>conv=>whnf)))
  (refine ⟨⟨?_⟩, trivial⟩;rfl)
end Go.Proofs.YtbpiibdcncfphaaGreatDoor
namespace Go.Proofs.YtbpiibdcncfphaaGreatDoor
open Go.Am Go.Proofs Go
theorem more_c (s : Store) (k : Nat) (x n : Int) (hx : x = k) (hk : k < 3) (h4 : s.lots.upto 40) (hn : 0 ≤ n∧n ≤ 60) : PureA Tryz.prog 38 [storeA s, intA x, intA n] (storeA (s.more k n)):=by
  obtain ⟨a1, a2, a3⟩:=h4
  subst hx
  rcases lt3 hk with rfl|rfl|rfl
  · refine pureA_codeB tabOk { l:=0, f:=38 } mixed call_38 Tryz.func38 (by kernel_rfl) ?_
    conv=>whnf
    repeat (any_goals (first|exact falseI|((first|refine bd ?_ ?_|refine bn ?_ ?_)<;>intro _<;>first|(exfalso;omega)|conv=>whnf)|((first|refine dI ?_|refine okI ?_|refine bt ?_|refine bi (fun _=>?_) (fun _=>?_)|refine bndI ?_|intro _)<;>conv=>whnf)))
    (refine ⟨⟨?_⟩, trivial⟩;rfl)
  · refine pureA_codeB tabOk { l:=0, f:=38 } mixed call_38 Tryz.func38 (by kernel_rfl) ?_
    conv=>whnf
    repeat (any_goals (first|exact falseI|((first|refine bd ?_ ?_|refine bn ?_ ?_)<;>intro _<;>first|(exfalso;omega)|conv=>whnf)|((first|refine dI ?_|refine okI ?_|refine bt ?_|refine bi (fun _=>?_) (fun _=>?_)|refine bndI ?_|intro _)<;>conv=>whnf)))
    (refine ⟨⟨?_⟩, trivial⟩;rfl)
  · refine pureA_codeB tabOk { l:=0, f:=38 } mixed call_38 Tryz.func38 (by kernel_rfl) ?_
    conv=>whnf
    repeat (any_goals (first|exact falseI|((first|refine bd ?_ ?_|refine bn ?_ ?_)<;>intro _<;>first|(exfalso;omega)|conv=>whnf)|((first|refine dI ?_|refine okI ?_|refine bt ?_|refine bi (fun _=>?_) (fun _=>?_)|refine bndI ?_|intro _)<;>conv=>whnf)))
    (refine ⟨⟨?_⟩, trivial⟩;rfl)
theorem more_zero (s : Store) (k : Nat) : s.more k 0 = s:=by
  unfold Store.more Amt.more
  split<;>simp
theorem leastN_c (s : Store) (hg : s.Good) : ∃ a : Amt, PureA Tryz.prog 28 [storeA s, nilS] (.tuple [amtA a, boolA (s.pour zeroT).ok]):=by
  have h:=(least_c s [] hg (by simp) (by simp)).args (args:=[storeA s, nilS]) (.cons (Wk.refl _) (.cons (Wk.nil 1) trivial))
  rw [least_pour hg (by simp)] at h
  exact ⟨_, h⟩
end Go.Proofs.YtbpiibdcncfphaaGreatDoor
namespace Go.Proofs.YtbpiibdcncfphaaGreatDoor
open Go.Am Go.Proofs Go
theorem rlackE_c (s : Store) (hr : s.small) (hc : s.check.2.2 ≠ 0) : PureA Tryz.prog 16 [storeA s] (triA (0, 0, s.check.2.2)):=by
  have hk:=refCheck_c s hr
  unfold triA at *
  generalize s.check = c at *
  obtain ⟨c1, c2, c3⟩:=c
  simp only at hk hc ⊢
  refine pureA_codeB tabOk { l:=0, f:=16 } mixed call_16 Tryz.func16 (by kernel_rfl) ?_
  conv=>whnf
  repeat (any_goals (first|exact falseI|((first|refine bd ?_ ?_|refine bn ?_ ?_)<;>intro _<;>first|(exfalso;omega)|conv=>whnf)|((first|refine callP_a hk ?_|refine dI ?_|refine okI ?_|refine bt ?_|refine bi (fun _=>?_) (fun _=>?_)|refine bndI ?_|intro _)<;>conv=>whnf)))
  (refine ⟨⟨?_⟩, trivial⟩;rfl)
def Store.rlackIn (s : Store) (n : Nat) : Nat→Nat→Option (Int × Int × Int)
  | 0, _=>none
  | f + 1, k=>if ((s.more k (n : Int)).pour zeroT).ok = true then some (if n = 0 then (0, 0, 4) else ((k : Int), (n : Int), 0)) else s.rlackIn n f (k + 1)
def Store.rlackOut (s : Store) : Nat→Nat→Int × Int × Int
  | 0, _=>(0, 0, 9)
  | f + 1, n=>match s.rlackIn n 3 0 with
    | some r=>r
    | none=>s.rlackOut f (n + 1)
theorem rlackIn_eq (s : Store) (n : Nat) : ∀ (f k : Nat), s.rlackIn (n + 1) f k = (s.lackIn n f k).map fun k=>((k : Int), (n : Int) + 1, (0 : Int))
  | 0, _=>rfl
  | f + 1, k=>by
    unfold Store.rlackIn Store.lackIn
    rw [rlackIn_eq s n f (k + 1)]
    by_cases h : ((s.more k ((n : Int) + 1)).pour zeroT).ok = true
    · rw [if_pos h, if_pos (by exact h), if_neg (by omega)]
      rfl
    · rw [if_neg h, if_neg (by exact h)]
theorem rlackOut_eq (s : Store) : ∀ (f n : Nat), s.rlackOut f (n + 1) = s.lackOut f n
  | 0, _=>rfl
  | f + 1, n=>by
    unfold Store.rlackOut Store.lackOut
    rw [rlackIn_eq, rlackOut_eq s f (n + 1)]
    cases s.lackIn n 3 0<;>rfl
theorem rlack_eq (s : Store) : s.rlackOut 41 0 = if (s.pour zeroT).ok = true then (0, 0, 4) else s.lackOut 40 0:=by
  have h0 : s.rlackIn 0 3 0 = if (s.pour zeroT).ok = true then some (0, 0, 4) else none:=by
    simp only [Store.rlackIn, Int.natCast_zero, more_zero, if_true]
    by_cases h : (s.pour zeroT).ok = true
    · simp [h]
    · simp [h]
  unfold Store.rlackOut
  rw [h0, rlackOut_eq]
  by_cases h : (s.pour zeroT).ok = true
  · rw [if_pos h, if_pos h]
  · rw [if_neg h, if_neg h]
set_option maxHeartbeats 4000000 in
theorem rlackT_c (s : Store) (hr : s.small) (hc : s.check.2.2 = 0) : PureA Tryz.prog 16 [storeA s] (triA (s.rlackOut 41 0)):=by
  have hk:=refCheck_c s hr
  unfold triA at hk ⊢
  rw [hc] at hk
  generalize s.check.1 = k1 at *
  generalize s.check.2.1 = k2 at *
  have hg:=Store.good hc
  have h4:=check_lots hc
  have hm:=fun (k : Nat) (n : Nat) (hk : k < 3) (hn : n ≤ 40)=>more_c s k k n rfl hk h4 (by omega)
  have hl:=fun (k : Nat) (n : Nat) (hn : n ≤ 40)=>leastN_c (s.more k n) (more_good hg h4 (by omega))
  have hin : ∀ n f k, s.rlackIn n (f + 1) k = if ((s.more k (n : Int)).pour zeroT).ok = true then some (if n = 0 then (0, 0, 4) else ((k : Int), (n : Int), 0)) else s.rlackIn n f (k + 1):=fun _ _ _=>rfl
  have hin0 : ∀ n k, s.rlackIn n 0 k = none:=fun _ _=>rfl
  have hout : ∀ f n, s.rlackOut (f + 1) n = match s.rlackIn n 3 0 with|some r=>r|none=>s.rlackOut f (n + 1):=fun _ _=>rfl
  have hout0 : ∀ n, s.rlackOut 0 n = (0, 0, 9):=fun _=>rfl
  obtain ⟨R, hR⟩ : ∃ R, R = s.rlackOut 41 0:=⟨_, rfl⟩
  rw [← hR]
  refine pureA_codeB tabOk { l:=0, f:=16 } mixed call_16 Tryz.func16 (by kernel_rfl) ?_
  conv=>whnf
  repeat (any_goals (first|exact falseI|((first|refine bd ?_ ?_|refine bn ?_ ?_)<;>intro _<;>first|(exfalso;omega)|conv=>whnf)|((first|refine callP_a hk ?_|refine dI ?_|refine okI ?_|refine bt ?_|refine bi (fun _=>?_) (fun _=>?_)|refine bndI ?_|intro _)<;>conv=>whnf)))
  refine loopK tabOk { l:=0, f:=16 } mixed (fun i : Nat=>[(8, intA i)]) (fun _=>[]) (fun _=>[]) (fun i=>i ≤ 41∧R = s.rlackOut (41 - i) i) (fun i=>41 - i) 0 (by kernel_rfl)
    ⟨Nat.zero_le _, hR⟩ ?_
  conv=>whnf
  refine ⟨⟨slotsLe_cons rfl trivial, trivial, trivial⟩, ?_⟩
  clear hR
  intro i ⟨hi, H⟩
  by_cases hlt : i ≤ 40
  · obtain ⟨f, hf⟩ : ∃ f, 41 - i = f + 1:=⟨40 - i, by omega⟩
    rw [hf, hout] at H
    conv=>whnf
    repeat (any_goals (first|exact falseI|((first|refine bd ?_ ?_|refine bn ?_ ?_)<;>intro _<;>first|(exfalso;omega)|conv=>whnf)|((first|refine dI ?_|refine okI ?_|refine bt ?_|refine bi (fun _=>?_) (fun _=>?_)|refine bndI ?_|intro _)<;>conv=>whnf)))
    refine loopK tabOk { l:=0, f:=16 } mixed (fun k : Nat=>[(9, intA k)]) (fun _=>[]) (fun _=>[]) (fun k=>k ≤ 3∧R = (match s.rlackIn i (3 - k) k with|some r=>r|none=>s.rlackOut f (i + 1))) (fun k=>3 - k) 0 (by kernel_rfl)
      ⟨Nat.zero_le _, H⟩ ?_
    conv=>whnf
    refine ⟨⟨slotsLe_cons rfl trivial, trivial, trivial⟩, ?_⟩
    clear H
    intro k ⟨hk3, H⟩
    by_cases hlt2 : k < 3
    · obtain ⟨g, hg3⟩ : ∃ g, 3 - k = g + 1:=⟨2 - k, by omega⟩
      rw [hg3, hin] at H
      have hmk:=hm k i hlt2 hlt
      obtain ⟨⟨a1, a2, a3⟩, hlk⟩:=hl k i hlt
      generalize s.more k (i : Int) = S at *
      generalize (S.pour zeroT).ok = b at *
      cases b with
      | true =>
        simp only [if_true] at H
        by_cases h0 : i = 0
        · rw [if_pos h0] at H
          subst H h0
          conv=>whnf
          repeat (any_goals (first|exact falseI|((first|refine bd ?_ ?_|refine bn ?_ ?_)<;>intro _<;>first|(exfalso;omega)|conv=>whnf)|((first|refine callP_a hmk ?_|refine callP_a hlk ?_|refine dI ?_|refine okI ?_|refine bt ?_|refine bi (fun _=>?_) (fun _=>?_)|refine bndI ?_|intro _)<;>conv=>whnf)))
          (refine ⟨⟨?_⟩, trivial⟩;rfl)
        · rw [if_neg h0] at H
          subst H
          conv=>whnf
          repeat (any_goals (first|exact falseI|((first|refine bd ?_ ?_|refine bn ?_ ?_)<;>intro _<;>first|(exfalso;omega)|conv=>whnf)|((first|refine callP_a hmk ?_|refine callP_a hlk ?_|refine dI ?_|refine okI ?_|refine bt ?_|refine bi (fun _=>?_) (fun _=>?_)|refine bndI ?_|intro _)<;>conv=>whnf)))
          (refine ⟨⟨?_⟩, trivial⟩;rfl)
      | false =>
        simp only [Bool.false_eq_true, if_false] at H
        conv=>whnf
        repeat (any_goals (first|exact falseI|((first|refine bd ?_ ?_|refine bn ?_ ?_)<;>intro _<;>first|(exfalso;omega)|conv=>whnf)|((first|refine callP_a hmk ?_|refine callP_a hlk ?_|refine dI ?_|refine okI ?_|refine bt ?_|refine bi (fun _=>?_) (fun _=>?_)|refine bndI ?_|intro _)<;>conv=>whnf)))
        (refine ⟨k + 1, ⟨by omega, by rw [show 3 - (k + 1) = g by omega];exact H⟩, (by omega), ?_⟩;(conv=>whnf);refine ⟨?_, ?_, ?_⟩<;>repeat (first|exact trivial|refine sc rfl ?_|refine kn ?_|refine kc rfl ?_|refine sc (by rfl) ?_|refine kc (by rfl) ?_))
    · have : k = 3:=by omega
      subst this
      simp only [Nat.sub_self, hin0] at H
      conv=>whnf
      repeat (any_goals (first|exact falseI|((first|refine bd ?_ ?_|refine bn ?_ ?_)<;>intro _<;>first|(exfalso;omega)|conv=>whnf)|((first|refine dI ?_|refine okI ?_|refine bt ?_|refine bi (fun _=>?_) (fun _=>?_)|refine bndI ?_|intro _)<;>conv=>whnf)))
      (refine ⟨i + 1, ⟨by omega, by rw [show 41 - (i + 1) = f by omega];exact H⟩, (by omega), ?_⟩;(conv=>whnf);refine ⟨?_, ?_, ?_⟩<;>repeat (first|exact trivial|refine sc rfl ?_|refine kn ?_|refine kc rfl ?_|refine sc (by rfl) ?_|refine kc (by rfl) ?_))
  · have : i = 41:=by omega
    subst this
    simp only [Nat.sub_self, hout0] at H
    subst H
    conv=>whnf
    repeat (any_goals (first|exact falseI|((first|refine bd ?_ ?_|refine bn ?_ ?_)<;>intro _<;>first|(exfalso;omega)|conv=>whnf)|((first|refine dI ?_|refine okI ?_|refine bt ?_|refine bi (fun _=>?_) (fun _=>?_)|refine bndI ?_|intro _)<;>conv=>whnf)))
    (refine ⟨⟨?_⟩, trivial⟩;rfl)
theorem rlackTop_c (s : Store) (hr : s.small) : PureA Tryz.prog 16 [storeA s] (triA s.lackR):=by
  unfold Store.lackR
  by_cases hc : s.check.2.2 = 0
  · rw [if_neg (fun h=>h hc), ← rlack_eq]
    exact rlackT_c s hr hc
  · rw [if_pos hc]
    exact rlackE_c s hr hc
end Go.Proofs.YtbpiibdcncfphaaGreatDoor
namespace Go.Proofs.YtbpiibdcncfphaaGreatDoor
open Go.Am Go.Proofs Go
def Head.bare (h : Head) : Head:={ h with kept:=false }
def Store.bare (s : Store) : Store:={ s with heads:=s.heads.map Head.bare }
theorem bees_congr {s s' : Store} (h1 : s'.lots = s.lots) (h2 : s'.orders = s.orders) (k : Amt) : s'.bees k = s.bees k:=by unfold Store.bees Store.work;rw [h1, h2]
theorem pourStep_congr {s s' : Store} (h1 : s'.lots = s.lots) (h2 : s'.orders = s.orders) (base : Amt) (t c : Nat) (best : Poured) : s'.pourStep base t c best = s.pourStep base t c best:=by unfold Store.pourStep;rw [bees_congr h1 h2]
theorem pourIn_congr {s s' : Store} (h1 : s'.lots = s.lots) (h2 : s'.orders = s.orders) (base : Amt) (t : Nat) : ∀ (n c : Nat) (best : Poured), s'.pourIn base t n c best = s.pourIn base t n c best
  | 0, _, _=>rfl
  | n + 1, c, best=>by unfold Store.pourIn;rw [pourStep_congr h1 h2, pourIn_congr h1 h2 base t n]
theorem pourOut_congr {s s' : Store} (h1 : s'.lots = s.lots) (h2 : s'.orders = s.orders) (base : Amt) : ∀ (n t : Nat) (best : Poured), s'.pourOut base n t best = s.pourOut base n t best
  | 0, _, _=>rfl
  | n + 1, t, best=>by unfold Store.pourOut;rw [h1, pourIn_congr h1 h2, pourOut_congr h1 h2 base n]
theorem pour_congr {s s' : Store} (h1 : s'.lots = s.lots) (h2 : s'.orders = s.orders) (base : Amt) : s'.pour base = s.pour base:=by unfold Store.pour;rw [h1, pourOut_congr h1 h2]
theorem pureEs_heads (l : List Head) (n : Nat) (h : n = l.length) : pureEs ((l.map headA).take n) = some (l.map headA):=by
  rw [List.take_of_length_le (by simp [h])]
  clear h
  induction l with
  | nil=>rfl
  | cons x l ih=>simp only [List.map_cons, pureEs, ih, show pureE (headA x) = some (headA x) from rfl]
theorem set_heads (l : List Head) (a : Int) (n : Nat) (x : AV) (f : Head) (ha : a = n) (hx : x = headA f) : (l.map headA).set a.toNat x = (l.set n f).map headA:=by
  subst ha hx
  simp [List.map_set]
end Go.Proofs.YtbpiibdcncfphaaGreatDoor
namespace Go.Proofs.YtbpiibdcncfphaaGreatDoor
open Go.Am Go.Proofs Go
def Head.later (h : Head) (d : Int) : Head:={ h with days:=h.days + d }
def Store.later (s : Store) (d : Int) : Store:={ s with heads:=s.heads.map (·.later d) }
def mapTo {α : Type} (f : α→α) (l : List α) (i : Nat) : List α:=(l.take i).map f++l.drop i
theorem mapTo_set {α : Type} {f : α→α} {l : List α} {i : Nat} {o : α} (h : l[i]? = some o) : (mapTo f l i).set i (f o) = mapTo f l (i + 1):=by
  have hi:=(List.getElem?_eq_some_iff.1 h).1
  have hd : l.drop i = o :: l.drop (i + 1):=by
    obtain ⟨y, hy, e⟩:=drop_cons (l:=l) (i:=i) hi
    rw [h] at hy;cases hy;exact e
  unfold mapTo
  rw [hd, List.set_append_right _ _ (by simp;omega)]
  simp only [List.length_map, List.length_take]
  rw [show i - min i l.length = 0 by omega, List.set_cons_zero, List.take_add_one, h]
  simp
theorem mapTo_at {α : Type} {f : α→α} {l : List α} {i : Nat} {o : α} (h : l[i]? = some o) : (mapTo f l i)[i]? = some o:=by
  have hi:=(List.getElem?_eq_some_iff.1 h).1
  unfold mapTo
  rw [List.getElem?_append_right (by simp;omega)]
  simp only [List.length_map, List.length_take]
  rw [show i - min i l.length = 0 by omega, List.getElem?_drop, Nat.add_zero, h]
theorem mapTo_len {α : Type} (f : α→α) (l : List α) (i : Nat) : (mapTo f l i).length = l.length:=by unfold mapTo;simp;omega
theorem mapTo_all {α : Type} (f : α→α) (l : List α) : mapTo f l l.length = l.map f:=by unfold mapTo;simp
set_option maxHeartbeats 2000000 in
theorem later_c (s : Store) (d : Int) (h6 : s.heads.length ≤ 6) (hd : ∀ h ∈ s.heads, 0 ≤ h.days∧h.days ≤ 2000) (h0 : 0 ≤ d∧d ≤ 2000) : PureA Tryz.prog 21 [storeA s, intA d] (storeA (s.later d)):=by
  have hhl : (s.heads.map headA).length = s.heads.length:=List.length_map ..
  refine pureA_codeB tabOk { l:=0, f:=21, ow:=[9], fz:=[(6, 2)] } mixed call_21 Tryz.func21 (by kernel_rfl) ?_
  conv=>whnf
  repeat (any_goals (first|exact falseI|((first|refine bd ?_ ?_|refine bn ?_ ?_)<;>intro _<;>first|(exfalso;omega)|conv=>whnf)|((first|refine dI ?_|refine okI ?_|refine bt ?_|refine bi (fun _=>?_) (fun _=>?_)|refine bndI ?_|intro _)<;>conv=>whnf)))
  refine loopK tabOk { l:=0, f:=21, ow:=[9], fz:=[(6, 2)] } mixed (fun i : Nat=>[(5, intA i)]) (fun i=>[(⟨0, 21, 9⟩, some (1, some (6, (mapTo (·.later d) s.heads i).map headA)))]) (fun _=>[]) (fun i=>i ≤ s.heads.length) (fun i=>s.heads.length - i) 0 (by kernel_rfl)
    (Nat.zero_le _) ?_
  conv=>whnf
  refine ⟨⟨slotsLe_cons rfl trivial, keysLe_cons rfl trivial, trivial⟩, ?_⟩
  intro i hi
  have hwl:=mapTo_len (·.later d) s.heads i
  have hwm : (List.map headA (mapTo (·.later d) s.heads i)).length = s.heads.length:=by rw [List.length_map];exact hwl
  by_cases hlt2 : i < s.heads.length
  · obtain ⟨o, hoi, _⟩:=drop_cons (l:=s.heads) (i:=i) hlt2
    have hdo:=hd o (List.mem_of_getElem? hoi)
    have hat:=mapTo_at (f:=(·.later d)) hoi
    have hst:=set_heads (mapTo (·.later d) s.heads i) i i (.agg [strA o.name, intA o.wax.b, intA o.wax.t, intA o.wax.c, intA (o.days + d), boolA o.kept]) (o.later d) rfl rfl
    rw [mapTo_set hoi] at hst
    conv=>whnf
    repeat (any_goals (first|exact falseI|((first|refine bd ?_ ?_|refine bn ?_ ?_)<;>intro _<;>first|(exfalso;omega)|conv=>whnf)|((first|refine optP_map hat rfl ?_|refine forceL_to hst ?_|refine dI ?_|refine okI ?_|refine bt ?_|refine bi (fun _=>?_) (fun _=>?_)|refine bndI ?_|intro _)<;>conv=>whnf)))
    (refine ⟨i + 1, (by omega), (by omega), ?_⟩;(conv=>whnf);refine ⟨?_, ?_, ?_⟩<;>repeat (first|exact trivial|refine sc rfl ?_|refine kn ?_|refine kc rfl ?_|refine sc (by first|rfl|(rw [← hst];rfl)) ?_|refine kc (by first|rfl|(rw [← hst];rfl)) ?_))
  · have : i = s.heads.length:=by omega
    subst this
    have hpo : pureEs ((List.map headA (mapTo (·.later d) s.heads s.heads.length)).take (s.heads.map headA).length) = some ((s.heads.map (·.later d)).map headA):=by
      rw [mapTo_all]
      exact pureEs_heads _ _ (by simp)
    conv=>whnf
    repeat (any_goals (first|exact falseI|((first|refine bd ?_ ?_|refine bn ?_ ?_)<;>intro _<;>first|(exfalso;omega)|conv=>whnf)|((first|refine optP_intro hpo ?_|refine dI ?_|refine okI ?_|refine bt ?_|refine bi (fun _=>?_) (fun _=>?_)|refine bndI ?_|intro _)<;>conv=>whnf)))
    (refine ⟨⟨?_⟩, trivial⟩;rfl)
theorem later_zero (s : Store) : s.later 0 = s:=by
  obtain ⟨l, f, hs, os⟩:=s
  unfold Store.later Head.later
  simp
theorem later_melts (s : Store) (d : Int) : (s.later d).melts 0 = s.melts d:=by
  have h3 : (s.later d).heads.length = s.heads.length:=List.length_map ..
  unfold Store.melts meltsTo
  rw [h3]
  unfold Store.later
  simp only
  rw [← List.map_take, List.map_map]
  congr 1
  apply List.map_congr_left
  intro h _
  show (h.later d).melt s.fade 0 = h.melt s.fade d
  unfold Head.melt Head.faded Head.later
  simp
theorem maskOf_later (d : Int) : ∀ l : List Head, maskOf (l.map (·.later d)) = maskOf l
  | []=>rfl
  | h :: l=>by
    simp only [List.map_cons, maskOf, maskOf_later d l]
    rfl
theorem later_sorted (s : Store) (d : Int) : (s.later d).sorted = s.sorted:=by
  have h3 : (s.later d).heads.length = s.heads.length:=List.length_map ..
  unfold Store.sorted Store.sets
  rw [h3]
  unfold Store.later
  simp only
  rw [maskOf_later]
theorem later_ok (s : Store) (d : Int) (n : Nat) : (s.later d).okAt 0 n = s.okAt d n:=by
  unfold Store.okAt Store.baseOf
  rw [later_melts, pour_congr (s:=s) (s':=s.later d) rfl rfl]
theorem later_some (s : Store) (d : Int) : (s.later d).someAt 0 = s.someAt d:=by
  unfold Store.someAt
  rw [later_sorted]
  congr 1
  funext n
  exact later_ok s d n
theorem check_days {s : Store} (hc : s.check.2.2 = 0) : ∀ h ∈ s.heads, 0 ≤ h.days∧h.days ≤ 364:=by
  unfold Store.check at hc
  split at hc
  · simp at hc
  split at hc
  · simp at hc
  split at hc
  · rename_i h3;exact absurd hc h3
  rename_i h3
  intro x hx
  obtain ⟨i, hi⟩:=List.mem_iff_getElem?.1 hx
  have:=firstFrom_zero _ s.heads 0 (by simpa [Store.headsErr] using h3) i x hi
  unfold headErr at this
  split at this
  · omega
  split at this
  · omega
  split at this
  · omega
  rename_i q
  simp only [Bool.not_eq_true, Bool.or_eq_false_iff, outside_iff] at q
  exact q.2
theorem later_good {s : Store} (hc : s.check.2.2 = 0) {d : Int} (h0 : 0 ≤ d∧d ≤ 400) : (s.later d).Good:=by
  have hg:=Store.good hc
  have hd:=check_days hc
  refine ⟨hg.lots, hg.fade, by show (s.heads.map _).length ≤ 6;rw [List.length_map];exact hg.len, ?_, hg.lenO, hg.orders⟩
  intro h hh
  obtain ⟨x, hx, rfl⟩:=List.mem_map.1 hh
  have:=hd x hx
  refine ⟨(hg.heads x hx).1, ?_⟩
  show 0 ≤ x.days + d∧x.days + d ≤ 2000
  omega
theorem later_small {s : Store} (hr : s.small) (d : Int) : (s.later d).small:=by
  obtain ⟨h1, h2, h3, h4⟩:=hr
  refine ⟨by show (s.heads.map _).length ≤ _;rw [List.length_map];exact h1, h2, ?_, h4⟩
  intro h hh
  obtain ⟨x, hx, rfl⟩:=List.mem_map.1 hh
  exact h3 x hx
def meltL (s : Store) : List Amt:=s.heads.map (·.melt s.fade 0)
theorem melts_meltL (s : Store) : s.melts 0 = meltL s++List.replicate (6 - s.heads.length) zeroT:=by
  unfold Store.melts meltsTo meltL
  rw [List.take_length]
theorem meltL_eq {s t : Store} (h : t.heads.length = s.heads.length) : meltL s = meltL t↔s.melts 0 = t.melts 0:=by
  rw [melts_meltL, melts_meltL, h, List.append_left_inj]
theorem eqDrop {α : Type} [DecidableEq α] {l m : List α} {x y : α} {i : Nat} (hx : l[i]? = some x) (hy : m[i]? = some y) : decide (l.drop i = m.drop i) = (decide (x = y) && decide (l.drop (i + 1) = m.drop (i + 1))):=by
  obtain ⟨a, ha, e1⟩:=drop_cons (l:=l) (i:=i) (List.getElem?_eq_some_iff.1 hx).1
  obtain ⟨b, hb, e2⟩:=drop_cons (l:=m) (i:=i) (List.getElem?_eq_some_iff.1 hy).1
  rw [hx] at ha;cases ha
  rw [hy] at hb;cases hb
  rw [e1, e2, Bool.eq_iff_iff]
  simp
theorem same_c (s t : Store) (hs : s.Good) (ht : t.Good) (hl : t.heads.length = s.heads.length) : PureA Tryz.prog 40 [storeA s, storeA t] (boolA (decide (meltL s = meltL t))):=by
  have h6:=hs.len
  have hhl : (s.heads.map headA).length = s.heads.length:=List.length_map ..
  have hm1:=fun i h (hi : s.heads[i]? = some h)=>melt_c s i h hs hi
  have hm2:=fun i h (hi : t.heads[i]? = some h)=>melt_c t i h ht hi
  have hdc:=fun i x y=>eqDrop (l:=meltL s) (m:=meltL t) (i:=i) (x:=x) (y:=y)
  have hg1 : ∀ (i : Nat) (h : Head), s.heads[i]? = some h→(meltL s)[i]? = some (h.melt s.fade 0):=fun i h hi=>by unfold meltL;rw [List.getElem?_map, hi];rfl
  have hg2 : ∀ (i : Nat) (h : Head), t.heads[i]? = some h→(meltL t)[i]? = some (h.melt t.fade 0):=fun i h hi=>by unfold meltL;rw [List.getElem?_map, hi];rfl
  have hend : decide ((meltL s).drop s.heads.length = (meltL t).drop s.heads.length) = true:=by
    rw [List.drop_eq_nil_of_le (by unfold meltL;simp), List.drop_eq_nil_of_le (by unfold meltL;simp;omega)]
    simp
  obtain ⟨R, hR⟩ : ∃ R : Bool, R = decide ((meltL s).drop 0 = (meltL t).drop 0):=⟨_, rfl⟩
  rw [show decide (meltL s = meltL t) = R by rw [hR, List.drop_zero, List.drop_zero]]
  obtain ⟨D, hD⟩ : ∃ D : Nat→Bool, ∀ i, decide ((meltL s).drop i = (meltL t).drop i) = D i:=⟨fun i=>decide ((meltL s).drop i = (meltL t).drop i), fun _=>rfl⟩
  simp only [hD] at hR hdc hend
  clear hD
  refine pureA_codeB tabOk { l:=0, f:=40 } mixed call_40 Tryz.func40 (by kernel_rfl) ?_
  conv=>whnf
  refine loopK tabOk { l:=0, f:=40 } mixed (fun i : Nat=>[(5, intA i)]) (fun _=>[]) (fun _=>[]) (fun i=>i ≤ s.heads.length∧R = D i) (fun i=>s.heads.length - i) 0 (by kernel_rfl)
    ⟨Nat.zero_le _, hR⟩ ?_
  conv=>whnf
  refine ⟨⟨slotsLe_cons rfl trivial, trivial, trivial⟩, ?_⟩
  clear hR
  intro i ⟨hi, H⟩
  by_cases hlt : i < s.heads.length
  · obtain ⟨x, hx, _⟩:=drop_cons (l:=s.heads) (i:=i) hlt
    obtain ⟨y, hy, _⟩:=drop_cons (l:=t.heads) (i:=i) (by omega)
    have h1:=hm1 i x hx
    have h2:=hm2 i y hy
    rw [hdc i _ _ (hg1 i x hx) (hg2 i y hy)] at H
    generalize x.melt s.fade 0 = a at *
    generalize y.melt t.fade 0 = b at *
    clear hdc hg1 hg2 hm1 hm2
    obtain ⟨a1, a2, a3⟩:=a
    obtain ⟨b1, b2, b3⟩:=b
    have hE : eqL (amtsV [⟨a1, a2, a3⟩]) (amtsV [⟨b1, b2, b3⟩]) = decide ((⟨a1, a2, a3⟩ : Amt) = ⟨b1, b2, b3⟩):=by
      rw [amts_eqL];simp
    by_cases q : (⟨a1, a2, a3⟩ : Amt) = ⟨b1, b2, b3⟩
    · rw [decide_eq_true q] at hE H
      rw [Bool.true_and] at H
      conv=>whnf
      repeat (any_goals (first|exact falseI|((first|refine bd ?_ ?_|refine bn ?_ ?_)<;>intro _<;>first|(exfalso;omega)|conv=>whnf)|((first|refine callP_a h1 ?_|refine callP_a h2 ?_|refine brP_true hE ?_|refine brP_not (brP_true hE ?_)|refine dI ?_|refine okI ?_|refine bt ?_|refine bi (fun _=>?_) (fun _=>?_)|refine bndI ?_|intro _)<;>conv=>whnf)))
      (refine ⟨i + 1, ⟨by omega, H⟩, (by omega), ?_⟩;(conv=>whnf);refine ⟨?_, ?_, ?_⟩<;>repeat (first|exact trivial|refine sc rfl ?_|refine kn ?_|refine kc rfl ?_|refine sc (by rfl) ?_|refine kc (by rfl) ?_))
    · rw [decide_eq_false q] at hE H
      rw [Bool.false_and] at H
      subst H
      conv=>whnf
      repeat (any_goals (first|exact falseI|((first|refine bd ?_ ?_|refine bn ?_ ?_)<;>intro _<;>first|(exfalso;omega)|conv=>whnf)|((first|refine callP_a h1 ?_|refine callP_a h2 ?_|refine brP_false hE ?_|refine brP_not (brP_false hE ?_)|refine dI ?_|refine okI ?_|refine bt ?_|refine bi (fun _=>?_) (fun _=>?_)|refine bndI ?_|intro _)<;>conv=>whnf)))
      (refine ⟨⟨?_⟩, trivial⟩;rfl)
  · have : i = s.heads.length:=by omega
    subst this
    rw [hend] at H
    subst H
    conv=>whnf
    repeat (any_goals (first|exact falseI|((first|refine bd ?_ ?_|refine bn ?_ ?_)<;>intro _<;>first|(exfalso;omega)|conv=>whnf)|((first|refine dI ?_|refine okI ?_|refine bt ?_|refine bi (fun _=>?_) (fun _=>?_)|refine bndI ?_|intro _)<;>conv=>whnf)))
    (refine ⟨⟨?_⟩, trivial⟩;rfl)
end Go.Proofs.YtbpiibdcncfphaaGreatDoor
namespace Go.Proofs.YtbpiibdcncfphaaGreatDoor
open Go.Am Go.Proofs Go
theorem runtilE_c (s : Store) (hr : s.small) (hc : s.check.2.2 ≠ 0) : PureA Tryz.prog 18 [storeA s] (duoA (0, s.check.2.2)):=by
  have hk:=refCheck_c s hr
  unfold triA duoA at *
  generalize s.check = c at *
  obtain ⟨c1, c2, c3⟩:=c
  simp only at hk hc ⊢
  refine pureA_codeB tabOk { l:=0, f:=18 } mixed call_18 Tryz.func18 (by kernel_rfl) ?_
  conv=>whnf
  repeat (any_goals (first|exact falseI|((first|refine bd ?_ ?_|refine bn ?_ ?_)<;>intro _<;>first|(exfalso;omega)|conv=>whnf)|((first|refine callP_a hk ?_|refine dI ?_|refine okI ?_|refine bt ?_|refine bi (fun _=>?_) (fun _=>?_)|refine bndI ?_|intro _)<;>conv=>whnf)))
  (refine ⟨⟨?_⟩, trivial⟩;rfl)
theorem rsomeAt_c {s : Store} (hc : s.check.2.2 = 0) (d : Int) (h0 : 0 ≤ d∧d ≤ 400) : PureA Tryz.prog 20 [storeA (s.later d)] (boolA (s.someAt d)):=by
  have hg:=later_good hc h0
  have:=rsome_c (s.later d) hg
  rw [any_allI hg.len, later_some] at this
  exact this
theorem runtilN_c (s : Store) (hr : s.small) (hc : s.check.2.2 = 0) (hs : s.someAt 0 = false) : PureA Tryz.prog 18 [storeA s] (duoA (0, 9)):=by
  have hk:=refCheck_c s hr
  have hso:=rsomeAt_c hc 0 (by decide)
  rw [later_zero, hs] at hso
  unfold triA duoA at *
  rw [hc] at hk
  generalize s.check.1 = k1 at *
  generalize s.check.2.1 = k2 at *
  refine pureA_codeB tabOk { l:=0, f:=18 } mixed call_18 Tryz.func18 (by kernel_rfl) ?_
  conv=>whnf
  repeat (any_goals (first|exact falseI|((first|refine bd ?_ ?_|refine bn ?_ ?_)<;>intro _<;>first|(exfalso;omega)|conv=>whnf)|((first|refine callP_a hk ?_|refine callP_a hso ?_|refine dI ?_|refine okI ?_|refine bt ?_|refine bi (fun _=>?_) (fun _=>?_)|refine bndI ?_|intro _)<;>conv=>whnf)))
  (refine ⟨⟨?_⟩, trivial⟩;rfl)
set_option maxHeartbeats 4000000 in
theorem runtilT_c (s : Store) (hr : s.small) (hc : s.check.2.2 = 0) (hs : s.someAt 0 = true) : PureA Tryz.prog 18 [storeA s] (duoA (s.untilF 364 1 0)):=by
  have hk:=refCheck_c s hr
  have hso:=rsomeAt_c hc 0 (by decide)
  rw [later_zero, hs] at hso
  have hg:=Store.good hc
  have hd:=check_days hc
  have hla:=fun (d : Nat) (h : d ≤ 400)=>later_c s d hg.len (fun h hh=>by have:=hd h hh;omega) (by omega)
  have hsa:=fun (d : Nat) (h : d ≤ 400)=>rsomeAt_c hc (d : Int) (by omega)
  have hsm:=fun (d d0 : Nat) (h : d ≤ 400) (h0 : d0 ≤ 400)=>same_c (s.later d) (s.later d0) (later_good hc (by omega)) (later_good hc (by omega)) (by show (s.heads.map _).length = (s.heads.map _).length;simp)
  have hme : ∀ d d0 : Nat, decide (meltL (s.later d) = meltL (s.later d0)) = decide (s.melts d = s.melts d0):=by
    intro d d0
    rw [← later_melts s d, ← later_melts s d0, Bool.eq_iff_iff, decide_eq_true_eq, decide_eq_true_eq]
    exact meltL_eq (s:=s.later d) (t:=s.later d0) (by show (s.heads.map _).length = (s.heads.map _).length;simp)
  simp only [hme] at hsm
  have hF0 : ∀ d d0, s.untilF 0 d d0 = (0, 4):=fun _ _=>rfl
  have hF : ∀ f (d d0 : Nat), s.untilF (f + 1) d d0 = if s.melts d = s.melts d0 then s.untilF f (d + 1) d0 else if s.someAt d = true then s.untilF f (d + 1) d else ((d : Int), 0):=fun _ _ _=>rfl
  unfold triA at hk
  rw [hc] at hk
  generalize s.check.1 = k1 at *
  generalize s.check.2.1 = k2 at *
  have hz : s.later ((0 : Nat) : Int) = s:=later_zero s
  obtain ⟨R, hR⟩ : ∃ R, R = s.untilF 364 1 0:=⟨_, rfl⟩
  rw [← hR]
  unfold duoA
  obtain ⟨T, hT⟩ : ∃ T : Nat→Store, ∀ d : Nat, s.later (d : Int) = T d:=⟨fun d=>s.later (d : Int), fun _=>rfl⟩
  simp only [hT] at hla hsa hsm hz
  clear hT hme hg hd hs hc
  refine pureA_codeB tabOk { l:=0, f:=18 } mixed call_18 Tryz.func18 (by kernel_rfl) ?_
  conv=>whnf
  repeat (any_goals (first|exact falseI|((first|refine bd ?_ ?_|refine bn ?_ ?_)<;>intro _<;>first|(exfalso;omega)|conv=>whnf)|((first|refine callP_a hk ?_|refine callP_a hso ?_|refine dI ?_|refine okI ?_|refine bt ?_|refine bi (fun _=>?_) (fun _=>?_)|refine bndI ?_|intro _)<;>conv=>whnf)))
  refine loopK tabOk { l:=0, f:=18 } mixed (fun x : Nat × Nat=>[(8, intA x.1)]) (fun x=>[(⟨0, 18, 7⟩, some (1, some (6, [storeA (T x.2)])))]) (fun _=>[]) (fun x=>x.1 ≤ 365∧x.2 < x.1∧R = s.untilF (365 - x.1) x.1 x.2) (fun x=>365 - x.1) (1, 0) (by kernel_rfl)
    ⟨by decide, by decide, hR⟩ ?_
  conv=>whnf
  refine ⟨⟨slotsLe_cons rfl trivial, keysLe_cons (by rw [hz];rfl) trivial, trivial⟩, ?_⟩
  clear hR
  intro ⟨d, d0⟩ ⟨hi, hj, H⟩
  simp only at hi hj H
  by_cases hlt : d ≤ 364
  · obtain ⟨f, hf⟩ : ∃ f, 365 - d = f + 1:=⟨364 - d, by omega⟩
    rw [hf, hF] at H
    have h1:=hla d (by omega)
    have h2:=hsa d (by omega)
    have h3:=hsm d d0 (by omega) (by omega)
    clear hla hsa hsm
    by_cases q : s.melts d = s.melts d0
    · rw [decide_eq_true q] at h3
      rw [if_pos q] at H
      conv=>whnf
      repeat (any_goals (first|exact falseI|((first|refine bd ?_ ?_|refine bn ?_ ?_)<;>intro _<;>first|(exfalso;omega)|conv=>whnf)|((first|refine callP_a h1 ?_|refine callP_a h3 ?_|refine dI ?_|refine okI ?_|refine bt ?_|refine bi (fun _=>?_) (fun _=>?_)|refine bndI ?_|intro _)<;>conv=>whnf)))
      (refine ⟨(d + 1, d0), ⟨by simp only;omega, by simp only;omega, by simp only;rw [show 365 - (d + 1) = f by omega];exact H⟩, (by simp only;omega), ?_⟩;(conv=>whnf);refine ⟨?_, ?_, ?_⟩<;>repeat (first|exact trivial|refine sc rfl ?_|refine kn ?_|refine kc rfl ?_|refine sc (by rfl) ?_|refine kc (by rfl) ?_))
    · rw [decide_eq_false q] at h3
      rw [if_neg q] at H
      cases hb : s.someAt d with
      | true =>
        rw [hb] at h2 H
        simp only [if_true] at H
        conv=>whnf
        repeat (any_goals (first|exact falseI|((first|refine bd ?_ ?_|refine bn ?_ ?_)<;>intro _<;>first|(exfalso;omega)|conv=>whnf)|((first|refine callP_a h1 ?_|refine callP_a h3 ?_|refine callP_a h2 ?_|refine dI ?_|refine okI ?_|refine bt ?_|refine bi (fun _=>?_) (fun _=>?_)|refine bndI ?_|intro _)<;>conv=>whnf)))
        (refine ⟨(d + 1, d), ⟨by simp only;omega, by simp only;omega, by simp only;rw [show 365 - (d + 1) = f by omega];exact H⟩, (by simp only;omega), ?_⟩;(conv=>whnf);refine ⟨?_, ?_, ?_⟩<;>repeat (first|exact trivial|refine sc rfl ?_|refine kn ?_|refine kc rfl ?_|refine sc (by rfl) ?_|refine kc (by rfl) ?_))
      | false =>
        rw [hb] at h2 H
        simp only [Bool.false_eq_true, if_false] at H
        subst H
        conv=>whnf
        repeat (any_goals (first|exact falseI|((first|refine bd ?_ ?_|refine bn ?_ ?_)<;>intro _<;>first|(exfalso;omega)|conv=>whnf)|((first|refine callP_a h1 ?_|refine callP_a h3 ?_|refine callP_a h2 ?_|refine dI ?_|refine okI ?_|refine bt ?_|refine bi (fun _=>?_) (fun _=>?_)|refine bndI ?_|intro _)<;>conv=>whnf)))
        (refine ⟨⟨?_⟩, trivial⟩;rfl)
  · have : d = 365:=by omega
    subst this
    simp only [Nat.sub_self, hF0] at H
    subst H
    conv=>whnf
    repeat (any_goals (first|exact falseI|((first|refine bd ?_ ?_|refine bn ?_ ?_)<;>intro _<;>first|(exfalso;omega)|conv=>whnf)|((first|refine dI ?_|refine okI ?_|refine bt ?_|refine bi (fun _=>?_) (fun _=>?_)|refine bndI ?_|intro _)<;>conv=>whnf)))
    (refine ⟨⟨?_⟩, trivial⟩;rfl)
theorem runtilTop_c (s : Store) (hr : s.small) : PureA Tryz.prog 18 [storeA s] (duoA s.untilR):=by
  unfold Store.untilR
  by_cases hc : s.check.2.2 = 0
  · rw [if_neg (fun h=>h hc)]
    by_cases hs : s.someAt 0 = true
    · rw [if_pos hs];exact runtilT_c s hr hc hs
    · rw [if_neg hs];exact runtilN_c s hr hc (Bool.eq_false_iff.2 hs)
  · rw [if_pos hc]
    exact runtilE_c s hr hc
theorem WaxLacks_c (s : Store) (hr : s.small) : PureA Tryz.prog 4 [storeA s] (boolA true):=by
  have aw:=Awake_c
  have l1:=lackTop_c s hr
  have l2:=rlackTop_c s hr
  have u1:=untilTop_c s hr
  have u2:=runtilTop_c s hr
  unfold triA at l1 l2
  unfold duoA at u1 u2
  generalize s.lackR = L at *
  generalize s.untilR = U at *
  obtain ⟨a, b, c⟩:=L
  obtain ⟨d, e⟩:=U
  refine pureA_codeB tabOk { l:=0, f:=4 } mixed call_4 Tryz.func4 (by kernel_rfl) ?_
  conv=>whnf
  repeat (any_goals (first|exact falseI|((first|refine bd ?_ ?_|refine bn ?_ ?_)<;>intro _<;>first|(exfalso;omega)|conv=>whnf)|((first|refine callP_a l1 ?_|refine callP_a l2 ?_|refine callP_a u1 ?_|refine callP_a u2 ?_|refine callP_a aw ?_|refine dI ?_|refine okI ?_|refine bt ?_|refine bi (fun _=>?_) (fun _=>?_)|refine bndI ?_|intro _)<;>conv=>whnf)))
  (refine ⟨⟨?_⟩, trivial⟩;rfl)
end Go.Proofs.YtbpiibdcncfphaaGreatDoor
namespace Go.Proofs.YtbpiibdcncfphaaGreatDoor
open Go.Am Go.Proofs Go
def u16A (n : Int) : AV:=.v (.int .u16 n)
theorem someAt_melts {s : Store} {d e : Nat} (h : s.melts d = s.melts e) : s.someAt d = s.someAt e:=by
  unfold Store.someAt Store.okAt Store.baseOf
  rw [h]
theorem untilF_spec {s : Store} : ∀ (f day d0 : Nat), day + f = 365→d0 < day→(∀ j : Nat, j < day→s.someAt j = true) →
    (s.untilF f day d0 = (0, 4)∧∀ j : Nat, j ≤ 364→s.someAt j = true)∨∃ d : Nat, day ≤ d∧d ≤ 364∧s.untilF f day d0 = ((d : Int), 0)∧s.someAt d = false∧∀ j : Nat, j < d→s.someAt j = true
  | 0, day, d0, h, _, hj=>.inl ⟨rfl, fun j hj'=>hj j (by omega)⟩
  | f + 1, day, d0, h, h0, hj=>by
    unfold Store.untilF
    by_cases q : s.melts day = s.melts d0
    · rw [if_pos q]
      have hs : s.someAt day = true:=by rw [someAt_melts q];exact hj d0 h0
      rcases untilF_spec f (day + 1) d0 (by omega) (by omega) (fun j hj'=>by
        by_cases e : j = day
        · subst e;exact hs
        · exact hj j (by omega)) with h|⟨d, a, b, c⟩
      · exact .inl h
      · exact .inr ⟨d, by omega, b, c⟩
    · rw [if_neg q]
      by_cases hs : s.someAt day = true
      · rw [if_pos hs]
        rcases untilF_spec f (day + 1) day (by omega) (by omega) (fun j hj'=>by
          by_cases e : j = day
          · subst e;exact hs
          · exact hj j (by omega)) with h|⟨d, a, b, c⟩
        · exact .inl h
        · exact .inr ⟨d, by omega, b, c⟩
      · rw [if_neg hs]
        exact .inr ⟨day, Nat.le_refl _, by omega, rfl, Bool.eq_false_iff.2 hs, hj⟩
theorem some_pour {s : Store} (hr : s.small) (hc : s.check.2.2 = 0) :
    ∃ (l : List Int) (a : Amt), PureA Tryz.prog 6 [storeA s] (.tuple [intsA l, amtA a, intA (if s.someAt 0 = true then 0 else 9)]):=by
  have hp:=pourTop_c s hr
  unfold Store.pourR pourA at hp
  rw [if_neg (fun h=>h hc)] at hp
  unfold Store.someAt
  cases hF : s.sorted.find? (s.okAt 0) with
  | none =>
    rw [hF] at hp
    rw [if_neg]
    · exact ⟨_, _, hp⟩
    · rw [List.find?_eq_none] at hF
      intro h
      obtain ⟨x, hx, h⟩:=List.any_eq_true.1 h
      exact hF x hx h
  | some n =>
    rw [hF] at hp
    obtain ⟨h1, h2⟩:=find_mem hF
    rw [if_pos (List.any_eq_true.2 ⟨n, h1, h2⟩)]
    exact ⟨_, _, hp⟩
theorem fadedE_c (s : Store) (w : Int) (hr : s.small) (hc : s.check.2.2 ≠ 0) : PureA Tryz.prog 5 [storeA s, u16A w] (boolA true):=by
  have hu:=untilTop_c s hr
  have hv:=valid_c s hr
  have aw:=Awake_c
  unfold Store.untilR duoA at hu
  rw [if_pos hc] at hu
  rw [decide_eq_false hc] at hv
  generalize s.check.2.2 = c at *
  refine pureA_codeB tabOk { l:=0, f:=5 } mixed call_5 Tryz.func5 (by kernel_rfl) ?_
  conv=>whnf
  repeat (any_goals (first|exact falseI|((first|refine bd ?_ ?_|refine bn ?_ ?_)<;>intro _<;>first|(exfalso;omega)|conv=>whnf)|((first|refine callP_a hu ?_|refine callP_a hv ?_|refine callP_a aw ?_|refine dI ?_|refine okI ?_|refine bt ?_|refine bi (fun _=>?_) (fun _=>?_)|refine bndI ?_|intro _)<;>conv=>whnf)))
  (refine ⟨⟨?_⟩, trivial⟩;rfl)
theorem fadedN_c (s : Store) (w : Int) (hr : s.small) (hc : s.check.2.2 = 0) (hs : s.someAt 0 = false) : PureA Tryz.prog 5 [storeA s, u16A w] (boolA true):=by
  have hu:=untilTop_c s hr
  have hv:=valid_c s hr
  have aw:=Awake_c
  obtain ⟨l, ⟨a1, a2, a3⟩, hp⟩:=some_pour hr hc
  unfold Store.untilR duoA at hu
  rw [if_neg (fun h=>h hc), hs, if_neg (by simp)] at hu
  rw [hs, if_neg (by simp)] at hp
  rw [decide_eq_true hc] at hv
  refine pureA_codeB tabOk { l:=0, f:=5 } mixed call_5 Tryz.func5 (by kernel_rfl) ?_
  conv=>whnf
  repeat (any_goals (first|exact falseI|((first|refine bd ?_ ?_|refine bn ?_ ?_)<;>intro _<;>first|(exfalso;omega)|conv=>whnf)|((first|refine callP_a hu ?_|refine callP_a hv ?_|refine callP_a hp ?_|refine callP_a aw ?_|refine dI ?_|refine okI ?_|refine bt ?_|refine bi (fun _=>?_) (fun _=>?_)|refine bndI ?_|intro _)<;>conv=>whnf)))
  (refine ⟨⟨?_⟩, trivial⟩;rfl)
set_option maxHeartbeats 4000000 in
set_option maxRecDepth 100000 in
theorem fadedT_c (s : Store) (w d e : Int) (last : Nat) (hw : 0 ≤ w∧w ≤ 65535) (hr : s.small) (hc : s.check.2.2 = 0) (hs : s.someAt 0 = true) (hu : PureA Tryz.prog 17 [storeA s] (duoA (d, e)))
    (hE : (e = 4∧d = 0∧last = 364)∨(e = 0∧1 ≤ d∧d ≤ 364∧(last : Int) = d - 1∧s.someAt d = false)) (hall : ∀ j : Nat, j ≤ last→s.someAt j = true) : PureA Tryz.prog 5 [storeA s, u16A w] (boolA true):=by
  have hv:=valid_c s hr
  have aw:=Awake_c
  have hg:=Store.good hc
  have hd:=check_days hc
  obtain ⟨l, ⟨a1, a2, a3⟩, hp⟩:=some_pour hr hc
  rw [hs, if_pos rfl] at hp
  rw [decide_eq_true hc] at hv
  unfold duoA at hu
  have hla:=fun (d : Int) (h : 0 ≤ d∧d ≤ 400)=>later_c s d hg.len (fun h hh=>by have:=hd h hh;omega) (by omega)
  have hsa:=fun (d : Int) (h : 0 ≤ d∧d ≤ 400)=>rsomeAt_c hc d h
  have hl364 : last ≤ 364:=by omega
  have hm0:=Int.tmod_nonneg ((last : Int) + 1) hw.1
  have hm1:=Int.tmod_lt_of_pos w (show (0 : Int) < (last : Int) + 1 by omega)
  obtain ⟨m, hm⟩ : ∃ m : Nat, w.tmod ((last : Int) + 1) = m:=⟨(w.tmod ((last : Int) + 1)).toNat, by omega⟩
  have hmt:=hla m (by omega)
  have hms:=hsa m (by omega)
  rw [hall m (by omega)] at hms
  have hvt:=valid_c (s.later m) (later_small hr m)
  have hpt : (s.later m).check.2.2 = 0→_:=fun hct=>some_pour (later_small hr m) hct
  rw [later_some, hall m (by omega), if_pos rfl] at hpt
  rcases hE with ⟨rfl, rfl, rfl⟩|⟨rfl, h1, h2, h3, h4⟩
  · by_cases hct : (s.later m).check.2.2 = 0
    · rw [decide_eq_true hct] at hvt
      obtain ⟨l2, ⟨b1, b2, b3⟩, hpt⟩:=hpt hct
      generalize s.later m = T at *
      clear hla hsa hall
      rw [← hm] at hmt
      refine pureA_codeB tabOk { l:=0, f:=5 } mixed call_5 Tryz.func5 (by kernel_rfl) ?_
      conv=>whnf
      repeat (any_goals (first|exact falseI|((first|refine bd ?_ ?_|refine bn ?_ ?_)<;>intro _<;>first|(exfalso;omega)|conv=>whnf)|((first|refine callP_a hu ?_|refine callP_a hv ?_|refine callP_a hp ?_|refine callP_a hmt ?_|refine callP_a hms ?_|refine callP_a hvt ?_|refine callP_a hpt ?_|refine callP_a aw ?_|refine dI ?_|refine okI ?_|refine bt ?_|refine bi (fun _=>?_) (fun _=>?_)|refine bndI ?_|intro _)<;>conv=>whnf)))
      (refine ⟨⟨?_⟩, trivial⟩;rfl)
    · rw [decide_eq_false hct] at hvt
      generalize s.later m = T at *
      clear hla hsa hall
      rw [← hm] at hmt
      refine pureA_codeB tabOk { l:=0, f:=5 } mixed call_5 Tryz.func5 (by kernel_rfl) ?_
      conv=>whnf
      repeat (any_goals (first|exact falseI|((first|refine bd ?_ ?_|refine bn ?_ ?_)<;>intro _<;>first|(exfalso;omega)|conv=>whnf)|((first|refine callP_a hu ?_|refine callP_a hv ?_|refine callP_a hp ?_|refine callP_a hmt ?_|refine callP_a hms ?_|refine callP_a hvt ?_|refine callP_a aw ?_|refine dI ?_|refine okI ?_|refine bt ?_|refine bi (fun _=>?_) (fun _=>?_)|refine bndI ?_|intro _)<;>conv=>whnf)))
      (refine ⟨⟨?_⟩, trivial⟩;rfl)
  · have hld:=hla d (by omega)
    have hsd:=hsa d (by omega)
    rw [h4] at hsd
    rw [h3] at hm
    by_cases hct : (s.later m).check.2.2 = 0
    · rw [decide_eq_true hct] at hvt
      obtain ⟨l2, ⟨b1, b2, b3⟩, hpt⟩:=hpt hct
      generalize s.later m = T at *
      clear hla hsa hall
      rw [← hm] at hmt
      generalize s.later d = D at *
      refine pureA_codeB tabOk { l:=0, f:=5 } mixed call_5 Tryz.func5 (by kernel_rfl) ?_
      conv=>whnf
      repeat (any_goals (first|exact falseI|((first|refine bd ?_ ?_|refine bn ?_ ?_)<;>intro _<;>first|(exfalso;omega)|conv=>whnf)|((first|refine callP_a hu ?_|refine callP_a hv ?_|refine callP_a hp ?_|refine callP_a hld ?_|refine callP_a hsd ?_|refine callP_a hmt ?_|refine callP_a hms ?_|refine callP_a hvt ?_|refine callP_a hpt ?_|refine callP_a aw ?_|refine dI ?_|refine okI ?_|refine bt ?_|refine bi (fun _=>?_) (fun _=>?_)|refine bndI ?_|intro _)<;>conv=>whnf)))
      (refine ⟨⟨?_⟩, trivial⟩;rfl)
    · rw [decide_eq_false hct] at hvt
      generalize s.later m = T at *
      clear hla hsa hall
      rw [← hm] at hmt
      generalize s.later d = D at *
      refine pureA_codeB tabOk { l:=0, f:=5 } mixed call_5 Tryz.func5 (by kernel_rfl) ?_
      conv=>whnf
      repeat (any_goals (first|exact falseI|((first|refine bd ?_ ?_|refine bn ?_ ?_)<;>intro _<;>first|(exfalso;omega)|conv=>whnf)|((first|refine callP_a hu ?_|refine callP_a hv ?_|refine callP_a hp ?_|refine callP_a hld ?_|refine callP_a hsd ?_|refine callP_a hmt ?_|refine callP_a hms ?_|refine callP_a hvt ?_|refine callP_a aw ?_|refine dI ?_|refine okI ?_|refine bt ?_|refine bi (fun _=>?_) (fun _=>?_)|refine bndI ?_|intro _)<;>conv=>whnf)))
      (refine ⟨⟨?_⟩, trivial⟩;rfl)
theorem WaxFaded_c (s : Store) (w : Int) (hr : s.small) (hw : 0 ≤ w∧w ≤ 65535) : PureA Tryz.prog 5 [storeA s, u16A w] (boolA true):=by
  by_cases hc : s.check.2.2 = 0
  · by_cases hs : s.someAt 0 = true
    · have hu:=untilTop_c s hr
      unfold Store.untilR at hu
      rw [if_neg (fun h=>h hc), if_pos hs] at hu
      rcases untilF_spec (s:=s) 364 1 0 rfl (by decide) (fun j hj=>by
        obtain rfl : j = 0:=by omega
        exact hs) with ⟨a, b⟩|⟨d, a, b, c, e, f⟩
      · rw [a] at hu
        exact fadedT_c s w 0 4 364 hw hr hc hs hu (.inl ⟨rfl, rfl, rfl⟩) b
      · rw [c] at hu
        exact fadedT_c s w d 0 (d - 1) hw hr hc hs hu (.inr ⟨rfl, by omega, by omega, by omega, e⟩) (fun j hj=>f j (by omega))
    · exact fadedN_c s w hr hc (Bool.eq_false_iff.2 hs)
  · exact fadedE_c s w hr hc
end Go.Proofs.YtbpiibdcncfphaaGreatDoor
