/- Part 5 of the texts that the last one stands on. -/
import Derived.Test.YtbpiibdcncfphaaGreatDoorA4
set_option linter.unusedVariables false
set_option linter.unusedSimpArgs false
namespace Go.Proofs.YtbpiibdcncfphaaGreatDoor
open Go.Am Go.Proofs Go
def eqAll {α : Type} (p : α→α→Bool) : List α→List α→Bool
  | [], []=>true
  | x :: xs, y :: ys=>p x y && eqAll p xs ys
  | _, _=>false
theorem eqAll_len {α : Type} (p : α→α→Bool) : ∀ a b : List α, a.length ≠ b.length→eqAll p a b = false
  | [], [], h=>absurd rfl h
  | [], y :: ys, _=>rfl
  | x :: xs, [], _=>rfl
  | x :: xs, y :: ys, h=>by simp only [eqAll, eqAll_len p xs ys (by simpa using h), Bool.and_false]
theorem eqAll_dec {α : Type} (p : α→α→Bool) (a b : List α) : eqAll p a b = (decide ((a.length : Int) = b.length) && eqAll p a b):=by
  by_cases h : a.length = b.length
  · simp [h]
  · rw [eqAll_len _ a b h, Bool.and_false]
theorem ints_c (a b : List Int) (ha : a.length ≤ 1048576) (hb : b.length ≤ 1048576) : PureA Tryz.prog 8 [intsA a, intsA b] (boolA (eqAll (fun x y : Int=>decide (x = y)) a b)):=by
  have hlen : decide ((a.length : Int) = b.length) = true→a.length = b.length:=by simp;omega
  obtain ⟨R, hRe⟩ : ∃ R, R = eqAll (fun x y : Int=>decide (x = y)) a b:=⟨_, rfl⟩
  rw [← hRe]
  have hR : R = (decide ((a.length : Int) = b.length) && eqAll (fun x y : Int=>decide (x = y)) a b):=by rw [hRe];exact eqAll_dec (fun x y : Int=>decide (x = y)) a b
  clear hRe
  refine pureA_codeB tabOk { l:=0, f:=8 } mixed call_8 Tryz.func8 (by kernel_rfl) ?_
  conv=>whnf
  refine loopK tabOk { l:=0, f:=8 } mixed (fun x : Nat × Bool=>[(6, intA x.1), (5, boolA x.2)]) (fun _=>[]) (fun _=>[]) (fun x=>x.1 ≤ a.length∧(x.2 = true→a.length = b.length)∧R = (x.2 && eqAll (fun x y : Int=>decide (x = y)) (a.drop x.1) (b.drop x.1))) (fun x=>a.length - x.1) (0, decide ((a.length : Int) = b.length)) (by kernel_rfl)
    ⟨Nat.zero_le _, hlen, hR⟩ ?_
  conv=>whnf
  refine ⟨⟨slotsLe_cons rfl (slotsLe_cons (by conv => lhs; whnf
                                              simp [boolA]) trivial), trivial, trivial⟩, ?_⟩
  intro ⟨i, same⟩ ⟨hi, hs, H⟩
  simp only at hi hs H
  cases same
  · conv=>whnf
    repeat (any_goals (first|exact falseI|((first|refine bd ?_ ?_|refine bn ?_ ?_)<;>intro _<;>first|(exfalso;omega)|conv=>whnf)|((first|refine dI ?_|refine okI ?_|refine bt ?_|refine bi (fun _=>?_) (fun _=>?_)|refine bndI ?_|intro _)<;>conv=>whnf)))
    (refine ⟨⟨?_⟩, trivial⟩;rw [H];rfl)
  · have hs:=hs rfl
    rw [Bool.true_and] at H
    conv=>whnf
    refine brP_dec (fun h1=>?_) (fun h1=>?_)
    · simp only [List.length_map] at h1
      obtain ⟨x, hx, hd⟩:=drop_cons (l:=a) (i:=i) (by omega)
      obtain ⟨y, hy, he⟩:=drop_cons (l:=b) (i:=i) (by omega)
      rw [hd, he] at H
      simp only [eqAll] at H
      skip
      conv=>whnf
      repeat (any_goals (first|exact falseI|((first|refine bd ?_ ?_|refine bn ?_ ?_)<;>intro _<;>first|(exfalso;omega)|conv=>whnf)|((first|refine optP_map hx rfl ?_|refine optP_map hy rfl ?_ |refine dI ?_|refine okI ?_|refine bt ?_|refine bi (fun _=>?_) (fun _=>?_)|refine bndI ?_|intro _)<;>conv=>whnf)))
      (refine ⟨(i + 1, (fun x y : Int=>decide (x = y)) x y), ⟨by simp only;omega, fun _=>hs, H⟩, (by simp only;omega), ?_⟩;(conv=>whnf);refine ⟨?_, ?_, ?_⟩<;>repeat (first|exact trivial|refine sc rfl ?_|refine kn ?_|refine kc rfl ?_|refine sc (by rfl) ?_|refine kc (by rfl) ?_))
    · conv=>whnf
      simp only [List.length_map] at h1
      have : i = a.length:=by omega
      subst this
      rw [hs, List.drop_length, ← hs, List.drop_length] at H
      (refine ⟨⟨?_⟩, trivial⟩;rw [H];rfl)
def intssA (l : List (List Int)) : AV:=.slice 1 (l.map intsA) .no
theorem lists_c (a b : List (List Int)) (ha : a.length ≤ 1048576) (hb : b.length ≤ 1048576)(hn : ∀ x ∈ a, x.length ≤ 1048576) (hm : ∀ x ∈ b, x.length ≤ 1048576) : PureA Tryz.prog 11 [intssA a, intssA b] (boolA (eqAll (eqAll (fun x y : Int=>decide (x = y))) a b)):=by
  have hlen : decide ((a.length : Int) = b.length) = true→a.length = b.length:=by simp;omega
  obtain ⟨R, hRe⟩ : ∃ R, R = eqAll (eqAll (fun x y : Int=>decide (x = y))) a b:=⟨_, rfl⟩
  rw [← hRe]
  have hR : R = (decide ((a.length : Int) = b.length) && eqAll (eqAll (fun x y : Int=>decide (x = y))) a b):=by rw [hRe];exact eqAll_dec (eqAll (fun x y : Int=>decide (x = y))) a b
  clear hRe
  refine pureA_codeB tabOk { l:=0, f:=11 } mixed call_11 Tryz.func11 (by kernel_rfl) ?_
  conv=>whnf
  refine loopK tabOk { l:=0, f:=11 } mixed (fun x : Nat × Bool=>[(6, intA x.1), (5, boolA x.2)]) (fun _=>[]) (fun _=>[]) (fun x=>x.1 ≤ a.length∧(x.2 = true→a.length = b.length)∧R = (x.2 && eqAll (eqAll (fun x y : Int=>decide (x = y))) (a.drop x.1) (b.drop x.1))) (fun x=>a.length - x.1) (0, decide ((a.length : Int) = b.length)) (by kernel_rfl)
    ⟨Nat.zero_le _, hlen, hR⟩ ?_
  conv=>whnf
  refine ⟨⟨slotsLe_cons rfl (slotsLe_cons (by conv => lhs; whnf
                                              simp [boolA]) trivial), trivial, trivial⟩, ?_⟩
  intro ⟨i, same⟩ ⟨hi, hs, H⟩
  simp only at hi hs H
  cases same
  · conv=>whnf
    repeat (any_goals (first|exact falseI|((first|refine bd ?_ ?_|refine bn ?_ ?_)<;>intro _<;>first|(exfalso;omega)|conv=>whnf)|((first|refine dI ?_|refine okI ?_|refine bt ?_|refine bi (fun _=>?_) (fun _=>?_)|refine bndI ?_|intro _)<;>conv=>whnf)))
    (refine ⟨⟨?_⟩, trivial⟩;rw [H];rfl)
  · have hs:=hs rfl
    rw [Bool.true_and] at H
    conv=>whnf
    refine brP_dec (fun h1=>?_) (fun h1=>?_)
    · simp only [List.length_map] at h1
      obtain ⟨x, hx, hd⟩:=drop_cons (l:=a) (i:=i) (by omega)
      obtain ⟨y, hy, he⟩:=drop_cons (l:=b) (i:=i) (by omega)
      rw [hd, he] at H
      simp only [eqAll] at H
      have hc:=ints_c x y (hn x (List.mem_of_getElem? hx)) (hm y (List.mem_of_getElem? hy))
      conv=>whnf
      repeat (any_goals (first|exact falseI|((first|refine bd ?_ ?_|refine bn ?_ ?_)<;>intro _<;>first|(exfalso;omega)|conv=>whnf)|((first|refine optP_map hx rfl ?_|refine optP_map hy rfl ?_|refine callP_a hc ?_|refine dI ?_|refine okI ?_|refine bt ?_|refine bi (fun _=>?_) (fun _=>?_)|refine bndI ?_|intro _)<;>conv=>whnf)))
      (refine ⟨(i + 1, (eqAll (fun x y : Int=>decide (x = y))) x y), ⟨by simp only;omega, fun _=>hs, H⟩, (by simp only;omega), ?_⟩;(conv=>whnf);refine ⟨?_, ?_, ?_⟩<;>repeat (first|exact trivial|refine sc rfl ?_|refine kn ?_|refine kc rfl ?_|refine sc (by rfl) ?_|refine kc (by rfl) ?_))
    · conv=>whnf
      simp only [List.length_map] at h1
      have : i = a.length:=by omega
      subst this
      rw [hs, List.drop_length, ← hs, List.drop_length] at H
      (refine ⟨⟨?_⟩, trivial⟩;rw [H];rfl)
def lessL : List Int→List Int→Bool
  | [], []=>false
  | [], _ :: _=>true
  | _ :: _, []=>false
  | x :: xs, y :: ys=>if x = y then lessL xs ys else decide (x < y)
theorem lessL_nil (a b : List Int) (h : a = []∨b = []) : lessL a b = decide (a.length < b.length):=by
  rcases h with rfl|rfl
  · cases b<;>simp [lessL]
  · cases a<;>simp [lessL]
theorem less_c (a b : List Int) (ha : a.length ≤ 1048576) (hb : b.length ≤ 1048576) : PureA Tryz.prog 64 [intsA a, intsA b] (boolA (lessL a b)):=by
  obtain ⟨R, hR⟩ : ∃ R, R = lessL a b:=⟨_, rfl⟩
  rw [← hR]
  refine pureA_codeB tabOk { l:=0, f:=64 } mixed call_64 Tryz.func64 (by kernel_rfl) ?_
  conv=>whnf
  repeat (any_goals (first|exact falseI|((first|refine bd ?_ ?_|refine bn ?_ ?_)<;>intro _<;>first|(exfalso;omega)|conv=>whnf)|((first|refine dI ?_|refine okI ?_|refine bt ?_|refine bi (fun _=>?_) (fun _=>?_)|refine bndI ?_|intro _)<;>conv=>whnf)))
  refine loopK tabOk { l:=0, f:=64 } mixed (fun i : Nat=>[(6, intA i)]) (fun _=>[]) (fun _=>[]) (fun i=>i ≤ a.length∧i ≤ b.length∧R = lessL (a.drop i) (b.drop i)) (fun i=>a.length - i) 0 (by kernel_rfl)
    ⟨Nat.zero_le _, Nat.zero_le _, hR⟩ ?_
  conv=>whnf
  refine ⟨⟨slotsLe_cons rfl trivial, trivial, trivial⟩, ?_⟩
  intro i ⟨hi, hj, H⟩
  conv=>whnf
  refine brP_dec (fun h1=>?_) (fun h1=>?_)
  · simp only [List.length_map] at h1
    rw [pickM_min] at h1
    have h2 : i < a.length∧i < b.length:=by omega
    obtain ⟨x, hx, hd⟩:=drop_cons (l:=a) (i:=i) h2.1
    obtain ⟨y, hy, he⟩:=drop_cons (l:=b) (i:=i) h2.2
    rw [hd, he] at H
    simp only [lessL] at H
    conv=>whnf
    repeat (any_goals (first|exact falseI|((first|refine bd ?_ ?_|refine bn ?_ ?_)<;>intro _<;>first|(exfalso;omega)|conv=>whnf)|((first|refine optP_map hx rfl ?_|refine optP_map hy rfl ?_|refine dI ?_|refine okI ?_|refine bt ?_|refine bi (fun _=>?_) (fun _=>?_)|refine bndI ?_|intro _)<;>conv=>whnf)))
    · rename_i h
      rw [if_pos h] at H
      (refine ⟨i + 1, ⟨by omega, by omega, H⟩, by omega, ?_⟩;(conv=>whnf);refine ⟨?_, ?_, ?_⟩<;>repeat (first|exact trivial|refine sc rfl ?_|refine kn ?_|refine kc rfl ?_))
    · rename_i h
      rw [if_neg h] at H
      (refine ⟨⟨?_⟩, trivial⟩;rw [H];rfl)
  · conv=>whnf
    simp only [List.length_map] at h1
    rw [pickM_min] at h1
    rw [lessL_nil _ _ (by
      by_cases h : i = a.length
      · left;rw [h, List.drop_length]
      · right;rw [List.drop_eq_nil_iff];omega)] at H
    simp only [List.length_drop] at H
    (refine ⟨⟨?_⟩, trivial⟩;simp only [oneOf, boolA, List.length_map];congr 3;rw [H, decide_eq_decide];omega)
theorem hasI_c (l : List Int) (n : Int) (hl : l.length ≤ 1048576) : PureA Tryz.prog 32 [intsA l, intA n] (boolA (l.any (fun x=>decide (x = n)))):=by
  refine pureA_codeB tabOk { l:=0, f:=32 } mixed call_32 Tryz.func32 (by kernel_rfl) ?_
  conv=>whnf
  refine loopK tabOk { l:=0, f:=32 } mixed (fun i : Nat=>[(5, intA i)]) (fun _=>[]) (fun _=>[]) (fun i=>i ≤ l.length∧l.any (fun x=>decide (x = n)) = (l.drop i).any (fun x=>decide (x = n))) (fun i=>l.length - i) 0 (by kernel_rfl)
    ⟨Nat.zero_le _, rfl⟩ ?_
  conv=>whnf
  refine ⟨⟨slotsLe_cons rfl trivial, trivial, trivial⟩, ?_⟩
  intro i ⟨hi, H⟩
  conv=>whnf
  refine brP_dec (fun h1=>?_) (fun h1=>?_)
  · simp only [List.length_map] at h1
    obtain ⟨x, hx, hd⟩:=drop_cons (l:=l) (i:=i) (by omega)
    rw [hd, List.any_cons] at H
    conv=>whnf
    repeat (any_goals (first|exact falseI|((first|refine bd ?_ ?_|refine bn ?_ ?_)<;>intro _<;>first|(exfalso;omega)|conv=>whnf)|((first|refine optP_map hx rfl ?_|refine dI ?_|refine okI ?_|refine bt ?_|refine bi (fun _=>?_) (fun _=>?_)|refine bndI ?_|intro _)<;>conv=>whnf)))
    · rename_i he
      rw [decide_eq_true he, Bool.true_or] at H
      (refine ⟨⟨?_⟩, trivial⟩;rw [H];rfl)
    · rename_i he
      rw [decide_eq_false he, Bool.false_or] at H
      (refine ⟨i + 1, ⟨by omega, H⟩, by omega, ?_⟩;(conv=>whnf);refine ⟨?_, ?_, ?_⟩<;>repeat (first|exact trivial|refine sc rfl ?_|refine kn ?_|refine kc rfl ?_))
  · conv=>whnf
    simp only [List.length_map] at h1
    have : i = l.length:=by omega
    subst this
    rw [List.drop_length] at H
    (refine ⟨⟨?_⟩, trivial⟩;rw [H];rfl)
def cmpI (x y : Int) : Int:=if x < y then -1 else if y < x then 1 else 0
theorem isNaN_c (x : Int) : PureA Tryz.prog 106 [intA x] (boolA false):=by
  refine pureA_codeB tabOk { l:=0, f:=106 } mixed call_106 Tryz.func106 (by kernel_rfl) ?_
  conv=>whnf
  (refine ⟨⟨?_⟩, trivial⟩;simp [oneOf, boolA])
theorem cmpI_c (x y : Int) : PureA Tryz.prog 85 [intA x, intA y] (intA (cmpI x y)):=by
  have hx:=isNaN_c x
  have hy:=isNaN_c y
  unfold cmpI
  refine pureA_codeB tabOk { l:=0, f:=85 } mixed call_85 Tryz.func85 (by kernel_rfl) ?_
  conv=>whnf
  repeat (any_goals (first|exact falseI|((first|refine bd ?_ ?_|refine bn ?_ ?_)<;>intro _<;>first|(exfalso;omega)|conv=>whnf)|((first|refine callP_a hx ?_|refine callP_a hy ?_|refine dI ?_|refine okI ?_|refine bt ?_|refine bi (fun _=>?_) (fun _=>?_)|refine bndI ?_|intro _)<;>conv=>whnf)))
  all_goals
    refine ⟨⟨?_⟩, trivial⟩
    show intA (if x < y then -1 else if y < x then 1 else 0) = intA _
    congr 1
    split
    · omega
    · first|rfl|(split<;>omega)
def cmpL : List Int→List Int→Int
  | [], []=>0
  | [], _ :: _=>-1
  | _ :: _, []=>1
  | x :: xs, y :: ys=>if cmpI x y = 0 then cmpL xs ys else cmpI x y
theorem cmpL_c (a b : List Int) (ha : a.length ≤ 1048576) (hb : b.length ≤ 1048576) : PureA Tryz.prog 50 [intsA a, intsA b] (intA (cmpL a b)):=by
  have hbl : (b.map intA).length = b.length:=List.length_map ..
  refine pureA_codeB tabOk { l:=0, f:=50 } mixed call_50 Tryz.func50 (by kernel_rfl) ?_
  conv=>whnf
  refine loopK tabOk { l:=0, f:=50 } mixed (fun i : Nat=>[(11, intA i)]) (fun _=>[]) (fun _=>[]) (fun i=>i ≤ a.length∧i ≤ b.length∧cmpL a b = cmpL (a.drop i) (b.drop i)) (fun i=>a.length - i) 0 (by kernel_rfl)
    ⟨Nat.zero_le _, Nat.zero_le _, rfl⟩ ?_
  conv=>whnf
  refine ⟨⟨slotsLe_cons rfl trivial, trivial, trivial⟩, ?_⟩
  intro i ⟨hi, hj, H⟩
  generalize cmpL a b = R at *
  conv=>whnf
  refine brP_dec (fun h1=>?_) (fun h1=>?_)
  · simp only [List.length_map] at h1
    obtain ⟨x, hx, hd⟩:=drop_cons (l:=a) (i:=i) (by omega)
    rw [hd] at H
    by_cases hib : i = b.length
    · rw [hib, List.drop_length] at H
      simp only [cmpL] at H
      conv=>whnf
      repeat (any_goals (first|exact falseI|((first|refine bd ?_ ?_|refine bn ?_ ?_)<;>intro _<;>first|(exfalso;omega)|conv=>whnf)|((first|refine optP_map hx rfl ?_|refine dI ?_|refine okI ?_|refine bt ?_|refine bi (fun _=>?_) (fun _=>?_)|refine bndI ?_|intro _)<;>conv=>whnf)))
      (refine ⟨⟨?_⟩, trivial⟩;rw [H];rfl)
    · obtain ⟨y, hy, he⟩:=drop_cons (l:=b) (i:=i) (by omega)
      rw [he] at H
      simp only [cmpL] at H
      have hc:=cmpI_c x y
      generalize cmpI x y = c at *
      conv=>whnf
      repeat (any_goals (first|exact falseI|((first|refine bd ?_ ?_|refine bn ?_ ?_)<;>intro _<;>first|(exfalso;omega)|conv=>whnf)|((first|refine optP_map hx rfl ?_|refine optP_map hy rfl ?_|refine callP_a hc ?_|refine dI ?_|refine okI ?_|refine bt ?_|refine bi (fun _=>?_) (fun _=>?_)|refine bndI ?_|intro _)<;>conv=>whnf)))
      · rename_i h
        rw [if_pos h] at H
        (refine ⟨i + 1, ⟨by omega, by omega, H⟩, by omega, ?_⟩;(conv=>whnf);refine ⟨?_, ?_, ?_⟩<;>repeat (first|exact trivial|refine sc rfl ?_|refine kn ?_|refine kc rfl ?_))
      · rename_i h
        rw [if_neg h] at H
        (refine ⟨⟨?_⟩, trivial⟩;rw [H];rfl)
  · conv=>whnf
    simp only [List.length_map] at h1
    have : i = a.length:=by omega
    subst this
    rw [List.drop_length] at H
    repeat (any_goals (first|exact falseI|((first|refine bd ?_ ?_|refine bn ?_ ?_)<;>intro _<;>first|(exfalso;omega)|conv=>whnf)|((first|refine dI ?_|refine okI ?_|refine bt ?_|refine bi (fun _=>?_) (fun _=>?_)|refine bndI ?_|intro _)<;>conv=>whnf)))
    · rename_i h
      simp only [List.length_map] at h
      obtain ⟨y, hy, he⟩:=drop_cons (l:=b) (i:=a.length) (by omega)
      rw [he] at H
      (refine ⟨⟨?_⟩, trivial⟩;rw [H];rfl)
    · rename_i h
      simp only [List.length_map] at h
      rw [List.drop_of_length_le (by omega)] at H
      (refine ⟨⟨?_⟩, trivial⟩;rw [H];rfl)
def ordL (a b : List Int) : Int:=if (a.length : Int) = b.length then cmpL a b else a.length - b.length
theorem ordL_c (a b : List Int) (ha : a.length ≤ 1048576) (hb : b.length ≤ 1048576) : PureA Tryz.prog 49 [intsA a, intsA b] (intA (ordL a b)):=by
  have h:=cmpL_c a b ha hb
  unfold ordL
  generalize cmpL a b = R at *
  rw [show (a.length : Int) = ((a.map intA).length : Int) by simp, show (b.length : Int) = ((b.map intA).length : Int) by simp]
  have hal : (a.map intA).length = a.length:=List.length_map ..
  have hbl : (b.map intA).length = b.length:=List.length_map ..
  refine pureA_codeB tabOk { l:=0, f:=49 } mixed call_49 Tryz.func49 (by kernel_rfl) ?_
  conv=>whnf
  repeat (any_goals (first|exact falseI|((first|refine bd ?_ ?_|refine bn ?_ ?_)<;>intro _<;>first|(exfalso;omega)|conv=>whnf)|((first|refine callP_a h ?_|refine dI ?_|refine okI ?_|refine bt ?_|refine bi (fun _=>?_) (fun _=>?_)|refine bndI ?_|intro _)<;>conv=>whnf)))
  · rename_i q
    rw [if_pos q]
    (refine ⟨⟨?_⟩, trivial⟩;rfl)
  · rename_i q
    rw [if_neg q]
    (refine ⟨⟨?_⟩, trivial⟩;rfl)
theorem index_c (l : List Int) (n : Int) (hl : l.length ≤ 1048576) : PureA Tryz.prog 66 [intsA l, intA n] (intA (idx (fun x=>decide (n = x)) l)):=by
  refine pureA_codeB tabOk { l:=0, f:=66 } mixed call_66 Tryz.func66 (by kernel_rfl) ?_
  conv=>whnf
  refine loopK tabOk { l:=0, f:=66 } mixed (fun i : Nat=>[(8, intA i)]) (fun _=>[]) (fun _=>[]) (fun i=>i ≤ l.length∧idx (fun x=>decide (n = x)) l = idxFrom (fun x=>decide (n = x)) i (l.drop i)) (fun i=>l.length - i) 0 (by kernel_rfl)
    ⟨Nat.zero_le _, rfl⟩ ?_
  conv=>whnf
  refine ⟨⟨slotsLe_cons rfl trivial, trivial, trivial⟩, ?_⟩
  intro i ⟨hi, H⟩
  conv=>whnf
  refine brP_dec (fun h1=>?_) (fun h1=>?_)
  · simp only [List.length_map] at h1
    obtain ⟨x, hx, hd⟩:=drop_cons (l:=l) (i:=i) (by omega)
    have H':=idxFrom_cons hd H
    conv=>whnf
    repeat (any_goals (first|exact falseI|((first|refine bd ?_ ?_|refine bn ?_ ?_)<;>intro _<;>first|(exfalso;omega)|conv=>whnf)|((first|refine optP_map hx rfl ?_|refine dI ?_|refine okI ?_|refine bt ?_|refine bi (fun _=>?_) (fun _=>?_)|refine bndI ?_|intro _)<;>conv=>whnf)))
    · rename_i he
      rw [if_pos (decide_eq_true he)] at H'
      (refine ⟨⟨?_⟩, trivial⟩;rw [H'];rfl)
    · rename_i he
      simp only [he, decide_false, Bool.false_eq_true, if_false] at H'
      (refine ⟨i + 1, ⟨by omega, H'⟩, by omega, ?_⟩;(conv=>whnf);refine ⟨?_, ?_, ?_⟩<;>repeat (first|exact trivial|refine sc rfl ?_|refine kn ?_|refine kc rfl ?_))
  · conv=>whnf
    simp only [List.length_map] at h1
    have : i = l.length:=by omega
    subst this
    (refine ⟨⟨?_⟩, trivial⟩;simp [oneOf, intA, H, idxFrom])
theorem has_c (l : List Int) (n : Int) (hl : l.length ≤ 1048576) : PureA Tryz.prog 31 [intsA l, intA n] (boolA (l.any (fun x=>decide (n = x)))):=by
  refine pureA_codeB tabOk { l:=0, f:=31 } mixed call_31 Tryz.func31 (by kernel_rfl) ?_
  conv=>whnf
  refine callP_a (index_c l n hl) ?_
  conv=>whnf
  (refine ⟨⟨?_⟩, trivial⟩;rw [← idx_any];rfl)
end Go.Proofs.YtbpiibdcncfphaaGreatDoor
namespace Go.Proofs.YtbpiibdcncfphaaGreatDoor
open Go.Am Go.Proofs Go
theorem pickM_max (a b : Int) : pickM true a b = max a b:=by
  simp only [pickM]
def foldHi (a : Int) : List Int→Int→Option Int
  | [], l=>some l
  | h :: hs, l=>if 0 < h then foldHi a hs (max l ((1000 * a + h - 1).tdiv h)) else if 0 < a then none else foldHi a hs l
structure Work where
  orders : List Order
  lotsB : Int
  k : Amt
def Work.ret (x : Work) (l : Int) : Int × Bool:=(l - x.k.weight, decide (l - x.k.weight ≤ x.lotsB))
def Work.lo2 (x : Work) (j : Nat) (l : Int) : Int × Bool:=if (x.orders.drop j).any (fun o=>decide (1000 * x.k.c < o.clo * l)) = true then (0, false) else x.ret l
def Work.lo1 (x : Work) (j : Nat) (l : Int) : Int × Bool:=if (x.orders.drop j).any (fun o=>decide (1000 * x.k.t < o.tlo * l)) = true then (0, false) else x.lo2 0 l
def Work.hi2 (x : Work) (j : Nat) (l : Int) : Int × Bool:=match foldHi x.k.c ((x.orders.drop j).map (·.chi)) l with|none=>(0, false)|some l=>x.lo1 0 l
def Work.hi1 (x : Work) (j : Nat) (l : Int) : Int × Bool:=match foldHi x.k.t ((x.orders.drop j).map (·.thi)) l with|none=>(0, false)|some l=>x.hi2 0 l
def Store.work (s : Store) (k : Amt) : Work:=⟨s.orders, s.lots.b, k⟩
def Store.bees (s : Store) (k : Amt) : Int × Bool:=(s.work k).hi1 0 (max k.weight (sumW s.orders))
def pairB (x : Int × Bool) : AV:=.tuple [intA x.1, boolA x.2]
theorem prod_abs {a b : Int} (h0 : 0 ≤ a) (h1 : a ≤ 1000) (h2 : -10000000000 ≤ b) (h3 : b ≤ 10000000000) : -10000000000000 ≤ a * b∧a * b ≤ 10000000000000:=by
  have:=mul_abs h0 h1 h2 h3 (by decide)
  omega
set_option maxHeartbeats 2000000 in
theorem bees_c (s : Store) (m : List Amt) (k : Amt) (hm : m.length = 6) (hg : s.Good) (hk : k.upto 1000000) : PureA Tryz.prog 51 [lookR s (sumW s.orders) m, amtA k] (pairB (s.bees k)):=by
  obtain ⟨k1, k2, k3⟩:=hk
  have hW:=weight_c k (by unfold Amt.fit big;omega)
  have hwb : 0 ≤ k.weight∧k.weight ≤ 3000000:=by unfold Amt.weight;omega
  have hs:=sumW_le s.orders hg.orders
  have h3:=hg.lenO
  have hlots:=hg.lots.1
  have ho:=hg.orders
  obtain ⟨B, hB⟩ : ∃ B, B = s.bees k:=⟨_, rfl⟩
  rw [← hB]
  unfold Store.bees at hB
  have hret : ∀ l, (s.work k).ret l = (l - k.weight, decide (l - k.weight ≤ s.lots.b)):=fun l=>rfl
  have hlo2 : ∀ l j, (s.work k).lo2 j l = if (s.orders.drop j).any (fun o=>decide (1000 * k.c < o.clo * l)) = true then (0, false) else (s.work k).ret l:=fun l j=>rfl
  have hlo1 : ∀ l j, (s.work k).lo1 j l = if (s.orders.drop j).any (fun o=>decide (1000 * k.t < o.tlo * l)) = true then (0, false) else (s.work k).lo2 0 l:=fun l j=>rfl
  have hhi2 : ∀ l j, (s.work k).hi2 j l = match foldHi k.c ((s.orders.drop j).map (·.chi)) l with|none=>(0, false)|some l=>(s.work k).lo1 0 l:=fun l j=>rfl
  have hhi1 : ∀ l j, (s.work k).hi1 j l = match foldHi k.t ((s.orders.drop j).map (·.thi)) l with|none=>(0, false)|some l=>(s.work k).hi2 0 l:=fun l j=>rfl
  generalize s.work k = x at *
  generalize sumW s.orders = y at *
  have hl0 : -10000000000 ≤ max k.weight y∧max k.weight y ≤ 10000000000:=by omega
  rw [← pickM_max] at hB hl0
  generalize k.weight = V at *
  clear hg
  obtain ⟨p0, p1, p2, p3, p4, p5, rfl⟩:=list6 hm
  refine pureA_codeB tabOk { l:=0, f:=51 } mixed call_51 Tryz.func51 (by kernel_rfl) ?_
  conv=>whnf
  repeat (any_goals (first|exact falseI|((first|refine bd ?_ ?_|refine bn ?_ ?_)<;>intro _<;>first|(exfalso;omega)|conv=>whnf)|((first|refine callP_a hW ?_|refine dI ?_|refine okI ?_|refine bt ?_|refine bi (fun _=>?_) (fun _=>?_)|refine bndI ?_|intro _)<;>conv=>whnf)))
  generalize pickM true V y = l0 at *
  refine loopK tabOk { l:=0, f:=51 } mixed (fun a : Nat × Int=>[(29, intA a.1), (6, intA a.2)]) (fun _=>[]) (fun _=>[]) (fun a=>(-10000000000 ≤ a.2∧a.2 ≤ 10000000000)∧((a.1 = 0∧B = x.hi1 0 a.2)∨(a.1 = 1∧B = x.hi2 0 a.2)∨(a.1 = 2∧B = x.lo1 0 a.2))) (fun a=>2 - a.1) (0, l0) (by kernel_rfl)
    ⟨hl0, .inl ⟨rfl, hB⟩⟩ ?_
  conv=>whnf
  refine ⟨⟨slotsLe_cons rfl (slotsLe_cons rfl trivial), trivial, trivial⟩, ?_⟩
  intro ⟨i, l⟩ ⟨hl, H⟩
  simp only at hl H
  rcases H with ⟨rfl, H⟩|⟨rfl, H⟩|⟨rfl, H⟩
  · conv=>whnf
    repeat (any_goals (first|exact falseI|((first|refine bd ?_ ?_|refine bn ?_ ?_)<;>intro _<;>first|(exfalso;omega)|conv=>whnf)|((first|refine dI ?_|refine okI ?_|refine bt ?_|refine bi (fun _=>?_) (fun _=>?_)|refine bndI ?_|intro _)<;>conv=>whnf)))
    refine loopK tabOk { l:=0, f:=51 } mixed (fun a : Nat × Int=>[(39, intA a.1), (6, intA a.2)]) (fun _=>[]) (fun _=>[]) (fun a=>a.1 ≤ s.orders.length∧(-10000000000 ≤ a.2∧a.2 ≤ 10000000000)∧B = x.hi1 a.1 a.2) (fun a=>s.orders.length - a.1) (0, l) (by kernel_rfl)
      ⟨Nat.zero_le _, hl, H⟩ ?_
    conv=>whnf
    refine ⟨⟨slotsLe_cons rfl (slotsLe_cons rfl trivial), trivial, trivial⟩, ?_⟩
    clear H hl
    intro ⟨j, l⟩ ⟨hj, hl, H⟩
    simp only at hj hl H
    rw [hhi1] at H
    conv=>whnf
    refine brP_dec (fun h1=>?_) (fun h1=>?_)
    · have h1 : (j : Int) < ((s.orders.map orderA).length : Nat):=h1
      simp only [List.length_map] at h1
      obtain ⟨z, hz, hd⟩:=drop_cons (l:=s.orders) (i:=j) (by omega)
      have hsp:=span1_c z
      have hzo:=ho z (List.mem_of_getElem? hz)
      obtain ⟨o1, o2, o3⟩:=hzo
      rw [hd, List.map_cons] at H
      simp only [foldHi] at H
      rw [← pickM_max] at H
      by_cases hp : 0 < z.thi
      · rw [if_pos hp, ← hhi1] at H
        have hq:=tdiv_le (a:=1000 * k.t + z.thi - 1) (b:=z.thi) (by omega) (by omega)
        have hpm : -10000000000 ≤ pickM true l ((1000 * k.t + z.thi - 1).tdiv z.thi)∧pickM true l ((1000 * k.t + z.thi - 1).tdiv z.thi) ≤ 10000000000:=by rw [pickM_max];omega
        conv=>whnf
        repeat (any_goals (first|exact falseI|((first|refine bd ?_ ?_|refine bn ?_ ?_)<;>intro _<;>first|(exfalso;omega)|conv=>whnf)|((first|refine optP_map hz rfl ?_|refine callP_a hsp ?_|refine dI ?_|refine okI ?_|refine bt ?_|refine bi (fun _=>?_) (fun _=>?_)|refine bndI ?_|intro _)<;>conv=>whnf)))
        (refine ⟨(j + 1, pickM true l ((1000 * k.t + z.thi - 1).tdiv z.thi)), ⟨by simp only;omega, hpm, H⟩, by simp only;omega, ?_⟩;(conv=>whnf);refine ⟨?_, ?_, ?_⟩<;>repeat (first|exact trivial|refine sc rfl ?_|refine kn ?_|refine kc rfl ?_))
      · rw [if_neg hp] at H
        by_cases hp2 : 0 < k.t
        · rw [if_pos hp2] at H
          conv=>whnf
          repeat (any_goals (first|exact falseI|((first|refine bd ?_ ?_|refine bn ?_ ?_)<;>intro _<;>first|(exfalso;omega)|conv=>whnf)|((first|refine optP_map hz rfl ?_|refine callP_a hsp ?_|refine dI ?_|refine okI ?_|refine bt ?_|refine bi (fun _=>?_) (fun _=>?_)|refine bndI ?_|intro _)<;>conv=>whnf)))
          (refine ⟨⟨?_⟩, trivial⟩;rw [H];rfl)
        · rw [if_neg hp2, ← hhi1] at H
          conv=>whnf
          repeat (any_goals (first|exact falseI|((first|refine bd ?_ ?_|refine bn ?_ ?_)<;>intro _<;>first|(exfalso;omega)|conv=>whnf)|((first|refine optP_map hz rfl ?_|refine callP_a hsp ?_|refine dI ?_|refine okI ?_|refine bt ?_|refine bi (fun _=>?_) (fun _=>?_)|refine bndI ?_|intro _)<;>conv=>whnf)))
          (refine ⟨(j + 1, l), ⟨by simp only;omega, hl, H⟩, by simp only;omega, ?_⟩;(conv=>whnf);refine ⟨?_, ?_, ?_⟩<;>repeat (first|exact trivial|refine sc rfl ?_|refine kn ?_|refine kc rfl ?_))
    · have h1 : ¬ (j : Int) < ((s.orders.map orderA).length : Nat):=h1
      simp only [List.length_map] at h1
      rw [List.drop_of_length_le (by omega)] at H
      simp only [List.map_nil, foldHi] at H
      conv=>whnf
      repeat (any_goals (first|exact falseI|((first|refine bd ?_ ?_|refine bn ?_ ?_)<;>intro _<;>first|(exfalso;omega)|conv=>whnf)|((first|refine dI ?_|refine okI ?_|refine bt ?_|refine bi (fun _=>?_) (fun _=>?_)|refine bndI ?_|intro _)<;>conv=>whnf)))
      (refine ⟨(1, l), ⟨hl, .inr (.inl ⟨rfl, H⟩)⟩, by simp only;omega, ?_⟩;(conv=>whnf);refine ⟨?_, ?_, ?_⟩<;>repeat (first|exact trivial|refine sc rfl ?_|refine kn ?_|refine kc rfl ?_))
  · conv=>whnf
    repeat (any_goals (first|exact falseI|((first|refine bd ?_ ?_|refine bn ?_ ?_)<;>intro _<;>first|(exfalso;omega)|conv=>whnf)|((first|refine dI ?_|refine okI ?_|refine bt ?_|refine bi (fun _=>?_) (fun _=>?_)|refine bndI ?_|intro _)<;>conv=>whnf)))
    refine loopK tabOk { l:=0, f:=51 } mixed (fun a : Nat × Int=>[(39, intA a.1), (6, intA a.2)]) (fun _=>[]) (fun _=>[]) (fun a=>a.1 ≤ s.orders.length∧(-10000000000 ≤ a.2∧a.2 ≤ 10000000000)∧B = x.hi2 a.1 a.2) (fun a=>s.orders.length - a.1) (0, l) (by kernel_rfl)
      ⟨Nat.zero_le _, hl, H⟩ ?_
    conv=>whnf
    refine ⟨⟨slotsLe_cons rfl (slotsLe_cons rfl trivial), trivial, trivial⟩, ?_⟩
    clear H hl
    intro ⟨j, l⟩ ⟨hj, hl, H⟩
    simp only at hj hl H
    rw [hhi2] at H
    conv=>whnf
    refine brP_dec (fun h1=>?_) (fun h1=>?_)
    · have h1 : (j : Int) < ((s.orders.map orderA).length : Nat):=h1
      simp only [List.length_map] at h1
      obtain ⟨z, hz, hd⟩:=drop_cons (l:=s.orders) (i:=j) (by omega)
      have hsp:=span2_c z
      have hzo:=ho z (List.mem_of_getElem? hz)
      obtain ⟨o1, o2, o3⟩:=hzo
      rw [hd, List.map_cons] at H
      simp only [foldHi] at H
      rw [← pickM_max] at H
      by_cases hp : 0 < z.chi
      · rw [if_pos hp, ← hhi2] at H
        have hq:=tdiv_le (a:=1000 * k.c + z.chi - 1) (b:=z.chi) (by omega) (by omega)
        have hpm : -10000000000 ≤ pickM true l ((1000 * k.c + z.chi - 1).tdiv z.chi)∧pickM true l ((1000 * k.c + z.chi - 1).tdiv z.chi) ≤ 10000000000:=by rw [pickM_max];omega
        conv=>whnf
        repeat (any_goals (first|exact falseI|((first|refine bd ?_ ?_|refine bn ?_ ?_)<;>intro _<;>first|(exfalso;omega)|conv=>whnf)|((first|refine optP_map hz rfl ?_|refine callP_a hsp ?_|refine dI ?_|refine okI ?_|refine bt ?_|refine bi (fun _=>?_) (fun _=>?_)|refine bndI ?_|intro _)<;>conv=>whnf)))
        (refine ⟨(j + 1, pickM true l ((1000 * k.c + z.chi - 1).tdiv z.chi)), ⟨by simp only;omega, hpm, H⟩, by simp only;omega, ?_⟩;(conv=>whnf);refine ⟨?_, ?_, ?_⟩<;>repeat (first|exact trivial|refine sc rfl ?_|refine kn ?_|refine kc rfl ?_))
      · rw [if_neg hp] at H
        by_cases hp2 : 0 < k.c
        · rw [if_pos hp2] at H
          conv=>whnf
          repeat (any_goals (first|exact falseI|((first|refine bd ?_ ?_|refine bn ?_ ?_)<;>intro _<;>first|(exfalso;omega)|conv=>whnf)|((first|refine optP_map hz rfl ?_|refine callP_a hsp ?_|refine dI ?_|refine okI ?_|refine bt ?_|refine bi (fun _=>?_) (fun _=>?_)|refine bndI ?_|intro _)<;>conv=>whnf)))
          (refine ⟨⟨?_⟩, trivial⟩;rw [H];rfl)
        · rw [if_neg hp2, ← hhi2] at H
          conv=>whnf
          repeat (any_goals (first|exact falseI|((first|refine bd ?_ ?_|refine bn ?_ ?_)<;>intro _<;>first|(exfalso;omega)|conv=>whnf)|((first|refine optP_map hz rfl ?_|refine callP_a hsp ?_|refine dI ?_|refine okI ?_|refine bt ?_|refine bi (fun _=>?_) (fun _=>?_)|refine bndI ?_|intro _)<;>conv=>whnf)))
          (refine ⟨(j + 1, l), ⟨by simp only;omega, hl, H⟩, by simp only;omega, ?_⟩;(conv=>whnf);refine ⟨?_, ?_, ?_⟩<;>repeat (first|exact trivial|refine sc rfl ?_|refine kn ?_|refine kc rfl ?_))
    · have h1 : ¬ (j : Int) < ((s.orders.map orderA).length : Nat):=h1
      simp only [List.length_map] at h1
      rw [List.drop_of_length_le (by omega)] at H
      simp only [List.map_nil, foldHi] at H
      conv=>whnf
      repeat (any_goals (first|exact falseI|((first|refine bd ?_ ?_|refine bn ?_ ?_)<;>intro _<;>first|(exfalso;omega)|conv=>whnf)|((first|refine dI ?_|refine okI ?_|refine bt ?_|refine bi (fun _=>?_) (fun _=>?_)|refine bndI ?_|intro _)<;>conv=>whnf)))
      (refine ⟨(2, l), ⟨hl, .inr (.inr ⟨rfl, H⟩)⟩, by simp only;omega, ?_⟩;(conv=>whnf);refine ⟨?_, ?_, ?_⟩<;>repeat (first|exact trivial|refine sc rfl ?_|refine kn ?_|refine kc rfl ?_))
  · conv=>whnf
    repeat (any_goals (first|exact falseI|((first|refine bd ?_ ?_|refine bn ?_ ?_)<;>intro _<;>first|(exfalso;omega)|conv=>whnf)|((first|refine dI ?_|refine okI ?_|refine bt ?_|refine bi (fun _=>?_) (fun _=>?_)|refine bndI ?_|intro _)<;>conv=>whnf)))
    refine loopK tabOk { l:=0, f:=51 } mixed (fun i : Nat=>[(76, intA i)]) (fun _=>[]) (fun _=>[]) (fun i=>(i = 0∧B = x.lo1 0 l)∨(i = 1∧B = x.lo2 0 l)∨(i = 2∧B = x.ret l)) (fun i=>2 - i) 0 (by kernel_rfl)
      (.inl ⟨rfl, H⟩) ?_
    conv=>whnf
    refine ⟨⟨slotsLe_cons rfl trivial, trivial, trivial⟩, ?_⟩
    intro i H
    rcases H with ⟨rfl, H⟩|⟨rfl, H⟩|⟨rfl, H⟩
    · conv=>whnf
      repeat (any_goals (first|exact falseI|((first|refine bd ?_ ?_|refine bn ?_ ?_)<;>intro _<;>first|(exfalso;omega)|conv=>whnf)|((first|refine dI ?_|refine okI ?_|refine bt ?_|refine bi (fun _=>?_) (fun _=>?_)|refine bndI ?_|intro _)<;>conv=>whnf)))
      refine loopK tabOk { l:=0, f:=51 } mixed (fun j : Nat=>[(86, intA j)]) (fun _=>[]) (fun _=>[]) (fun j=>j ≤ s.orders.length∧B = x.lo1 j l) (fun j=>s.orders.length - j) 0 (by kernel_rfl)
        ⟨Nat.zero_le _, H⟩ ?_
      conv=>whnf
      refine ⟨⟨slotsLe_cons rfl trivial, trivial, trivial⟩, ?_⟩
      clear H
      intro j ⟨hj, H⟩
      rw [hlo1] at H
      conv=>whnf
      refine brP_dec (fun h1=>?_) (fun h1=>?_)
      · have h1 : (j : Int) < ((s.orders.map orderA).length : Nat):=h1
        simp only [List.length_map] at h1
        obtain ⟨z, hz, hd⟩:=drop_cons (l:=s.orders) (i:=j) (by omega)
        have hsp:=span1_c z
        have hzo:=ho z (List.mem_of_getElem? hz)
        obtain ⟨o1, o2, o3⟩:=hzo
        have hpr:=prod_abs (a:=z.tlo) (b:=l) (by omega) (by omega) hl.1 hl.2
        rw [hd, List.any_cons] at H
        by_cases hp : 1000 * k.t < z.tlo * l
        · have hp' : 1000 * k.t < z.tlo * ((2 : Nat), l).snd:=hp
          rw [decide_eq_true hp, Bool.true_or, if_pos rfl] at H
          conv=>whnf
          repeat (any_goals (first|exact falseI|((first|refine bd ?_ ?_|refine bn ?_ ?_)<;>intro _<;>first|(exfalso;omega)|conv=>whnf)|((first|refine optP_map hz rfl ?_|refine callP_a hsp ?_|refine dI ?_|refine okI ?_|refine bt ?_|refine bi (fun _=>?_) (fun _=>?_)|refine bndI ?_|intro _)<;>conv=>whnf)))
          (refine ⟨⟨?_⟩, trivial⟩;rw [H];rfl)
        · have hp' : ¬ 1000 * k.t < z.tlo * ((2 : Nat), l).snd:=hp
          rw [decide_eq_false hp, Bool.false_or, ← hlo1] at H
          conv=>whnf
          repeat (any_goals (first|exact falseI|((first|refine bd ?_ ?_|refine bn ?_ ?_)<;>intro _<;>first|(exfalso;omega)|conv=>whnf)|((first|refine optP_map hz rfl ?_|refine callP_a hsp ?_|refine dI ?_|refine okI ?_|refine bt ?_|refine bi (fun _=>?_) (fun _=>?_)|refine bndI ?_|intro _)<;>conv=>whnf)))
          (refine ⟨j + 1, ⟨by omega, H⟩, by omega, ?_⟩;(conv=>whnf);refine ⟨?_, ?_, ?_⟩<;>repeat (first|exact trivial|refine sc rfl ?_|refine kn ?_|refine kc rfl ?_))
      · have h1 : ¬ (j : Int) < ((s.orders.map orderA).length : Nat):=h1
        simp only [List.length_map] at h1
        rw [List.drop_of_length_le (by omega)] at H
        simp only [List.any_nil, Bool.false_eq_true, if_false] at H
        conv=>whnf
        repeat (any_goals (first|exact falseI|((first|refine bd ?_ ?_|refine bn ?_ ?_)<;>intro _<;>first|(exfalso;omega)|conv=>whnf)|((first|refine dI ?_|refine okI ?_|refine bt ?_|refine bi (fun _=>?_) (fun _=>?_)|refine bndI ?_|intro _)<;>conv=>whnf)))
        (refine ⟨1, .inr (.inl ⟨rfl, H⟩), by omega, ?_⟩;(conv=>whnf);refine ⟨?_, ?_, ?_⟩<;>repeat (first|exact trivial|refine sc rfl ?_|refine kn ?_|refine kc rfl ?_))
    · conv=>whnf
      repeat (any_goals (first|exact falseI|((first|refine bd ?_ ?_|refine bn ?_ ?_)<;>intro _<;>first|(exfalso;omega)|conv=>whnf)|((first|refine dI ?_|refine okI ?_|refine bt ?_|refine bi (fun _=>?_) (fun _=>?_)|refine bndI ?_|intro _)<;>conv=>whnf)))
      refine loopK tabOk { l:=0, f:=51 } mixed (fun j : Nat=>[(86, intA j)]) (fun _=>[]) (fun _=>[]) (fun j=>j ≤ s.orders.length∧B = x.lo2 j l) (fun j=>s.orders.length - j) 0 (by kernel_rfl)
        ⟨Nat.zero_le _, H⟩ ?_
      conv=>whnf
      refine ⟨⟨slotsLe_cons rfl trivial, trivial, trivial⟩, ?_⟩
      clear H
      intro j ⟨hj, H⟩
      rw [hlo2] at H
      conv=>whnf
      refine brP_dec (fun h1=>?_) (fun h1=>?_)
      · have h1 : (j : Int) < ((s.orders.map orderA).length : Nat):=h1
        simp only [List.length_map] at h1
        obtain ⟨z, hz, hd⟩:=drop_cons (l:=s.orders) (i:=j) (by omega)
        have hsp:=span2_c z
        have hzo:=ho z (List.mem_of_getElem? hz)
        obtain ⟨o1, o2, o3⟩:=hzo
        have hpr:=prod_abs (a:=z.clo) (b:=l) (by omega) (by omega) hl.1 hl.2
        rw [hd, List.any_cons] at H
        by_cases hp : 1000 * k.c < z.clo * l
        · have hp' : 1000 * k.c < z.clo * ((2 : Nat), l).snd:=hp
          rw [decide_eq_true hp, Bool.true_or, if_pos rfl] at H
          conv=>whnf
          repeat (any_goals (first|exact falseI|((first|refine bd ?_ ?_|refine bn ?_ ?_)<;>intro _<;>first|(exfalso;omega)|conv=>whnf)|((first|refine optP_map hz rfl ?_|refine callP_a hsp ?_|refine dI ?_|refine okI ?_|refine bt ?_|refine bi (fun _=>?_) (fun _=>?_)|refine bndI ?_|intro _)<;>conv=>whnf)))
          (refine ⟨⟨?_⟩, trivial⟩;rw [H];rfl)
        · have hp' : ¬ 1000 * k.c < z.clo * ((2 : Nat), l).snd:=hp
          rw [decide_eq_false hp, Bool.false_or, ← hlo2] at H
          conv=>whnf
          repeat (any_goals (first|exact falseI|((first|refine bd ?_ ?_|refine bn ?_ ?_)<;>intro _<;>first|(exfalso;omega)|conv=>whnf)|((first|refine optP_map hz rfl ?_|refine callP_a hsp ?_|refine dI ?_|refine okI ?_|refine bt ?_|refine bi (fun _=>?_) (fun _=>?_)|refine bndI ?_|intro _)<;>conv=>whnf)))
          (refine ⟨j + 1, ⟨by omega, H⟩, by omega, ?_⟩;(conv=>whnf);refine ⟨?_, ?_, ?_⟩<;>repeat (first|exact trivial|refine sc rfl ?_|refine kn ?_|refine kc rfl ?_))
      · have h1 : ¬ (j : Int) < ((s.orders.map orderA).length : Nat):=h1
        simp only [List.length_map] at h1
        rw [List.drop_of_length_le (by omega)] at H
        simp only [List.any_nil, Bool.false_eq_true, if_false] at H
        conv=>whnf
        repeat (any_goals (first|exact falseI|((first|refine bd ?_ ?_|refine bn ?_ ?_)<;>intro _<;>first|(exfalso;omega)|conv=>whnf)|((first|refine dI ?_|refine okI ?_|refine bt ?_|refine bi (fun _=>?_) (fun _=>?_)|refine bndI ?_|intro _)<;>conv=>whnf)))
        (refine ⟨2, .inr (.inr ⟨rfl, H⟩), by omega, ?_⟩;(conv=>whnf);refine ⟨?_, ?_, ?_⟩<;>repeat (first|exact trivial|refine sc rfl ?_|refine kn ?_|refine kc rfl ?_))
    · conv=>whnf
      rw [hret] at H
      repeat (any_goals (first|exact falseI|((first|refine bd ?_ ?_|refine bn ?_ ?_)<;>intro _<;>first|(exfalso;omega)|conv=>whnf)|((first|refine callP_a hW ?_|refine dI ?_|refine okI ?_|refine bt ?_|refine bi (fun _=>?_) (fun _=>?_)|refine bndI ?_|intro _)<;>conv=>whnf)))
      (refine ⟨⟨?_⟩, trivial⟩;rw [H];rfl)
end Go.Proofs.YtbpiibdcncfphaaGreatDoor
namespace Go.Proofs.YtbpiibdcncfphaaGreatDoor
open Go.Am Go.Proofs Go
structure Poured where
  amt : Amt
  ok : Bool
deriving DecidableEq
def zeroP : Poured:=⟨zeroT, false⟩
def pouredA (p : Poured) : AV:=.agg [intA p.amt.b, intA p.amt.t, intA p.amt.c, boolA p.ok]
def Poured.better (x best : Poured) : Bool :=
  decide (best = zeroP) || decide (x.amt.weight - best.amt.weight < 0) || (decide (x.amt.weight - best.amt.weight = 0) && decide (cmpL [x.amt.b, x.amt.t, x.amt.c] [best.amt.b, best.amt.t, best.amt.c] < 0))
def Store.pourStep (s : Store) (base : Amt) (t c : Nat) (best : Poured) : Poured :=
  if (s.bees ⟨base.b, base.t + t, base.c + c⟩).2 = false then best else
    if Poured.better ⟨⟨(s.bees ⟨base.b, base.t + t, base.c + c⟩).1, t, c⟩, true⟩ best = true then ⟨⟨(s.bees ⟨base.b, base.t + t, base.c + c⟩).1, t, c⟩, true⟩ else best
def Store.pourIn (s : Store) (base : Amt) (t : Nat) : Nat→Nat→Poured→Poured
  | 0, _, best=>best
  | n + 1, c, best=>s.pourIn base t n (c + 1) (s.pourStep base t c best)
def Store.pourOut (s : Store) (base : Amt) : Nat→Nat→Poured→Poured
  | 0, _, best=>best
  | n + 1, t, best=>s.pourOut base n (t + 1) (s.pourIn base t (s.lots.c.toNat + 1) 0 best)
def Store.pour (s : Store) (base : Amt) : Poured:=s.pourOut base (s.lots.t.toNat + 1) 0 zeroP
theorem poured_eqL (p : Poured) : eqL [.int .i64 p.amt.b, .int .i64 p.amt.t, .int .i64 p.amt.c, .bool p.ok] [.int .i64 0, .int .i64 0, .int .i64 0, .bool false] = decide (p = zeroP):=by
  obtain ⟨⟨a, b, c⟩, d⟩:=p
  rw [Bool.eq_iff_iff]
  simp [eqL, eqC, zeroP, zeroT]
  constructor
  · rintro ⟨rfl, rfl, rfl, rfl⟩;simp
  · rintro ⟨⟨rfl, rfl, rfl⟩, rfl⟩;simp
theorem foldHi_le {a : Int} (ha : 0 ≤ a∧a ≤ 1000000) : ∀ (hs : List Int) (l l' : Int), (∀ h ∈ hs, h ≤ 1000)→(-10000000000 ≤ l∧l ≤ 10000000000)→foldHi a hs l = some l'→-10000000000 ≤ l'∧l' ≤ 10000000000
  | [], l, l', _, hl, h=>by simp [foldHi] at h;subst h;exact hl
  | x :: hs, l, l', hx, hl, h=>by
    have h1:=hx x (List.mem_cons_self ..)
    simp only [foldHi] at h
    split at h
    · rename_i hp
      have hq:=tdiv_le (a:=1000 * a + x - 1) (b:=x) (by omega) (by omega)
      exact foldHi_le ha hs _ l' (fun y hy=>hx y (List.mem_cons_of_mem _ hy)) (by omega) h
    · split at h
      · cases h
      · exact foldHi_le ha hs l l' (fun y hy=>hx y (List.mem_cons_of_mem _ hy)) hl h
theorem bees_le {s : Store} {k : Amt} (hg : s.Good) (hk : k.upto 1000000) : -20000000000 ≤ (s.bees k).1∧(s.bees k).1 ≤ 20000000000:=by
  obtain ⟨k1, k2, k3⟩:=hk
  have hs:=sumW_le s.orders hg.orders
  have h3:=hg.lenO
  have hw : 0 ≤ k.weight∧k.weight ≤ 3000000:=by unfold Amt.weight;omega
  have hth : ∀ h ∈ (s.orders.drop 0).map (·.thi), h ≤ 1000:=by
    intro h hh
    obtain ⟨o, ho, rfl⟩:=List.mem_map.1 hh
    have:=(hg.orders o (by simpa using ho)).2.1
    omega
  have hch : ∀ h ∈ (s.orders.drop 0).map (·.chi), h ≤ 1000:=by
    intro h hh
    obtain ⟨o, ho, rfl⟩:=List.mem_map.1 hh
    have:=(hg.orders o (by simpa using ho)).2.2
    omega
  unfold Store.bees Work.hi1
  simp only [Store.work]
  split
  · simp
  rename_i l1 e1
  have b1:=foldHi_le k2 _ _ _ hth (by omega) e1
  unfold Work.hi2
  split
  · simp
  rename_i l2 e2
  have b2:=foldHi_le k3 _ _ _ hch b1 e2
  unfold Work.lo1 Work.lo2 Work.ret
  split
  · simp
  · split
    · simp
    · simp only;omega
def Poured.fit (p : Poured) : Prop:=p.amt.abs 20000000000
theorem pourStep_fit {s : Store} {base : Amt} {t c : Nat} {best : Poured} (hg : s.Good) (hb : base.upto 900000) (ht : t ≤ 100) (hc : c ≤ 100) (h : best.fit) : (s.pourStep base t c best).fit:=by
  have hk : (⟨base.b, base.t + t, base.c + c⟩ : Amt).upto 1000000:=by
    obtain ⟨b1, b2, b3⟩:=hb
    refine ⟨?_, ?_, ?_⟩<;>simp only<;>omega
  have:=bees_le hg hk
  unfold Store.pourStep
  split
  · exact h
  · split
    · unfold Poured.fit Amt.abs;simp only;omega
    · exact h
end Go.Proofs.YtbpiibdcncfphaaGreatDoor
namespace Go.Proofs.YtbpiibdcncfphaaGreatDoor
open Go.Am Go.Proofs Go
def entA (e : Amt × Poured) : AV:=.tuple [amtA e.1, pouredA e.2]
abbrev MemoL:=Int × List (Amt × Poured)
def mapX (memo : MemoL) : List AV:=.v (.int .i64 memo.1) :: memo.2.map entA
def storeE (s : Store) (w : Int) (m : List Amt) (memo : MemoL) : List BoxE:=[(kS, 1, 27, [storeY s w m (.mp kM 1)]), (kM, 1, 0, mapX memo)]
def Store.memoOk (s : Store) (memo : MemoL) : Prop:=∀ e ∈ memo.2, e.2 = s.pour e.1
def Store.remember (s : Store) (memo : MemoL) (base : Amt) : MemoL:=if memo.2.any (fun e=>decide (e.1 = base)) = true then memo else (memo.1, memo.2++[(base, s.pour base)])
theorem Store.memoOk.remember {s : Store} {memo : MemoL} (h : s.memoOk memo) (base : Amt) : s.memoOk (s.remember memo base):=by
  unfold Store.remember
  split
  · exact h
  · intro e he
    rcases List.mem_append.1 he with he|he
    · exact h e he
    · simp at he;subst he;rfl
def kkA : KK:=.agg [.int .i64, .int .i64, .int .i64]
def valA (a : Amt) : Value:=.agg #[.int .i64 a.b, .int .i64 a.t, .int .i64 a.c]
theorem eqV_amt (a b : Amt) : eqV (valA a) (valA b) = decide (a = b):=by
  obtain ⟨a1, a2, a3⟩:=a
  obtain ⟨b1, b2, b3⟩:=b
  rw [Bool.eq_iff_iff]
  simp [eqV, valA, eqL, eqC]
theorem find_met {s : Store} : ∀ (l : List (Amt × Poured)) (a : Amt) (n : Nat), (∀ e ∈ l, e.2 = s.pour e.1)→(l.any fun e=>decide (e.1 = a)) = true→∃ i, mapFind kkA (l.map entA) (valA a) n = some (some (i, pouredA (s.pour a)))
  | [], a, n, _, h=>by simp at h
  | e :: l, a, n, hl, h=>by
    have ht : toVal (amtA e.1) = some (valA e.1):=rfl
    have hty : kkA.typed (valA e.1) = true:=rfl
    simp only [List.map_cons, entA, mapFind, ht, hty, if_true, eqV_amt]
    by_cases q : e.1 = a
    · refine ⟨n, ?_⟩
      rw [if_pos (by simp [q]), hl e (List.mem_cons_self ..), q]
    · rw [if_neg (by simp only [decide_eq_true_eq];exact fun h=>q h.symm)]
      exact find_met l a (n + 1) (fun f hf=>hl f (List.mem_cons_of_mem _ hf)) (by simpa [q] using h)
theorem find_new : ∀ (l : List (Amt × Poured)) (a : Amt) (n : Nat), (l.any fun e=>decide (e.1 = a)) = false→mapFind kkA (l.map entA) (valA a) n = some none
  | [], a, n, h=>rfl
  | e :: l, a, n, h=>by
    have ht : toVal (amtA e.1) = some (valA e.1):=rfl
    have hty : kkA.typed (valA e.1) = true:=rfl
    simp only [List.map_cons, entA, mapFind, ht, hty, if_true, eqV_amt]
    by_cases q : e.1 = a
    · simp [q] at h
    · rw [if_neg (by simp only [decide_eq_true_eq];exact fun h=>q h.symm)]
      exact find_new l a (n + 1) (by simpa [q] using h)
set_option maxHeartbeats 4000000 in
set_option maxRecDepth 20000 in
theorem pour_c (s : Store) (m : List Amt) (memo : MemoL) (base : Amt) (hm : m.length = 6) (hg : s.Good) (hb : base.upto 900000) (hok : s.memoOk memo) :
    BoxA Tryz.prog (.fn 24) (storeE s (sumW s.orders) m memo) [.ptr kS 1 27 0 0, amtA base] (pouredA (s.pour base)) (storeE s (sumW s.orders) m (s.remember memo base)):=by
  have hbees:=fun k hk=>bees_c s m k hm hg hk
  have hble:=fun k hk=>bees_le (k:=k) hg hk
  obtain ⟨l1, l2, l3⟩:=hg.lots
  have hfit:=fun t c best=>pourStep_fit (t:=t) (c:=c) (best:=best) hg hb
  generalize hw : sumW s.orders = w at *
  obtain ⟨p0, p1, p2, p3, p4, p5, rfl⟩:=list6 hm
  obtain ⟨mc, memo⟩:=memo
  by_cases hmet : (memo.any fun e=>decide (e.1 = base)) = true
  · obtain ⟨i, hi⟩:=find_met memo base 0 hok hmet
    unfold Store.remember
    rw [if_pos hmet]
    generalize s.pour base = R at *
    have hi : mapFind (.agg [.int .i64, .int .i64, .int .i64]) (memo.map entA) (.agg #[.int .i64 base.b, .int .i64 base.t, .int .i64 base.c]) 0 = some (some (i, pouredA R)):=hi
    clear hbees hble hfit
    refine boxA_codeB tabOk { l:=0, f:=24 } mixed call_24 Tryz.func24 (by kernel_rfl) ?_
    conv=>whnf
    repeat (any_goals (first|exact falseI|((first|refine bd ?_ ?_|refine bn ?_ ?_)<;>intro _<;>first|(exfalso;omega)|conv=>whnf)|((first|rw [hi]|refine dI ?_|refine okI ?_|refine bt ?_|refine bi (fun _=>?_) (fun _=>?_)|refine bndI ?_|intro _)<;>conv=>whnf)))
    refine And.intro ?_ ?_
    · conv=>whnf
      refine ⟨⟨?_⟩, trivial⟩
      rfl
    · repeat (first|exact trivial|refine And.intro rfl ?_|refine And.intro (by skip) ?_)
  · have hi:=find_new memo base 0 (Bool.eq_false_iff.2 hmet)
    have hi : mapFind (.agg [.int .i64, .int .i64, .int .i64]) (memo.map entA) (.agg #[.int .i64 base.b, .int .i64 base.t, .int .i64 base.c]) 0 = some none:=hi
    unfold Store.remember
    rw [if_neg hmet]
    obtain ⟨R, hR⟩ : ∃ R, R = s.pour base:=⟨_, rfl⟩
    rw [← hR]
    unfold Store.pour at hR
    obtain ⟨T, hT⟩ : ∃ T, T = s.lots.t.toNat + 1:=⟨_, rfl⟩
    obtain ⟨C, hC⟩ : ∃ C, C = s.lots.c.toNat + 1:=⟨_, rfl⟩
    have hIn : ∀ t n c best, s.pourIn base t (n + 1) c best = s.pourIn base t n (c + 1) (s.pourStep base t c best):=fun t n c best=>rfl
    have hIn0 : ∀ t c best, s.pourIn base t 0 c best = best:=fun t c best=>rfl
    have hOut : ∀ n t best, s.pourOut base (n + 1) t best = s.pourOut base n (t + 1) (s.pourIn base t C 0 best):=fun n t best=>by rw [hC];rfl
    have hOut0 : ∀ t best, s.pourOut base 0 t best = best:=fun t best=>rfl
    rw [← hT] at hR
    have hz0 : zeroP.fit:=by unfold Poured.fit Amt.abs zeroP zeroT;simp
    refine boxA_codeB tabOk { l:=0, f:=24 } mixed call_24 Tryz.func24 (by kernel_rfl) ?_
    conv=>whnf
    repeat (any_goals (first|exact falseI|((first|refine bd ?_ ?_|refine bn ?_ ?_)<;>intro _<;>first|(exfalso;omega)|conv=>whnf)|((first|rw [hi]|refine dI ?_|refine okI ?_|refine bt ?_|refine bi (fun _=>?_) (fun _=>?_)|refine bndI ?_|intro _)<;>conv=>whnf)))
    refine loopK tabOk { l:=0, f:=24 } mixed (fun a : Nat × Poured=>[(33, intA a.1)]) (fun a=>[(⟨0, 24, 7⟩, some (1, some (4, [pouredA a.2])))]) (fun _=>[]) (fun a=>a.1 ≤ T∧a.2.fit∧R = s.pourOut base (T - a.1) a.1 a.2) (fun a=>T - a.1) (0, zeroP) (by kernel_rfl)
      ⟨Nat.zero_le _, hz0, hR⟩ ?_
    conv=>whnf
    refine ⟨⟨slotsLe_cons rfl trivial, keysLe_cons rfl trivial, trivial⟩, ?_⟩
    intro ⟨t, best⟩ ⟨ht, hbf, H⟩
    simp only at ht hbf H
    clear hR hz0
    conv=>whnf
    refine brP_dec (fun h1=>?_) (fun h1=>?_)
    · have h1 : (t : Int) < s.lots.t + 1:=h1
      obtain ⟨n, hn⟩ : ∃ n, T - t = n + 1:=⟨T - t - 1, by omega⟩
      rw [hn, hOut] at H
      conv=>whnf
      repeat (any_goals (first|exact falseI|((first|refine bd ?_ ?_|refine bn ?_ ?_)<;>intro _<;>first|(exfalso;omega)|conv=>whnf)|((first|refine dI ?_|refine okI ?_|refine bt ?_|refine bi (fun _=>?_) (fun _=>?_)|refine bndI ?_|intro _)<;>conv=>whnf)))
      refine loopK tabOk { l:=0, f:=24 } mixed (fun a : Nat × Poured=>[(43, intA a.1)]) (fun a=>[(⟨0, 24, 7⟩, some (1, some (4, [pouredA a.2])))]) (fun _=>[]) (fun a=>a.1 ≤ C∧a.2.fit∧R = s.pourOut base n (t + 1) (s.pourIn base t (C - a.1) a.1 a.2)) (fun a=>C - a.1) (0, best) (by kernel_rfl)
        ⟨Nat.zero_le _, hbf, H⟩ ?_
      conv=>whnf
      refine ⟨⟨slotsLe_cons rfl trivial, keysLe_cons rfl trivial, trivial⟩, ?_⟩
      clear H hbf
      intro ⟨c, best⟩ ⟨hc, hbf, H⟩
      simp only at hc hbf H
      conv=>whnf
      refine brP_dec (fun h1=>?_) (fun h1=>?_)
      · have h1 : (c : Int) < s.lots.c + 1:=h1
        obtain ⟨q, hq⟩ : ∃ q, C - c = q + 1:=⟨C - c - 1, by omega⟩
        have hq1 : C - (c + 1) = q:=by omega
        rw [hq, hIn] at H
        have hk : (⟨base.b, base.t + t, base.c + c⟩ : Amt).upto 1000000:=by
          obtain ⟨b1, b2, b3⟩:=hb
          refine ⟨?_, ?_, ?_⟩<;>simp only<;>omega
        have hbe:=hbees _ hk
        have hle:=hble _ hk
        have hft:=hfit t c best (by omega) (by omega) hbf
        obtain ⟨b1, b2, b3⟩:=hb
        obtain ⟨S, hS⟩ : ∃ S, S = s.pourStep base t c best:=⟨_, rfl⟩
        rw [← hS] at H hft
        unfold Store.pourStep at hS
        clear hbees hble hfit hIn hIn0 hOut hOut0 hg hk
        generalize s.bees ⟨base.b, base.t + t, base.c + c⟩ = r at *
        obtain ⟨rn, rb⟩:=r
        simp only at hbe hle hS
        have hq2 : R = s.pourOut base n (t + 1) (s.pourIn base t (C - (c + 1)) (c + 1) S):=by rw [hq1];exact H
        cases rb
        · rw [if_pos rfl] at hS
          subst hS
          conv=>whnf
          repeat (any_goals (first|exact falseI|((first|refine bd ?_ ?_|refine bn ?_ ?_)<;>intro _<;>first|(exfalso;omega)|conv=>whnf)|((first|refine callP_f hbe rfl ?_|refine dI ?_|refine okI ?_|refine bt ?_|refine bi (fun _=>?_) (fun _=>?_)|refine bndI ?_|intro _)<;>conv=>whnf)))
          (refine ⟨(c + 1, S), ⟨by simp only;omega, hft, hq2⟩, (by simp only;omega), ?_⟩;(conv=>whnf);refine ⟨?_, ?_, ?_⟩<;>repeat (first|exact trivial|refine sc rfl ?_|refine kn ?_|refine kc rfl ?_|refine sc (by rfl) ?_|refine kc (by rfl) ?_))
        · rw [if_neg (by simp)] at hS
          have hWx:=weight_c ⟨rn, t, c⟩ (by unfold Amt.fit big;simp only;omega)
          have hWb:=weight_c best.amt (by unfold Poured.fit Amt.abs at hbf;unfold Amt.fit big;omega)
          have hcm:=cmpL_c [rn, t, c] [best.amt.b, best.amt.t, best.amt.c] (by simp) (by simp)
          have hwx:=weight_abs (k:=⟨rn, t, c⟩) (M:=20000000000) (by unfold Amt.abs;simp only;omega)
          have hwb:=weight_abs (k:=best.amt) (M:=20000000000) hbf
          have hz:=poured_eqL best
          unfold Poured.better at hS
          simp only at hS
          generalize Amt.weight ⟨rn, t, c⟩ = Wx at *
          generalize best.amt.weight = Wb at *
          generalize cmpL [rn, t, c] [best.amt.b, best.amt.t, best.amt.c] = cm at *
          by_cases e : best = zeroP
          · rw [decide_eq_true e, Bool.true_or, Bool.true_or, if_pos rfl] at hS
            rw [decide_eq_true e] at hz
            subst hS
            conv=>whnf
            repeat (any_goals (first|exact falseI|((first|refine bd ?_ ?_|refine bn ?_ ?_)<;>intro _<;>first|(exfalso;omega)|conv=>whnf)|((first|refine callP_f hbe rfl ?_|refine callP_a hWx ?_|refine callP_a hWb ?_|refine callP_f hcm rfl ?_|refine brP_true hz ?_|refine dI ?_|refine okI ?_|refine bt ?_|refine bi (fun _=>?_) (fun _=>?_)|refine bndI ?_|intro _)<;>conv=>whnf)))
            (refine ⟨(c + 1, ⟨⟨rn, t, c⟩, true⟩), ⟨by simp only;omega, hft, hq2⟩, (by simp only;omega), ?_⟩;(conv=>whnf);refine ⟨?_, ?_, ?_⟩<;>repeat (first|exact trivial|refine sc rfl ?_|refine kn ?_|refine kc rfl ?_|refine sc (by rfl) ?_|refine kc (by rfl) ?_))
          · rw [decide_eq_false e, Bool.false_or] at hS
            rw [decide_eq_false e] at hz
            by_cases e1 : Wx - Wb < 0
            · rw [decide_eq_true e1, Bool.true_or, if_pos rfl] at hS
              subst hS
              conv=>whnf
              repeat (any_goals (first|exact falseI|((first|refine bd ?_ ?_|refine bn ?_ ?_)<;>intro _<;>first|(exfalso;omega)|conv=>whnf)|((first|refine callP_f hbe rfl ?_|refine callP_a hWx ?_|refine callP_a hWb ?_|refine callP_f hcm rfl ?_|refine brP_false hz ?_|refine dI ?_|refine okI ?_|refine bt ?_|refine bi (fun _=>?_) (fun _=>?_)|refine bndI ?_|intro _)<;>conv=>whnf)))
              (refine ⟨(c + 1, ⟨⟨rn, t, c⟩, true⟩), ⟨by simp only;omega, hft, hq2⟩, (by simp only;omega), ?_⟩;(conv=>whnf);refine ⟨?_, ?_, ?_⟩<;>repeat (first|exact trivial|refine sc rfl ?_|refine kn ?_|refine kc rfl ?_|refine sc (by rfl) ?_|refine kc (by rfl) ?_))
            · rw [decide_eq_false e1, Bool.false_or] at hS
              by_cases e2 : Wx - Wb = 0
              · rw [decide_eq_true e2, Bool.true_and] at hS
                by_cases e3 : cm < 0
                · rw [decide_eq_true e3, if_pos rfl] at hS
                  subst hS
                  conv=>whnf
                  repeat (any_goals (first|exact falseI|((first|refine bd ?_ ?_|refine bn ?_ ?_)<;>intro _<;>first|(exfalso;omega)|conv=>whnf)|((first|refine callP_f hbe rfl ?_|refine callP_a hWx ?_|refine callP_a hWb ?_|refine callP_f hcm rfl ?_|refine brP_false hz ?_|refine dI ?_|refine okI ?_|refine bt ?_|refine bi (fun _=>?_) (fun _=>?_)|refine bndI ?_|intro _)<;>conv=>whnf)))
                  (refine ⟨(c + 1, ⟨⟨rn, t, c⟩, true⟩), ⟨by simp only;omega, hft, hq2⟩, (by simp only;omega), ?_⟩;(conv=>whnf);refine ⟨?_, ?_, ?_⟩<;>repeat (first|exact trivial|refine sc rfl ?_|refine kn ?_|refine kc rfl ?_|refine sc (by rfl) ?_|refine kc (by rfl) ?_))
                · rw [decide_eq_false e3, if_neg (by simp)] at hS
                  subst hS
                  conv=>whnf
                  repeat (any_goals (first|exact falseI|((first|refine bd ?_ ?_|refine bn ?_ ?_)<;>intro _<;>first|(exfalso;omega)|conv=>whnf)|((first|refine callP_f hbe rfl ?_|refine callP_a hWx ?_|refine callP_a hWb ?_|refine callP_f hcm rfl ?_|refine brP_false hz ?_|refine dI ?_|refine okI ?_|refine bt ?_|refine bi (fun _=>?_) (fun _=>?_)|refine bndI ?_|intro _)<;>conv=>whnf)))
                  (refine ⟨(c + 1, S), ⟨by simp only;omega, hft, hq2⟩, (by simp only;omega), ?_⟩;(conv=>whnf);refine ⟨?_, ?_, ?_⟩<;>repeat (first|exact trivial|refine sc rfl ?_|refine kn ?_|refine kc rfl ?_|refine sc (by rfl) ?_|refine kc (by rfl) ?_))
              · rw [decide_eq_false e2, Bool.false_and, if_neg (by simp)] at hS
                subst hS
                conv=>whnf
                repeat (any_goals (first|exact falseI|((first|refine bd ?_ ?_|refine bn ?_ ?_)<;>intro _<;>first|(exfalso;omega)|conv=>whnf)|((first|refine callP_f hbe rfl ?_|refine callP_a hWx ?_|refine callP_a hWb ?_|refine callP_f hcm rfl ?_|refine brP_false hz ?_|refine dI ?_|refine okI ?_|refine bt ?_|refine bi (fun _=>?_) (fun _=>?_)|refine bndI ?_|intro _)<;>conv=>whnf)))
                (refine ⟨(c + 1, S), ⟨by simp only;omega, hft, hq2⟩, (by simp only;omega), ?_⟩;(conv=>whnf);refine ⟨?_, ?_, ?_⟩<;>repeat (first|exact trivial|refine sc rfl ?_|refine kn ?_|refine kc rfl ?_|refine sc (by rfl) ?_|refine kc (by rfl) ?_))
      · have h1 : ¬ (c : Int) < s.lots.c + 1:=h1
        have hcC : c = C:=by omega
        subst hcC
        rw [Nat.sub_self, hIn0] at H
        conv=>whnf
        repeat (any_goals (first|exact falseI|((first|refine bd ?_ ?_|refine bn ?_ ?_)<;>intro _<;>first|(exfalso;omega)|conv=>whnf)|((first|refine dI ?_|refine okI ?_|refine bt ?_|refine bi (fun _=>?_) (fun _=>?_)|refine bndI ?_|intro _)<;>conv=>whnf)))
        (refine ⟨(t + 1, best), ⟨by simp only;omega, hbf, by simp only;rw [show T - (t + 1) = n by omega];exact H⟩, (by simp only;omega), ?_⟩;(conv=>whnf);refine ⟨?_, ?_, ?_⟩<;>repeat (first|exact trivial|refine sc rfl ?_|refine kn ?_|refine kc rfl ?_|refine sc (by rfl) ?_|refine kc (by rfl) ?_))
    · have h1 : ¬ (t : Int) < s.lots.t + 1:=h1
      have htT : t = T:=by omega
      subst htT
      rw [Nat.sub_self, hOut0] at H
      subst H
      conv=>whnf
      repeat (any_goals (first|exact falseI|((first|refine bd ?_ ?_|refine bn ?_ ?_)<;>intro _<;>first|(exfalso;omega)|conv=>whnf)|((first|rw [hi]|refine dI ?_|refine okI ?_|refine bt ?_|refine bi (fun _=>?_) (fun _=>?_)|refine bndI ?_|intro _)<;>conv=>whnf)))
      refine And.intro ?_ ?_
      · conv=>whnf
        refine ⟨⟨?_⟩, trivial⟩
        rfl
      · repeat (first|exact trivial|refine And.intro rfl ?_|refine And.intro (by (simp only [mapX, List.map_append];rfl)) ?_)
end Go.Proofs.YtbpiibdcncfphaaGreatDoor
namespace Go.Proofs.YtbpiibdcncfphaaGreatDoor
open Go.Am Go.Proofs Go
def Store.short (s : Store) (k : Amt) : Bool:=s.orders.any fun o=>decide (1000 * k.t < o.tlo * max k.weight (sumW s.orders)) || decide (1000 * k.c < o.clo * max k.weight (sumW s.orders))
theorem short_c (s : Store) (k : Amt) (hg : s.Good) (hk : k.abs 1000000) : PureA Tryz.prog 62 [storeA s, amtA k] (boolA (s.short k)):=by
  have hW:=refWeight_c k (by unfold Amt.abs at hk;unfold Amt.fit big;omega)
  have hwd:=wanted_c s hg
  have hwb:=weight_abs hk
  have hs:=sumW_le s.orders hg.orders
  have h3:=hg.lenO
  have ho:=hg.orders
  have hl0 : -10000000000 ≤ max k.weight (sumW s.orders)∧max k.weight (sumW s.orders) ≤ 10000000000:=by omega
  unfold Store.short
  rw [← pickM_max] at hl0
  simp only [← pickM_max]
  generalize sumW s.orders = y at *
  generalize k.weight = V at *
  obtain ⟨k1, k2, k3⟩:=hk
  refine pureA_codeB tabOk { l:=0, f:=62 } mixed call_62 Tryz.func62 (by kernel_rfl) ?_
  conv=>whnf
  repeat (any_goals (first|exact falseI|((first|refine bd ?_ ?_|refine bn ?_ ?_)<;>intro _<;>first|(exfalso;omega)|conv=>whnf)|((first|refine callP_a hW ?_|refine callP_a hwd ?_|refine dI ?_|refine okI ?_|refine bt ?_|refine bi (fun _=>?_) (fun _=>?_)|refine bndI ?_|intro _)<;>conv=>whnf)))
  generalize pickM true V y = l at *
  refine loopK tabOk { l:=0, f:=62 } mixed (fun i : Nat=>[(6, intA i)]) (fun _=>[]) (fun _=>[]) (fun i=>i ≤ s.orders.length∧s.orders.any (fun o=>decide (1000 * k.t < o.tlo * l) || decide (1000 * k.c < o.clo * l)) = (s.orders.drop i).any (fun o=>decide (1000 * k.t < o.tlo * l) || decide (1000 * k.c < o.clo * l))) (fun i=>s.orders.length - i) 0 (by kernel_rfl)
    ⟨Nat.zero_le _, rfl⟩ ?_
  conv=>whnf
  refine ⟨⟨slotsLe_cons rfl trivial, trivial, trivial⟩, ?_⟩
  intro i ⟨hi, H⟩
  conv=>whnf
  refine brP_dec (fun h1=>?_) (fun h1=>?_)
  · simp only [List.length_map] at h1
    obtain ⟨x, hx, hd⟩:=drop_cons (l:=s.orders) (i:=i) (by omega)
    obtain ⟨o1, o2, o3⟩:=ho x (List.mem_of_getElem? hx)
    have hp1:=prod_abs (a:=x.tlo) (b:=l) (by omega) (by omega) hl0.1 hl0.2
    have hp2:=prod_abs (a:=x.clo) (b:=l) (by omega) (by omega) hl0.1 hl0.2
    rw [hd, List.any_cons] at H
    conv=>whnf
    repeat (any_goals (first|exact falseI|((first|refine bd ?_ ?_|refine bn ?_ ?_)<;>intro _<;>first|(exfalso;omega)|conv=>whnf)|((first|refine optP_map hx rfl ?_|refine dI ?_|refine okI ?_|refine bt ?_|refine bi (fun _=>?_) (fun _=>?_)|refine bndI ?_|intro _)<;>conv=>whnf)))
    · rename_i q
      rw [decide_eq_true q, Bool.true_or, Bool.true_or] at H
      rw [H]
      (refine ⟨⟨?_⟩, trivial⟩;rfl)
    · rename_i q q2
      rw [decide_eq_true q2, Bool.or_true, Bool.true_or] at H
      rw [H]
      (refine ⟨⟨?_⟩, trivial⟩;rfl)
    · rename_i q q2
      rw [decide_eq_false q, decide_eq_false q2, Bool.false_or, Bool.false_or] at H
      (refine ⟨i + 1, ⟨by omega, H⟩, by omega, ?_⟩;(conv=>whnf);refine ⟨?_, ?_, ?_⟩<;>repeat (first|exact trivial|refine sc rfl ?_|refine kn ?_|refine kc rfl ?_))
  · conv=>whnf
    simp only [List.length_map] at h1
    have : i = s.orders.length:=by omega
    subst this
    rw [List.drop_length] at H
    rw [H]
    (refine ⟨⟨?_⟩, trivial⟩;rfl)
def Store.rbeesF (s : Store) (k : Amt) : Nat→Int→Int
  | 0, n=>n
  | f + 1, n=>if n ≤ s.lots.b then if s.enough (k.add ⟨n, 0, 0⟩) = true then n else s.rbeesF k f (n + 1) else n
def Store.rbees (s : Store) (k : Amt) : Int:=s.rbeesF k 101 (max 0 (sumW s.orders - k.weight))
theorem rbees_c (s : Store) (k : Amt) (hg : s.Good) (hk : k.abs 1000000) : PureA Tryz.prog 63 [storeA s, amtA k] (intA (s.rbees k)):=by
  have hW:=refWeight_c k (by unfold Amt.abs at hk;unfold Amt.fit big;omega)
  have hwd:=wanted_c s hg
  have hwb:=weight_abs hk
  have hs:=sumW_le s.orders hg.orders
  have h3:=hg.lenO
  obtain ⟨l1, l2, l3⟩:=hg.lots
  obtain ⟨k1, k2, k3⟩:=hk
  have hsum : ∀ n, 0 ≤ n→n ≤ 1000→PureA Tryz.prog 61 [amtA k, amtA ⟨n, 0, 0⟩] (amtA (k.add ⟨n, 0, 0⟩)):=fun n h1 h2=>sum_c k ⟨n, 0, 0⟩ (by unfold Amt.fit big;omega) (by unfold Amt.fit big;simp only;omega)
  have hen : ∀ n, 0 ≤ n→n ≤ 1000→PureA Tryz.prog 90 [storeA s, amtA (k.add ⟨n, 0, 0⟩)] (boolA (s.enough (k.add ⟨n, 0, 0⟩))):=fun n h1 h2=>enough_c s _ hg (by unfold Amt.add Amt.abs big;simp only;omega)
  obtain ⟨R, hR⟩ : ∃ R, R = s.rbees k:=⟨_, rfl⟩
  rw [← hR]
  unfold Store.rbees at hR
  have h0 : 0 ≤ max 0 (sumW s.orders - k.weight)∧max 0 (sumW s.orders - k.weight) ≤ 3000180:=by omega
  rw [← pickM_max] at hR h0
  have hF : ∀ f n, s.rbeesF k (f + 1) n = if n ≤ s.lots.b then if s.enough (k.add ⟨n, 0, 0⟩) = true then n else s.rbeesF k f (n + 1) else n:=fun f n=>rfl
  generalize sumW s.orders = y at *
  generalize k.weight = V at *
  refine pureA_codeB tabOk { l:=0, f:=63 } mixed call_63 Tryz.func63 (by kernel_rfl) ?_
  conv=>whnf
  repeat (any_goals (first|exact falseI|((first|refine bd ?_ ?_|refine bn ?_ ?_)<;>intro _<;>first|(exfalso;omega)|conv=>whnf)|((first|refine callP_a hW ?_|refine callP_a hwd ?_|refine dI ?_|refine okI ?_|refine bt ?_|refine bi (fun _=>?_) (fun _=>?_)|refine bndI ?_|intro _)<;>conv=>whnf)))
  generalize pickM true 0 (y - V) = n0 at *
  refine loopK tabOk { l:=0, f:=63 } mixed (fun a : Nat × Int=>[(5, intA a.2)]) (fun _=>[]) (fun _=>[]) (fun a=>(0 ≤ a.2∧a.2 ≤ 3000180)∧s.lots.b + 1 ≤ a.2 + a.1∧R = s.rbeesF k a.1 a.2) (fun a=>a.1) (101, n0) (by kernel_rfl)
    ⟨h0, by simp only;omega, hR⟩ ?_
  conv=>whnf
  refine ⟨⟨slotsLe_cons rfl trivial, trivial, trivial⟩, ?_⟩
  clear hR h0
  intro ⟨f, n⟩ ⟨h0, hf, H⟩
  simp only at h0 hf H
  conv=>whnf
  refine And.intro (by omega) ?_
  conv=>whnf
  refine brP_dec (fun h1=>?_) (fun h1=>?_)
  · have h1 : n ≤ s.lots.b:=h1
    obtain ⟨g, rfl⟩ : ∃ g, f = g + 1:=⟨f - 1, by omega⟩
    rw [hF, if_pos h1] at H
    have hs1:=hsum n h0.1 (by omega)
    have he1:=hen n h0.1 (by omega)
    generalize k.add ⟨n, 0, 0⟩ = k' at *
    generalize s.enough k' = b at *
    cases b
    · rw [if_neg (by simp)] at H
      conv=>whnf
      repeat (any_goals (first|exact falseI|((first|refine bd ?_ ?_|refine bn ?_ ?_)<;>intro _<;>first|(exfalso;omega)|conv=>whnf)|((first|refine callP_a hs1 ?_|refine callP_a he1 ?_|refine dI ?_|refine okI ?_|refine bt ?_|refine bi (fun _=>?_) (fun _=>?_)|refine bndI ?_|intro _)<;>conv=>whnf)))
      (refine ⟨(g, n + 1), ⟨by simp only;omega, by simp only;omega, H⟩, by simp only;omega, ?_⟩;(conv=>whnf);refine ⟨?_, ?_, ?_⟩<;>repeat (first|exact trivial|refine sc rfl ?_|refine kn ?_|refine kc rfl ?_))
    · rw [if_pos rfl] at H
      conv=>whnf
      repeat (any_goals (first|exact falseI|((first|refine bd ?_ ?_|refine bn ?_ ?_)<;>intro _<;>first|(exfalso;omega)|conv=>whnf)|((first|refine callP_a hs1 ?_|refine callP_a he1 ?_|refine dI ?_|refine okI ?_|refine bt ?_|refine bi (fun _=>?_) (fun _=>?_)|refine bndI ?_|intro _)<;>conv=>whnf)))
      (refine ⟨⟨?_⟩, trivial⟩;rw [H];rfl)
  · have h1 : ¬ n ≤ s.lots.b:=h1
    have : R = n:=by
      cases f with
      | zero=>exact H
      | succ g=>rw [hF, if_neg h1] at H;exact H
    subst this
    conv=>whnf
    (refine ⟨⟨?_⟩, trivial⟩;rfl)
end Go.Proofs.YtbpiibdcncfphaaGreatDoor
namespace Go.Proofs.YtbpiibdcncfphaaGreatDoor
open Go.Am Go.Proofs Go
theorem foldHi_spec {a : Int} (ha : 0 ≤ a) : ∀ (hs : List Int) (l : Int), (∀ h ∈ hs, 0 ≤ h)→0 ≤ l→match foldHi a hs l with
    | none=>∀ W : Int, ¬ ∀ h ∈ hs, 1000 * a ≤ h * W
    | some L=>l ≤ L∧∀ W : Int, 0 ≤ W→((l ≤ W∧∀ h ∈ hs, 1000 * a ≤ h * W)↔L ≤ W)
  | [], l, _, hl=>by simp [foldHi]
  | h :: hs, l, h0, hl=>by
    have hh:=h0 h (List.mem_cons_self ..)
    simp only [foldHi]
    by_cases hp : 0 < h
    · rw [if_pos hp]
      have hq : ∀ W : Int, (1000 * a + h - 1).tdiv h ≤ W↔1000 * a ≤ h * W:=by
        intro W
        rw [Int.tdiv_eq_ediv_of_nonneg (by omega)]
        constructor
        · intro hW
          have h1:=Int.lt_ediv_add_one_mul_self (1000 * a + h - 1) hp
          have h2 : ((1000 * a + h - 1) / h + 1) * h ≤ (W + 1) * h:=Int.mul_le_mul_of_nonneg_right (by omega) (by omega)
          have h3 : (W + 1) * h = h * W + h:=by rw [Int.add_mul, Int.one_mul, Int.mul_comm]
          omega
        · intro hW
          have h1 : (1000 * a + h - 1) / h < W + 1:=Int.ediv_lt_of_lt_mul hp (by
            have h3 : (W + 1) * h = h * W + h:=by rw [Int.add_mul, Int.one_mul, Int.mul_comm]
            omega)
          omega
      have hql : 0 ≤ max l ((1000 * a + h - 1).tdiv h):=by omega
      have ih:=foldHi_spec ha hs _ (fun x hx=>h0 x (List.mem_cons_of_mem _ hx)) hql
      cases hf : foldHi a hs (max l ((1000 * a + h - 1).tdiv h)) with
      | none =>
        rw [hf] at ih
        intro W hW
        exact ih W fun x hx=>hW x (List.mem_cons_of_mem _ hx)
      | some L =>
        rw [hf] at ih
        refine ⟨by have:=ih.1;omega, fun W hW0=>?_⟩
        rw [← ih.2 W hW0]
        have:=hq W
        simp only [List.forall_mem_cons]
        constructor
        · rintro ⟨h1, h2, h3⟩
          exact ⟨by have:=this.2 h2;omega, h3⟩
        · rintro ⟨h1, h3⟩
          exact ⟨by omega, this.1 (by omega), h3⟩
    · have : h = 0:=by omega
      subst this
      rw [if_neg hp]
      by_cases hpa : 0 < a
      · rw [if_pos hpa]
        intro W hW
        have:=hW 0 (List.mem_cons_self ..)
        omega
      · rw [if_neg hpa]
        have : a = 0:=by omega
        subst this
        have ih:=foldHi_spec (a:=0) (by omega) hs l (fun x hx=>h0 x (List.mem_cons_of_mem _ hx)) hl
        cases hf : foldHi 0 hs l with
        | none =>
          rw [hf] at ih
          intro W hW
          exact ih W fun x hx=>hW x (List.mem_cons_of_mem _ hx)
        | some L =>
          rw [hf] at ih
          refine ⟨ih.1, fun W hW0=>?_⟩
          rw [← ih.2 W hW0]
          simp only [List.forall_mem_cons]
          constructor
          · rintro ⟨h1, _, h3⟩;exact ⟨h1, h3⟩
          · rintro ⟨h1, h3⟩;exact ⟨h1, by omega, h3⟩
theorem enough_iff {s : Store} {k : Amt} : s.enough k = true↔(∀ o ∈ s.orders, (o.tlo * k.weight ≤ 1000 * k.t∧1000 * k.t ≤ o.thi * k.weight)∧o.clo * k.weight ≤ 1000 * k.c∧1000 * k.c ≤ o.chi * k.weight)∧sumW s.orders ≤ k.weight:=by
  unfold Store.enough Amt.fits within
  simp [Bool.and_eq_true]
theorem add_weight (k : Amt) (n : Int) : (k.add ⟨n, 0, 0⟩).weight = k.weight + n:=by
  unfold Amt.add Amt.weight;simp only;omega
theorem bees_spec {s : Store} {k : Amt} (hg : s.Good) (hk : k.upto 1000000) :
    ((s.bees k).2 = true→0 ≤ (s.bees k).1∧(s.bees k).1 ≤ s.lots.b∧s.enough (k.add ⟨(s.bees k).1, 0, 0⟩) = true) ∧
    ∀ n, 0 ≤ n→n ≤ s.lots.b→s.enough (k.add ⟨n, 0, 0⟩) = true→(s.bees k).2 = true∧(s.bees k).1 ≤ n:=by
  obtain ⟨k1, k2, k3⟩:=hk
  have hs:=sumW_le s.orders hg.orders
  have hw : 0 ≤ k.weight∧k.weight ≤ 3000000:=by unfold Amt.weight;omega
  have hth : ∀ h ∈ (s.orders.drop 0).map (·.thi), 0 ≤ h:=by
    intro h hh
    obtain ⟨o, ho, rfl⟩:=List.mem_map.1 hh
    have:=(hg.orders o (by simpa using ho)).2.1
    omega
  have hch : ∀ h ∈ (s.orders.drop 0).map (·.chi), 0 ≤ h:=by
    intro h hh
    obtain ⟨o, ho, rfl⟩:=List.mem_map.1 hh
    have:=(hg.orders o (by simpa using ho)).2.2
    omega
  have f1:=foldHi_spec k2.1 _ (max k.weight (sumW s.orders)) hth (by omega)
  have hE : ∀ n, s.enough (k.add ⟨n, 0, 0⟩) = true↔(∀ o ∈ s.orders, (o.tlo * (k.weight + n) ≤ 1000 * k.t∧1000 * k.t ≤ o.thi * (k.weight + n))∧o.clo * (k.weight + n) ≤ 1000 * k.c∧1000 * k.c ≤ o.chi * (k.weight + n))∧sumW s.orders ≤ k.weight + n:=by
    intro n
    rw [enough_iff, add_weight]
    simp only [Amt.add, Int.add_zero]
  simp only [List.drop_zero, List.mem_map, forall_exists_index, and_imp, forall_apply_eq_imp_iff₂] at f1
  unfold Store.bees Work.hi1
  simp only [Store.work, List.drop_zero]
  cases e1 : foldHi k.t (s.orders.map (·.thi)) (max k.weight (sumW s.orders)) with
  | none =>
    rw [e1] at f1
    refine ⟨by simp, fun n h0 h1 hn=>?_⟩
    exact absurd (fun o ho=>((hE n).1 hn).1 o ho |>.1.2) (f1 (k.weight + n))
  | some l1 =>
    rw [e1] at f1
    obtain ⟨hl1, f1⟩:=f1
    have f2:=foldHi_spec k3.1 _ l1 hch (by omega)
    simp only [List.drop_zero, List.mem_map, forall_exists_index, and_imp, forall_apply_eq_imp_iff₂] at f2
    unfold Work.hi2
    simp only [List.drop_zero]
    cases e2 : foldHi k.c (s.orders.map (·.chi)) l1 with
    | none =>
      rw [e2] at f2
      refine ⟨by simp, fun n h0 h1 hn=>?_⟩
      exact absurd (fun o ho=>((hE n).1 hn).1 o ho |>.2.2) (f2 (k.weight + n))
    | some L =>
      rw [e2] at f2
      obtain ⟨hL, f2⟩:=f2
      have hLall:=(f2 L (by omega)).2 (Int.le_refl _)
      have hl1all:=(f1 L (by omega)).2 (by omega)
      unfold Work.lo1 Work.lo2 Work.ret
      simp only [List.drop_zero]
      by_cases b1 : (s.orders.any fun o=>decide (1000 * k.t < o.tlo * L)) = true
      · rw [if_pos b1]
        refine ⟨by simp, fun n h0 h1 hn=>?_⟩
        obtain ⟨q1, q2⟩:=(hE n).1 hn
        have hLn:=(f2 (k.weight + n) (by omega)).1 ⟨(f1 (k.weight + n) (by omega)).1 ⟨by omega, fun o ho=>(q1 o ho).1.2⟩, fun o ho=>(q1 o ho).2.2⟩
        rw [List.any_eq_true] at b1
        obtain ⟨o, ho, hb⟩:=b1
        have hb:=of_decide_eq_true hb
        have hm:=(hg.orders o ho).2.1
        have : o.tlo * L ≤ o.tlo * (k.weight + n):=Int.mul_le_mul_of_nonneg_left hLn hm.1
        have:=(q1 o ho).1.1
        omega
      · rw [if_neg b1]
        by_cases b2 : (s.orders.any fun o=>decide (1000 * k.c < o.clo * L)) = true
        · rw [if_pos b2]
          refine ⟨by simp, fun n h0 h1 hn=>?_⟩
          obtain ⟨q1, q2⟩:=(hE n).1 hn
          have hLn:=(f2 (k.weight + n) (by omega)).1 ⟨(f1 (k.weight + n) (by omega)).1 ⟨by omega, fun o ho=>(q1 o ho).1.2⟩, fun o ho=>(q1 o ho).2.2⟩
          rw [List.any_eq_true] at b2
          obtain ⟨o, ho, hb⟩:=b2
          have hb:=of_decide_eq_true hb
          have hm:=(hg.orders o ho).2.2
          have : o.clo * L ≤ o.clo * (k.weight + n):=Int.mul_le_mul_of_nonneg_left hLn hm.1
          have:=(q1 o ho).2.1
          omega
        · rw [if_neg b2]
          simp only [decide_eq_true_eq]
          have c1:=fun o ho=>List.any_eq_false.1 (Bool.eq_false_iff.2 b1) o ho
          have c2:=fun o ho=>List.any_eq_false.1 (Bool.eq_false_iff.2 b2) o ho
          simp only [decide_eq_true_eq] at c1 c2
          refine ⟨fun hle=>⟨by omega, hle, (hE _).2 ?_⟩, fun n h0 h1 hn=>?_⟩
          · rw [show k.weight + (L - k.weight) = L by omega]
            exact ⟨fun o ho=>⟨⟨by have:=c1 o ho;omega, hl1all.2 o ho⟩, by have:=c2 o ho;omega, hLall.2 o ho⟩, by omega⟩
          · obtain ⟨q1, q2⟩:=(hE n).1 hn
            have hLn:=(f2 (k.weight + n) (by omega)).1 ⟨(f1 (k.weight + n) (by omega)).1 ⟨by omega, fun o ho=>(q1 o ho).1.2⟩, fun o ho=>(q1 o ho).2.2⟩
            omega
end Go.Proofs.YtbpiibdcncfphaaGreatDoor
namespace Go.Proofs.YtbpiibdcncfphaaGreatDoor
open Go.Am Go.Proofs Go
structure Store.Feas (s : Store) (base a : Amt) : Prop where
  b : 0 ≤ a.b∧a.b ≤ s.lots.b
  t : 0 ≤ a.t∧a.t ≤ s.lots.t
  c : 0 ≤ a.c∧a.c ≤ s.lots.c
  en : s.enough (base.add a) = true
def Amt.lt (a b : Amt) : Prop:=a.weight < b.weight∨a.weight = b.weight∧(a.b < b.b∨a.b = b.b∧(a.t < b.t∨a.t = b.t∧a.c < b.c))
theorem cmpL3 (a b : Amt) : cmpL [a.b, a.t, a.c] [b.b, b.t, b.c] < 0↔(a.b < b.b∨a.b = b.b∧(a.t < b.t∨a.t = b.t∧a.c < b.c)):=by
  simp only [cmpL]
  have h : ∀ x y : Int, (cmpI x y = 0↔x = y)∧(cmpI x y < 0↔x < y):=by
    intro x y
    unfold cmpI
    split
    · omega
    · split<;>omega
  obtain ⟨b1, b2⟩:=h a.b b.b
  obtain ⟨t1, t2⟩:=h a.t b.t
  obtain ⟨c1, c2⟩:=h a.c b.c
  split
  · split
    · split<;>omega
    · omega
  · omega
theorem better_iff (x best : Poured) : Poured.better x best = true↔best = zeroP∨x.amt.lt best.amt:=by
  unfold Poured.better Amt.lt
  simp only [Bool.or_eq_true, Bool.and_eq_true, decide_eq_true_eq, cmpL3]
  constructor
  · rintro ((h|h)|⟨h1, h2⟩)
    · exact .inl h
    · exact .inr (.inl (by omega))
    · exact .inr (.inr ⟨by omega, h2⟩)
  · rintro (h|h|⟨h1, h2⟩)
    · exact .inl (.inl h)
    · exact .inl (.inr (by omega))
    · exact .inr ⟨by omega, h2⟩
theorem add_split (base : Amt) (n t c : Int) : base.add ⟨n, t, c⟩ = (⟨base.b, base.t + t, base.c + c⟩ : Amt).add ⟨n, 0, 0⟩:=by
  unfold Amt.add;simp
def Best (s : Store) (base : Amt) (S : Int→Int→Prop) (best : Poured) : Prop :=
  (best = zeroP∧∀ a, s.Feas base a→¬ S a.t a.c)∨(best.ok = true∧s.Feas base best.amt∧∀ a, s.Feas base a→S a.t a.c→¬ a.lt best.amt)
theorem Best.step {s : Store} {base : Amt} {S S' : Int→Int→Prop} {t c : Nat} {best : Poured} (hg : s.Good) (hb : base.upto 900000) (ht : (t : Int) ≤ s.lots.t) (hc : (c : Int) ≤ s.lots.c) (hS : ∀ x y, S' x y→S x y∨(x = t∧y = c))
    (h : Best s base S best) : Best s base S' (s.pourStep base t c best):=by
  obtain ⟨l1, l2, l3⟩:=hg.lots
  have hk : (⟨base.b, base.t + t, base.c + c⟩ : Amt).upto 1000000:=by
    obtain ⟨b1, b2, b3⟩:=hb
    refine ⟨?_, ?_, ?_⟩<;>simp only<;>omega
  obtain ⟨p1, p2⟩:=bees_spec hg hk
  unfold Store.pourStep
  generalize s.bees ⟨base.b, base.t + t, base.c + c⟩ = r at *
  obtain ⟨n, is⟩:=r
  simp only at p1 p2 ⊢
  have at_ : ∀ a, s.Feas base a→a.t = t→a.c = c→is = true∧n ≤ a.b:=by
    intro a ha h1 h2
    obtain ⟨a1, a2, a3⟩:=a
    simp only at h1 h2
    subst h1 h2
    have he:=ha.en
    rw [add_split] at he
    exact p2 a1 ha.b.1 ha.b.2 he
  cases is with
  | false =>
    rw [if_pos rfl]
    rcases h with ⟨h1, h2⟩|⟨h1, h2, h3⟩
    · refine .inl ⟨h1, fun a ha hs=>?_⟩
      rcases hS _ _ hs with hs|⟨e1, e2⟩
      · exact h2 a ha hs
      · have:=(at_ a ha e1 e2).1;simp at this
    · refine .inr ⟨h1, h2, fun a ha hs=>?_⟩
      rcases hS _ _ hs with hs|⟨e1, e2⟩
      · exact h3 a ha hs
      · have:=(at_ a ha e1 e2).1;simp at this
  | true =>
    rw [if_neg (by simp)]
    obtain ⟨q1, q2, q3⟩:=p1 rfl
    have hfe : s.Feas base ⟨n, t, c⟩:=⟨⟨q1, q2⟩, ⟨by simp, ht⟩, ⟨by simp, hc⟩, by rw [add_split];exact q3⟩
    have hlow : ∀ a, s.Feas base a→a.t = t→a.c = c→¬ a.lt ⟨n, t, c⟩:=by
      intro a ha h1 h2
      have:=(at_ a ha h1 h2).2
      unfold Amt.lt Amt.weight
      simp only
      omega
    by_cases hbt : Poured.better ⟨⟨n, t, c⟩, true⟩ best = true
    · rw [if_pos hbt]
      rw [better_iff] at hbt
      refine .inr ⟨rfl, hfe, fun a ha hs hlt=>?_⟩
      rcases hS _ _ hs with hs|⟨e1, e2⟩
      · rcases h with ⟨h1, h2⟩|⟨h1, h2, h3⟩
        · exact h2 a ha hs
        · rcases hbt with hz|hbt
          · rw [hz] at h1;simp [zeroP] at h1
          · refine h3 a ha hs ?_
            unfold Amt.lt at *
            simp only at hlt hbt
            omega
      · exact hlow a ha e1 e2 hlt
    · rw [if_neg hbt]
      rw [better_iff] at hbt
      rcases h with ⟨h1, h2⟩|⟨h1, h2, h3⟩
      · exact absurd (.inl h1) hbt
      · refine .inr ⟨h1, h2, fun a ha hs hlt=>?_⟩
        rcases hS _ _ hs with hs|⟨e1, e2⟩
        · exact h3 a ha hs hlt
        · have h4:=hlow a ha e1 e2
          have h5 : ¬ (⟨n, t, c⟩ : Amt).lt best.amt:=fun h=>hbt (.inr h)
          unfold Amt.lt Amt.weight at *
          simp only at *
          omega
end Go.Proofs.YtbpiibdcncfphaaGreatDoor
namespace Go.Proofs.YtbpiibdcncfphaaGreatDoor
open Go.Am Go.Proofs Go
def Store.leastStep (s : Store) (base : Amt) (t c : Nat) (p : Amt × Bool) : Amt × Bool :=
  if s.short (base.add ⟨0, t, c⟩) = true then p else
    if (decide (s.rbees (base.add ⟨0, t, c⟩) ≤ s.lots.b) && (!p.2 || lessL [Amt.weight ⟨s.rbees (base.add ⟨0, t, c⟩), t, c⟩, s.rbees (base.add ⟨0, t, c⟩), t, c] [p.1.weight, p.1.b, p.1.t, p.1.c])) = true then (⟨s.rbees (base.add ⟨0, t, c⟩), t, c⟩, true) else p
def Store.leastIn (s : Store) (base : Amt) (t : Nat) : Nat→Nat→Amt × Bool→Amt × Bool
  | 0, _, p=>p
  | n + 1, c, p=>s.leastIn base t n (c + 1) (s.leastStep base t c p)
def Store.leastOut (s : Store) (base : Amt) : Nat→Nat→Amt × Bool→Amt × Bool
  | 0, _, p=>p
  | n + 1, t, p=>s.leastOut base n (t + 1) (s.leastIn base t (s.lots.c.toNat + 1) 0 p)
def Store.least (s : Store) (l : List Int) : Amt × Bool:=s.leastOut (sumL (s.melts 0) zeroT l) (s.lots.t.toNat + 1) 0 (zeroT, false)
def pairAB (x : Amt × Bool) : AV:=.tuple [amtA x.1, boolA x.2]
theorem rbeesF_le (s : Store) (k : Amt) : ∀ f n, 0 ≤ n→n ≤ 4000000→0 ≤ s.rbeesF k f n∧s.rbeesF k f n ≤ 4000000 + f
  | 0, n, h0, h1=>by simp only [Store.rbeesF];omega
  | f + 1, n, h0, h1=>by
    simp only [Store.rbeesF]
    split
    · split
      · omega
      · by_cases h : n + 1 ≤ 4000000
        · have:=rbeesF_le s k f (n + 1) (by omega) h
          omega
        · have hn : n = 4000000:=by omega
          subst hn
          have key : ∀ f n, 0 ≤ n→0 ≤ s.rbeesF k f n∧s.rbeesF k f n ≤ n + f:=by
            intro f
            induction f with
            | zero=>intro n h;simp only [Store.rbeesF];omega
            | succ f ih =>
              intro n h
              simp only [Store.rbeesF]
              split
              · split
                · omega
                · have:=ih (n + 1) (by omega);omega
              · omega
          have:=key f (4000000 + 1) (by omega)
          omega
    · omega
theorem rbees_le {s : Store} {k : Amt} (hg : s.Good) (hk : k.abs 1000000) : 0 ≤ s.rbees k∧s.rbees k ≤ 5000000:=by
  have hs:=sumW_le s.orders hg.orders
  have h3:=hg.lenO
  have:=weight_abs hk
  have:=rbeesF_le s k 101 (max 0 (sumW s.orders - k.weight)) (by omega) (by omega)
  unfold Store.rbees
  omega
theorem leastStep_fit {s : Store} {base : Amt} {t c : Nat} {p : Amt × Bool} (hg : s.Good) (hb : base.abs 900000) (ht : t ≤ 100) (hc : c ≤ 100) (h : p.1.abs 10000000) : (s.leastStep base t c p).1.abs 10000000:=by
  have hk : (base.add ⟨0, t, c⟩).abs 1000000:=by unfold Amt.add;unfold Amt.abs at *;simp only;omega
  have:=rbees_le hg hk
  unfold Store.leastStep
  split
  · exact h
  · split
    · unfold Amt.abs;simp only;omega
    · exact h
set_option maxHeartbeats 4000000 in
theorem least_c (s : Store) (l : List Int) (hg : s.Good) (hl : l.length ≤ 6) (hR : ∀ x ∈ l, 0 ≤ x∧x < s.heads.length) : PureA Tryz.prog 28 [storeA s, intsA l] (pairAB (s.least l)):=by
  have hin:=in_c s l zeroT hg (by omega) hR (zeroT_abs _ (by decide))
  have hab : (sumL (s.melts 0) zeroT l).abs 900000:=by
    have hm : ∀ a ∈ s.melts 0, a.abs 100:=by
      intro a ha
      simp only [Store.melts, meltsTo, List.take_length, List.mem_append, List.mem_map, List.mem_replicate] at ha
      rcases ha with ⟨h, hh, rfl⟩|⟨_, rfl⟩
      · have hok:=hg.heads h hh
        have:=faded_le hok hg.fade.1 (Int.le_refl 0)
        obtain ⟨⟨a1, a2, a3⟩, a4⟩:=hok
        unfold Head.melt Amt.abs
        simp only
        omega
      · exact zeroT_abs _ (by decide)
    have:=sumL_abs hm (by decide) l zeroT (zeroT_abs 0 (by decide))
    unfold Amt.abs at *
    omega
  have hfit:=fun t c p=>leastStep_fit (t:=t) (c:=c) (p:=p) hg hab
  have hsh:=fun k hk=>short_c s k hg hk
  have hrb:=fun k hk=>rbees_c s k hg hk
  have hrl:=fun k hk=>rbees_le (k:=k) hg hk
  obtain ⟨l1, l2, l3⟩:=hg.lots
  obtain ⟨R, hRe⟩ : ∃ R, R = s.least l:=⟨_, rfl⟩
  rw [← hRe]
  unfold Store.least at hRe
  generalize sumL (s.melts 0) zeroT l = base at *
  obtain ⟨T, hT⟩ : ∃ T, T = s.lots.t.toNat + 1:=⟨_, rfl⟩
  obtain ⟨C, hC⟩ : ∃ C, C = s.lots.c.toNat + 1:=⟨_, rfl⟩
  have hIn : ∀ t n c p, s.leastIn base t (n + 1) c p = s.leastIn base t n (c + 1) (s.leastStep base t c p):=fun t n c p=>rfl
  have hIn0 : ∀ t c p, s.leastIn base t 0 c p = p:=fun t c p=>rfl
  have hOut : ∀ n t p, s.leastOut base (n + 1) t p = s.leastOut base n (t + 1) (s.leastIn base t C 0 p):=fun n t p=>by rw [hC];rfl
  have hOut0 : ∀ t p, s.leastOut base 0 t p = p:=fun t p=>rfl
  rw [← hT] at hRe
  have hz0 : zeroT.abs 10000000:=zeroT_abs _ (by decide)
  have hbt : ∀ t c : Nat, t ≤ 100→c ≤ 100→(base.add ⟨0, t, c⟩).abs 1000000:=by
    intro t c h1 h2
    unfold Amt.add;unfold Amt.abs at *;simp only;omega
  have hsum : ∀ t c : Nat, t ≤ 100→c ≤ 100→PureA Tryz.prog 61 [amtA base, amtA ⟨0, t, c⟩] (amtA (base.add ⟨0, t, c⟩)):=fun t c h1 h2 =>
    sum_c _ _ (by unfold Amt.abs at hab;unfold Amt.fit big;omega) (by unfold Amt.fit big;simp only;omega)
  clear hR hg hl hab
  refine pureA_codeB tabOk { l:=0, f:=28 } mixed call_28 Tryz.func28 (by kernel_rfl) ?_
  conv=>whnf
  repeat (any_goals (first|exact falseI|((first|refine bd ?_ ?_|refine bn ?_ ?_)<;>intro _<;>first|(exfalso;omega)|conv=>whnf)|((first|refine callP_a hin ?_|refine dI ?_|refine okI ?_|refine bt ?_|refine bi (fun _=>?_) (fun _=>?_)|refine bndI ?_|intro _)<;>conv=>whnf)))
  clear hin
  refine loopK tabOk { l:=0, f:=28 } mixed (fun a : Nat × (Amt × Bool)=>[(9, intA a.1), (8, boolA a.2.2)]) (fun a=>[(⟨0, 28, 7⟩, some (1, some (3, [amtA a.2.1])))]) (fun _=>[]) (fun a=>a.1 ≤ T∧a.2.1.abs 10000000∧R = s.leastOut base (T - a.1) a.1 a.2) (fun a=>T - a.1) (0, (zeroT, false)) (by kernel_rfl)
    ⟨Nat.zero_le _, hz0, hRe⟩ ?_
  conv=>whnf
  refine ⟨⟨slotsLe_cons rfl (slotsLe_cons rfl trivial), keysLe_cons rfl trivial, trivial⟩, ?_⟩
  intro ⟨t, best, fnd⟩ ⟨ht, hbf, H⟩
  simp only at ht hbf H
  clear hRe hz0
  conv=>whnf
  refine And.intro (by omega) ?_
  conv=>whnf
  refine brP_dec (fun h1=>?_) (fun h1=>?_)
  · have h1 : (t : Int) ≤ s.lots.t:=h1
    obtain ⟨n, hn⟩ : ∃ n, T - t = n + 1:=⟨T - t - 1, by omega⟩
    rw [hn, hOut] at H
    conv=>whnf
    repeat (any_goals (first|exact falseI|((first|refine bd ?_ ?_|refine bn ?_ ?_)<;>intro _<;>first|(exfalso;omega)|conv=>whnf)|((first|refine dI ?_|refine okI ?_|refine bt ?_|refine bi (fun _=>?_) (fun _=>?_)|refine bndI ?_|intro _)<;>conv=>whnf)))
    refine loopK tabOk { l:=0, f:=28 } mixed (fun a : Nat × (Amt × Bool)=>[(10, intA a.1), (8, boolA a.2.2)]) (fun a=>[(⟨0, 28, 7⟩, some (1, some (3, [amtA a.2.1])))]) (fun _=>[]) (fun a=>a.1 ≤ C∧a.2.1.abs 10000000∧R = s.leastOut base n (t + 1) (s.leastIn base t (C - a.1) a.1 a.2)) (fun a=>C - a.1) (0, (best, fnd)) (by kernel_rfl)
      ⟨Nat.zero_le _, hbf, H⟩ ?_
    conv=>whnf
    refine ⟨⟨slotsLe_cons rfl (slotsLe_cons rfl trivial), keysLe_cons rfl trivial, trivial⟩, ?_⟩
    clear H hbf
    intro ⟨c, best, fnd⟩ ⟨hc, hbf, H⟩
    simp only at hc hbf H
    conv=>whnf
    refine And.intro (by omega) ?_
    conv=>whnf
    refine brP_dec (fun h1=>?_) (fun h1=>?_)
    · have h1 : (c : Int) ≤ s.lots.c:=h1
      obtain ⟨q, hq⟩ : ∃ q, C - c = q + 1:=⟨C - c - 1, by omega⟩
      have hq1 : C - (c + 1) = q:=by omega
      rw [hq, hIn] at H
      have hk:=hbt t c (by omega) (by omega)
      have hsm:=hsum t c (by omega) (by omega)
      have hs1:=hsh _ hk
      have hr1:=hrb _ hk
      have hr2:=hrl _ hk
      have hft:=hfit t c (best, fnd) (by omega) (by omega) hbf
      obtain ⟨S, hS⟩ : ∃ S, S = s.leastStep base t c (best, fnd):=⟨_, rfl⟩
      rw [← hS] at H hft
      unfold Store.leastStep at hS
      clear hsh hrb hrl hfit hIn hIn0 hOut hOut0 hbt hsum hk
      generalize base.add ⟨0, t, c⟩ = k at *
      generalize s.short k = b at *
      generalize s.rbees k = m at *
      have hq2 : R = s.leastOut base n (t + 1) (s.leastIn base t (C - (c + 1)) (c + 1) S):=by rw [hq1];exact H
      cases b
      · rw [if_neg (by simp)] at hS
        have hWx:=refWeight_c ⟨m, t, c⟩ (by unfold Amt.fit big;simp only;omega)
        have hWb:=refWeight_c best (by unfold Amt.abs at hbf;unfold Amt.fit big;omega)
        have hls:=less_c [Amt.weight ⟨m, t, c⟩, m, t, c] [best.weight, best.b, best.t, best.c] (by simp) (by simp)
        simp only at hS
        generalize Amt.weight ⟨m, t, c⟩ = Wx at *
        generalize best.weight = Wb at *
        generalize lessL [Wx, m, t, c] [Wb, best.b, best.t, best.c] = ls at *
        by_cases e : m ≤ s.lots.b
        · rw [decide_eq_true e, Bool.true_and] at hS
          cases fnd
          · rw [Bool.not_false, Bool.true_or, if_pos rfl] at hS
            subst hS
            conv=>whnf
            repeat (any_goals (first|exact falseI|((first|refine bd ?_ ?_|refine bn ?_ ?_)<;>intro _<;>first|(exfalso;omega)|conv=>whnf)|((first|refine callP_a hsm ?_|refine callP_a hs1 ?_|refine callP_a hr1 ?_|refine callP_a hWx ?_|refine callP_a hWb ?_|refine callP_a hls ?_|refine dI ?_|refine okI ?_|refine bt ?_|refine bi (fun _=>?_) (fun _=>?_)|refine bndI ?_|intro _)<;>conv=>whnf)))
            (refine ⟨(c + 1, (⟨m, t, c⟩, true)), ⟨by simp only;omega, hft, hq2⟩, (by simp only;omega), ?_⟩;(conv=>whnf);refine ⟨?_, ?_, ?_⟩<;>repeat (first|exact trivial|refine sc rfl ?_|refine kn ?_|refine kc rfl ?_|refine sc (by rfl) ?_|refine kc (by rfl) ?_))
          · rw [Bool.not_true, Bool.false_or] at hS
            cases ls
            · rw [if_neg (by simp)] at hS
              subst hS
              conv=>whnf
              repeat (any_goals (first|exact falseI|((first|refine bd ?_ ?_|refine bn ?_ ?_)<;>intro _<;>first|(exfalso;omega)|conv=>whnf)|((first|refine callP_a hsm ?_|refine callP_a hs1 ?_|refine callP_a hr1 ?_|refine callP_a hWx ?_|refine callP_a hWb ?_|refine callP_a hls ?_|refine dI ?_|refine okI ?_|refine bt ?_|refine bi (fun _=>?_) (fun _=>?_)|refine bndI ?_|intro _)<;>conv=>whnf)))
              (refine ⟨(c + 1, (best, true)), ⟨by simp only;omega, hft, hq2⟩, (by simp only;omega), ?_⟩;(conv=>whnf);refine ⟨?_, ?_, ?_⟩<;>repeat (first|exact trivial|refine sc rfl ?_|refine kn ?_|refine kc rfl ?_|refine sc (by rfl) ?_|refine kc (by rfl) ?_))
            · rw [if_pos rfl] at hS
              subst hS
              conv=>whnf
              repeat (any_goals (first|exact falseI|((first|refine bd ?_ ?_|refine bn ?_ ?_)<;>intro _<;>first|(exfalso;omega)|conv=>whnf)|((first|refine callP_a hsm ?_|refine callP_a hs1 ?_|refine callP_a hr1 ?_|refine callP_a hWx ?_|refine callP_a hWb ?_|refine callP_a hls ?_|refine dI ?_|refine okI ?_|refine bt ?_|refine bi (fun _=>?_) (fun _=>?_)|refine bndI ?_|intro _)<;>conv=>whnf)))
              (refine ⟨(c + 1, (⟨m, t, c⟩, true)), ⟨by simp only;omega, hft, hq2⟩, (by simp only;omega), ?_⟩;(conv=>whnf);refine ⟨?_, ?_, ?_⟩<;>repeat (first|exact trivial|refine sc rfl ?_|refine kn ?_|refine kc rfl ?_|refine sc (by rfl) ?_|refine kc (by rfl) ?_))
        · rw [decide_eq_false e, Bool.false_and, if_neg (by simp)] at hS
          subst hS
          conv=>whnf
          repeat (any_goals (first|exact falseI|((first|refine bd ?_ ?_|refine bn ?_ ?_)<;>intro _<;>first|(exfalso;omega)|conv=>whnf)|((first|refine callP_a hsm ?_|refine callP_a hs1 ?_|refine callP_a hr1 ?_|refine callP_a hWx ?_|refine callP_a hWb ?_|refine callP_a hls ?_|refine dI ?_|refine okI ?_|refine bt ?_|refine bi (fun _=>?_) (fun _=>?_)|refine bndI ?_|intro _)<;>conv=>whnf)))
          (refine ⟨(c + 1, (best, fnd)), ⟨by simp only;omega, hft, hq2⟩, (by simp only;omega), ?_⟩;(conv=>whnf);refine ⟨?_, ?_, ?_⟩<;>repeat (first|exact trivial|refine sc rfl ?_|refine kn ?_|refine kc rfl ?_|refine sc (by rfl) ?_|refine kc (by rfl) ?_))
      · rw [if_pos rfl] at hS
        subst hS
        conv=>whnf
        repeat (any_goals (first|exact falseI|((first|refine bd ?_ ?_|refine bn ?_ ?_)<;>intro _<;>first|(exfalso;omega)|conv=>whnf)|((first|refine callP_a hsm ?_|refine callP_a hs1 ?_|refine dI ?_|refine okI ?_|refine bt ?_|refine bi (fun _=>?_) (fun _=>?_)|refine bndI ?_|intro _)<;>conv=>whnf)))
        (refine ⟨(c + 1, (best, fnd)), ⟨by simp only;omega, hft, hq2⟩, (by simp only;omega), ?_⟩;(conv=>whnf);refine ⟨?_, ?_, ?_⟩<;>repeat (first|exact trivial|refine sc rfl ?_|refine kn ?_|refine kc rfl ?_|refine sc (by rfl) ?_|refine kc (by rfl) ?_))
    · have h1 : ¬ (c : Int) ≤ s.lots.c:=h1
      have hcC : c = C:=by omega
      subst hcC
      rw [Nat.sub_self, hIn0] at H
      conv=>whnf
      repeat (any_goals (first|exact falseI|((first|refine bd ?_ ?_|refine bn ?_ ?_)<;>intro _<;>first|(exfalso;omega)|conv=>whnf)|((first|refine dI ?_|refine okI ?_|refine bt ?_|refine bi (fun _=>?_) (fun _=>?_)|refine bndI ?_|intro _)<;>conv=>whnf)))
      (refine ⟨(t + 1, (best, fnd)), ⟨by simp only;omega, hbf, by simp only;rw [show T - (t + 1) = n by omega];exact H⟩, (by simp only;omega), ?_⟩;(conv=>whnf);refine ⟨?_, ?_, ?_⟩<;>repeat (first|exact trivial|refine sc rfl ?_|refine kn ?_|refine kc rfl ?_|refine sc (by rfl) ?_|refine kc (by rfl) ?_))
  · have h1 : ¬ (t : Int) ≤ s.lots.t:=h1
    have htT : t = T:=by omega
    subst htT
    rw [Nat.sub_self, hOut0] at H
    subst H
    conv=>whnf
    repeat (any_goals (first|exact falseI|((first|refine bd ?_ ?_|refine bn ?_ ?_)<;>intro _<;>first|(exfalso;omega)|conv=>whnf)|((first|refine dI ?_|refine okI ?_|refine bt ?_|refine bi (fun _=>?_) (fun _=>?_)|refine bndI ?_|intro _)<;>conv=>whnf)))
    (refine ⟨⟨?_⟩, trivial⟩;rfl)
end Go.Proofs.YtbpiibdcncfphaaGreatDoor
namespace Go.Proofs.YtbpiibdcncfphaaGreatDoor
open Go.Am Go.Proofs Go
def tz (n : Nat) : Nat:=if n % 2 = 1 then 0 else if n % 4 = 2 then 1 else if n % 8 = 4 then 2 else if n % 16 = 8 then 3 else if n % 32 = 16 then 4 else 5
def uA (n : Int) : AV:=.v (.int .u64 n)
set_option maxRecDepth 100000 in
set_option maxHeartbeats 4000000 in
theorem tz64_c (n : Nat) (h0 : 0 < n) (h : n < 64) : PureA Tryz.prog 95 [uA n] (intA (tz n)):=by
  rcases (by omega : n = 1∨n = 2∨n = 3∨n = 4∨n = 5∨n = 6∨n = 7∨n = 8∨n = 9∨n = 10∨n = 11∨n = 12∨n = 13∨n = 14∨n = 15∨n = 16∨n = 17∨n = 18∨n = 19∨n = 20∨n = 21∨n = 22∨n = 23∨n = 24∨n = 25∨n = 26∨n = 27∨n = 28∨n = 29∨n = 30∨n = 31∨n = 32∨n = 33∨n = 34∨n = 35∨n = 36∨n = 37∨n = 38∨n = 39∨n = 40∨n = 41∨n = 42∨n = 43∨n = 44∨n = 45∨n = 46∨n = 47∨n = 48∨n = 49∨n = 50∨n = 51∨n = 52∨n = 53∨n = 54∨n = 55∨n = 56∨n = 57∨n = 58∨n = 59∨n = 60∨n = 61∨n = 62∨n = 63) with rfl|rfl|rfl|rfl|rfl|rfl|rfl|rfl|rfl|rfl|rfl|rfl|rfl|rfl|rfl|rfl|rfl|rfl|rfl|rfl|rfl|rfl|rfl|rfl|rfl|rfl|rfl|rfl|rfl|rfl|rfl|rfl|rfl|rfl|rfl|rfl|rfl|rfl|rfl|rfl|rfl|rfl|rfl|rfl|rfl|rfl|rfl|rfl|rfl|rfl|rfl|rfl|rfl|rfl|rfl|rfl|rfl|rfl|rfl|rfl|rfl|rfl|rfl
  all_goals
    refine pureA_codeB tabOk { l:=0, f:=95 } mixed call_95 Tryz.func95 (by kernel_rfl) ?_
    conv=>whnf
    repeat (any_goals (first|exact falseI|((first|refine bd ?_ ?_|refine bn ?_ ?_)<;>intro _<;>first|(exfalso;omega)|conv=>whnf)|((first|refine dI ?_|refine okI ?_|refine bt ?_|refine bi (fun _=>?_) (fun _=>?_)|refine bndI ?_|intro _)<;>conv=>whnf)))
    refine And.intro (by decide +kernel) ?_
    conv=>whnf
    repeat (any_goals (first|exact falseI|((first|refine bd ?_ ?_|refine bn ?_ ?_)<;>intro _<;>first|(exfalso;omega)|conv=>whnf)|((first|refine dI ?_|refine okI ?_|refine bt ?_|refine bi (fun _=>?_) (fun _=>?_)|refine bndI ?_|intro _)<;>conv=>whnf)))
    (refine ⟨⟨?_⟩, trivial⟩;rfl)
theorem tz_c (n : Nat) (h0 : 0 < n) (h : n < 64) : PureA Tryz.prog 81 [uA n] (intA (tz n)):=by
  have ht:=tz64_c n h0 h
  generalize tz n = r at *
  refine pureA_codeB tabOk { l:=0, f:=81 } mixed call_81 Tryz.func81 (by kernel_rfl) ?_
  conv=>whnf
  repeat (any_goals (first|exact falseI|((first|refine bd ?_ ?_|refine bn ?_ ?_)<;>intro _<;>first|(exfalso;omega)|conv=>whnf)|((first|refine callP_a ht ?_|refine dI ?_|refine okI ?_|refine bt ?_|refine bi (fun _=>?_) (fun _=>?_)|refine bndI ?_|intro _)<;>conv=>whnf)))
  (refine ⟨⟨?_⟩, trivial⟩;rfl)
def clr : Nat→Nat→Nat
  | 0, n=>n
  | i + 1, n=>clr i n &&& (clr i n - 1)
def setF : Nat→Nat→List Int
  | 0, _=>[]
  | k + 1, n=>if n = 0 then [] else (tz n : Int) :: setF k (n &&& (n - 1))
def setL (n : Nat) : List Int:=setF 6 n
def clrOk (n : Nat) : Bool:=decide (clr (setL n).length n = 0) && decide ((setL n).length ≤ 6) && (List.range (setL n).length).all fun i=>decide (0 < clr i n) && decide (clr i n < 64) && decide ((setL n)[i]? = some (tz (clr i n) : Int))
theorem clr_ok : ∀ n, n < 64→clrOk n = true:=by decide +kernel
theorem clr_and : ∀ n : Nat, n < 64→0 < n→IntKind.i64.wrap ((BitVec.ofInt IntKind.i64.bits (n : Int) &&& BitVec.ofInt IntKind.i64.bits ((n : Int) - 1)).toNat : Int) = ((n &&& (n - 1) : Nat) : Int):=by decide +kernel
theorem u64_wrap : ∀ n : Nat, n < 64→IntKind.u64.wrap (n : Int) = (n : Int):=by decide +kernel
theorem list_c (n : Nat) (h : n < 64) : PureA Tryz.prog 45 [intA n] (intsA (setL n)):=by
  have hk:=clr_ok n h
  simp only [clrOk, Bool.and_eq_true, decide_eq_true_eq, List.all_eq_true, List.mem_range] at hk
  obtain ⟨⟨hz, hl6⟩, hs⟩:=hk
  have ht : setL n = (setL n).take (setL n).length:=by rw [List.take_length]
  have hn : n = clr 0 n:=rfl
  have hstep : ∀ i, clr (i + 1) n = clr i n &&& (clr i n - 1):=fun i=>rfl
  have htz:=tz_c
  generalize setL n = L at *
  generalize hf : (fun i=>clr i n) = f at *
  have hf' : ∀ i, clr i n = f i:=fun i=>by rw [← hf]
  simp only [hf'] at *
  clear hf hf'
  rw [hn, ht]
  clear ht
  refine pureA_codeB tabOk { l:=0, f:=45 } mixed call_45 Tryz.func45 (by kernel_rfl) ?_
  conv=>whnf
  refine loopTok 2 1 ⟨0, 45, 14⟩ ?_
  conv=>whnf
  refine loopK tabOk { l:=0, f:=45 } mixed (fun i : Nat=>[(0, intA (f i)), (2, .slice 1 ((L.take i).map intA) (.own ⟨0, 45, 14⟩ 1))]) (fun _=>[]) (fun i=>[(⟨0, 45, 14⟩, some (1, i))]) (fun i=>i ≤ L.length) (fun i=>L.length - i) 0 (by kernel_rfl)
    (Nat.zero_le _) ?_
  conv=>whnf
  refine ⟨⟨slotsLe_cons rfl (slotsLe_cons rfl trivial), trivial, keysLe_cons rfl trivial⟩, ?_⟩
  intro i hi
  by_cases hlt : i < L.length
  · obtain ⟨⟨h0, h64⟩, hx⟩:=hs i hlt
    have ht2 : L.take (i + 1) = L.take i++[(tz (f i) : Int)]:=by rw [List.take_add_one, hx];rfl
    have hc:=htz (f i) h0 h64
    have hw:=u64_wrap (f i) h64
    have hand:=clr_and (f i) h64 h0
    rw [← hstep i] at hand
    unfold uA at hc
    rw [← hw] at hc
    clear hs hx hw htz hz hn hstep
    generalize tz (f i) = q at *
    conv=>whnf
    repeat (any_goals (first|exact falseI|((first|refine bd ?_ ?_|refine bn ?_ ?_)<;>intro _<;>first|(exfalso;omega)|conv=>whnf)|((first|refine callP_a hc ?_|refine dI ?_|refine okI ?_|refine bt ?_|refine bi (fun _=>?_) (fun _=>?_)|refine bndI ?_|intro _)<;>conv=>whnf)))
    (refine ⟨i + 1, (by omega), by omega, ?_⟩;(conv=>whnf);refine ⟨?_, ?_, ?_⟩<;>repeat (first|exact trivial|refine sc rfl ?_|refine kn ?_|refine kc rfl ?_|refine sc (by first|(rw [← hand];rfl)|(simp only [ht2, List.map_append];rfl)|((conv=>lhs;whnf);simp;omega)) ?_|refine kc (by first|(rw [← hand];rfl)|(simp only [ht2, List.map_append];rfl)|((conv=>lhs;whnf);simp;omega)) ?_))
  · have : i = L.length:=by omega
    subst this
    rw [hz]
    conv=>whnf
    repeat (any_goals (first|exact falseI|((first|refine bd ?_ ?_|refine bn ?_ ?_)<;>intro _<;>first|(exfalso;omega)|conv=>whnf)|((first|refine dI ?_|refine okI ?_|refine bt ?_|refine bi (fun _=>?_) (fun _=>?_)|refine bndI ?_|intro _)<;>conv=>whnf)))
    (refine ⟨⟨?_⟩, trivial⟩;rfl)
end Go.Proofs.YtbpiibdcncfphaaGreatDoor
namespace Go.Proofs.YtbpiibdcncfphaaGreatDoor
open Go.Am Go.Proofs Go
def setA (n : Nat) : AV:=intsA (setL n)
def ordN (m n : Nat) : Int:=ordL (setL m) (setL n)
def cmpF : AV:=.func (.func 49) [] []
theorem setL_len (n : Nat) : (setL n).length ≤ 6:=by
  have : ∀ k n, (setF k n).length ≤ k:=by
    intro k
    induction k with
    | zero=>intro n;simp [setF]
    | succ k ih =>
      intro n
      simp only [setF]
      split
      · simp
      · have:=ih (n &&& (n - 1));simp only [List.length_cons];omega
  exact this 6 n
theorem ordN_c (m n : Nat) : PureA Tryz.prog 49 [setA m, setA n] (intA (ordN m n)) :=
  ordL_c _ _ (by have:=setL_len m;omega) (by have:=setL_len n;omega)
def bubN (a : Nat) : Nat→List Nat→List Nat
  | 0, L=>L
  | k + 1, L=>match L[a + (k + 1)]?, L[a + k]? with
    | some x, some y=>if ordN x y < 0 then bubN a k ((L.set (a + (k + 1)) y).set (a + k) x) else L
    | _, _=>L
def insF (a : Nat) : Nat→Nat→List Nat→List Nat
  | 0, _, L=>L
  | k + 1, i, L=>insF a k (i + 1) (bubN a i L)
def insN (a b : Nat) (L : List Nat) : List Nat:=insF a (b - a - 1) 1 L
theorem bubN_len (a : Nat) : ∀ (j : Nat) (L : List Nat), (bubN a j L).length = L.length
  | 0, L=>rfl
  | j + 1, L=>by
    unfold bubN
    split
    · split
      · rw [bubN_len a j];simp
      · rfl
    · rfl
theorem insF_len (a : Nat) : ∀ (k i : Nat) (L : List Nat), (insF a k i L).length = L.length
  | 0, i, L=>rfl
  | k + 1, i, L=>by rw [insF, insF_len a k, bubN_len]
theorem set_sets (l : List Nat) (a : Int) (n : Nat) (x : AV) (f : Nat) (ha : a = n) (hx : x = setA f) : (l.map setA).set a.toNat x = (l.set n f).map setA:=by
  subst ha hx
  simp [List.map_set]
theorem forceL_to {l l' : List AV} {K : List AV→Prop} (h : l = l') (k : K l') : forceL l K:=by rw [forceL_eq, h];exact k
def kA : Key:=⟨0, 44, 27⟩
theorem ins_c (g n a b : Nat) (X : List Nat) (hn : n ≤ X.length) (hb : b ≤ n) (hab : a ≤ b) (hX : X.length ≤ 1000) :
    BoxA Tryz.prog (.fn 96) [(kA, g, 1, X.map setA)] [.own kA g 1 n 0, intA a, intA b, cmpF] (.tuple []) [(kA, g, 1, (insN a b X).map setA)]:=by
  obtain ⟨R, hR⟩ : ∃ R, R = insN a b X:=⟨_, rfl⟩
  rw [← hR]
  refine boxA_codeB tabOk { l:=0, f:=96 } mixed call_96 Tryz.func96 (by kernel_rfl) ?_
  conv=>whnf
  repeat (any_goals (first|exact falseI|((first|refine bd ?_ ?_|refine bn ?_ ?_)<;>intro _<;>first|(exfalso;omega)|conv=>whnf)|((first|refine dI ?_|refine okI ?_|refine bt ?_|refine bi (fun _=>?_) (fun _=>?_)|refine bndI ?_|intro _)<;>conv=>whnf)))
  refine loopK tabOk { l:=0, f:=96 } mixed (fun x : Nat × List Nat=>[(8, intA ((a : Int) + x.1))]) (fun x=>[(kA, some (g, some (1, x.2.map setA)))]) (fun _=>[]) (fun x=>(1 ≤ x.1∧x.1 ≤ 2000)∧x.2.length = X.length∧R = insF a (b - a - x.1) x.1 x.2) (fun x=>b - a - x.1) (1, X) (by kernel_rfl)
    ⟨⟨Nat.le_refl _, by simp⟩, rfl, hR⟩ ?_
  conv=>whnf
  refine ⟨⟨slotsLe_cons rfl trivial, keysLe_cons rfl trivial, trivial⟩, ?_⟩
  intro ⟨i, L⟩ ⟨hi, hL, H⟩
  simp only at hi hL H
  conv=>whnf
  refine brP_dec (fun h1=>?_) (fun h1=>?_)
  · have h1 : (a : Int) + i < b:=h1
    have hin : a + i < b:=by omega
    rw [show b - a - i = (b - a - (i + 1)) + 1 by omega] at H
    simp only [insF] at H
    clear hR
    conv=>whnf
    have hb0:=bubN_len a i L
    generalize hB : bubN a i L = B at *
    refine loopK tabOk { l:=0, f:=96 } mixed (fun x : Nat × List Nat=>[(9, intA ((a : Int) + x.1))]) (fun x=>[(kA, some (g, some (1, x.2.map setA)))]) (fun _=>[]) (fun x=>x.1 ≤ i∧x.2.length = X.length∧B = bubN a x.1 x.2) (fun x=>x.1) (i, L) (by kernel_rfl)
      ⟨Nat.le_refl _, hL, hB.symm⟩ ?_
    conv=>whnf
    refine ⟨⟨slotsLe_cons rfl trivial, keysLe_cons rfl trivial, trivial⟩, ?_⟩
    intro ⟨j, M⟩ ⟨hj, hM, H'⟩
    simp only at hj hM H'
    conv=>whnf
    cases hd : decide ((a : Int) < (a : Int) + ((j, M).fst : Nat)) with
    | false =>
      have hj0 : j = 0:=by have:=of_decide_eq_false hd;simp only at this;omega
      subst hj0
      conv=>whnf
      repeat (any_goals (first|exact falseI|((first|refine bd ?_ ?_|refine bn ?_ ?_)<;>intro _<;>first|(exfalso;omega)|conv=>whnf)|((first|refine dI ?_|refine okI ?_|refine bt ?_|refine bi (fun _=>?_) (fun _=>?_)|refine bndI ?_|intro _)<;>conv=>whnf)))
      simp only [bubN] at H'
      subst H'
      (refine ⟨(i + 1, B), ⟨by simp only;omega, hM, by simp only;rw [H]⟩, (by simp only;omega), ?_⟩;(conv=>whnf);refine ⟨?_, ?_, ?_⟩<;>repeat (first|exact trivial|refine sc rfl ?_|refine kn ?_|refine kc rfl ?_|refine sc (by (show some (intA ((a : Int) + i + 1)) = some (intA ((a : Int) + ((i + 1 : Nat) : Int)));rw [Int.natCast_add, Int.add_assoc];rfl)) ?_|refine kc (by (show some (intA ((a : Int) + i + 1)) = some (intA ((a : Int) + ((i + 1 : Nat) : Int)));rw [Int.natCast_add, Int.add_assoc];rfl)) ?_))
    | true =>
      have hj0 : 0 < j:=by have:=of_decide_eq_true hd;simp only at this;omega
      obtain ⟨k, rfl⟩ : ∃ k, j = k + 1:=⟨j - 1, by omega⟩
      obtain ⟨x, hx, _⟩:=drop_cons (l:=M) (i:=a + (k + 1)) (by omega)
      obtain ⟨y, hy, _⟩:=drop_cons (l:=M) (i:=a + k) (by omega)
      have hc:=ordN_c x y
      simp only [bubN, hx, hy] at H'
      generalize ordN x y = v at *
      have e1 : (a : Int) + ((k + 1 : Nat) : Int) = ((a + (k + 1) : Nat) : Int):=by omega
      have e2 : (a : Int) + ((k + 1 : Nat) : Int) - 1 = ((a + k : Nat) : Int):=by omega
      have hs1:=set_sets M _ (a + (k + 1)) (setA y) y e1 rfl
      have hs2:=set_sets (M.set (a + (k + 1)) y) _ (a + k) (setA x) x e2 rfl
      have hx2 : (M.set (a + (k + 1)) y)[a + k]? = some y:=by rw [List.getElem?_set_ne (by omega), hy]
      conv=>whnf
      repeat (any_goals (first|exact falseI|((first|refine bd ?_ ?_|refine bn ?_ ?_)<;>intro _<;>first|(exfalso;omega)|conv=>whnf)|((first|refine optP_map hx e1 ?_|refine optP_map hy e2 ?_|refine optP_map hx2 e2 ?_|refine callP_a hc ?_|refine forceL_to hs1 ?_|refine forceL_to hs2 ?_|refine dI ?_|refine okI ?_|refine bt ?_|refine bi (fun _=>?_) (fun _=>?_)|refine bndI ?_|intro _)<;>conv=>whnf)))
      · rename_i hv
        rw [if_pos hv] at H'
        (refine ⟨(k, (M.set (a + (k + 1)) y).set (a + k) x), ⟨by simp only;omega, by simp [hM], H'⟩, (by simp only;omega), ?_⟩;(conv=>whnf);refine ⟨?_, ?_, ?_⟩<;>repeat (first|exact trivial|refine sc rfl ?_|refine kn ?_|refine kc rfl ?_|refine sc (by (show some (intA ((a : Int) + ((k + 1 : Nat) : Int) - 1)) = some (intA ((a : Int) + (k : Int)));rw [show (a : Int) + ((k + 1 : Nat) : Int) - 1 = (a : Int) + (k : Int) by omega])) ?_|refine kc (by (show some (intA ((a : Int) + ((k + 1 : Nat) : Int) - 1)) = some (intA ((a : Int) + (k : Int)));rw [show (a : Int) + ((k + 1 : Nat) : Int) - 1 = (a : Int) + (k : Int) by omega])) ?_))
      · rename_i hv
        rw [if_neg hv] at H'
        subst H'
        (refine ⟨(i + 1, B), ⟨by simp only;omega, hM, by simp only;rw [H]⟩, (by simp only;omega), ?_⟩;(conv=>whnf);refine ⟨?_, ?_, ?_⟩<;>repeat (first|exact trivial|refine sc rfl ?_|refine kn ?_|refine kc rfl ?_|refine sc (by (show some (intA ((a : Int) + i + 1)) = some (intA ((a : Int) + ((i + 1 : Nat) : Int)));rw [Int.natCast_add, Int.add_assoc];rfl)) ?_|refine kc (by (show some (intA ((a : Int) + i + 1)) = some (intA ((a : Int) + ((i + 1 : Nat) : Int)));rw [Int.natCast_add, Int.add_assoc];rfl)) ?_))
  · conv=>whnf
    rw [show b - a - i = 0 by have h1 : ¬ (a : Int) + i < b:=h1;omega] at H
    simp only [insF] at H
    subst H
    refine And.intro ?_ ?_
    · conv=>whnf
      refine ⟨⟨?_⟩, trivial⟩
      rfl
    · repeat (first|exact trivial|refine And.intro rfl ?_|refine And.intro (by skip) ?_)
def ltN (m n : Nat) : Bool:=decide (ordN m n < 0)
def order2N (L : List Nat) (a b s : Nat) : Nat × Nat × Nat:=if ltN (L.getD b 0) (L.getD a 0) = true then (b, a, s + 1) else (a, b, s)
def medianN (L : List Nat) (a b c s : Nat) : Nat × Nat :=
  let x:=order2N L a b s
  let y:=order2N L x.2.1 c x.2.2
  let z:=order2N L x.1 y.1 y.2.2
  (z.2.1, z.2.2)
def kW : Key:=⟨0, 99, 11⟩
theorem order2_c (g n : Nat) (L : List Nat) (a b s : Nat) (hn : n ≤ L.length) (ha : a < n) (hb : b < n) (hs : s ≤ 1000) :
    BoxA Tryz.prog (.fn 116) [(kA, g, 1, L.map setA), (kW, 1, 1, [intA s])] [.own kA g 1 n 0, intA a, intA b, .ptr kW 1 1 0 0, cmpF]
      (.tuple [intA (order2N L a b s).1, intA (order2N L a b s).2.1]) [(kA, g, 1, L.map setA), (kW, 1, 1, [intA (order2N L a b s).2.2])]:=by
  obtain ⟨x, hx, _⟩:=drop_cons (l:=L) (i:=a) (by omega)
  obtain ⟨y, hy, _⟩:=drop_cons (l:=L) (i:=b) (by omega)
  have hc:=ordN_c y x
  have e : ltN (L.getD b 0) (L.getD a 0) = decide (ordN y x < 0):=by
    rw [List.getD_eq_getElem?_getD, List.getD_eq_getElem?_getD, hx, hy];rfl
  unfold order2N
  rw [e]
  generalize ordN y x = v at *
  by_cases hv : v < 0
  · rw [if_pos (decide_eq_true hv)]
    refine boxA_codeB tabOk { l:=0, f:=116 } mixed call_116 Tryz.func116 (by kernel_rfl) ?_
    conv=>whnf
    repeat (any_goals (first|exact falseI|((first|refine bd ?_ ?_|refine bn ?_ ?_)<;>intro _<;>first|(exfalso;omega)|conv=>whnf)|((first|refine optP_map hy rfl ?_|refine optP_map hx rfl ?_|refine callP_a hc ?_|refine dI ?_|refine okI ?_|refine bt ?_|refine bi (fun _=>?_) (fun _=>?_)|refine bndI ?_|intro _)<;>conv=>whnf)))
    refine And.intro ?_ ?_
    · conv=>whnf
      refine ⟨⟨?_⟩, trivial⟩
      rfl
    · repeat (first|exact trivial|refine And.intro rfl ?_|refine And.intro (by skip) ?_)
  · rw [if_neg (by simpa using hv)]
    refine boxA_codeB tabOk { l:=0, f:=116 } mixed call_116 Tryz.func116 (by kernel_rfl) ?_
    conv=>whnf
    repeat (any_goals (first|exact falseI|((first|refine bd ?_ ?_|refine bn ?_ ?_)<;>intro _<;>first|(exfalso;omega)|conv=>whnf)|((first|refine optP_map hy rfl ?_|refine optP_map hx rfl ?_|refine callP_a hc ?_|refine dI ?_|refine okI ?_|refine bt ?_|refine bi (fun _=>?_) (fun _=>?_)|refine bndI ?_|intro _)<;>conv=>whnf)))
    refine And.intro ?_ ?_
    · conv=>whnf
      refine ⟨⟨?_⟩, trivial⟩
      rfl
    · repeat (first|exact trivial|refine And.intro rfl ?_|refine And.intro (by skip) ?_)
end Go.Proofs.YtbpiibdcncfphaaGreatDoor
namespace Go.Proofs.YtbpiibdcncfphaaGreatDoor
open Go.Am Go.Proofs Go
theorem tkL_map {α : Type} {f : α→AV} {g : AV→Option AV} (h : ∀ a, g (f a) = some (f a)) : ∀ l : List α, tkL g (l.map f) = some (l.map f)
  | []=>rfl
  | x :: xs=>by simp only [List.map_cons, tkL, h, tkL_map h xs]
theorem tk_sets (ks : List Key) (l : List Nat) : tkL (tk2 ks) (l.map setA) = some (l.map setA):=tkL_map (f:=setA) (g:=tk2 ks) (fun _=>rfl) l
theorem order2N_lt {L : List Nat} {a b s n : Nat} (ha : a < n) (hb : b < n) : (order2N L a b s).1 < n∧(order2N L a b s).2.1 < n∧(order2N L a b s).2.2 ≤ s + 1:=by
  unfold order2N
  split
  · exact ⟨hb, ha, Nat.le_refl _⟩
  · exact ⟨ha, hb, Nat.le_succ _⟩
theorem medianN_lt {L : List Nat} {a b c s n : Nat} (ha : a < n) (hb : b < n) (hc : c < n) : (medianN L a b c s).1 < n∧(medianN L a b c s).2 ≤ s + 3:=by
  unfold medianN
  obtain ⟨x1, x2, x3⟩:=order2N_lt (L:=L) (s:=s) ha hb
  obtain ⟨y1, y2, y3⟩:=order2N_lt (L:=L) (s:=(order2N L a b s).2.2) x2 hc
  obtain ⟨z1, z2, z3⟩:=order2N_lt (L:=L) (s:=(order2N L (order2N L a b s).2.1 c (order2N L a b s).2.2).2.2) x1 y1
  exact ⟨z2, by simp only;omega⟩
theorem median_c (g n : Nat) (L : List Nat) (a b c s : Nat) (hn : n ≤ L.length) (ha : a < n) (hb : b < n) (hc : c < n) (hs : s ≤ 900) :
    BoxA Tryz.prog (.fn 114) [(kA, g, 1, L.map setA), (kW, 1, 1, [intA s])] [.own kA g 1 n 0, intA a, intA b, intA c, .ptr kW 1 1 0 0, cmpF]
      (intA (medianN L a b c s).1) [(kA, g, 1, L.map setA), (kW, 1, 1, [intA (medianN L a b c s).2])]:=by
  unfold medianN
  have h1:=order2_c g n L a b s hn ha hb (by omega)
  obtain ⟨x1, x2, x3⟩:=order2N_lt (L:=L) (s:=s) ha hb
  generalize order2N L a b s = x at *
  obtain ⟨xa, xb, xs⟩:=x
  simp only at h1 x1 x2 x3 ⊢
  have h2:=order2_c g n L xb c xs hn x2 hc (by omega)
  obtain ⟨y1, y2, y3⟩:=order2N_lt (L:=L) (s:=xs) x2 hc
  generalize order2N L xb c xs = y at *
  obtain ⟨ya, yb, ys⟩:=y
  simp only at h2 y1 y2 y3 ⊢
  have h3:=order2_c g n L xa ya ys hn x1 y1 (by omega)
  generalize order2N L xa ya ys = z at *
  obtain ⟨za, zb, zs⟩:=z
  simp only at h3 ⊢
  refine boxA_codeB tabOk { l:=0, f:=114, mat:=[116] } mixed call_114 Tryz.func114 (by kernel_rfl) ?_
  conv=>whnf
  repeat (any_goals (first|exact falseI|((first|refine bd ?_ ?_|refine bn ?_ ?_)<;>intro _<;>first|(exfalso;omega)|conv=>whnf)|((first|refine dI ?_|refine okI ?_|refine bt ?_|refine bi (fun _=>?_) (fun _=>?_)|refine bndI ?_|intro _)<;>conv=>whnf)))
  refine ⟨[kA, kW], ?_⟩
  conv=>whnf
  refine optP_intro (tk_sets _ L) ?_
  conv=>whnf
  refine ⟨_, _, h1, ?_⟩
  conv=>whnf
  refine optP_intro (tk_sets _ L) ?_
  conv=>whnf
  repeat (any_goals (first|exact falseI|((first|refine bd ?_ ?_|refine bn ?_ ?_)<;>intro _<;>first|(exfalso;omega)|conv=>whnf)|((first|refine dI ?_|refine okI ?_|refine bt ?_|refine bi (fun _=>?_) (fun _=>?_)|refine bndI ?_|intro _)<;>conv=>whnf)))
  refine ⟨[kA, kW], ?_⟩
  conv=>whnf
  refine optP_intro (tk_sets _ L) ?_
  conv=>whnf
  refine ⟨_, _, h2, ?_⟩
  conv=>whnf
  refine optP_intro (tk_sets _ L) ?_
  conv=>whnf
  repeat (any_goals (first|exact falseI|((first|refine bd ?_ ?_|refine bn ?_ ?_)<;>intro _<;>first|(exfalso;omega)|conv=>whnf)|((first|refine dI ?_|refine okI ?_|refine bt ?_|refine bi (fun _=>?_) (fun _=>?_)|refine bndI ?_|intro _)<;>conv=>whnf)))
  refine ⟨[kA, kW], ?_⟩
  conv=>whnf
  refine optP_intro (tk_sets _ L) ?_
  conv=>whnf
  refine ⟨_, _, h3, ?_⟩
  conv=>whnf
  refine optP_intro (tk_sets _ L) ?_
  conv=>whnf
  repeat (any_goals (first|exact falseI|((first|refine bd ?_ ?_|refine bn ?_ ?_)<;>intro _<;>first|(exfalso;omega)|conv=>whnf)|((first|refine dI ?_|refine okI ?_|refine bt ?_|refine bi (fun _=>?_) (fun _=>?_)|refine bndI ?_|intro _)<;>conv=>whnf)))
  refine And.intro ?_ ?_
  · conv=>whnf
    refine ⟨⟨?_⟩, trivial⟩
    rfl
  · repeat (first|exact trivial|refine And.intro rfl ?_|refine And.intro (by skip) ?_)
theorem madj_c (g n : Nat) (L : List Nat) (a s : Nat) (hn : n ≤ L.length) (ha : 0 < a) (hb : a + 1 < n) (hn2 : n ≤ 1000) (hs : s ≤ 900) :
    BoxA Tryz.prog (.fn 113) [(kA, g, 1, L.map setA), (kW, 1, 1, [intA s])] [.own kA g 1 n 0, intA a, .ptr kW 1 1 0 0, cmpF]
      (intA (medianN L (a - 1) a (a + 1) s).1) [(kA, g, 1, L.map setA), (kW, 1, 1, [intA (medianN L (a - 1) a (a + 1) s).2])]:=by
  have h1:=median_c g n L (a - 1) a (a + 1) s hn (by omega) (by omega) hb hs
  rw [show ((a - 1 : Nat) : Int) = (a : Int) - 1 by omega, show ((a + 1 : Nat) : Int) = (a : Int) + 1 by omega] at h1
  generalize medianN L (a - 1) a (a + 1) s = x at *
  refine boxA_codeB tabOk { l:=0, f:=113, mat:=[114] } mixed call_113 Tryz.func113 (by kernel_rfl) ?_
  conv=>whnf
  repeat (any_goals (first|exact falseI|((first|refine bd ?_ ?_|refine bn ?_ ?_)<;>intro _<;>first|(exfalso;omega)|conv=>whnf)|((first|refine dI ?_|refine okI ?_|refine bt ?_|refine bi (fun _=>?_) (fun _=>?_)|refine bndI ?_|intro _)<;>conv=>whnf)))
  refine ⟨[kA, kW], ?_⟩
  conv=>whnf
  refine optP_intro (tk_sets _ L) ?_
  conv=>whnf
  refine ⟨_, _, h1, ?_⟩
  conv=>whnf
  refine optP_intro (tk_sets _ L) ?_
  conv=>whnf
  repeat (any_goals (first|exact falseI|((first|refine bd ?_ ?_|refine bn ?_ ?_)<;>intro _<;>first|(exfalso;omega)|conv=>whnf)|((first|refine dI ?_|refine okI ?_|refine bt ?_|refine bi (fun _=>?_) (fun _=>?_)|refine bndI ?_|intro _)<;>conv=>whnf)))
  refine And.intro ?_ ?_
  · conv=>whnf
    refine ⟨⟨?_⟩, trivial⟩
    rfl
  · repeat (first|exact trivial|refine And.intro rfl ?_|refine And.intro (by skip) ?_)
def chooseN (L : List Nat) (a b : Nat) : Nat × Nat :=
  if b - a < 50 then medianN L (a + (b - a) / 4) (a + (b - a) / 4 * 2) (a + (b - a) / 4 * 3) 0 else
    let x:=medianN L (a + (b - a) / 4 - 1) (a + (b - a) / 4) (a + (b - a) / 4 + 1) 0
    let y:=medianN L (a + (b - a) / 4 * 2 - 1) (a + (b - a) / 4 * 2) (a + (b - a) / 4 * 2 + 1) x.2
    let z:=medianN L (a + (b - a) / 4 * 3 - 1) (a + (b - a) / 4 * 3) (a + (b - a) / 4 * 3 + 1) y.2
    medianN L x.1 y.1 z.1 z.2
def hintN (s : Nat) : Int:=if (s : Int) = 0 then 1 else if (s : Int) = 12 then 2 else 0
theorem choose_c (g n : Nat) (L : List Nat) (a b : Nat) (hn : n ≤ L.length) (hb : b ≤ n) (hab : a + 13 ≤ b) (hn2 : n ≤ 1000) :
    BoxA Tryz.prog (.fn 99) [(kA, g, 1, L.map setA)] [.own kA g 1 n 0, intA a, intA b, cmpF]
      (.tuple [intA (chooseN L a b).1, intA (hintN (chooseN L a b).2)]) [(kA, g, 1, L.map setA)]:=by
  have hq : ((b : Int) - a).tdiv 4 = (((b - a) / 4 : Nat) : Int):=by
    rw [show (b : Int) - a = ((b - a : Nat) : Int) by omega, Int.tdiv_eq_ediv_of_nonneg (by omega)]
    rfl
  have e1 : (a : Int) + ((b : Int) - a).tdiv 4 * 1 = ((a + (b - a) / 4 : Nat) : Int):=by rw [hq];omega
  have e2 : (a : Int) + ((b : Int) - a).tdiv 4 * 2 = ((a + (b - a) / 4 * 2 : Nat) : Int):=by rw [hq];omega
  have e3 : (a : Int) + ((b : Int) - a).tdiv 4 * 3 = ((a + (b - a) / 4 * 3 : Nat) : Int):=by rw [hq];omega
  have hq0 : 0 ≤ ((b : Int) - a).tdiv 4∧((b : Int) - a).tdiv 4 ≤ 1000:=by rw [hq];omega
  unfold chooseN
  generalize hQ : (b - a) / 4 = q at *
  by_cases h50 : b - a < 50
  · rw [if_pos h50]
    have hm:=median_c g n L (a + q) (a + q * 2) (a + q * 3) 0 hn (by omega) (by omega) (by omega) (by omega)
    rw [← e1, ← e2, ← e3] at hm
    generalize medianN L (a + q) (a + q * 2) (a + q * 3) 0 = x at *
    unfold hintN
    clear e1 e2 e3 hq
    refine boxA_codeB tabOk { l:=0, f:=99, mat:=[114, 113] } mixed call_99 Tryz.func99 (by kernel_rfl) ?_
    conv=>whnf
    repeat (any_goals (first|exact falseI|((first|refine bd ?_ ?_|refine bn ?_ ?_)<;>intro _<;>first|(exfalso;omega)|conv=>whnf)|((first|refine dI ?_|refine okI ?_|refine bt ?_|refine bi (fun _=>?_) (fun _=>?_)|refine bndI ?_|intro _)<;>conv=>whnf)))
    refine ⟨[kA, kW], ?_⟩
    conv=>whnf
    refine optP_intro (tk_sets _ L) ?_
    conv=>whnf
    refine ⟨_, _, hm, ?_⟩
    conv=>whnf
    refine optP_intro (tk_sets _ L) ?_
    conv=>whnf
    repeat (any_goals (first|exact falseI|((first|refine bd ?_ ?_|refine bn ?_ ?_)<;>intro _<;>first|(exfalso;omega)|conv=>whnf)|((first|refine dI ?_|refine okI ?_|refine bt ?_|refine bi (fun _=>?_) (fun _=>?_)|refine bndI ?_|intro _)<;>conv=>whnf)))
    · rename_i h
      rw [if_pos h]
      refine And.intro ?_ ?_
      · conv=>whnf
        refine ⟨⟨?_⟩, trivial⟩
        rfl
      · repeat (first|exact trivial|refine And.intro rfl ?_|refine And.intro (by skip) ?_)
    · rename_i h h2
      rw [if_neg h, if_pos h2]
      refine And.intro ?_ ?_
      · conv=>whnf
        refine ⟨⟨?_⟩, trivial⟩
        rfl
      · repeat (first|exact trivial|refine And.intro rfl ?_|refine And.intro (by skip) ?_)
    · rename_i h h2
      rw [if_neg h, if_neg h2]
      refine And.intro ?_ ?_
      · conv=>whnf
        refine ⟨⟨?_⟩, trivial⟩
        rfl
      · repeat (first|exact trivial|refine And.intro rfl ?_|refine And.intro (by skip) ?_)
  · rw [if_neg h50]
    have hm1:=madj_c g n L (a + q) 0 hn (by omega) (by omega) hn2 (by omega)
    have k1:=medianN_lt (L:=L) (s:=0) (n:=n) (a:=a + q - 1) (b:=a + q) (c:=a + q + 1) (by omega) (by omega) (by omega)
    rw [← e1] at hm1
    generalize medianN L (a + q - 1) (a + q) (a + q + 1) 0 = x at *
    have hm2:=madj_c g n L (a + q * 2) x.2 hn (by omega) (by omega) hn2 (by omega)
    simp only
    have k2:=medianN_lt (L:=L) (s:=x.2) (n:=n) (a:=a + q * 2 - 1) (b:=a + q * 2) (c:=a + q * 2 + 1) (by omega) (by omega) (by omega)
    rw [← e2] at hm2
    generalize medianN L (a + q * 2 - 1) (a + q * 2) (a + q * 2 + 1) x.2 = y at *
    have hm3:=madj_c g n L (a + q * 3) y.2 hn (by omega) (by omega) hn2 (by omega)
    have k3:=medianN_lt (L:=L) (s:=y.2) (n:=n) (a:=a + q * 3 - 1) (b:=a + q * 3) (c:=a + q * 3 + 1) (by omega) (by omega) (by omega)
    rw [← e3] at hm3
    generalize medianN L (a + q * 3 - 1) (a + q * 3) (a + q * 3 + 1) y.2 = z at *
    have hm:=median_c g n L x.1 y.1 z.1 z.2 hn k1.1 k2.1 k3.1 (by omega)
    generalize medianN L x.1 y.1 z.1 z.2 = r at *
    unfold hintN
    clear e1 e2 e3 hq
    refine boxA_codeB tabOk { l:=0, f:=99, mat:=[114, 113] } mixed call_99 Tryz.func99 (by kernel_rfl) ?_
    conv=>whnf
    repeat (any_goals (first|exact falseI|((first|refine bd ?_ ?_|refine bn ?_ ?_)<;>intro _<;>first|(exfalso;omega)|conv=>whnf)|((first|refine dI ?_|refine okI ?_|refine bt ?_|refine bi (fun _=>?_) (fun _=>?_)|refine bndI ?_|intro _)<;>conv=>whnf)))
    refine ⟨[kA, kW], ?_⟩
    conv=>whnf
    refine optP_intro (tk_sets _ L) ?_
    conv=>whnf
    refine ⟨_, _, hm1, ?_⟩
    conv=>whnf
    refine optP_intro (tk_sets _ L) ?_
    conv=>whnf
    repeat (any_goals (first|exact falseI|((first|refine bd ?_ ?_|refine bn ?_ ?_)<;>intro _<;>first|(exfalso;omega)|conv=>whnf)|((first|refine dI ?_|refine okI ?_|refine bt ?_|refine bi (fun _=>?_) (fun _=>?_)|refine bndI ?_|intro _)<;>conv=>whnf)))
    refine ⟨[kA, kW], ?_⟩
    conv=>whnf
    refine optP_intro (tk_sets _ L) ?_
    conv=>whnf
    refine ⟨_, _, hm2, ?_⟩
    conv=>whnf
    refine optP_intro (tk_sets _ L) ?_
    conv=>whnf
    repeat (any_goals (first|exact falseI|((first|refine bd ?_ ?_|refine bn ?_ ?_)<;>intro _<;>first|(exfalso;omega)|conv=>whnf)|((first|refine dI ?_|refine okI ?_|refine bt ?_|refine bi (fun _=>?_) (fun _=>?_)|refine bndI ?_|intro _)<;>conv=>whnf)))
    refine ⟨[kA, kW], ?_⟩
    conv=>whnf
    refine optP_intro (tk_sets _ L) ?_
    conv=>whnf
    refine ⟨_, _, hm3, ?_⟩
    conv=>whnf
    refine optP_intro (tk_sets _ L) ?_
    conv=>whnf
    repeat (any_goals (first|exact falseI|((first|refine bd ?_ ?_|refine bn ?_ ?_)<;>intro _<;>first|(exfalso;omega)|conv=>whnf)|((first|refine dI ?_|refine okI ?_|refine bt ?_|refine bi (fun _=>?_) (fun _=>?_)|refine bndI ?_|intro _)<;>conv=>whnf)))
    refine ⟨[kA, kW], ?_⟩
    conv=>whnf
    refine optP_intro (tk_sets _ L) ?_
    conv=>whnf
    refine ⟨_, _, hm, ?_⟩
    conv=>whnf
    refine optP_intro (tk_sets _ L) ?_
    conv=>whnf
    repeat (any_goals (first|exact falseI|((first|refine bd ?_ ?_|refine bn ?_ ?_)<;>intro _<;>first|(exfalso;omega)|conv=>whnf)|((first|refine dI ?_|refine okI ?_|refine bt ?_|refine bi (fun _=>?_) (fun _=>?_)|refine bndI ?_|intro _)<;>conv=>whnf)))
    · rename_i h
      rw [if_pos h]
      refine And.intro ?_ ?_
      · conv=>whnf
        refine ⟨⟨?_⟩, trivial⟩
        rfl
      · repeat (first|exact trivial|refine And.intro rfl ?_|refine And.intro (by skip) ?_)
    · rename_i h h2
      rw [if_neg h, if_pos h2]
      refine And.intro ?_ ?_
      · conv=>whnf
        refine ⟨⟨?_⟩, trivial⟩
        rfl
      · repeat (first|exact trivial|refine And.intro rfl ?_|refine And.intro (by skip) ?_)
    · rename_i h h2
      rw [if_neg h, if_neg h2]
      refine And.intro ?_ ?_
      · conv=>whnf
        refine ⟨⟨?_⟩, trivial⟩
        rfl
      · repeat (first|exact trivial|refine And.intro rfl ?_|refine And.intro (by skip) ?_)
end Go.Proofs.YtbpiibdcncfphaaGreatDoor
namespace Go.Proofs.YtbpiibdcncfphaaGreatDoor
open Go.Am Go.Proofs Go
def atN (L : List Nat) (i : Nat) : Nat:=L.getD i 0
theorem at_get {L : List Nat} {i : Nat} (h : i < L.length) : L[i]? = some (atN L i):=by
  unfold atN;rw [List.getD_eq_getElem?_getD, List.getElem?_eq_getElem h];rfl
def scanN (L : List Nat) : Nat→Nat→Nat × Nat
  | 0, i=>(i, 0)
  | k + 1, i=>if ltN (atN L i) (atN L (i - 1)) = true then (i, k + 1) else scanN L k (i + 1)
def partialOk (L : List Nat) (a b : Nat) : Bool:=decide (b - a < 50) && decide ((scanN L (b - a - 1) (a + 1)).2 ≠ 0)
theorem partial_c (g n : Nat) (L : List Nat) (a b : Nat) (hn : n ≤ L.length) (hb : b ≤ n) (hab : a + 13 ≤ b) (hn2 : n ≤ 1000) (hok : partialOk L a b = true) :
    BoxA Tryz.prog (.fn 101) [(kA, g, 1, L.map setA)] [.own kA g 1 n 0, intA a, intA b, cmpF] (boolA false) [(kA, g, 1, L.map setA)]:=by
  simp only [partialOk, Bool.and_eq_true, decide_eq_true_eq] at hok
  obtain ⟨h50, hsc⟩:=hok
  have hcmp:=ordN_c
  refine boxA_codeB tabOk { l:=0, f:=101 } mixed call_101 Tryz.func101 (by kernel_rfl) ?_
  conv=>whnf
  repeat (any_goals (first|exact falseI|((first|refine bd ?_ ?_|refine bn ?_ ?_)<;>intro _<;>first|(exfalso;omega)|conv=>whnf)|((first|refine dI ?_|refine okI ?_|refine bt ?_|refine bi (fun _=>?_) (fun _=>?_)|refine bndI ?_|intro _)<;>conv=>whnf)))
  refine loopK tabOk { l:=0, f:=101 } mixed (fun _ : Unit=>[(9, intA ((a : Int) + 1)), (10, intA 0)]) (fun _=>[(kA, some (g, some (1, L.map setA)))]) (fun _=>[]) (fun _=>True) (fun _=>0) () (by kernel_rfl)
    trivial ?_
  conv=>whnf
  refine ⟨⟨slotsLe_cons rfl (slotsLe_cons rfl trivial), keysLe_cons rfl trivial, trivial⟩, ?_⟩
  intro _ _
  conv=>whnf
  repeat (any_goals (first|exact falseI|((first|refine bd ?_ ?_|refine bn ?_ ?_)<;>intro _<;>first|(exfalso;omega)|conv=>whnf)|((first|refine dI ?_|refine okI ?_|refine bt ?_|refine bi (fun _=>?_) (fun _=>?_)|refine bndI ?_|intro _)<;>conv=>whnf)))
  refine loopK tabOk { l:=0, f:=101 } mixed (fun x : Nat × Nat=>[(9, intA x.1)]) (fun _=>[(kA, some (g, some (1, L.map setA)))]) (fun _=>[]) (fun x=>a + 1 ≤ x.1∧x.1 + x.2 = b∧(scanN L x.2 x.1).2 ≠ 0) (fun x=>x.2) (a + 1, b - a - 1) (by kernel_rfl)
    ⟨Nat.le_refl _, by simp only;omega, hsc⟩ ?_
  conv=>whnf
  refine ⟨⟨slotsLe_cons (by show some (intA ((a : Int) + 1)) = some (intA ((a + 1 : Nat) : Int));rw [Int.natCast_add];rfl) trivial, keysLe_cons rfl trivial, trivial⟩, ?_⟩
  clear hsc
  intro ⟨i, k⟩ ⟨hi, hk, H⟩
  simp only at hi hk H
  cases k with
  | zero=>simp [scanN] at H
  | succ k =>
    have hx:=at_get (L:=L) (i:=i) (by omega)
    have hy:=at_get (L:=L) (i:=i - 1) (by omega)
    have hc:=hcmp (atN L i) (atN L (i - 1))
    have hi1 : (i : Int) - 1 = ((i - 1 : Nat) : Int):=by omega
    have hib : (i : Int) < b:=by omega
    have H' : ¬ ordN (atN L i) (atN L (i - 1)) < 0→(scanN L k (i + 1)).2 ≠ 0:=by
      intro h
      rw [scanN, if_neg (by simpa [ltN] using h)] at H
      exact H
    obtain ⟨v, hv0⟩ : ∃ v, v = ordN (atN L i) (atN L (i - 1)):=⟨_, rfl⟩
    rw [← hv0] at hc H'
    clear hv0 H
    obtain ⟨x, hx0⟩ : ∃ x, x = atN L i:=⟨_, rfl⟩
    rw [← hx0] at hx hc
    obtain ⟨y, hy0⟩ : ∃ y, y = atN L (i - 1):=⟨_, rfl⟩
    rw [← hy0] at hy hc
    clear hx0 hy0
    conv=>whnf
    by_cases hv : v < 0
    · have hne : ¬ (i : Int) = b:=by omega
      have h50' : (b : Int) - a < 50:=by omega
      repeat (any_goals (first|exact falseI|((first|refine bd ?_ ?_|refine bn ?_ ?_)<;>intro _<;>first|(exfalso;omega)|conv=>whnf)|((first|refine optP_map hx rfl ?_|refine optP_map hy hi1 ?_|refine callP_a hc ?_|refine dI ?_|refine okI ?_|refine bt ?_|refine bi (fun _=>?_) (fun _=>?_)|refine bndI ?_|intro _)<;>conv=>whnf)))
      refine And.intro ?_ ?_
      · conv=>whnf
        refine ⟨⟨?_⟩, trivial⟩
        rfl
      · repeat (first|exact trivial|refine And.intro rfl ?_|refine And.intro (by skip) ?_)
    · have H:=H' hv
      repeat (any_goals (first|exact falseI|((first|refine bd ?_ ?_|refine bn ?_ ?_)<;>intro _<;>first|(exfalso;omega)|conv=>whnf)|((first|refine optP_map hx rfl ?_|refine optP_map hy hi1 ?_|refine callP_a hc ?_|refine dI ?_|refine okI ?_|refine bt ?_|refine bi (fun _=>?_) (fun _=>?_)|refine bndI ?_|intro _)<;>conv=>whnf)))
      (refine ⟨(i + 1, k), ⟨by simp only;omega, by simp only;omega, H⟩, (by simp only;omega), ?_⟩;(conv=>whnf);refine ⟨?_, ?_, ?_⟩<;>repeat (first|exact trivial|refine sc rfl ?_|refine kn ?_|refine kc rfl ?_|refine sc (by rfl) ?_|refine kc (by rfl) ?_))
def swapN (L : List Nat) (x y : Nat) : List Nat:=(L.set x (atN L y)).set y (atN L x)
def upN (L : List Nat) (a : Nat) : Nat→Nat→Nat × Nat
  | 0, i=>(i, 0)
  | k + 1, i=>if ltN (atN L i) (atN L a) = true then upN L a k (i + 1) else (i, k + 1)
def dnN (L : List Nat) (a i : Nat) : Nat→Nat
  | 0=>0
  | k + 1=>if ltN (atN L (i + k)) (atN L a) = true then k + 1 else dnN L a i k
def partF (a : Nat) : Nat→Nat→Nat→List Nat→Option (Nat × List Nat)
  | 0, _, _, _=>none
  | f + 1, i, k, L =>
    match upN L a k i with
    | (i', k')=>match dnN L a i' k' with
      | 0=>some (i' - 1, L)
      | 1=>none
      | d + 2=>partF a f (i' + 1) d (swapN L i' (i' + d + 1))
def partN (L : List Nat) (a b p : Nat) : Option (Nat × List Nat) :=
  match upN (swapN L a p) a (b - a - 1) (a + 1) with
  | (i', k')=>match dnN (swapN L a p) a i' k' with
    | 0=>none
    | 1=>none
    | d + 2=>match partF a b (i' + 1) d (swapN (swapN L a p) i' (i' + d + 1)) with
      | none=>none
      | some (j, M)=>some (j, swapN M j a)
theorem swapN_len (L : List Nat) (x y : Nat) : (swapN L x y).length = L.length:=by simp [swapN]
end Go.Proofs.YtbpiibdcncfphaaGreatDoor
namespace Go.Proofs.YtbpiibdcncfphaaGreatDoor
open Go.Am Go.Proofs Go
set_option maxHeartbeats 8000000 in
theorem part_c (g n : Nat) (X : List Nat) (a b p jr : Nat) (R : List Nat) (hn : n ≤ X.length) (hb : b ≤ n) (hab : a + 13 ≤ b) (hp : a ≤ p∧p < b) (hn2 : n ≤ 1000) (hR : partN X a b p = some (jr, R)) :
    BoxA Tryz.prog (.fn 103) [(kA, g, 1, X.map setA)] [.own kA g 1 n 0, intA a, intA b, intA p, cmpF] (.tuple [intA jr, boolA false]) [(kA, g, 1, R.map setA)]:=by
  have hcmp:=ordN_c
  unfold partN at hR
  have g10:=at_get (L:=X) (i:=p) (by omega)
  have g20:=at_get (L:=X) (i:=a) (by omega)
  have g30:=at_get (L:=X.set (a) (atN X (p))) (i:=p) (by rw [List.length_set];omega)
  have s10:=set_sets X _ (a) (setA (atN X (p))) (atN X (p)) rfl rfl
  have s20:=set_sets (X.set (a) (atN X (p))) _ (p) (setA (atN X (a))) (atN X (a)) rfl rfl
  have hLL:=swapN_len X a p
  have hLe : (X.set a (atN X p)).set p (atN X a) = swapN X a p:=rfl
  rw [hLe] at s20
  generalize swapN X a p = L at *
  obtain ⟨U, hU⟩ : ∃ U, U = upN L a (b - a - 1) (a + 1):=⟨_, rfl⟩
  rw [← hU] at hR
  obtain ⟨J, hJ⟩ : ∃ J : Int, J = (b : Int) - 1:=⟨_, rfl⟩
  refine boxA_codeB tabOk { l:=0, f:=103 } mixed call_103 Tryz.func103 (by kernel_rfl) ?_
  conv=>whnf
  repeat (any_goals (first|exact falseI|((first|refine bd ?_ ?_|refine bn ?_ ?_)<;>intro _<;>first|(exfalso;omega)|conv=>whnf)|((first|refine optP_map g10 rfl ?_|refine optP_map g20 rfl ?_|refine optP_map g30 rfl ?_|refine forceL_to s10 ?_|refine forceL_to s20 ?_|refine dI ?_|refine okI ?_|refine bt ?_|refine bi (fun _=>?_) (fun _=>?_)|refine bndI ?_|intro _)<;>conv=>whnf)))
  refine loopK tabOk { l:=0, f:=103 } mixed (fun x : Nat × Nat=>[(12, intA x.1)]) (fun _=>[(kA, some (g, some (1, L.map setA)))]) (fun _=>[]) (fun x=>a + 1 ≤ x.1∧(x.1 : Int) + x.2 = J + 1∧U = upN L a x.2 x.1) (fun x=>x.2) (a + 1, b - a - 1) (by kernel_rfl)
    ⟨by simp only;omega, by simp only;omega, hU⟩ ?_
  conv=>whnf
  refine ⟨⟨slotsLe_cons rfl trivial, keysLe_cons rfl trivial, trivial⟩, ?_⟩
  clear hU
  intro ⟨i, k⟩ ⟨hi, hik, hU⟩
  simp only at hi hik hU
  cases k with
  | zero =>
    have hn0 : ¬ (i : Int) ≤ J:=by omega
    simp only [upN] at hU
    rw [hU] at hR
    simp [dnN] at hR
  | succ k =>
    have hn0 : (i : Int) ≤ J:=by omega
    have hx:=at_get (L:=L) (i:=i) (by omega)
    have hy:=at_get (L:=L) (i:=a) (by omega)
    have hc:=hcmp (atN L i) (atN L a)
    by_cases hv : ordN (atN L i) (atN L a) < 0
    · rw [upN, if_pos (by simpa [ltN] using hv)] at hU
      obtain ⟨v, hv0⟩ : ∃ v, v = ordN (atN L i) (atN L a):=⟨_, rfl⟩
      rw [← hv0] at hc hv
      conv=>whnf
      repeat (any_goals (first|exact falseI|((first|refine bd ?_ ?_|refine bn ?_ ?_)<;>intro _<;>first|(exfalso;omega)|conv=>whnf)|((first|refine optP_map hx rfl ?_|refine optP_map hy rfl ?_|refine callP_a hc ?_|refine dI ?_|refine okI ?_|refine bt ?_|refine bi (fun _=>?_) (fun _=>?_)|refine bndI ?_|intro _)<;>conv=>whnf)))
      (refine ⟨(i + 1, k), ⟨by simp only;omega, by simp only;omega, hU⟩, (by simp only;omega), ?_⟩;(conv=>whnf);refine ⟨?_, ?_, ?_⟩<;>repeat (first|exact trivial|refine sc rfl ?_|refine kn ?_|refine kc rfl ?_|refine sc (by rfl) ?_|refine kc (by rfl) ?_))
    · rw [upN, if_neg (by simpa [ltN] using hv)] at hU
      obtain ⟨v, hv0⟩ : ∃ v, v = ordN (atN L i) (atN L a):=⟨_, rfl⟩
      rw [← hv0] at hc hv
      conv=>whnf
      repeat (any_goals (first|exact falseI|((first|refine bd ?_ ?_|refine bn ?_ ?_)<;>intro _<;>first|(exfalso;omega)|conv=>whnf)|((first|refine optP_map hx rfl ?_|refine optP_map hy rfl ?_|refine callP_a hc ?_|refine dI ?_|refine okI ?_|refine bt ?_|refine bi (fun _=>?_) (fun _=>?_)|refine bndI ?_|intro _)<;>conv=>whnf)))
      clear hx hy hc hv hv0
      rw [hU] at hR
      simp only at hR
      obtain ⟨D, hD⟩ : ∃ D, D = dnN L a i (k + 1):=⟨_, rfl⟩
      rw [← hD] at hR
      refine loopK tabOk { l:=0, f:=103 } mixed (fun k : Nat=>[(13, intA ((i : Int) + k - 1))]) (fun _=>[(kA, some (g, some (1, L.map setA)))]) (fun _=>[]) (fun k=>i + k ≤ b∧D = dnN L a i k) (fun k=>k) (k + 1) (by kernel_rfl)
        ⟨by omega, hD⟩ ?_
      conv=>whnf
      refine ⟨⟨slotsLe_cons (congrArg (fun z : Int=>some (intA z)) (by first|omega|(simp only;omega))) trivial, keysLe_cons rfl trivial, trivial⟩, ?_⟩
      clear hD
      intro q ⟨hq, hD⟩
      cases q with
      | zero =>
        have hn1 : ¬ (i : Int) ≤ (i : Int) + ((0 : Nat) : Int) - 1:=by omega
        simp only [dnN] at hD
        rw [hD] at hR
        simp at hR
      | succ q =>
        have hn1 : (i : Int) ≤ (i : Int) + ((q + 1 : Nat) : Int) - 1:=by omega
        have ej : (i : Int) + ((q + 1 : Nat) : Int) - 1 = ((i + q : Nat) : Int):=by omega
        have hx:=at_get (L:=L) (i:=i + q) (by omega)
        have hy:=at_get (L:=L) (i:=a) (by omega)
        have hc:=hcmp (atN L (i + q)) (atN L a)
        by_cases hv : ordN (atN L (i + q)) (atN L a) < 0
        · rw [dnN, if_pos (by simpa [ltN] using hv)] at hD
          obtain ⟨v, hv0⟩ : ∃ v, v = ordN (atN L (i + q)) (atN L a):=⟨_, rfl⟩
          rw [← hv0] at hc hv
          rw [hD] at hR
          cases q with
          | zero=>simp at hR
          | succ d =>
            simp only at hR
            have ej2 : (i : Int) + ((d + 1 + 1 : Nat) : Int) - 1 = ((i + d + 1 : Nat) : Int):=by omega
            have g1n:=at_get (L:=L) (i:=i + d + 1) (by omega)
            have g2n:=at_get (L:=L) (i:=i) (by omega)
            have g3n:=at_get (L:=L.set (i) (atN L (i + d + 1))) (i:=i + d + 1) (by rw [List.length_set];omega)
            have s1n:=set_sets L _ (i) (setA (atN L (i + d + 1))) (atN L (i + d + 1)) rfl rfl
            have s2n:=set_sets (L.set (i) (atN L (i + d + 1))) _ (i + d + 1) (setA (atN L (i))) (atN L (i)) ej2 rfl
            obtain ⟨jr', Mr, H, hj1, hj2⟩ : ∃ jr' Mr, partF a b (i + 1) d (swapN L i (i + d + 1)) = some (jr', Mr)∧jr = jr'∧R = swapN Mr jr' a:=by
              cases hP : partF a b (i + 1) d (swapN L i (i + d + 1)) with
              | none=>rw [hP] at hR;simp at hR
              | some x=>rw [hP] at hR;simp at hR;exact ⟨x.1, x.2, rfl, hR.1.symm, hR.2.symm⟩
            subst hj1 hj2
            clear hR
            conv=>whnf
            repeat (any_goals (first|exact falseI|((first|refine bd ?_ ?_|refine bn ?_ ?_)<;>intro _<;>first|(exfalso;omega)|conv=>whnf)|((first|refine optP_map hx ej ?_|refine optP_map hy rfl ?_|refine callP_a hc ?_|refine optP_map g1n ej2 ?_|refine optP_map g2n rfl ?_|refine optP_map g3n ej2 ?_|refine forceL_to s1n ?_|refine forceL_to s2n ?_|refine dI ?_|refine okI ?_|refine bt ?_|refine bi (fun _=>?_) (fun _=>?_)|refine bndI ?_|intro _)<;>conv=>whnf)))
            clear hx hy hc hv hv0 ej hn0 hn1
            refine loopK tabOk { l:=0, f:=103 } mixed (fun x : Nat × Nat × Nat × List Nat=>[(12, intA x.2.1), (13, intA ((x.2.1 : Int) + x.2.2.1 - 1))]) (fun x=>[(kA, some (g, some (1, x.2.2.2.map setA)))]) (fun _=>[]) (fun x=>a + 1 ≤ x.2.1∧x.2.1 + x.2.2.1 ≤ b∧x.2.2.2.length = X.length∧partF a x.1 x.2.1 x.2.2.1 x.2.2.2 = some (jr, Mr)) (fun x=>x.1) (b, i + 1, d, swapN L i (i + d + 1)) (by kernel_rfl)
              ⟨by simp only;omega, by simp only;omega, by simp only;rw [swapN_len];exact hLL, H⟩ ?_
            conv=>whnf
            refine ⟨⟨slotsLe_cons rfl (slotsLe_cons (by first|rfl|exact congrArg (fun z : Int=>some (intA z)) (by first|omega|(simp only;omega))) trivial), keysLe_cons rfl trivial, trivial⟩, ?_⟩
            clear H
            intro ⟨f, i, k, M⟩ ⟨hi, hik0, hML, H⟩
            simp only at hi hik0 hML H
            cases f with
            | zero=>simp [partF] at H
            | succ f =>
              have q1 : ((f + 1, i, k, M) : Nat × Nat × Nat × List Nat).snd.fst = i:=rfl
              have q2 : ((f + 1, i, k, M) : Nat × Nat × Nat × List Nat).snd.snd.fst = k:=rfl
              rw [partF] at H
              obtain ⟨U, hU⟩ : ∃ U, U = upN M a k i:=⟨_, rfl⟩
              obtain ⟨J, hJ⟩ : ∃ J : Int, J = (i : Int) + k - 1:=⟨_, rfl⟩
              rw [← hU] at H
              conv=>whnf
              repeat (any_goals (first|exact falseI|((first|refine bd ?_ ?_|refine bn ?_ ?_)<;>intro _<;>first|(exfalso;omega)|conv=>whnf)|((first|refine dI ?_|refine okI ?_|refine bt ?_|refine bi (fun _=>?_) (fun _=>?_)|refine bndI ?_|intro _)<;>conv=>whnf)))
              refine loopK tabOk { l:=0, f:=103 } mixed (fun x : Nat × Nat=>[(12, intA x.1)]) (fun _=>[(kA, some (g, some (1, M.map setA)))]) (fun _=>[]) (fun x=>a + 1 ≤ x.1∧(x.1 : Int) + x.2 = J + 1∧U = upN M a x.2 x.1) (fun x=>x.2) (i, k) (by kernel_rfl)
                ⟨by simp only;omega, by simp only;omega, hU⟩ ?_
              conv=>whnf
              refine ⟨⟨slotsLe_cons rfl trivial, keysLe_cons rfl trivial, trivial⟩, ?_⟩
              clear hU
              intro ⟨i, k⟩ ⟨hi, hik, hU⟩
              simp only at hi hik hU
              cases k with
              | zero =>
                have hn0 : ¬ (i : Int) ≤ J:=by omega
                simp only [upN] at hU
                conv=>whnf
                repeat (any_goals (first|exact falseI|((first|refine bd ?_ ?_|refine bn ?_ ?_)<;>intro _<;>first|(exfalso;omega)|conv=>whnf)|((first|refine dI ?_|refine okI ?_|refine bt ?_|refine bi (fun _=>?_) (fun _=>?_)|refine bndI ?_|intro _)<;>conv=>whnf)))
                rw [hU] at H
                simp only at H
                obtain ⟨D, hD⟩ : ∃ D, D = dnN M a i (0):=⟨_, rfl⟩
                rw [← hD] at H
                refine loopK tabOk { l:=0, f:=103 } mixed (fun k : Nat=>[(13, intA ((i : Int) + k - 1))]) (fun _=>[(kA, some (g, some (1, M.map setA)))]) (fun _=>[]) (fun k=>i + k ≤ b∧D = dnN M a i k) (fun k=>k) (0) (by kernel_rfl)
                  ⟨by omega, hD⟩ ?_
                conv=>whnf
                refine ⟨⟨slotsLe_cons (congrArg (fun z : Int=>some (intA z)) (by first|omega|(simp only;omega))) trivial, keysLe_cons rfl trivial, trivial⟩, ?_⟩
                clear hD
                intro q ⟨hq, hD⟩
                cases q with
                | zero =>
                  have hn1 : ¬ (i : Int) ≤ (i : Int) + ((0 : Nat) : Int) - 1:=by omega
                  simp only [dnN] at hD
                  rw [hD] at H
                  have hjn : (i : Int) + ((0 : Nat) : Int) - 1 = ((i - 1 : Nat) : Int):=by omega
                  have g1f:=at_get (L:=M) (i:=a) (by omega)
                  have g2f:=at_get (L:=M) (i:=i - 1) (by omega)
                  have g3f:=at_get (L:=M.set (i - 1) (atN M (a))) (i:=a) (by rw [List.length_set];omega)
                  have s1f:=set_sets M _ (i - 1) (setA (atN M (a))) (atN M (a)) hjn rfl
                  have s2f:=set_sets (M.set (i - 1) (atN M (a))) _ (a) (setA (atN M (i - 1))) (atN M (i - 1)) rfl rfl
                  simp only [Option.some.injEq, Prod.mk.injEq] at H
                  obtain ⟨h1, h2⟩:=H
                  subst h2
                  subst h1
                  conv=>whnf
                  repeat (any_goals (first|exact falseI|((first|refine bd ?_ ?_|refine bn ?_ ?_)<;>intro _<;>first|(exfalso;omega)|conv=>whnf)|((first|refine optP_map g1f rfl ?_|refine optP_map g2f hjn ?_|refine optP_map g3f rfl ?_|refine forceL_to s1f ?_|refine forceL_to s2f ?_|refine dI ?_|refine okI ?_|refine bt ?_|refine bi (fun _=>?_) (fun _=>?_)|refine bndI ?_|intro _)<;>conv=>whnf)))
                  refine And.intro ?_ ?_
                  · conv=>whnf
                    refine ⟨⟨?_⟩, trivial⟩
                    (rw [← hjn];rfl)
                  · repeat (first|exact trivial|refine And.intro rfl ?_|refine And.intro (by rfl) ?_)
                | succ q =>
                  have hn1 : (i : Int) ≤ (i : Int) + ((q + 1 : Nat) : Int) - 1:=by omega
                  have ej : (i : Int) + ((q + 1 : Nat) : Int) - 1 = ((i + q : Nat) : Int):=by omega
                  have hx:=at_get (L:=M) (i:=i + q) (by omega)
                  have hy:=at_get (L:=M) (i:=a) (by omega)
                  have hc:=hcmp (atN M (i + q)) (atN M a)
                  by_cases hv : ordN (atN M (i + q)) (atN M a) < 0
                  · rw [dnN, if_pos (by simpa [ltN] using hv)] at hD
                    obtain ⟨v, hv0⟩ : ∃ v, v = ordN (atN M (i + q)) (atN M a):=⟨_, rfl⟩
                    rw [← hv0] at hc hv
                    rw [hD] at H
                    cases q with
                    | zero=>simp at H
                    | succ d =>
                      simp only at H
                      have ej2 : (i : Int) + ((d + 1 + 1 : Nat) : Int) - 1 = ((i + d + 1 : Nat) : Int):=by omega
                      have g1n:=at_get (L:=M) (i:=i + d + 1) (by omega)
                      have g2n:=at_get (L:=M) (i:=i) (by omega)
                      have g3n:=at_get (L:=M.set (i) (atN M (i + d + 1))) (i:=i + d + 1) (by rw [List.length_set];omega)
                      have s1n:=set_sets M _ (i) (setA (atN M (i + d + 1))) (atN M (i + d + 1)) rfl rfl
                      have s2n:=set_sets (M.set (i) (atN M (i + d + 1))) _ (i + d + 1) (setA (atN M (i))) (atN M (i)) ej2 rfl
                      conv=>whnf
                      repeat (any_goals (first|exact falseI|((first|refine bd ?_ ?_|refine bn ?_ ?_)<;>intro _<;>first|(exfalso;omega)|conv=>whnf)|((first|refine optP_map hx ej ?_|refine optP_map hy rfl ?_|refine callP_a hc ?_|refine optP_map g1n ej2 ?_|refine optP_map g2n rfl ?_|refine optP_map g3n ej2 ?_|refine forceL_to s1n ?_|refine forceL_to s2n ?_|refine dI ?_|refine okI ?_|refine bt ?_|refine bi (fun _=>?_) (fun _=>?_)|refine bndI ?_|intro _)<;>conv=>whnf)))
                      (refine ⟨(f, i + 1, d, swapN M i (i + d + 1)), ⟨by simp only;omega, by simp only;omega, by simp only;rw [swapN_len];exact hML, H⟩, (by simp only;omega), ?_⟩;(conv=>whnf);refine ⟨?_, ?_, ?_⟩<;>repeat (first|exact trivial|refine sc rfl ?_|refine kn ?_|refine kc rfl ?_|refine sc (by first|rfl|exact congrArg (fun z : Int=>some (intA z)) (by first|omega|(simp only;omega))) ?_|refine kc (by first|rfl|exact congrArg (fun z : Int=>some (intA z)) (by first|omega|(simp only;omega))) ?_))
                  · rw [dnN, if_neg (by simpa [ltN] using hv)] at hD
                    obtain ⟨v, hv0⟩ : ∃ v, v = ordN (atN M (i + q)) (atN M a):=⟨_, rfl⟩
                    rw [← hv0] at hc hv
                    conv=>whnf
                    repeat (any_goals (first|exact falseI|((first|refine bd ?_ ?_|refine bn ?_ ?_)<;>intro _<;>first|(exfalso;omega)|conv=>whnf)|((first|refine optP_map hx ej ?_|refine optP_map hy rfl ?_|refine callP_a hc ?_|refine dI ?_|refine okI ?_|refine bt ?_|refine bi (fun _=>?_) (fun _=>?_)|refine bndI ?_|intro _)<;>conv=>whnf)))
                    (refine ⟨q, ⟨by omega, hD⟩, (by omega), ?_⟩;(conv=>whnf);refine ⟨?_, ?_, ?_⟩<;>repeat (first|exact trivial|refine sc rfl ?_|refine kn ?_|refine kc rfl ?_|refine sc (by exact congrArg (fun z : Int=>some (intA z)) (by first|omega|(simp only;omega))) ?_|refine kc (by exact congrArg (fun z : Int=>some (intA z)) (by first|omega|(simp only;omega))) ?_))
              | succ k =>
                have hn0 : (i : Int) ≤ J:=by omega
                have hx:=at_get (L:=M) (i:=i) (by omega)
                have hy:=at_get (L:=M) (i:=a) (by omega)
                have hc:=hcmp (atN M i) (atN M a)
                by_cases hv : ordN (atN M i) (atN M a) < 0
                · rw [upN, if_pos (by simpa [ltN] using hv)] at hU
                  obtain ⟨v, hv0⟩ : ∃ v, v = ordN (atN M i) (atN M a):=⟨_, rfl⟩
                  rw [← hv0] at hc hv
                  conv=>whnf
                  repeat (any_goals (first|exact falseI|((first|refine bd ?_ ?_|refine bn ?_ ?_)<;>intro _<;>first|(exfalso;omega)|conv=>whnf)|((first|refine optP_map hx rfl ?_|refine optP_map hy rfl ?_|refine callP_a hc ?_|refine dI ?_|refine okI ?_|refine bt ?_|refine bi (fun _=>?_) (fun _=>?_)|refine bndI ?_|intro _)<;>conv=>whnf)))
                  (refine ⟨(i + 1, k), ⟨by simp only;omega, by simp only;omega, hU⟩, (by simp only;omega), ?_⟩;(conv=>whnf);refine ⟨?_, ?_, ?_⟩<;>repeat (first|exact trivial|refine sc rfl ?_|refine kn ?_|refine kc rfl ?_|refine sc (by rfl) ?_|refine kc (by rfl) ?_))
                · rw [upN, if_neg (by simpa [ltN] using hv)] at hU
                  obtain ⟨v, hv0⟩ : ∃ v, v = ordN (atN M i) (atN M a):=⟨_, rfl⟩
                  rw [← hv0] at hc hv
                  conv=>whnf
                  repeat (any_goals (first|exact falseI|((first|refine bd ?_ ?_|refine bn ?_ ?_)<;>intro _<;>first|(exfalso;omega)|conv=>whnf)|((first|refine optP_map hx rfl ?_|refine optP_map hy rfl ?_|refine callP_a hc ?_|refine dI ?_|refine okI ?_|refine bt ?_|refine bi (fun _=>?_) (fun _=>?_)|refine bndI ?_|intro _)<;>conv=>whnf)))
                  clear hx hy hc hv hv0
                  rw [hU] at H
                  simp only at H
                  obtain ⟨D, hD⟩ : ∃ D, D = dnN M a i (k + 1):=⟨_, rfl⟩
                  rw [← hD] at H
                  refine loopK tabOk { l:=0, f:=103 } mixed (fun k : Nat=>[(13, intA ((i : Int) + k - 1))]) (fun _=>[(kA, some (g, some (1, M.map setA)))]) (fun _=>[]) (fun k=>i + k ≤ b∧D = dnN M a i k) (fun k=>k) (k + 1) (by kernel_rfl)
                    ⟨by omega, hD⟩ ?_
                  conv=>whnf
                  refine ⟨⟨slotsLe_cons (congrArg (fun z : Int=>some (intA z)) (by first|omega|(simp only;omega))) trivial, keysLe_cons rfl trivial, trivial⟩, ?_⟩
                  clear hD
                  intro q ⟨hq, hD⟩
                  cases q with
                  | zero =>
                    have hn1 : ¬ (i : Int) ≤ (i : Int) + ((0 : Nat) : Int) - 1:=by omega
                    simp only [dnN] at hD
                    rw [hD] at H
                    have hjn : (i : Int) + ((0 : Nat) : Int) - 1 = ((i - 1 : Nat) : Int):=by omega
                    have g1f:=at_get (L:=M) (i:=a) (by omega)
                    have g2f:=at_get (L:=M) (i:=i - 1) (by omega)
                    have g3f:=at_get (L:=M.set (i - 1) (atN M (a))) (i:=a) (by rw [List.length_set];omega)
                    have s1f:=set_sets M _ (i - 1) (setA (atN M (a))) (atN M (a)) hjn rfl
                    have s2f:=set_sets (M.set (i - 1) (atN M (a))) _ (a) (setA (atN M (i - 1))) (atN M (i - 1)) rfl rfl
                    simp only [Option.some.injEq, Prod.mk.injEq] at H
                    obtain ⟨h1, h2⟩:=H
                    subst h2
                    subst h1
                    conv=>whnf
                    repeat (any_goals (first|exact falseI|((first|refine bd ?_ ?_|refine bn ?_ ?_)<;>intro _<;>first|(exfalso;omega)|conv=>whnf)|((first|refine optP_map g1f rfl ?_|refine optP_map g2f hjn ?_|refine optP_map g3f rfl ?_|refine forceL_to s1f ?_|refine forceL_to s2f ?_|refine dI ?_|refine okI ?_|refine bt ?_|refine bi (fun _=>?_) (fun _=>?_)|refine bndI ?_|intro _)<;>conv=>whnf)))
                    refine And.intro ?_ ?_
                    · conv=>whnf
                      refine ⟨⟨?_⟩, trivial⟩
                      (rw [← hjn];rfl)
                    · repeat (first|exact trivial|refine And.intro rfl ?_|refine And.intro (by rfl) ?_)
                  | succ q =>
                    have hn1 : (i : Int) ≤ (i : Int) + ((q + 1 : Nat) : Int) - 1:=by omega
                    have ej : (i : Int) + ((q + 1 : Nat) : Int) - 1 = ((i + q : Nat) : Int):=by omega
                    have hx:=at_get (L:=M) (i:=i + q) (by omega)
                    have hy:=at_get (L:=M) (i:=a) (by omega)
                    have hc:=hcmp (atN M (i + q)) (atN M a)
                    by_cases hv : ordN (atN M (i + q)) (atN M a) < 0
                    · rw [dnN, if_pos (by simpa [ltN] using hv)] at hD
                      obtain ⟨v, hv0⟩ : ∃ v, v = ordN (atN M (i + q)) (atN M a):=⟨_, rfl⟩
                      rw [← hv0] at hc hv
                      rw [hD] at H
                      cases q with
                      | zero=>simp at H
                      | succ d =>
                        simp only at H
                        have ej2 : (i : Int) + ((d + 1 + 1 : Nat) : Int) - 1 = ((i + d + 1 : Nat) : Int):=by omega
                        have g1n:=at_get (L:=M) (i:=i + d + 1) (by omega)
                        have g2n:=at_get (L:=M) (i:=i) (by omega)
                        have g3n:=at_get (L:=M.set (i) (atN M (i + d + 1))) (i:=i + d + 1) (by rw [List.length_set];omega)
                        have s1n:=set_sets M _ (i) (setA (atN M (i + d + 1))) (atN M (i + d + 1)) rfl rfl
                        have s2n:=set_sets (M.set (i) (atN M (i + d + 1))) _ (i + d + 1) (setA (atN M (i))) (atN M (i)) ej2 rfl
                        conv=>whnf
                        repeat (any_goals (first|exact falseI|((first|refine bd ?_ ?_|refine bn ?_ ?_)<;>intro _<;>first|(exfalso;omega)|conv=>whnf)|((first|refine optP_map hx ej ?_|refine optP_map hy rfl ?_|refine callP_a hc ?_|refine optP_map g1n ej2 ?_|refine optP_map g2n rfl ?_|refine optP_map g3n ej2 ?_|refine forceL_to s1n ?_|refine forceL_to s2n ?_|refine dI ?_|refine okI ?_|refine bt ?_|refine bi (fun _=>?_) (fun _=>?_)|refine bndI ?_|intro _)<;>conv=>whnf)))
                        (refine ⟨(f, i + 1, d, swapN M i (i + d + 1)), ⟨by simp only;omega, by simp only;omega, by simp only;rw [swapN_len];exact hML, H⟩, (by simp only;omega), ?_⟩;(conv=>whnf);refine ⟨?_, ?_, ?_⟩<;>repeat (first|exact trivial|refine sc rfl ?_|refine kn ?_|refine kc rfl ?_|refine sc (by first|rfl|exact congrArg (fun z : Int=>some (intA z)) (by first|omega|(simp only;omega))) ?_|refine kc (by first|rfl|exact congrArg (fun z : Int=>some (intA z)) (by first|omega|(simp only;omega))) ?_))
                    · rw [dnN, if_neg (by simpa [ltN] using hv)] at hD
                      obtain ⟨v, hv0⟩ : ∃ v, v = ordN (atN M (i + q)) (atN M a):=⟨_, rfl⟩
                      rw [← hv0] at hc hv
                      conv=>whnf
                      repeat (any_goals (first|exact falseI|((first|refine bd ?_ ?_|refine bn ?_ ?_)<;>intro _<;>first|(exfalso;omega)|conv=>whnf)|((first|refine optP_map hx ej ?_|refine optP_map hy rfl ?_|refine callP_a hc ?_|refine dI ?_|refine okI ?_|refine bt ?_|refine bi (fun _=>?_) (fun _=>?_)|refine bndI ?_|intro _)<;>conv=>whnf)))
                      (refine ⟨q, ⟨by omega, hD⟩, (by omega), ?_⟩;(conv=>whnf);refine ⟨?_, ?_, ?_⟩<;>repeat (first|exact trivial|refine sc rfl ?_|refine kn ?_|refine kc rfl ?_|refine sc (by exact congrArg (fun z : Int=>some (intA z)) (by first|omega|(simp only;omega))) ?_|refine kc (by exact congrArg (fun z : Int=>some (intA z)) (by first|omega|(simp only;omega))) ?_))
        · rw [dnN, if_neg (by simpa [ltN] using hv)] at hD
          obtain ⟨v, hv0⟩ : ∃ v, v = ordN (atN L (i + q)) (atN L a):=⟨_, rfl⟩
          rw [← hv0] at hc hv
          conv=>whnf
          repeat (any_goals (first|exact falseI|((first|refine bd ?_ ?_|refine bn ?_ ?_)<;>intro _<;>first|(exfalso;omega)|conv=>whnf)|((first|refine optP_map hx ej ?_|refine optP_map hy rfl ?_|refine callP_a hc ?_|refine dI ?_|refine okI ?_|refine bt ?_|refine bi (fun _=>?_) (fun _=>?_)|refine bndI ?_|intro _)<;>conv=>whnf)))
          (refine ⟨q, ⟨by omega, hD⟩, (by omega), ?_⟩;(conv=>whnf);refine ⟨?_, ?_, ?_⟩<;>repeat (first|exact trivial|refine sc rfl ?_|refine kn ?_|refine kc rfl ?_|refine sc (by exact congrArg (fun z : Int=>some (intA z)) (by first|omega|(simp only;omega))) ?_|refine kc (by exact congrArg (fun z : Int=>some (intA z)) (by first|omega|(simp only;omega))) ?_))
end Go.Proofs.YtbpiibdcncfphaaGreatDoor
namespace Go.Proofs.YtbpiibdcncfphaaGreatDoor
open Go.Am Go.Proofs Go
def pdqN (lim : Nat) : Nat→Nat→Nat→Bool→Bool→List Nat→Option (List Nat)
  | 0, _, _, _, _, _=>none
  | f + 1, a, b, bal, par, L =>
    if b - a ≤ 12 then some (insN a b L)
    else if bal = false then none
    else if (chooseN L a b).2 = 12∨¬(a ≤ (chooseN L a b).1∧(chooseN L a b).1 < b) then none
    else if par = true∧(chooseN L a b).2 = 0∧partialOk L a b = false then none
    else if 0 < a∧ltN (atN L (a - 1)) (atN L (chooseN L a b).1) = false then none
    else match partN L a b (chooseN L a b).1 with
      | none=>none
      | some (mid, M) =>
        if M.length ≠ L.length∨¬(a ≤ mid∧mid < b) then none
        else if mid - a < b - mid then
          match pdqN lim f a mid true true M with
          | none=>none
          | some M2=>if M2.length ≠ L.length then none else pdqN lim f (mid + 1) b (decide ((b - a) / 8 ≤ mid - a)) false M2
        else
          match pdqN lim f (mid + 1) b true true M with
          | none=>none
          | some M2=>if M2.length ≠ L.length then none else pdqN lim f a mid (decide ((b - a) / 8 ≤ b - mid)) false M2
set_option maxHeartbeats 4000000 in
theorem pdq_c (g n lim : Nat) (hl : 0 < lim) (hl2 : lim ≤ 1000) (hn2 : n ≤ 1000) : ∀ F f : Nat, f < F→∀ (a b : Nat) (X R : List Nat), X.length = n→a ≤ b→b ≤ n→pdqN lim f a b true true X = some R →
    BoxA Tryz.prog (.fn 83) [(kA, g, 1, X.map setA)] [.own kA g 1 n 0, intA a, intA b, intA lim, cmpF] (.tuple []) [(kA, g, 1, R.map setA)]:=by
  intro F
  induction F with
  | zero=>intro f hf;omega
  | succ F ih =>
    intro f hf a b X R hX hab hbn hR
    have hcmp:=ordN_c
    refine boxA_codeB tabOk { l:=0, f:=83, mat:=[83, 96, 99, 101, 103] } mixed call_83 Tryz.func83 (by kernel_rfl) ?_
    conv=>whnf
    repeat (any_goals (first|exact falseI|((first|refine bd ?_ ?_|refine bn ?_ ?_)<;>intro _<;>first|(exfalso;omega)|conv=>whnf)|((first|refine dI ?_|refine okI ?_|refine bt ?_|refine bi (fun _=>?_) (fun _=>?_)|refine bndI ?_|intro _)<;>conv=>whnf)))
    refine loopK tabOk { l:=0, f:=83, mat:=[83, 96, 99, 101, 103] } mixed (fun x : Nat × Nat × Nat × Bool × Bool × List Nat=>[(1, intA x.2.1), (2, intA x.2.2.1), (3, intA lim), (10, boolA x.2.2.2.1), (11, boolA x.2.2.2.2.1)]) (fun x=>[(kA, some (g, some (1, x.2.2.2.2.2.map setA)))]) (fun _=>[]) (fun x=>x.1 ≤ f∧(x.2.1 ≤ x.2.2.1∧x.2.2.1 ≤ n)∧x.2.2.2.2.2.length = n∧pdqN lim x.1 x.2.1 x.2.2.1 x.2.2.2.1 x.2.2.2.2.1 x.2.2.2.2.2 = some R) (fun x=>x.1) (f, a, b, true, true, X) (by kernel_rfl)
      ⟨Nat.le_refl _, ⟨hab, hbn⟩, hX, hR⟩ ?_
    conv=>whnf
    refine ⟨⟨?_, ?_, trivial⟩, ?_⟩
    · repeat (first|exact trivial|refine sc rfl ?_)
    · repeat (first|exact trivial|refine kc rfl ?_)
    clear hR hX hab hbn
    intro ⟨f', a, b, bal, par, L⟩ ⟨hff, hab, hL, H⟩
    simp only at hff hab hL H
    cases f' with
    | zero=>simp [pdqN] at H
    | succ f' =>
      have q1 : ((f' + 1, a, b, bal, par, L) : Nat × Nat × Nat × Bool × Bool × List Nat).snd.fst = a:=rfl
      have q2 : ((f' + 1, a, b, bal, par, L) : Nat × Nat × Nat × Bool × Bool × List Nat).snd.snd.fst = b:=rfl
      rw [pdqN] at H
      by_cases h12 : b - a ≤ 12
      · rw [if_pos h12] at H
        have hi:=ins_c g n a b L (by omega) (by omega) hab.1 (by omega)
        generalize insN a b L = R' at *
        simp only [Option.some.injEq] at H
        subst H
        conv=>whnf
        repeat (any_goals (first|exact falseI|((first|refine bd ?_ ?_|refine bn ?_ ?_)<;>intro _<;>first|(exfalso;omega)|conv=>whnf)|((first|refine dI ?_|refine okI ?_|refine bt ?_|refine bi (fun _=>?_) (fun _=>?_)|refine bndI ?_|intro _)<;>conv=>whnf)))
        refine ⟨[kA], ?_⟩
        conv=>whnf
        refine optP_intro (tk_sets _ L) ?_
        conv=>whnf
        refine ⟨_, _, hi, ?_⟩
        conv=>whnf
        refine optP_intro (tk_sets _ R') ?_
        conv=>whnf
        repeat (any_goals (first|exact falseI|((first|refine bd ?_ ?_|refine bn ?_ ?_)<;>intro _<;>first|(exfalso;omega)|conv=>whnf)|((first|refine dI ?_|refine okI ?_|refine bt ?_|refine bi (fun _=>?_) (fun _=>?_)|refine bndI ?_|intro _)<;>conv=>whnf)))
        refine And.intro ?_ ?_
        · conv=>whnf
          refine ⟨⟨?_⟩, trivial⟩
          rfl
        · repeat (first|exact trivial|refine And.intro rfl ?_|refine And.intro (by skip) ?_)
      rw [if_neg h12] at H
      cases bal
      · simp at H
      rw [if_neg (by simp)] at H
      have hch:=choose_c g n L a b (by omega) hab.2 (by omega) hn2
      by_cases hc1 : (chooseN L a b).2 = 12∨¬(a ≤ (chooseN L a b).1∧(chooseN L a b).1 < b)
      · rw [if_pos hc1] at H;simp at H
      rw [if_neg hc1] at H
      by_cases hc2 : par = true∧(chooseN L a b).2 = 0∧partialOk L a b = false
      · rw [if_pos hc2] at H;simp at H
      rw [if_neg hc2] at H
      by_cases hc3 : 0 < a∧ltN (atN L (a - 1)) (atN L (chooseN L a b).1) = false
      · rw [if_pos hc3] at H;simp at H
      rw [if_neg hc3] at H
      have hpa:=partial_c g n L a b (by omega) hab.2 (by omega) hn2
      generalize chooseN L a b = c at *
      obtain ⟨p, s⟩:=c
      simp only at hch hc1 hc2 hc3 H
      have hs12 : s ≠ 12:=fun h=>hc1 (.inl h)
      have hpr : a ≤ p∧p < b:=Classical.byContradiction fun h=>hc1 (.inr h)
      cases hP : partN L a b p with
      | none=>rw [hP] at H;simp at H
      | some r =>
        obtain ⟨mid, M⟩:=r
        rw [hP] at H
        simp only at H
        have hpt:=part_c g n L a b p mid M (by omega) hab.2 (by omega) hpr hn2 hP
        by_cases hm : M.length ≠ L.length∨¬(a ≤ mid∧mid < b)
        · rw [if_pos hm] at H;simp at H
        rw [if_neg hm] at H
        have hml : M.length = L.length:=Classical.byContradiction fun h=>hm (.inl h)
        have hmr : a ≤ mid∧mid < b:=Classical.byContradiction fun h=>hm (.inr h)
        have hd8 : ((b : Int) - a).tdiv 8 = (((b - a) / 8 : Nat) : Int):=by
          rw [show (b : Int) - a = ((b - a : Nat) : Int) by omega, Int.tdiv_eq_ediv_of_nonneg (by omega)]
          rfl
        have hb8 : decide (((b : Int) - a).tdiv 8 ≤ (mid : Int) - a) = decide ((b - a) / 8 ≤ mid - a):=by
          rw [hd8, decide_eq_decide];omega
        have hb9 : decide (((b : Int) - a).tdiv 8 ≤ (b : Int) - mid) = decide ((b - a) / 8 ≤ b - mid):=by
          rw [hd8, decide_eq_decide];omega
        have hbd : 0 ≤ ((b : Int) - a).tdiv 8∧((b : Int) - a).tdiv 8 ≤ 1000:=by rw [hd8];omega
        clear hm hc1 hd8 hP
        by_cases hlr : mid - a < b - mid
        · rw [if_pos hlr] at H
          cases hM2 : pdqN lim f' a mid true true M with
          | none=>rw [hM2] at H;simp at H
          | some M2 =>
            rw [hM2] at H
            simp only at H
            by_cases hm2 : M2.length ≠ L.length
            · rw [if_pos hm2] at H;simp at H
            rw [if_neg hm2] at H
            have hm2' : M2.length = L.length:=Classical.byContradiction hm2
            have hrec:=ih f' (by omega) a mid M M2 (by omega) (by omega) (by omega) hM2
            clear hm2 hM2
            cases par
            · by_cases s0 : s = 0
              · have hh : hintN s = 1:=by simp [hintN, s0]
                rw [hh] at hch
                clear hpa
                by_cases a0 : 0 < a
                · have hlt : ordN (atN L (a - 1)) (atN L p) < 0:=by
                    cases hq : ltN (atN L (a - 1)) (atN L p)
                    · exact absurd ⟨a0, hq⟩ hc3
                    · simpa [ltN] using hq
                  have hx:=at_get (L:=L) (i:=a - 1) (by omega)
                  have hy:=at_get (L:=L) (i:=p) (by omega)
                  have hc:=hcmp (atN L (a - 1)) (atN L p)
                  have ea : (a : Int) - 1 = ((a - 1 : Nat) : Int):=by omega
                  obtain ⟨v, hv0⟩ : ∃ v, v = ordN (atN L (a - 1)) (atN L p):=⟨_, rfl⟩
                  rw [← hv0] at hc hlt
                  conv=>whnf
                  repeat (any_goals (first|exact falseI|((first|refine bd ?_ ?_|refine bn ?_ ?_)<;>intro _<;>first|(exfalso;omega)|conv=>whnf)|((first|refine dI ?_|refine okI ?_|refine bt ?_|refine bi (fun _=>?_) (fun _=>?_)|refine bndI ?_|intro _)<;>conv=>whnf)))
                  refine ⟨[kA], ?_⟩
                  conv=>whnf
                  refine optP_intro (tk_sets _ L) ?_
                  conv=>whnf
                  refine ⟨_, _, hch, ?_⟩
                  conv=>whnf
                  refine optP_intro (tk_sets _ L) ?_
                  conv=>whnf
                  repeat (any_goals (first|exact falseI|((first|refine bd ?_ ?_|refine bn ?_ ?_)<;>intro _<;>first|(exfalso;omega)|conv=>whnf)|((first|refine dI ?_|refine okI ?_|refine bt ?_|refine bi (fun _=>?_) (fun _=>?_)|refine bndI ?_|intro _)<;>conv=>whnf)))
                  repeat (any_goals (first|exact falseI|((first|refine bd ?_ ?_|refine bn ?_ ?_)<;>intro _<;>first|(exfalso;omega)|conv=>whnf)|((first|refine optP_map hx ea ?_|refine optP_map hy rfl ?_|refine callP_a hc ?_|refine dI ?_|refine okI ?_|refine bt ?_|refine bi (fun _=>?_) (fun _=>?_)|refine bndI ?_|intro _)<;>conv=>whnf)))
                  refine ⟨[kA], ?_⟩
                  conv=>whnf
                  refine optP_intro (tk_sets _ L) ?_
                  conv=>whnf
                  refine ⟨_, _, hpt, ?_⟩
                  conv=>whnf
                  refine optP_intro (tk_sets _ M) ?_
                  conv=>whnf
                  repeat (any_goals (first|exact falseI|((first|refine bd ?_ ?_|refine bn ?_ ?_)<;>intro _<;>first|(exfalso;omega)|conv=>whnf)|((first|refine dI ?_|refine okI ?_|refine bt ?_|refine bi (fun _=>?_) (fun _=>?_)|refine bndI ?_|intro _)<;>conv=>whnf)))
                  refine ⟨[kA], ?_⟩
                  conv=>whnf
                  refine optP_intro (tk_sets _ M) ?_
                  conv=>whnf
                  refine ⟨_, _, hrec, ?_⟩
                  conv=>whnf
                  refine optP_intro (tk_sets _ M2) ?_
                  conv=>whnf
                  repeat (any_goals (first|exact falseI|((first|refine bd ?_ ?_|refine bn ?_ ?_)<;>intro _<;>first|(exfalso;omega)|conv=>whnf)|((first|refine dI ?_|refine okI ?_|refine bt ?_|refine bi (fun _=>?_) (fun _=>?_)|refine bndI ?_|intro _)<;>conv=>whnf)))
                  (refine ⟨(f', mid + 1, b, decide ((b - a) / 8 ≤ mid - a), false, M2), ⟨by simp only;omega, by simp only;omega, by simp only;omega, H⟩, (by simp only;omega), ?_⟩;(conv=>whnf);refine ⟨?_, ?_, ?_⟩<;>repeat (first|exact trivial|refine sc rfl ?_|refine kn ?_|refine kc rfl ?_|refine sc (by first|rfl|exact congrArg (fun z : Bool=>some (boolA z)) hb8) ?_|refine kc (by first|rfl|exact congrArg (fun z : Bool=>some (boolA z)) hb8) ?_))
                · clear hc3
                  conv=>whnf
                  repeat (any_goals (first|exact falseI|((first|refine bd ?_ ?_|refine bn ?_ ?_)<;>intro _<;>first|(exfalso;omega)|conv=>whnf)|((first|refine dI ?_|refine okI ?_|refine bt ?_|refine bi (fun _=>?_) (fun _=>?_)|refine bndI ?_|intro _)<;>conv=>whnf)))
                  refine ⟨[kA], ?_⟩
                  conv=>whnf
                  refine optP_intro (tk_sets _ L) ?_
                  conv=>whnf
                  refine ⟨_, _, hch, ?_⟩
                  conv=>whnf
                  refine optP_intro (tk_sets _ L) ?_
                  conv=>whnf
                  repeat (any_goals (first|exact falseI|((first|refine bd ?_ ?_|refine bn ?_ ?_)<;>intro _<;>first|(exfalso;omega)|conv=>whnf)|((first|refine dI ?_|refine okI ?_|refine bt ?_|refine bi (fun _=>?_) (fun _=>?_)|refine bndI ?_|intro _)<;>conv=>whnf)))
                  refine ⟨[kA], ?_⟩
                  conv=>whnf
                  refine optP_intro (tk_sets _ L) ?_
                  conv=>whnf
                  refine ⟨_, _, hpt, ?_⟩
                  conv=>whnf
                  refine optP_intro (tk_sets _ M) ?_
                  conv=>whnf
                  repeat (any_goals (first|exact falseI|((first|refine bd ?_ ?_|refine bn ?_ ?_)<;>intro _<;>first|(exfalso;omega)|conv=>whnf)|((first|refine dI ?_|refine okI ?_|refine bt ?_|refine bi (fun _=>?_) (fun _=>?_)|refine bndI ?_|intro _)<;>conv=>whnf)))
                  refine ⟨[kA], ?_⟩
                  conv=>whnf
                  refine optP_intro (tk_sets _ M) ?_
                  conv=>whnf
                  refine ⟨_, _, hrec, ?_⟩
                  conv=>whnf
                  refine optP_intro (tk_sets _ M2) ?_
                  conv=>whnf
                  repeat (any_goals (first|exact falseI|((first|refine bd ?_ ?_|refine bn ?_ ?_)<;>intro _<;>first|(exfalso;omega)|conv=>whnf)|((first|refine dI ?_|refine okI ?_|refine bt ?_|refine bi (fun _=>?_) (fun _=>?_)|refine bndI ?_|intro _)<;>conv=>whnf)))
                  (refine ⟨(f', mid + 1, b, decide ((b - a) / 8 ≤ mid - a), false, M2), ⟨by simp only;omega, by simp only;omega, by simp only;omega, H⟩, (by simp only;omega), ?_⟩;(conv=>whnf);refine ⟨?_, ?_, ?_⟩<;>repeat (first|exact trivial|refine sc rfl ?_|refine kn ?_|refine kc rfl ?_|refine sc (by first|rfl|exact congrArg (fun z : Bool=>some (boolA z)) hb8) ?_|refine kc (by first|rfl|exact congrArg (fun z : Bool=>some (boolA z)) hb8) ?_))
              · have hh : hintN s = 0:=by simp [hintN, s0, hs12];omega
                rw [hh] at hch
                clear hpa
                by_cases a0 : 0 < a
                · have hlt : ordN (atN L (a - 1)) (atN L p) < 0:=by
                    cases hq : ltN (atN L (a - 1)) (atN L p)
                    · exact absurd ⟨a0, hq⟩ hc3
                    · simpa [ltN] using hq
                  have hx:=at_get (L:=L) (i:=a - 1) (by omega)
                  have hy:=at_get (L:=L) (i:=p) (by omega)
                  have hc:=hcmp (atN L (a - 1)) (atN L p)
                  have ea : (a : Int) - 1 = ((a - 1 : Nat) : Int):=by omega
                  obtain ⟨v, hv0⟩ : ∃ v, v = ordN (atN L (a - 1)) (atN L p):=⟨_, rfl⟩
                  rw [← hv0] at hc hlt
                  conv=>whnf
                  repeat (any_goals (first|exact falseI|((first|refine bd ?_ ?_|refine bn ?_ ?_)<;>intro _<;>first|(exfalso;omega)|conv=>whnf)|((first|refine dI ?_|refine okI ?_|refine bt ?_|refine bi (fun _=>?_) (fun _=>?_)|refine bndI ?_|intro _)<;>conv=>whnf)))
                  refine ⟨[kA], ?_⟩
                  conv=>whnf
                  refine optP_intro (tk_sets _ L) ?_
                  conv=>whnf
                  refine ⟨_, _, hch, ?_⟩
                  conv=>whnf
                  refine optP_intro (tk_sets _ L) ?_
                  conv=>whnf
                  repeat (any_goals (first|exact falseI|((first|refine bd ?_ ?_|refine bn ?_ ?_)<;>intro _<;>first|(exfalso;omega)|conv=>whnf)|((first|refine dI ?_|refine okI ?_|refine bt ?_|refine bi (fun _=>?_) (fun _=>?_)|refine bndI ?_|intro _)<;>conv=>whnf)))
                  repeat (any_goals (first|exact falseI|((first|refine bd ?_ ?_|refine bn ?_ ?_)<;>intro _<;>first|(exfalso;omega)|conv=>whnf)|((first|refine optP_map hx ea ?_|refine optP_map hy rfl ?_|refine callP_a hc ?_|refine dI ?_|refine okI ?_|refine bt ?_|refine bi (fun _=>?_) (fun _=>?_)|refine bndI ?_|intro _)<;>conv=>whnf)))
                  refine ⟨[kA], ?_⟩
                  conv=>whnf
                  refine optP_intro (tk_sets _ L) ?_
                  conv=>whnf
                  refine ⟨_, _, hpt, ?_⟩
                  conv=>whnf
                  refine optP_intro (tk_sets _ M) ?_
                  conv=>whnf
                  repeat (any_goals (first|exact falseI|((first|refine bd ?_ ?_|refine bn ?_ ?_)<;>intro _<;>first|(exfalso;omega)|conv=>whnf)|((first|refine dI ?_|refine okI ?_|refine bt ?_|refine bi (fun _=>?_) (fun _=>?_)|refine bndI ?_|intro _)<;>conv=>whnf)))
                  refine ⟨[kA], ?_⟩
                  conv=>whnf
                  refine optP_intro (tk_sets _ M) ?_
                  conv=>whnf
                  refine ⟨_, _, hrec, ?_⟩
                  conv=>whnf
                  refine optP_intro (tk_sets _ M2) ?_
                  conv=>whnf
                  repeat (any_goals (first|exact falseI|((first|refine bd ?_ ?_|refine bn ?_ ?_)<;>intro _<;>first|(exfalso;omega)|conv=>whnf)|((first|refine dI ?_|refine okI ?_|refine bt ?_|refine bi (fun _=>?_) (fun _=>?_)|refine bndI ?_|intro _)<;>conv=>whnf)))
                  (refine ⟨(f', mid + 1, b, decide ((b - a) / 8 ≤ mid - a), false, M2), ⟨by simp only;omega, by simp only;omega, by simp only;omega, H⟩, (by simp only;omega), ?_⟩;(conv=>whnf);refine ⟨?_, ?_, ?_⟩<;>repeat (first|exact trivial|refine sc rfl ?_|refine kn ?_|refine kc rfl ?_|refine sc (by first|rfl|exact congrArg (fun z : Bool=>some (boolA z)) hb8) ?_|refine kc (by first|rfl|exact congrArg (fun z : Bool=>some (boolA z)) hb8) ?_))
                · clear hc3
                  conv=>whnf
                  repeat (any_goals (first|exact falseI|((first|refine bd ?_ ?_|refine bn ?_ ?_)<;>intro _<;>first|(exfalso;omega)|conv=>whnf)|((first|refine dI ?_|refine okI ?_|refine bt ?_|refine bi (fun _=>?_) (fun _=>?_)|refine bndI ?_|intro _)<;>conv=>whnf)))
                  refine ⟨[kA], ?_⟩
                  conv=>whnf
                  refine optP_intro (tk_sets _ L) ?_
                  conv=>whnf
                  refine ⟨_, _, hch, ?_⟩
                  conv=>whnf
                  refine optP_intro (tk_sets _ L) ?_
                  conv=>whnf
                  repeat (any_goals (first|exact falseI|((first|refine bd ?_ ?_|refine bn ?_ ?_)<;>intro _<;>first|(exfalso;omega)|conv=>whnf)|((first|refine dI ?_|refine okI ?_|refine bt ?_|refine bi (fun _=>?_) (fun _=>?_)|refine bndI ?_|intro _)<;>conv=>whnf)))
                  refine ⟨[kA], ?_⟩
                  conv=>whnf
                  refine optP_intro (tk_sets _ L) ?_
                  conv=>whnf
                  refine ⟨_, _, hpt, ?_⟩
                  conv=>whnf
                  refine optP_intro (tk_sets _ M) ?_
                  conv=>whnf
                  repeat (any_goals (first|exact falseI|((first|refine bd ?_ ?_|refine bn ?_ ?_)<;>intro _<;>first|(exfalso;omega)|conv=>whnf)|((first|refine dI ?_|refine okI ?_|refine bt ?_|refine bi (fun _=>?_) (fun _=>?_)|refine bndI ?_|intro _)<;>conv=>whnf)))
                  refine ⟨[kA], ?_⟩
                  conv=>whnf
                  refine optP_intro (tk_sets _ M) ?_
                  conv=>whnf
                  refine ⟨_, _, hrec, ?_⟩
                  conv=>whnf
                  refine optP_intro (tk_sets _ M2) ?_
                  conv=>whnf
                  repeat (any_goals (first|exact falseI|((first|refine bd ?_ ?_|refine bn ?_ ?_)<;>intro _<;>first|(exfalso;omega)|conv=>whnf)|((first|refine dI ?_|refine okI ?_|refine bt ?_|refine bi (fun _=>?_) (fun _=>?_)|refine bndI ?_|intro _)<;>conv=>whnf)))
                  (refine ⟨(f', mid + 1, b, decide ((b - a) / 8 ≤ mid - a), false, M2), ⟨by simp only;omega, by simp only;omega, by simp only;omega, H⟩, (by simp only;omega), ?_⟩;(conv=>whnf);refine ⟨?_, ?_, ?_⟩<;>repeat (first|exact trivial|refine sc rfl ?_|refine kn ?_|refine kc rfl ?_|refine sc (by first|rfl|exact congrArg (fun z : Bool=>some (boolA z)) hb8) ?_|refine kc (by first|rfl|exact congrArg (fun z : Bool=>some (boolA z)) hb8) ?_))
            · by_cases s0 : s = 0
              · have hh : hintN s = 1:=by simp [hintN, s0]
                rw [hh] at hch
                have hpa':=hpa (by
                  cases hq : partialOk L a b
                  · exact absurd ⟨rfl, s0, hq⟩ hc2
                  · rfl)
                clear hpa
                by_cases a0 : 0 < a
                · have hlt : ordN (atN L (a - 1)) (atN L p) < 0:=by
                    cases hq : ltN (atN L (a - 1)) (atN L p)
                    · exact absurd ⟨a0, hq⟩ hc3
                    · simpa [ltN] using hq
                  have hx:=at_get (L:=L) (i:=a - 1) (by omega)
                  have hy:=at_get (L:=L) (i:=p) (by omega)
                  have hc:=hcmp (atN L (a - 1)) (atN L p)
                  have ea : (a : Int) - 1 = ((a - 1 : Nat) : Int):=by omega
                  obtain ⟨v, hv0⟩ : ∃ v, v = ordN (atN L (a - 1)) (atN L p):=⟨_, rfl⟩
                  rw [← hv0] at hc hlt
                  conv=>whnf
                  repeat (any_goals (first|exact falseI|((first|refine bd ?_ ?_|refine bn ?_ ?_)<;>intro _<;>first|(exfalso;omega)|conv=>whnf)|((first|refine dI ?_|refine okI ?_|refine bt ?_|refine bi (fun _=>?_) (fun _=>?_)|refine bndI ?_|intro _)<;>conv=>whnf)))
                  refine ⟨[kA], ?_⟩
                  conv=>whnf
                  refine optP_intro (tk_sets _ L) ?_
                  conv=>whnf
                  refine ⟨_, _, hch, ?_⟩
                  conv=>whnf
                  refine optP_intro (tk_sets _ L) ?_
                  conv=>whnf
                  repeat (any_goals (first|exact falseI|((first|refine bd ?_ ?_|refine bn ?_ ?_)<;>intro _<;>first|(exfalso;omega)|conv=>whnf)|((first|refine dI ?_|refine okI ?_|refine bt ?_|refine bi (fun _=>?_) (fun _=>?_)|refine bndI ?_|intro _)<;>conv=>whnf)))
                  refine ⟨[kA], ?_⟩
                  conv=>whnf
                  refine optP_intro (tk_sets _ L) ?_
                  conv=>whnf
                  refine ⟨_, _, hpa', ?_⟩
                  conv=>whnf
                  refine optP_intro (tk_sets _ L) ?_
                  conv=>whnf
                  repeat (any_goals (first|exact falseI|((first|refine bd ?_ ?_|refine bn ?_ ?_)<;>intro _<;>first|(exfalso;omega)|conv=>whnf)|((first|refine dI ?_|refine okI ?_|refine bt ?_|refine bi (fun _=>?_) (fun _=>?_)|refine bndI ?_|intro _)<;>conv=>whnf)))
                  repeat (any_goals (first|exact falseI|((first|refine bd ?_ ?_|refine bn ?_ ?_)<;>intro _<;>first|(exfalso;omega)|conv=>whnf)|((first|refine optP_map hx ea ?_|refine optP_map hy rfl ?_|refine callP_a hc ?_|refine dI ?_|refine okI ?_|refine bt ?_|refine bi (fun _=>?_) (fun _=>?_)|refine bndI ?_|intro _)<;>conv=>whnf)))
                  refine ⟨[kA], ?_⟩
                  conv=>whnf
                  refine optP_intro (tk_sets _ L) ?_
                  conv=>whnf
                  refine ⟨_, _, hpt, ?_⟩
                  conv=>whnf
                  refine optP_intro (tk_sets _ M) ?_
                  conv=>whnf
                  repeat (any_goals (first|exact falseI|((first|refine bd ?_ ?_|refine bn ?_ ?_)<;>intro _<;>first|(exfalso;omega)|conv=>whnf)|((first|refine dI ?_|refine okI ?_|refine bt ?_|refine bi (fun _=>?_) (fun _=>?_)|refine bndI ?_|intro _)<;>conv=>whnf)))
                  refine ⟨[kA], ?_⟩
                  conv=>whnf
                  refine optP_intro (tk_sets _ M) ?_
                  conv=>whnf
                  refine ⟨_, _, hrec, ?_⟩
                  conv=>whnf
                  refine optP_intro (tk_sets _ M2) ?_
                  conv=>whnf
                  repeat (any_goals (first|exact falseI|((first|refine bd ?_ ?_|refine bn ?_ ?_)<;>intro _<;>first|(exfalso;omega)|conv=>whnf)|((first|refine dI ?_|refine okI ?_|refine bt ?_|refine bi (fun _=>?_) (fun _=>?_)|refine bndI ?_|intro _)<;>conv=>whnf)))
                  (refine ⟨(f', mid + 1, b, decide ((b - a) / 8 ≤ mid - a), false, M2), ⟨by simp only;omega, by simp only;omega, by simp only;omega, H⟩, (by simp only;omega), ?_⟩;(conv=>whnf);refine ⟨?_, ?_, ?_⟩<;>repeat (first|exact trivial|refine sc rfl ?_|refine kn ?_|refine kc rfl ?_|refine sc (by first|rfl|exact congrArg (fun z : Bool=>some (boolA z)) hb8) ?_|refine kc (by first|rfl|exact congrArg (fun z : Bool=>some (boolA z)) hb8) ?_))
                · clear hc3
                  conv=>whnf
                  repeat (any_goals (first|exact falseI|((first|refine bd ?_ ?_|refine bn ?_ ?_)<;>intro _<;>first|(exfalso;omega)|conv=>whnf)|((first|refine dI ?_|refine okI ?_|refine bt ?_|refine bi (fun _=>?_) (fun _=>?_)|refine bndI ?_|intro _)<;>conv=>whnf)))
                  refine ⟨[kA], ?_⟩
                  conv=>whnf
                  refine optP_intro (tk_sets _ L) ?_
                  conv=>whnf
                  refine ⟨_, _, hch, ?_⟩
                  conv=>whnf
                  refine optP_intro (tk_sets _ L) ?_
                  conv=>whnf
                  repeat (any_goals (first|exact falseI|((first|refine bd ?_ ?_|refine bn ?_ ?_)<;>intro _<;>first|(exfalso;omega)|conv=>whnf)|((first|refine dI ?_|refine okI ?_|refine bt ?_|refine bi (fun _=>?_) (fun _=>?_)|refine bndI ?_|intro _)<;>conv=>whnf)))
                  refine ⟨[kA], ?_⟩
                  conv=>whnf
                  refine optP_intro (tk_sets _ L) ?_
                  conv=>whnf
                  refine ⟨_, _, hpa', ?_⟩
                  conv=>whnf
                  refine optP_intro (tk_sets _ L) ?_
                  conv=>whnf
                  repeat (any_goals (first|exact falseI|((first|refine bd ?_ ?_|refine bn ?_ ?_)<;>intro _<;>first|(exfalso;omega)|conv=>whnf)|((first|refine dI ?_|refine okI ?_|refine bt ?_|refine bi (fun _=>?_) (fun _=>?_)|refine bndI ?_|intro _)<;>conv=>whnf)))
                  refine ⟨[kA], ?_⟩
                  conv=>whnf
                  refine optP_intro (tk_sets _ L) ?_
                  conv=>whnf
                  refine ⟨_, _, hpt, ?_⟩
                  conv=>whnf
                  refine optP_intro (tk_sets _ M) ?_
                  conv=>whnf
                  repeat (any_goals (first|exact falseI|((first|refine bd ?_ ?_|refine bn ?_ ?_)<;>intro _<;>first|(exfalso;omega)|conv=>whnf)|((first|refine dI ?_|refine okI ?_|refine bt ?_|refine bi (fun _=>?_) (fun _=>?_)|refine bndI ?_|intro _)<;>conv=>whnf)))
                  refine ⟨[kA], ?_⟩
                  conv=>whnf
                  refine optP_intro (tk_sets _ M) ?_
                  conv=>whnf
                  refine ⟨_, _, hrec, ?_⟩
                  conv=>whnf
                  refine optP_intro (tk_sets _ M2) ?_
                  conv=>whnf
                  repeat (any_goals (first|exact falseI|((first|refine bd ?_ ?_|refine bn ?_ ?_)<;>intro _<;>first|(exfalso;omega)|conv=>whnf)|((first|refine dI ?_|refine okI ?_|refine bt ?_|refine bi (fun _=>?_) (fun _=>?_)|refine bndI ?_|intro _)<;>conv=>whnf)))
                  (refine ⟨(f', mid + 1, b, decide ((b - a) / 8 ≤ mid - a), false, M2), ⟨by simp only;omega, by simp only;omega, by simp only;omega, H⟩, (by simp only;omega), ?_⟩;(conv=>whnf);refine ⟨?_, ?_, ?_⟩<;>repeat (first|exact trivial|refine sc rfl ?_|refine kn ?_|refine kc rfl ?_|refine sc (by first|rfl|exact congrArg (fun z : Bool=>some (boolA z)) hb8) ?_|refine kc (by first|rfl|exact congrArg (fun z : Bool=>some (boolA z)) hb8) ?_))
              · have hh : hintN s = 0:=by simp [hintN, s0, hs12];omega
                rw [hh] at hch
                clear hpa
                by_cases a0 : 0 < a
                · have hlt : ordN (atN L (a - 1)) (atN L p) < 0:=by
                    cases hq : ltN (atN L (a - 1)) (atN L p)
                    · exact absurd ⟨a0, hq⟩ hc3
                    · simpa [ltN] using hq
                  have hx:=at_get (L:=L) (i:=a - 1) (by omega)
                  have hy:=at_get (L:=L) (i:=p) (by omega)
                  have hc:=hcmp (atN L (a - 1)) (atN L p)
                  have ea : (a : Int) - 1 = ((a - 1 : Nat) : Int):=by omega
                  obtain ⟨v, hv0⟩ : ∃ v, v = ordN (atN L (a - 1)) (atN L p):=⟨_, rfl⟩
                  rw [← hv0] at hc hlt
                  conv=>whnf
                  repeat (any_goals (first|exact falseI|((first|refine bd ?_ ?_|refine bn ?_ ?_)<;>intro _<;>first|(exfalso;omega)|conv=>whnf)|((first|refine dI ?_|refine okI ?_|refine bt ?_|refine bi (fun _=>?_) (fun _=>?_)|refine bndI ?_|intro _)<;>conv=>whnf)))
                  refine ⟨[kA], ?_⟩
                  conv=>whnf
                  refine optP_intro (tk_sets _ L) ?_
                  conv=>whnf
                  refine ⟨_, _, hch, ?_⟩
                  conv=>whnf
                  refine optP_intro (tk_sets _ L) ?_
                  conv=>whnf
                  repeat (any_goals (first|exact falseI|((first|refine bd ?_ ?_|refine bn ?_ ?_)<;>intro _<;>first|(exfalso;omega)|conv=>whnf)|((first|refine dI ?_|refine okI ?_|refine bt ?_|refine bi (fun _=>?_) (fun _=>?_)|refine bndI ?_|intro _)<;>conv=>whnf)))
                  repeat (any_goals (first|exact falseI|((first|refine bd ?_ ?_|refine bn ?_ ?_)<;>intro _<;>first|(exfalso;omega)|conv=>whnf)|((first|refine optP_map hx ea ?_|refine optP_map hy rfl ?_|refine callP_a hc ?_|refine dI ?_|refine okI ?_|refine bt ?_|refine bi (fun _=>?_) (fun _=>?_)|refine bndI ?_|intro _)<;>conv=>whnf)))
                  refine ⟨[kA], ?_⟩
                  conv=>whnf
                  refine optP_intro (tk_sets _ L) ?_
                  conv=>whnf
                  refine ⟨_, _, hpt, ?_⟩
                  conv=>whnf
                  refine optP_intro (tk_sets _ M) ?_
                  conv=>whnf
                  repeat (any_goals (first|exact falseI|((first|refine bd ?_ ?_|refine bn ?_ ?_)<;>intro _<;>first|(exfalso;omega)|conv=>whnf)|((first|refine dI ?_|refine okI ?_|refine bt ?_|refine bi (fun _=>?_) (fun _=>?_)|refine bndI ?_|intro _)<;>conv=>whnf)))
                  refine ⟨[kA], ?_⟩
                  conv=>whnf
                  refine optP_intro (tk_sets _ M) ?_
                  conv=>whnf
                  refine ⟨_, _, hrec, ?_⟩
                  conv=>whnf
                  refine optP_intro (tk_sets _ M2) ?_
                  conv=>whnf
                  repeat (any_goals (first|exact falseI|((first|refine bd ?_ ?_|refine bn ?_ ?_)<;>intro _<;>first|(exfalso;omega)|conv=>whnf)|((first|refine dI ?_|refine okI ?_|refine bt ?_|refine bi (fun _=>?_) (fun _=>?_)|refine bndI ?_|intro _)<;>conv=>whnf)))
                  (refine ⟨(f', mid + 1, b, decide ((b - a) / 8 ≤ mid - a), false, M2), ⟨by simp only;omega, by simp only;omega, by simp only;omega, H⟩, (by simp only;omega), ?_⟩;(conv=>whnf);refine ⟨?_, ?_, ?_⟩<;>repeat (first|exact trivial|refine sc rfl ?_|refine kn ?_|refine kc rfl ?_|refine sc (by first|rfl|exact congrArg (fun z : Bool=>some (boolA z)) hb8) ?_|refine kc (by first|rfl|exact congrArg (fun z : Bool=>some (boolA z)) hb8) ?_))
                · clear hc3
                  conv=>whnf
                  repeat (any_goals (first|exact falseI|((first|refine bd ?_ ?_|refine bn ?_ ?_)<;>intro _<;>first|(exfalso;omega)|conv=>whnf)|((first|refine dI ?_|refine okI ?_|refine bt ?_|refine bi (fun _=>?_) (fun _=>?_)|refine bndI ?_|intro _)<;>conv=>whnf)))
                  refine ⟨[kA], ?_⟩
                  conv=>whnf
                  refine optP_intro (tk_sets _ L) ?_
                  conv=>whnf
                  refine ⟨_, _, hch, ?_⟩
                  conv=>whnf
                  refine optP_intro (tk_sets _ L) ?_
                  conv=>whnf
                  repeat (any_goals (first|exact falseI|((first|refine bd ?_ ?_|refine bn ?_ ?_)<;>intro _<;>first|(exfalso;omega)|conv=>whnf)|((first|refine dI ?_|refine okI ?_|refine bt ?_|refine bi (fun _=>?_) (fun _=>?_)|refine bndI ?_|intro _)<;>conv=>whnf)))
                  refine ⟨[kA], ?_⟩
                  conv=>whnf
                  refine optP_intro (tk_sets _ L) ?_
                  conv=>whnf
                  refine ⟨_, _, hpt, ?_⟩
                  conv=>whnf
                  refine optP_intro (tk_sets _ M) ?_
                  conv=>whnf
                  repeat (any_goals (first|exact falseI|((first|refine bd ?_ ?_|refine bn ?_ ?_)<;>intro _<;>first|(exfalso;omega)|conv=>whnf)|((first|refine dI ?_|refine okI ?_|refine bt ?_|refine bi (fun _=>?_) (fun _=>?_)|refine bndI ?_|intro _)<;>conv=>whnf)))
                  refine ⟨[kA], ?_⟩
                  conv=>whnf
                  refine optP_intro (tk_sets _ M) ?_
                  conv=>whnf
                  refine ⟨_, _, hrec, ?_⟩
                  conv=>whnf
                  refine optP_intro (tk_sets _ M2) ?_
                  conv=>whnf
                  repeat (any_goals (first|exact falseI|((first|refine bd ?_ ?_|refine bn ?_ ?_)<;>intro _<;>first|(exfalso;omega)|conv=>whnf)|((first|refine dI ?_|refine okI ?_|refine bt ?_|refine bi (fun _=>?_) (fun _=>?_)|refine bndI ?_|intro _)<;>conv=>whnf)))
                  (refine ⟨(f', mid + 1, b, decide ((b - a) / 8 ≤ mid - a), false, M2), ⟨by simp only;omega, by simp only;omega, by simp only;omega, H⟩, (by simp only;omega), ?_⟩;(conv=>whnf);refine ⟨?_, ?_, ?_⟩<;>repeat (first|exact trivial|refine sc rfl ?_|refine kn ?_|refine kc rfl ?_|refine sc (by first|rfl|exact congrArg (fun z : Bool=>some (boolA z)) hb8) ?_|refine kc (by first|rfl|exact congrArg (fun z : Bool=>some (boolA z)) hb8) ?_))
        · rw [if_neg hlr] at H
          cases hM2 : pdqN lim f' (mid + 1) b true true M with
          | none=>rw [hM2] at H;simp at H
          | some M2 =>
            rw [hM2] at H
            simp only at H
            by_cases hm2 : M2.length ≠ L.length
            · rw [if_pos hm2] at H;simp at H
            rw [if_neg hm2] at H
            have hm2' : M2.length = L.length:=Classical.byContradiction hm2
            have hrec:=ih f' (by omega) (mid + 1) b M M2 (by omega) (by omega) (by omega) hM2
            rw [show ((mid + 1 : Nat) : Int) = (mid : Int) + 1 by omega] at hrec
            clear hm2 hM2
            cases par
            · by_cases s0 : s = 0
              · have hh : hintN s = 1:=by simp [hintN, s0]
                rw [hh] at hch
                clear hpa
                by_cases a0 : 0 < a
                · have hlt : ordN (atN L (a - 1)) (atN L p) < 0:=by
                    cases hq : ltN (atN L (a - 1)) (atN L p)
                    · exact absurd ⟨a0, hq⟩ hc3
                    · simpa [ltN] using hq
                  have hx:=at_get (L:=L) (i:=a - 1) (by omega)
                  have hy:=at_get (L:=L) (i:=p) (by omega)
                  have hc:=hcmp (atN L (a - 1)) (atN L p)
                  have ea : (a : Int) - 1 = ((a - 1 : Nat) : Int):=by omega
                  obtain ⟨v, hv0⟩ : ∃ v, v = ordN (atN L (a - 1)) (atN L p):=⟨_, rfl⟩
                  rw [← hv0] at hc hlt
                  conv=>whnf
                  repeat (any_goals (first|exact falseI|((first|refine bd ?_ ?_|refine bn ?_ ?_)<;>intro _<;>first|(exfalso;omega)|conv=>whnf)|((first|refine dI ?_|refine okI ?_|refine bt ?_|refine bi (fun _=>?_) (fun _=>?_)|refine bndI ?_|intro _)<;>conv=>whnf)))
                  refine ⟨[kA], ?_⟩
                  conv=>whnf
                  refine optP_intro (tk_sets _ L) ?_
                  conv=>whnf
                  refine ⟨_, _, hch, ?_⟩
                  conv=>whnf
                  refine optP_intro (tk_sets _ L) ?_
                  conv=>whnf
                  repeat (any_goals (first|exact falseI|((first|refine bd ?_ ?_|refine bn ?_ ?_)<;>intro _<;>first|(exfalso;omega)|conv=>whnf)|((first|refine dI ?_|refine okI ?_|refine bt ?_|refine bi (fun _=>?_) (fun _=>?_)|refine bndI ?_|intro _)<;>conv=>whnf)))
                  repeat (any_goals (first|exact falseI|((first|refine bd ?_ ?_|refine bn ?_ ?_)<;>intro _<;>first|(exfalso;omega)|conv=>whnf)|((first|refine optP_map hx ea ?_|refine optP_map hy rfl ?_|refine callP_a hc ?_|refine dI ?_|refine okI ?_|refine bt ?_|refine bi (fun _=>?_) (fun _=>?_)|refine bndI ?_|intro _)<;>conv=>whnf)))
                  refine ⟨[kA], ?_⟩
                  conv=>whnf
                  refine optP_intro (tk_sets _ L) ?_
                  conv=>whnf
                  refine ⟨_, _, hpt, ?_⟩
                  conv=>whnf
                  refine optP_intro (tk_sets _ M) ?_
                  conv=>whnf
                  repeat (any_goals (first|exact falseI|((first|refine bd ?_ ?_|refine bn ?_ ?_)<;>intro _<;>first|(exfalso;omega)|conv=>whnf)|((first|refine dI ?_|refine okI ?_|refine bt ?_|refine bi (fun _=>?_) (fun _=>?_)|refine bndI ?_|intro _)<;>conv=>whnf)))
                  refine ⟨[kA], ?_⟩
                  conv=>whnf
                  refine optP_intro (tk_sets _ M) ?_
                  conv=>whnf
                  refine ⟨_, _, hrec, ?_⟩
                  conv=>whnf
                  refine optP_intro (tk_sets _ M2) ?_
                  conv=>whnf
                  repeat (any_goals (first|exact falseI|((first|refine bd ?_ ?_|refine bn ?_ ?_)<;>intro _<;>first|(exfalso;omega)|conv=>whnf)|((first|refine dI ?_|refine okI ?_|refine bt ?_|refine bi (fun _=>?_) (fun _=>?_)|refine bndI ?_|intro _)<;>conv=>whnf)))
                  (refine ⟨(f', a, mid, decide ((b - a) / 8 ≤ b - mid), false, M2), ⟨by simp only;omega, by simp only;omega, by simp only;omega, H⟩, (by simp only;omega), ?_⟩;(conv=>whnf);refine ⟨?_, ?_, ?_⟩<;>repeat (first|exact trivial|refine sc rfl ?_|refine kn ?_|refine kc rfl ?_|refine sc (by first|rfl|exact congrArg (fun z : Bool=>some (boolA z)) hb9) ?_|refine kc (by first|rfl|exact congrArg (fun z : Bool=>some (boolA z)) hb9) ?_))
                · clear hc3
                  conv=>whnf
                  repeat (any_goals (first|exact falseI|((first|refine bd ?_ ?_|refine bn ?_ ?_)<;>intro _<;>first|(exfalso;omega)|conv=>whnf)|((first|refine dI ?_|refine okI ?_|refine bt ?_|refine bi (fun _=>?_) (fun _=>?_)|refine bndI ?_|intro _)<;>conv=>whnf)))
                  refine ⟨[kA], ?_⟩
                  conv=>whnf
                  refine optP_intro (tk_sets _ L) ?_
                  conv=>whnf
                  refine ⟨_, _, hch, ?_⟩
                  conv=>whnf
                  refine optP_intro (tk_sets _ L) ?_
                  conv=>whnf
                  repeat (any_goals (first|exact falseI|((first|refine bd ?_ ?_|refine bn ?_ ?_)<;>intro _<;>first|(exfalso;omega)|conv=>whnf)|((first|refine dI ?_|refine okI ?_|refine bt ?_|refine bi (fun _=>?_) (fun _=>?_)|refine bndI ?_|intro _)<;>conv=>whnf)))
                  refine ⟨[kA], ?_⟩
                  conv=>whnf
                  refine optP_intro (tk_sets _ L) ?_
                  conv=>whnf
                  refine ⟨_, _, hpt, ?_⟩
                  conv=>whnf
                  refine optP_intro (tk_sets _ M) ?_
                  conv=>whnf
                  repeat (any_goals (first|exact falseI|((first|refine bd ?_ ?_|refine bn ?_ ?_)<;>intro _<;>first|(exfalso;omega)|conv=>whnf)|((first|refine dI ?_|refine okI ?_|refine bt ?_|refine bi (fun _=>?_) (fun _=>?_)|refine bndI ?_|intro _)<;>conv=>whnf)))
                  refine ⟨[kA], ?_⟩
                  conv=>whnf
                  refine optP_intro (tk_sets _ M) ?_
                  conv=>whnf
                  refine ⟨_, _, hrec, ?_⟩
                  conv=>whnf
                  refine optP_intro (tk_sets _ M2) ?_
                  conv=>whnf
                  repeat (any_goals (first|exact falseI|((first|refine bd ?_ ?_|refine bn ?_ ?_)<;>intro _<;>first|(exfalso;omega)|conv=>whnf)|((first|refine dI ?_|refine okI ?_|refine bt ?_|refine bi (fun _=>?_) (fun _=>?_)|refine bndI ?_|intro _)<;>conv=>whnf)))
                  (refine ⟨(f', a, mid, decide ((b - a) / 8 ≤ b - mid), false, M2), ⟨by simp only;omega, by simp only;omega, by simp only;omega, H⟩, (by simp only;omega), ?_⟩;(conv=>whnf);refine ⟨?_, ?_, ?_⟩<;>repeat (first|exact trivial|refine sc rfl ?_|refine kn ?_|refine kc rfl ?_|refine sc (by first|rfl|exact congrArg (fun z : Bool=>some (boolA z)) hb9) ?_|refine kc (by first|rfl|exact congrArg (fun z : Bool=>some (boolA z)) hb9) ?_))
              · have hh : hintN s = 0:=by simp [hintN, s0, hs12];omega
                rw [hh] at hch
                clear hpa
                by_cases a0 : 0 < a
                · have hlt : ordN (atN L (a - 1)) (atN L p) < 0:=by
                    cases hq : ltN (atN L (a - 1)) (atN L p)
                    · exact absurd ⟨a0, hq⟩ hc3
                    · simpa [ltN] using hq
                  have hx:=at_get (L:=L) (i:=a - 1) (by omega)
                  have hy:=at_get (L:=L) (i:=p) (by omega)
                  have hc:=hcmp (atN L (a - 1)) (atN L p)
                  have ea : (a : Int) - 1 = ((a - 1 : Nat) : Int):=by omega
                  obtain ⟨v, hv0⟩ : ∃ v, v = ordN (atN L (a - 1)) (atN L p):=⟨_, rfl⟩
                  rw [← hv0] at hc hlt
                  conv=>whnf
                  repeat (any_goals (first|exact falseI|((first|refine bd ?_ ?_|refine bn ?_ ?_)<;>intro _<;>first|(exfalso;omega)|conv=>whnf)|((first|refine dI ?_|refine okI ?_|refine bt ?_|refine bi (fun _=>?_) (fun _=>?_)|refine bndI ?_|intro _)<;>conv=>whnf)))
                  refine ⟨[kA], ?_⟩
                  conv=>whnf
                  refine optP_intro (tk_sets _ L) ?_
                  conv=>whnf
                  refine ⟨_, _, hch, ?_⟩
                  conv=>whnf
                  refine optP_intro (tk_sets _ L) ?_
                  conv=>whnf
                  repeat (any_goals (first|exact falseI|((first|refine bd ?_ ?_|refine bn ?_ ?_)<;>intro _<;>first|(exfalso;omega)|conv=>whnf)|((first|refine dI ?_|refine okI ?_|refine bt ?_|refine bi (fun _=>?_) (fun _=>?_)|refine bndI ?_|intro _)<;>conv=>whnf)))
                  repeat (any_goals (first|exact falseI|((first|refine bd ?_ ?_|refine bn ?_ ?_)<;>intro _<;>first|(exfalso;omega)|conv=>whnf)|((first|refine optP_map hx ea ?_|refine optP_map hy rfl ?_|refine callP_a hc ?_|refine dI ?_|refine okI ?_|refine bt ?_|refine bi (fun _=>?_) (fun _=>?_)|refine bndI ?_|intro _)<;>conv=>whnf)))
                  refine ⟨[kA], ?_⟩
                  conv=>whnf
                  refine optP_intro (tk_sets _ L) ?_
                  conv=>whnf
                  refine ⟨_, _, hpt, ?_⟩
                  conv=>whnf
                  refine optP_intro (tk_sets _ M) ?_
                  conv=>whnf
                  repeat (any_goals (first|exact falseI|((first|refine bd ?_ ?_|refine bn ?_ ?_)<;>intro _<;>first|(exfalso;omega)|conv=>whnf)|((first|refine dI ?_|refine okI ?_|refine bt ?_|refine bi (fun _=>?_) (fun _=>?_)|refine bndI ?_|intro _)<;>conv=>whnf)))
                  refine ⟨[kA], ?_⟩
                  conv=>whnf
                  refine optP_intro (tk_sets _ M) ?_
                  conv=>whnf
                  refine ⟨_, _, hrec, ?_⟩
                  conv=>whnf
                  refine optP_intro (tk_sets _ M2) ?_
                  conv=>whnf
                  repeat (any_goals (first|exact falseI|((first|refine bd ?_ ?_|refine bn ?_ ?_)<;>intro _<;>first|(exfalso;omega)|conv=>whnf)|((first|refine dI ?_|refine okI ?_|refine bt ?_|refine bi (fun _=>?_) (fun _=>?_)|refine bndI ?_|intro _)<;>conv=>whnf)))
                  (refine ⟨(f', a, mid, decide ((b - a) / 8 ≤ b - mid), false, M2), ⟨by simp only;omega, by simp only;omega, by simp only;omega, H⟩, (by simp only;omega), ?_⟩;(conv=>whnf);refine ⟨?_, ?_, ?_⟩<;>repeat (first|exact trivial|refine sc rfl ?_|refine kn ?_|refine kc rfl ?_|refine sc (by first|rfl|exact congrArg (fun z : Bool=>some (boolA z)) hb9) ?_|refine kc (by first|rfl|exact congrArg (fun z : Bool=>some (boolA z)) hb9) ?_))
                · clear hc3
                  conv=>whnf
                  repeat (any_goals (first|exact falseI|((first|refine bd ?_ ?_|refine bn ?_ ?_)<;>intro _<;>first|(exfalso;omega)|conv=>whnf)|((first|refine dI ?_|refine okI ?_|refine bt ?_|refine bi (fun _=>?_) (fun _=>?_)|refine bndI ?_|intro _)<;>conv=>whnf)))
                  refine ⟨[kA], ?_⟩
                  conv=>whnf
                  refine optP_intro (tk_sets _ L) ?_
                  conv=>whnf
                  refine ⟨_, _, hch, ?_⟩
                  conv=>whnf
                  refine optP_intro (tk_sets _ L) ?_
                  conv=>whnf
                  repeat (any_goals (first|exact falseI|((first|refine bd ?_ ?_|refine bn ?_ ?_)<;>intro _<;>first|(exfalso;omega)|conv=>whnf)|((first|refine dI ?_|refine okI ?_|refine bt ?_|refine bi (fun _=>?_) (fun _=>?_)|refine bndI ?_|intro _)<;>conv=>whnf)))
                  refine ⟨[kA], ?_⟩
                  conv=>whnf
                  refine optP_intro (tk_sets _ L) ?_
                  conv=>whnf
                  refine ⟨_, _, hpt, ?_⟩
                  conv=>whnf
                  refine optP_intro (tk_sets _ M) ?_
                  conv=>whnf
                  repeat (any_goals (first|exact falseI|((first|refine bd ?_ ?_|refine bn ?_ ?_)<;>intro _<;>first|(exfalso;omega)|conv=>whnf)|((first|refine dI ?_|refine okI ?_|refine bt ?_|refine bi (fun _=>?_) (fun _=>?_)|refine bndI ?_|intro _)<;>conv=>whnf)))
                  refine ⟨[kA], ?_⟩
                  conv=>whnf
                  refine optP_intro (tk_sets _ M) ?_
                  conv=>whnf
                  refine ⟨_, _, hrec, ?_⟩
                  conv=>whnf
                  refine optP_intro (tk_sets _ M2) ?_
                  conv=>whnf
                  repeat (any_goals (first|exact falseI|((first|refine bd ?_ ?_|refine bn ?_ ?_)<;>intro _<;>first|(exfalso;omega)|conv=>whnf)|((first|refine dI ?_|refine okI ?_|refine bt ?_|refine bi (fun _=>?_) (fun _=>?_)|refine bndI ?_|intro _)<;>conv=>whnf)))
                  (refine ⟨(f', a, mid, decide ((b - a) / 8 ≤ b - mid), false, M2), ⟨by simp only;omega, by simp only;omega, by simp only;omega, H⟩, (by simp only;omega), ?_⟩;(conv=>whnf);refine ⟨?_, ?_, ?_⟩<;>repeat (first|exact trivial|refine sc rfl ?_|refine kn ?_|refine kc rfl ?_|refine sc (by first|rfl|exact congrArg (fun z : Bool=>some (boolA z)) hb9) ?_|refine kc (by first|rfl|exact congrArg (fun z : Bool=>some (boolA z)) hb9) ?_))
            · by_cases s0 : s = 0
              · have hh : hintN s = 1:=by simp [hintN, s0]
                rw [hh] at hch
                have hpa':=hpa (by
                  cases hq : partialOk L a b
                  · exact absurd ⟨rfl, s0, hq⟩ hc2
                  · rfl)
                clear hpa
                by_cases a0 : 0 < a
                · have hlt : ordN (atN L (a - 1)) (atN L p) < 0:=by
                    cases hq : ltN (atN L (a - 1)) (atN L p)
                    · exact absurd ⟨a0, hq⟩ hc3
                    · simpa [ltN] using hq
                  have hx:=at_get (L:=L) (i:=a - 1) (by omega)
                  have hy:=at_get (L:=L) (i:=p) (by omega)
                  have hc:=hcmp (atN L (a - 1)) (atN L p)
                  have ea : (a : Int) - 1 = ((a - 1 : Nat) : Int):=by omega
                  obtain ⟨v, hv0⟩ : ∃ v, v = ordN (atN L (a - 1)) (atN L p):=⟨_, rfl⟩
                  rw [← hv0] at hc hlt
                  conv=>whnf
                  repeat (any_goals (first|exact falseI|((first|refine bd ?_ ?_|refine bn ?_ ?_)<;>intro _<;>first|(exfalso;omega)|conv=>whnf)|((first|refine dI ?_|refine okI ?_|refine bt ?_|refine bi (fun _=>?_) (fun _=>?_)|refine bndI ?_|intro _)<;>conv=>whnf)))
                  refine ⟨[kA], ?_⟩
                  conv=>whnf
                  refine optP_intro (tk_sets _ L) ?_
                  conv=>whnf
                  refine ⟨_, _, hch, ?_⟩
                  conv=>whnf
                  refine optP_intro (tk_sets _ L) ?_
                  conv=>whnf
                  repeat (any_goals (first|exact falseI|((first|refine bd ?_ ?_|refine bn ?_ ?_)<;>intro _<;>first|(exfalso;omega)|conv=>whnf)|((first|refine dI ?_|refine okI ?_|refine bt ?_|refine bi (fun _=>?_) (fun _=>?_)|refine bndI ?_|intro _)<;>conv=>whnf)))
                  refine ⟨[kA], ?_⟩
                  conv=>whnf
                  refine optP_intro (tk_sets _ L) ?_
                  conv=>whnf
                  refine ⟨_, _, hpa', ?_⟩
                  conv=>whnf
                  refine optP_intro (tk_sets _ L) ?_
                  conv=>whnf
                  repeat (any_goals (first|exact falseI|((first|refine bd ?_ ?_|refine bn ?_ ?_)<;>intro _<;>first|(exfalso;omega)|conv=>whnf)|((first|refine dI ?_|refine okI ?_|refine bt ?_|refine bi (fun _=>?_) (fun _=>?_)|refine bndI ?_|intro _)<;>conv=>whnf)))
                  repeat (any_goals (first|exact falseI|((first|refine bd ?_ ?_|refine bn ?_ ?_)<;>intro _<;>first|(exfalso;omega)|conv=>whnf)|((first|refine optP_map hx ea ?_|refine optP_map hy rfl ?_|refine callP_a hc ?_|refine dI ?_|refine okI ?_|refine bt ?_|refine bi (fun _=>?_) (fun _=>?_)|refine bndI ?_|intro _)<;>conv=>whnf)))
                  refine ⟨[kA], ?_⟩
                  conv=>whnf
                  refine optP_intro (tk_sets _ L) ?_
                  conv=>whnf
                  refine ⟨_, _, hpt, ?_⟩
                  conv=>whnf
                  refine optP_intro (tk_sets _ M) ?_
                  conv=>whnf
                  repeat (any_goals (first|exact falseI|((first|refine bd ?_ ?_|refine bn ?_ ?_)<;>intro _<;>first|(exfalso;omega)|conv=>whnf)|((first|refine dI ?_|refine okI ?_|refine bt ?_|refine bi (fun _=>?_) (fun _=>?_)|refine bndI ?_|intro _)<;>conv=>whnf)))
                  refine ⟨[kA], ?_⟩
                  conv=>whnf
                  refine optP_intro (tk_sets _ M) ?_
                  conv=>whnf
                  refine ⟨_, _, hrec, ?_⟩
                  conv=>whnf
                  refine optP_intro (tk_sets _ M2) ?_
                  conv=>whnf
                  repeat (any_goals (first|exact falseI|((first|refine bd ?_ ?_|refine bn ?_ ?_)<;>intro _<;>first|(exfalso;omega)|conv=>whnf)|((first|refine dI ?_|refine okI ?_|refine bt ?_|refine bi (fun _=>?_) (fun _=>?_)|refine bndI ?_|intro _)<;>conv=>whnf)))
                  (refine ⟨(f', a, mid, decide ((b - a) / 8 ≤ b - mid), false, M2), ⟨by simp only;omega, by simp only;omega, by simp only;omega, H⟩, (by simp only;omega), ?_⟩;(conv=>whnf);refine ⟨?_, ?_, ?_⟩<;>repeat (first|exact trivial|refine sc rfl ?_|refine kn ?_|refine kc rfl ?_|refine sc (by first|rfl|exact congrArg (fun z : Bool=>some (boolA z)) hb9) ?_|refine kc (by first|rfl|exact congrArg (fun z : Bool=>some (boolA z)) hb9) ?_))
                · clear hc3
                  conv=>whnf
                  repeat (any_goals (first|exact falseI|((first|refine bd ?_ ?_|refine bn ?_ ?_)<;>intro _<;>first|(exfalso;omega)|conv=>whnf)|((first|refine dI ?_|refine okI ?_|refine bt ?_|refine bi (fun _=>?_) (fun _=>?_)|refine bndI ?_|intro _)<;>conv=>whnf)))
                  refine ⟨[kA], ?_⟩
                  conv=>whnf
                  refine optP_intro (tk_sets _ L) ?_
                  conv=>whnf
                  refine ⟨_, _, hch, ?_⟩
                  conv=>whnf
                  refine optP_intro (tk_sets _ L) ?_
                  conv=>whnf
                  repeat (any_goals (first|exact falseI|((first|refine bd ?_ ?_|refine bn ?_ ?_)<;>intro _<;>first|(exfalso;omega)|conv=>whnf)|((first|refine dI ?_|refine okI ?_|refine bt ?_|refine bi (fun _=>?_) (fun _=>?_)|refine bndI ?_|intro _)<;>conv=>whnf)))
                  refine ⟨[kA], ?_⟩
                  conv=>whnf
                  refine optP_intro (tk_sets _ L) ?_
                  conv=>whnf
                  refine ⟨_, _, hpa', ?_⟩
                  conv=>whnf
                  refine optP_intro (tk_sets _ L) ?_
                  conv=>whnf
                  repeat (any_goals (first|exact falseI|((first|refine bd ?_ ?_|refine bn ?_ ?_)<;>intro _<;>first|(exfalso;omega)|conv=>whnf)|((first|refine dI ?_|refine okI ?_|refine bt ?_|refine bi (fun _=>?_) (fun _=>?_)|refine bndI ?_|intro _)<;>conv=>whnf)))
                  refine ⟨[kA], ?_⟩
                  conv=>whnf
                  refine optP_intro (tk_sets _ L) ?_
                  conv=>whnf
                  refine ⟨_, _, hpt, ?_⟩
                  conv=>whnf
                  refine optP_intro (tk_sets _ M) ?_
                  conv=>whnf
                  repeat (any_goals (first|exact falseI|((first|refine bd ?_ ?_|refine bn ?_ ?_)<;>intro _<;>first|(exfalso;omega)|conv=>whnf)|((first|refine dI ?_|refine okI ?_|refine bt ?_|refine bi (fun _=>?_) (fun _=>?_)|refine bndI ?_|intro _)<;>conv=>whnf)))
                  refine ⟨[kA], ?_⟩
                  conv=>whnf
                  refine optP_intro (tk_sets _ M) ?_
                  conv=>whnf
                  refine ⟨_, _, hrec, ?_⟩
                  conv=>whnf
                  refine optP_intro (tk_sets _ M2) ?_
                  conv=>whnf
                  repeat (any_goals (first|exact falseI|((first|refine bd ?_ ?_|refine bn ?_ ?_)<;>intro _<;>first|(exfalso;omega)|conv=>whnf)|((first|refine dI ?_|refine okI ?_|refine bt ?_|refine bi (fun _=>?_) (fun _=>?_)|refine bndI ?_|intro _)<;>conv=>whnf)))
                  (refine ⟨(f', a, mid, decide ((b - a) / 8 ≤ b - mid), false, M2), ⟨by simp only;omega, by simp only;omega, by simp only;omega, H⟩, (by simp only;omega), ?_⟩;(conv=>whnf);refine ⟨?_, ?_, ?_⟩<;>repeat (first|exact trivial|refine sc rfl ?_|refine kn ?_|refine kc rfl ?_|refine sc (by first|rfl|exact congrArg (fun z : Bool=>some (boolA z)) hb9) ?_|refine kc (by first|rfl|exact congrArg (fun z : Bool=>some (boolA z)) hb9) ?_))
              · have hh : hintN s = 0:=by simp [hintN, s0, hs12];omega
                rw [hh] at hch
                clear hpa
                by_cases a0 : 0 < a
                · have hlt : ordN (atN L (a - 1)) (atN L p) < 0:=by
                    cases hq : ltN (atN L (a - 1)) (atN L p)
                    · exact absurd ⟨a0, hq⟩ hc3
                    · simpa [ltN] using hq
                  have hx:=at_get (L:=L) (i:=a - 1) (by omega)
                  have hy:=at_get (L:=L) (i:=p) (by omega)
                  have hc:=hcmp (atN L (a - 1)) (atN L p)
                  have ea : (a : Int) - 1 = ((a - 1 : Nat) : Int):=by omega
                  obtain ⟨v, hv0⟩ : ∃ v, v = ordN (atN L (a - 1)) (atN L p):=⟨_, rfl⟩
                  rw [← hv0] at hc hlt
                  conv=>whnf
                  repeat (any_goals (first|exact falseI|((first|refine bd ?_ ?_|refine bn ?_ ?_)<;>intro _<;>first|(exfalso;omega)|conv=>whnf)|((first|refine dI ?_|refine okI ?_|refine bt ?_|refine bi (fun _=>?_) (fun _=>?_)|refine bndI ?_|intro _)<;>conv=>whnf)))
                  refine ⟨[kA], ?_⟩
                  conv=>whnf
                  refine optP_intro (tk_sets _ L) ?_
                  conv=>whnf
                  refine ⟨_, _, hch, ?_⟩
                  conv=>whnf
                  refine optP_intro (tk_sets _ L) ?_
                  conv=>whnf
                  repeat (any_goals (first|exact falseI|((first|refine bd ?_ ?_|refine bn ?_ ?_)<;>intro _<;>first|(exfalso;omega)|conv=>whnf)|((first|refine dI ?_|refine okI ?_|refine bt ?_|refine bi (fun _=>?_) (fun _=>?_)|refine bndI ?_|intro _)<;>conv=>whnf)))
                  repeat (any_goals (first|exact falseI|((first|refine bd ?_ ?_|refine bn ?_ ?_)<;>intro _<;>first|(exfalso;omega)|conv=>whnf)|((first|refine optP_map hx ea ?_|refine optP_map hy rfl ?_|refine callP_a hc ?_|refine dI ?_|refine okI ?_|refine bt ?_|refine bi (fun _=>?_) (fun _=>?_)|refine bndI ?_|intro _)<;>conv=>whnf)))
                  refine ⟨[kA], ?_⟩
                  conv=>whnf
                  refine optP_intro (tk_sets _ L) ?_
                  conv=>whnf
                  refine ⟨_, _, hpt, ?_⟩
                  conv=>whnf
                  refine optP_intro (tk_sets _ M) ?_
                  conv=>whnf
                  repeat (any_goals (first|exact falseI|((first|refine bd ?_ ?_|refine bn ?_ ?_)<;>intro _<;>first|(exfalso;omega)|conv=>whnf)|((first|refine dI ?_|refine okI ?_|refine bt ?_|refine bi (fun _=>?_) (fun _=>?_)|refine bndI ?_|intro _)<;>conv=>whnf)))
                  refine ⟨[kA], ?_⟩
                  conv=>whnf
                  refine optP_intro (tk_sets _ M) ?_
                  conv=>whnf
                  refine ⟨_, _, hrec, ?_⟩
                  conv=>whnf
                  refine optP_intro (tk_sets _ M2) ?_
                  conv=>whnf
                  repeat (any_goals (first|exact falseI|((first|refine bd ?_ ?_|refine bn ?_ ?_)<;>intro _<;>first|(exfalso;omega)|conv=>whnf)|((first|refine dI ?_|refine okI ?_|refine bt ?_|refine bi (fun _=>?_) (fun _=>?_)|refine bndI ?_|intro _)<;>conv=>whnf)))
                  (refine ⟨(f', a, mid, decide ((b - a) / 8 ≤ b - mid), false, M2), ⟨by simp only;omega, by simp only;omega, by simp only;omega, H⟩, (by simp only;omega), ?_⟩;(conv=>whnf);refine ⟨?_, ?_, ?_⟩<;>repeat (first|exact trivial|refine sc rfl ?_|refine kn ?_|refine kc rfl ?_|refine sc (by first|rfl|exact congrArg (fun z : Bool=>some (boolA z)) hb9) ?_|refine kc (by first|rfl|exact congrArg (fun z : Bool=>some (boolA z)) hb9) ?_))
                · clear hc3
                  conv=>whnf
                  repeat (any_goals (first|exact falseI|((first|refine bd ?_ ?_|refine bn ?_ ?_)<;>intro _<;>first|(exfalso;omega)|conv=>whnf)|((first|refine dI ?_|refine okI ?_|refine bt ?_|refine bi (fun _=>?_) (fun _=>?_)|refine bndI ?_|intro _)<;>conv=>whnf)))
                  refine ⟨[kA], ?_⟩
                  conv=>whnf
                  refine optP_intro (tk_sets _ L) ?_
                  conv=>whnf
                  refine ⟨_, _, hch, ?_⟩
                  conv=>whnf
                  refine optP_intro (tk_sets _ L) ?_
                  conv=>whnf
                  repeat (any_goals (first|exact falseI|((first|refine bd ?_ ?_|refine bn ?_ ?_)<;>intro _<;>first|(exfalso;omega)|conv=>whnf)|((first|refine dI ?_|refine okI ?_|refine bt ?_|refine bi (fun _=>?_) (fun _=>?_)|refine bndI ?_|intro _)<;>conv=>whnf)))
                  refine ⟨[kA], ?_⟩
                  conv=>whnf
                  refine optP_intro (tk_sets _ L) ?_
                  conv=>whnf
                  refine ⟨_, _, hpt, ?_⟩
                  conv=>whnf
                  refine optP_intro (tk_sets _ M) ?_
                  conv=>whnf
                  repeat (any_goals (first|exact falseI|((first|refine bd ?_ ?_|refine bn ?_ ?_)<;>intro _<;>first|(exfalso;omega)|conv=>whnf)|((first|refine dI ?_|refine okI ?_|refine bt ?_|refine bi (fun _=>?_) (fun _=>?_)|refine bndI ?_|intro _)<;>conv=>whnf)))
                  refine ⟨[kA], ?_⟩
                  conv=>whnf
                  refine optP_intro (tk_sets _ M) ?_
                  conv=>whnf
                  refine ⟨_, _, hrec, ?_⟩
                  conv=>whnf
                  refine optP_intro (tk_sets _ M2) ?_
                  conv=>whnf
                  repeat (any_goals (first|exact falseI|((first|refine bd ?_ ?_|refine bn ?_ ?_)<;>intro _<;>first|(exfalso;omega)|conv=>whnf)|((first|refine dI ?_|refine okI ?_|refine bt ?_|refine bi (fun _=>?_) (fun _=>?_)|refine bndI ?_|intro _)<;>conv=>whnf)))
                  (refine ⟨(f', a, mid, decide ((b - a) / 8 ≤ b - mid), false, M2), ⟨by simp only;omega, by simp only;omega, by simp only;omega, H⟩, (by simp only;omega), ?_⟩;(conv=>whnf);refine ⟨?_, ?_, ?_⟩<;>repeat (first|exact trivial|refine sc rfl ?_|refine kn ?_|refine kc rfl ?_|refine sc (by first|rfl|exact congrArg (fun z : Bool=>some (boolA z)) hb9) ?_|refine kc (by first|rfl|exact congrArg (fun z : Bool=>some (boolA z)) hb9) ?_))
end Go.Proofs.YtbpiibdcncfphaaGreatDoor
namespace Go.Proofs.YtbpiibdcncfphaaGreatDoor
open Go.Am Go.Proofs Go
def bitsLen (n : Nat) : Nat:=if n = 0 then 0 else n.log2 + 1
set_option maxRecDepth 100000 in
set_option maxHeartbeats 4000000 in
theorem len64_c (n : Nat) (h : n ≤ 64) : PureA Tryz.prog 105 [uA n] (intA (bitsLen n)):=by
  rcases (by omega : n = 0∨n = 1∨n = 2∨n = 3∨n = 4∨n = 5∨n = 6∨n = 7∨n = 8∨n = 9∨n = 10∨n = 11∨n = 12∨n = 13∨n = 14∨n = 15∨n = 16∨n = 17∨n = 18∨n = 19∨n = 20∨n = 21∨n = 22∨n = 23∨n = 24∨n = 25∨n = 26∨n = 27∨n = 28∨n = 29∨n = 30∨n = 31∨n = 32∨n = 33∨n = 34∨n = 35∨n = 36∨n = 37∨n = 38∨n = 39∨n = 40∨n = 41∨n = 42∨n = 43∨n = 44∨n = 45∨n = 46∨n = 47∨n = 48∨n = 49∨n = 50∨n = 51∨n = 52∨n = 53∨n = 54∨n = 55∨n = 56∨n = 57∨n = 58∨n = 59∨n = 60∨n = 61∨n = 62∨n = 63∨n = 64) with rfl|rfl|rfl|rfl|rfl|rfl|rfl|rfl|rfl|rfl|rfl|rfl|rfl|rfl|rfl|rfl|rfl|rfl|rfl|rfl|rfl|rfl|rfl|rfl|rfl|rfl|rfl|rfl|rfl|rfl|rfl|rfl|rfl|rfl|rfl|rfl|rfl|rfl|rfl|rfl|rfl|rfl|rfl|rfl|rfl|rfl|rfl|rfl|rfl|rfl|rfl|rfl|rfl|rfl|rfl|rfl|rfl|rfl|rfl|rfl|rfl|rfl|rfl|rfl|rfl
  all_goals
    refine pureA_codeB tabOk { l:=0, f:=105 } mixed call_105 Tryz.func105 (by kernel_rfl) ?_
    conv=>whnf
    repeat (refine And.intro (by decide +kernel) ?_;conv=>whnf)
    (refine ⟨⟨?_⟩, trivial⟩;kernel_rfl)
theorem len_c (n : Nat) (h : n ≤ 64) : PureA Tryz.prog 84 [uA n] (intA (bitsLen n)):=by
  have ht:=len64_c n h
  generalize bitsLen n = r at *
  refine pureA_codeB tabOk { l:=0, f:=84 } mixed call_84 Tryz.func84 (by kernel_rfl) ?_
  conv=>whnf
  repeat (any_goals (first|exact falseI|((first|refine bd ?_ ?_|refine bn ?_ ?_)<;>intro _<;>first|(exfalso;omega)|conv=>whnf)|((first|refine callP_a ht ?_|refine dI ?_|refine okI ?_|refine bt ?_|refine bi (fun _=>?_) (fun _=>?_)|refine bndI ?_|intro _)<;>conv=>whnf)))
  (refine ⟨⟨?_⟩, trivial⟩;rfl)
theorem u64_wrap65 : ∀ n : Nat, n < 65→IntKind.u64.wrap (n : Int) = (n : Int):=by decide +kernel
theorem bitsLen_le : ∀ n : Nat, n < 65→bitsLen n ≤ 7∧(0 < n→0 < bitsLen n):=by decide +kernel
theorem sort_c (g n f : Nat) (X R : List Nat) (hX : X.length = n) (h0 : 0 < n) (h64 : n ≤ 64) (hR : pdqN (bitsLen n) f 0 n true true X = some R) :
    BoxA Tryz.prog (.fn 48) [(kA, g, 1, X.map setA)] [.own kA g 1 n 0, cmpF] (.tuple []) [(kA, g, 1, R.map setA)]:=by
  have hl:=len_c n h64
  have hb:=bitsLen_le n (by omega)
  have hw:=u64_wrap65 n (by omega)
  have hi:=pdq_c g n (bitsLen n) (hb.2 h0) (by omega) (by omega) (f + 1) f (by omega) 0 n X R hX (by omega) (by omega) hR
  generalize bitsLen n = lim at *
  unfold uA at hl
  rw [← hw] at hl
  refine boxA_codeB tabOk { l:=0, f:=48, mat:=[83] } mixed call_48 Tryz.func48 (by kernel_rfl) ?_
  conv=>whnf
  repeat (any_goals (first|exact falseI|((first|refine bd ?_ ?_|refine bn ?_ ?_)<;>intro _<;>first|(exfalso;omega)|conv=>whnf)|((first|refine callP_a hl ?_|refine dI ?_|refine okI ?_|refine bt ?_|refine bi (fun _=>?_) (fun _=>?_)|refine bndI ?_|intro _)<;>conv=>whnf)))
  refine ⟨[kA], ?_⟩
  conv=>whnf
  refine optP_intro (tk_sets _ X) ?_
  conv=>whnf
  refine ⟨_, _, hi, ?_⟩
  conv=>whnf
  refine optP_intro (tk_sets _ R) ?_
  conv=>whnf
  repeat (any_goals (first|exact falseI|((first|refine bd ?_ ?_|refine bn ?_ ?_)<;>intro _<;>first|(exfalso;omega)|conv=>whnf)|((first|refine dI ?_|refine okI ?_|refine bt ?_|refine bi (fun _=>?_) (fun _=>?_)|refine bndI ?_|intro _)<;>conv=>whnf)))
  refine And.intro ?_ ?_
  · conv=>whnf
    refine ⟨⟨?_⟩, trivial⟩
    rfl
  · repeat (first|exact trivial|refine And.intro rfl ?_|refine And.intro (by skip) ?_)
end Go.Proofs.YtbpiibdcncfphaaGreatDoor
namespace Go.Proofs.YtbpiibdcncfphaaGreatDoor
open Go.Am Go.Proofs Go
def setsOf (h kept : Nat) : List Nat:=(List.range (2 ^ h)).filter fun s=>s &&& kept == 0
def sortOk (h kept : Nat) : Bool:=decide (pdqN (if (setsOf h kept).length = 0 then 0 else (setsOf h kept).length.log2 + 1) 70 0 (setsOf h kept).length true true (setsOf h kept) = some (insN 0 (setsOf h kept).length (setsOf h kept)))
theorem sort_small : ∀ h, h < 4→∀ kept, kept < 2 ^ h→sortOk h kept = true:=by decide +kernel
theorem sort_four : ∀ kept, kept < 2 ^ 4→sortOk 4 kept = true:=by decide +kernel
theorem sort_five : ∀ kept, kept < 2 ^ 5→sortOk 5 kept = true:=by decide +kernel
theorem sort_six : ∀ kept, kept < 2 ^ 6→sortOk 6 kept = true:=by decide +kernel
end Go.Proofs.YtbpiibdcncfphaaGreatDoor
namespace Go.Proofs.YtbpiibdcncfphaaGreatDoor
open Go.Am Go.Proofs Go
def Store.baseOf (s : Store) (l : List Int) (later : Int) : Amt:=sumL (s.melts later) zeroT l
theorem baseOf_upto {s : Store} {l : List Int} {later : Int} (hg : s.Good) (hl : 0 ≤ later) (h6 : l.length ≤ 6) : (s.baseOf l later).upto 900000:=by
  have hm : ∀ a ∈ s.melts later, a.upto 80:=by
    intro a ha
    simp only [Store.melts, meltsTo, List.take_length, List.mem_append, List.mem_map, List.mem_replicate] at ha
    rcases ha with ⟨h, hh, rfl⟩|⟨_, rfl⟩
    · have hok:=hg.heads h hh
      have:=faded_le hok hg.fade.1 hl
      obtain ⟨⟨a1, a2, a3⟩, a4⟩:=hok
      unfold Head.melt Amt.upto
      simp only
      omega
    · unfold Amt.upto zeroT;simp
  have key : ∀ (l : List Int) (k : Amt) (N : Int), k.upto N→(sumL (s.melts later) k l).upto (N + 80 * l.length):=by
    intro l
    induction l with
    | nil=>intro k N hk;simpa [sumL] using hk
    | cons x l ih =>
      intro k N hk
      have h1 : ((s.melts later).getD x.toNat zeroT).upto 80:=by
        rw [List.getD_eq_getElem?_getD]
        cases hx : (s.melts later)[x.toNat]? with
        | none=>unfold Amt.upto zeroT;simp
        | some a=>exact hm a (List.mem_of_getElem? hx)
      have h2 : (k.add ((s.melts later).getD x.toNat zeroT)).upto (N + 80):=by
        unfold Amt.upto Amt.add at *
        simp only
        omega
      have:=ih _ _ h2
      rw [show N + 80 * ((x :: l).length : Int) = N + 80 + 80 * (l.length : Int) by simp only [List.length_cons, Int.natCast_add, Int.mul_add];omega]
      exact this
  have:=key l zeroT 0 (by unfold Amt.upto zeroT;simp)
  unfold Store.baseOf
  unfold Amt.upto at *
  omega
theorem does_c (s : Store) (later : Int) (memo : MemoL) (l : List Int) (hg : s.Good) (h0 : 0 ≤ later) (hl6 : l.length ≤ 6) (hR : ∀ x ∈ l, 0 ≤ x∧x < 6) (hok : s.memoOk memo) :
    BoxA Tryz.prog (.fn 29) (storeE s (sumW s.orders) (s.melts later) memo) [.ptr kS 1 27 0 0, intsA l] (boolA (s.pour (s.baseOf l later)).ok) (storeE s (sumW s.orders) (s.melts later) (s.remember memo (s.baseOf l later))):=by
  have hp:=meltsTo_len s later _ (Nat.le_refl _) hg.len
  have e : meltsTo s later s.heads.length = s.melts later:=rfl
  rw [e] at hp
  have hsum:=wsum_c s (sumW s.orders) (s.melts later) zeroT l hp (melts_abs hg h0) (zeroT_abs _ (by decide)) hR (by omega)
  have hpo:=pour_c s (s.melts later) memo (s.baseOf l later) hp hg (baseOf_upto hg h0 hl6) hok
  have eb : sumL (s.melts later) zeroT l = s.baseOf l later:=rfl
  rw [eb] at hsum
  generalize s.baseOf l later = b at *
  generalize s.pour b = P at *
  generalize s.remember memo b = memo' at *
  generalize sumW s.orders = w at *
  generalize s.melts later = p at *
  clear e eb
  obtain ⟨p0, p1, p2, p3, p4, p5, rfl⟩:=list6 hp
  refine boxA_codeB tabOk { l:=0, f:=29, mat:=[24] } mixed call_29 Tryz.func29 (by kernel_rfl) ?_
  conv=>whnf
  repeat (any_goals (first|exact falseI|((first|refine bd ?_ ?_|refine bn ?_ ?_)<;>intro _<;>first|(exfalso;omega)|conv=>whnf)|((first|refine callP_f hsum rfl ?_|refine dI ?_|refine okI ?_|refine bt ?_|refine bi (fun _=>?_) (fun _=>?_)|refine bndI ?_|intro _)<;>conv=>whnf)))
  refine ⟨[kS, kM], ?_⟩
  conv=>whnf
  refine ⟨_, _, hpo, ?_⟩
  conv=>whnf
  repeat (any_goals (first|exact falseI|((first|refine bd ?_ ?_|refine bn ?_ ?_)<;>intro _<;>first|(exfalso;omega)|conv=>whnf)|((first|refine dI ?_|refine okI ?_|refine bt ?_|refine bi (fun _=>?_) (fun _=>?_)|refine bndI ?_|intro _)<;>conv=>whnf)))
  refine And.intro ?_ ?_
  · conv=>whnf
    refine ⟨⟨?_⟩, trivial⟩
    rfl
  · repeat (first|exact trivial|refine And.intro rfl ?_|refine And.intro (by skip) ?_)
end Go.Proofs.YtbpiibdcncfphaaGreatDoor
namespace Go.Proofs.YtbpiibdcncfphaaGreatDoor
open Go.Am Go.Proofs Go
theorem rbeesF_spec {s : Store} {k : Amt} : ∀ (f : Nat) (n : Int), s.lots.b + 1 ≤ n + f→n ≤ s.rbeesF k f n∧(s.rbeesF k f n ≤ s.lots.b→s.enough (k.add ⟨s.rbeesF k f n, 0, 0⟩) = true)∧∀ m, n ≤ m→m ≤ s.lots.b→s.enough (k.add ⟨m, 0, 0⟩) = true→s.rbeesF k f n ≤ m
  | 0, n, h=>by
    unfold Store.rbeesF
    exact ⟨Int.le_refl _, fun h2=>by simp at h;omega, fun m h1 _ _=>h1⟩
  | f + 1, n, h=>by
    unfold Store.rbeesF
    by_cases h1 : n ≤ s.lots.b
    · rw [if_pos h1]
      by_cases h2 : s.enough (k.add ⟨n, 0, 0⟩) = true
      · rw [if_pos h2]
        exact ⟨Int.le_refl _, fun _=>h2, fun m h1 _ _=>h1⟩
      · rw [if_neg h2]
        obtain ⟨a, b, c⟩:=rbeesF_spec (s:=s) (k:=k) f (n + 1) (by omega)
        refine ⟨by omega, b, fun m h3 h4 h5=>?_⟩
        by_cases e : m = n
        · subst e;exact absurd h5 h2
        · exact c m (by omega) h4 h5
    · rw [if_neg h1]
      exact ⟨Int.le_refl _, fun h=>absurd h h1, fun m h1 _ _=>h1⟩
theorem rbees_spec {s : Store} {k : Amt} (hg : s.Good) : 0 ≤ s.rbees k∧(s.rbees k ≤ s.lots.b→s.enough (k.add ⟨s.rbees k, 0, 0⟩) = true)∧∀ m, 0 ≤ m→m ≤ s.lots.b→s.enough (k.add ⟨m, 0, 0⟩) = true→s.rbees k ≤ m:=by
  obtain ⟨l1, l2, l3⟩:=hg.lots
  obtain ⟨a, b, c⟩:=rbeesF_spec (s:=s) (k:=k) 101 (max 0 (sumW s.orders - k.weight)) (by omega)
  unfold Store.rbees
  refine ⟨by omega, b, fun m h1 h2 h3=>c m ?_ h2 h3⟩
  have:=(enough_iff.1 h3).2
  rw [add_weight] at this
  omega
theorem short_spec {s : Store} {k : Amt} (hg : s.Good) (hk : 0 ≤ k.weight) (h : s.short k = true) {m : Int} (hm : 0 ≤ m) : ¬ s.enough (k.add ⟨m, 0, 0⟩) = true:=by
  intro he
  obtain ⟨q1, q2⟩:=enough_iff.1 he
  rw [add_weight] at q2
  unfold Store.short at h
  rw [List.any_eq_true] at h
  obtain ⟨o, ho, hb⟩:=h
  have hw : max k.weight (sumW s.orders) ≤ k.weight + m:=by omega
  have ho2:=hg.orders o ho
  obtain ⟨⟨h1, _⟩, h2, _⟩:=q1 o ho
  rw [add_weight] at h1 h2
  have m1 : o.tlo * max k.weight (sumW s.orders) ≤ o.tlo * (k.weight + m):=Int.mul_le_mul_of_nonneg_left hw ho2.2.1.1
  have m2 : o.clo * max k.weight (sumW s.orders) ≤ o.clo * (k.weight + m):=Int.mul_le_mul_of_nonneg_left hw ho2.2.2.1
  simp only [Amt.add, Int.add_zero] at h1 h2
  simp only [Bool.or_eq_true, decide_eq_true_eq] at hb
  omega
theorem bees_same {s : Store} {k : Amt} (hg : s.Good) (hk : k.upto 1000000) : (s.bees k).2 = (!s.short k && decide (s.rbees k ≤ s.lots.b))∧((s.bees k).2 = true→(s.bees k).1 = s.rbees k):=by
  obtain ⟨p1, p2⟩:=bees_spec hg hk
  obtain ⟨r0, r1, r2⟩:=rbees_spec (k:=k) hg
  have hw : 0 ≤ k.weight:=by obtain ⟨a, b, c⟩:=hk;unfold Amt.weight;omega
  constructor
  · rw [Bool.eq_iff_iff]
    simp only [Bool.and_eq_true, Bool.not_eq_true', decide_eq_true_eq]
    constructor
    · intro h
      obtain ⟨a, b, c⟩:=p1 h
      have:=r2 _ a b c
      exact ⟨Bool.eq_false_iff.2 fun hs=>short_spec hg hw hs a c, by omega⟩
    · rintro ⟨h1, h2⟩
      exact (p2 _ r0 h2 (r1 h2)).1
  · intro h
    obtain ⟨a, b, c⟩:=p1 h
    have h1:=r2 _ a b c
    have h2:=(p2 _ r0 (by omega) (r1 (by omega))).2
    omega
theorem lessL4 (a b : Amt) : lessL [a.weight, a.b, a.t, a.c] [b.weight, b.b, b.t, b.c] = true↔a.lt b:=by
  unfold Amt.lt
  simp only [lessL]
  generalize a.weight = x
  generalize b.weight = y
  split
  · split
    · split
      · split
        · simp;omega
        · simp;omega
      · simp;omega
    · simp;omega
  · simp;omega
theorem least_step {s : Store} {base : Amt} {t c : Nat} {best : Poured} (hg : s.Good) (hb : base.upto 900000) (ht : (t : Int) ≤ s.lots.t) (hc : (c : Int) ≤ s.lots.c) (h : best.ok = false→best = zeroP) :
    s.leastStep base t c (best.amt, best.ok) = ((s.pourStep base t c best).amt, (s.pourStep base t c best).ok)∧((s.pourStep base t c best).ok = false→s.pourStep base t c best = zeroP):=by
  obtain ⟨l1, l2, l3⟩:=hg.lots
  have hk : (⟨base.b, base.t + t, base.c + c⟩ : Amt).upto 1000000:=by
    obtain ⟨b1, b2, b3⟩:=hb
    refine ⟨?_, ?_, ?_⟩<;>simp only<;>omega
  obtain ⟨e1, e2⟩:=bees_same hg hk
  have hadd : base.add ⟨0, t, c⟩ = ⟨base.b, base.t + t, base.c + c⟩:=by unfold Amt.add;simp
  unfold Store.leastStep Store.pourStep
  rw [hadd]
  generalize hbe : s.bees ⟨base.b, base.t + t, base.c + c⟩ = r at *
  obtain ⟨n, is⟩:=r
  simp only at e1 e2 ⊢
  cases is with
  | false =>
    rw [if_pos rfl]
    refine ⟨?_, h⟩
    by_cases hs : s.short ⟨base.b, base.t + t, base.c + c⟩ = true
    · rw [if_pos hs]
    · rw [if_neg hs]
      have hs:=Bool.eq_false_iff.2 hs
      rw [hs] at e1
      simp only [Bool.not_false, Bool.true_and] at e1
      rw [← e1, Bool.false_and, if_neg (by simp)]
  | true =>
    have e2:=e2 rfl
    have hb1 : s.short ⟨base.b, base.t + t, base.c + c⟩ = false∧decide (s.rbees ⟨base.b, base.t + t, base.c + c⟩ ≤ s.lots.b) = true:=by
      have:=e1.symm
      simpa [Bool.and_eq_true] using this
    rw [if_neg (show ¬ s.short ⟨base.b, base.t + t, base.c + c⟩ = true by rw [hb1.1];simp), if_neg (show ¬ (true = false) by simp), ← e2]
    rw [← e2] at hb1
    rw [hb1.2, Bool.true_and]
    have hiff : ((!best.ok || lessL [Amt.weight ⟨n, t, c⟩, n, t, c] [best.amt.weight, best.amt.b, best.amt.t, best.amt.c]) = true)↔Poured.better ⟨⟨n, t, c⟩, true⟩ best = true:=by
      rw [better_iff, Bool.or_eq_true, lessL4 ⟨n, t, c⟩ best.amt]
      constructor
      · rintro (hx|hx)
        · exact .inl (h (by simpa using hx))
        · exact .inr hx
      · rintro (hx|hx)
        · rw [hx];exact .inl rfl
        · exact .inr hx
    by_cases hbt : Poured.better ⟨⟨n, t, c⟩, true⟩ best = true
    · rw [if_pos hbt, if_pos (hiff.2 hbt)]
      exact ⟨rfl, by simp⟩
    · rw [if_neg hbt, if_neg (fun hx=>hbt (hiff.1 hx))]
      exact ⟨rfl, h⟩
theorem least_in {s : Store} {base : Amt} {t : Nat} (hg : s.Good) (hb : base.upto 900000) (ht : (t : Int) ≤ s.lots.t) : ∀ (n c : Nat) (best : Poured), (n : Int) + c ≤ s.lots.c + 1→(best.ok = false→best = zeroP) →
    s.leastIn base t n c (best.amt, best.ok) = ((s.pourIn base t n c best).amt, (s.pourIn base t n c best).ok)∧((s.pourIn base t n c best).ok = false→s.pourIn base t n c best = zeroP)
  | 0, c, best, _, h=>⟨rfl, h⟩
  | n + 1, c, best, hn, h=>by
    unfold Store.leastIn Store.pourIn
    obtain ⟨a, b⟩:=least_step hg hb ht (c:=c) (by omega) h
    rw [a]
    exact least_in hg hb ht n (c + 1) _ (by omega) b
theorem least_out {s : Store} {base : Amt} (hg : s.Good) (hb : base.upto 900000) : ∀ (n t : Nat) (best : Poured), (n : Int) + t ≤ s.lots.t + 1→(best.ok = false→best = zeroP) →
    s.leastOut base n t (best.amt, best.ok) = ((s.pourOut base n t best).amt, (s.pourOut base n t best).ok)∧((s.pourOut base n t best).ok = false→s.pourOut base n t best = zeroP)
  | 0, t, best, _, h=>⟨rfl, h⟩
  | n + 1, t, best, hn, h=>by
    unfold Store.leastOut Store.pourOut
    obtain ⟨l1, l2, l3⟩:=hg.lots
    obtain ⟨a, b⟩:=least_in hg hb (t:=t) (by omega) (s.lots.c.toNat + 1) 0 best (by omega) h
    rw [a]
    exact least_out hg hb n (t + 1) _ (by omega) b
theorem least_pour {s : Store} {l : List Int} (hg : s.Good) (h6 : l.length ≤ 6) : s.least l = ((s.pour (s.baseOf l 0)).amt, (s.pour (s.baseOf l 0)).ok):=by
  obtain ⟨l1, l2, l3⟩:=hg.lots
  exact (least_out hg (baseOf_upto hg (by decide) h6) (s.lots.t.toNat + 1) 0 zeroP (by omega) (fun _=>rfl)).1
end Go.Proofs.YtbpiibdcncfphaaGreatDoor
namespace Go.Proofs.YtbpiibdcncfphaaGreatDoor
open Go.Am Go.Proofs Go
def Store.keptAt (s : Store) (x : Int) : Bool:=match s.heads[x.toNat]? with|none=>false|some y=>y.kept
end Go.Proofs.YtbpiibdcncfphaaGreatDoor
namespace Go.Proofs.YtbpiibdcncfphaaGreatDoor
open Go.Am Go.Proofs Go
def maskOf : List Head→Nat
  | []=>0
  | h :: l=>(if h.kept = true then 1 else 0) + 2 * maskOf l
theorem maskOf_lt : ∀ l : List Head, maskOf l < 2 ^ l.length
  | []=>by simp [maskOf]
  | h :: l=>by
    have:=maskOf_lt l
    simp only [maskOf, List.length_cons, Nat.pow_succ]
    split<;>omega
theorem maskOf_bit : ∀ (l : List Head) (i : Nat), (maskOf l).testBit i = (match l[i]? with|none=>false|some y=>y.kept)
  | [], i=>by simp [maskOf]
  | h :: l, 0=>by
    simp only [maskOf, List.getElem?_cons_zero, Nat.testBit_zero]
    cases h.kept<;>simp<;>omega
  | h :: l, i + 1=>by
    have:=maskOf_bit l i
    simp only [maskOf, List.getElem?_cons_succ, Nat.testBit_succ]
    rw [← this]
    congr 1
    split<;>omega
def bitsOk (h : Nat) : Bool:=(List.range (2 ^ h)).all fun s=>(setL s).all (fun x=>decide (0 ≤ x∧x < (h : Int))) && (List.range (2 ^ h)).all fun k=>((setL s).any (fun x=>k.testBit x.toNat)) == !(s &&& k == 0)
theorem bits_ok : ∀ h, h < 7→bitsOk h = true:=by decide +kernel
end Go.Proofs.YtbpiibdcncfphaaGreatDoor
namespace Go.Proofs.YtbpiibdcncfphaaGreatDoor
open Go.Am Go.Proofs Go
def kT : Key:=⟨0, 23, 1⟩
def envE (s : Store) (w : Int) (m : List Amt) (memo : MemoL) : List BoxE:=[(kS, 1, 27, [storeY s w m (.mp kM 1)]), (kM, 1, 0, mapX memo), (kT, 1, 1, [.ptr kS 1 27 0 0])]
theorem listsF_c (s : Store) (w : Int) (m : List Amt) (memo : MemoL) (hm : m.length = 6) : BoxA Tryz.prog (.fn 23) (storeE s w m memo) [.ptr kS 1 27 0 0] (.func (.func 44) [] [.ptr kT 1 1 0 0]) (envE s w m memo):=by
  obtain ⟨p0, p1, p2, p3, p4, p5, rfl⟩:=list6 hm
  refine boxA_codeB tabOk { l:=0, f:=23 } mixed call_23 Tryz.func23 (by kernel_rfl) ?_
  conv=>whnf
  repeat (any_goals (first|exact falseI|((first|refine bd ?_ ?_|refine bn ?_ ?_)<;>intro _<;>first|(exfalso;omega)|conv=>whnf)|((first|refine dI ?_|refine okI ?_|refine bt ?_|refine bi (fun _=>?_) (fun _=>?_)|refine bndI ?_|intro _)<;>conv=>whnf)))
  refine And.intro ?_ ?_
  · conv=>whnf
    refine ⟨⟨?_⟩, trivial⟩
    rfl
  · repeat (first|exact trivial|refine And.intro rfl ?_|refine And.intro (by skip) ?_)
theorem keptB_c (s : Store) (w : Int) (m : List Amt) (memo : MemoL) (x : Int) (hm : m.length = 6) (hx : 0 ≤ x∧x < s.heads.length) :
    BoxA Tryz.prog (.fn 47) (envE s w m memo) [intA x, .ptr kT 1 1 0 0] (boolA (s.keptAt x)) (envE s w m memo):=by
  obtain ⟨y, hy⟩ : ∃ y, s.heads[x.toNat]? = some y:=⟨_, List.getElem?_eq_getElem (by omega)⟩
  have hx0:=hx.1
  unfold Store.keptAt
  rw [hy]
  simp only
  obtain ⟨p0, p1, p2, p3, p4, p5, rfl⟩:=list6 hm
  refine boxA_codeB tabOk { l:=0, f:=47 } mixed call_47 Tryz.func47 (by kernel_rfl) ?_
  conv=>whnf
  repeat (any_goals (first|exact falseI|((first|refine bd ?_ ?_|refine bn ?_ ?_)<;>intro _<;>first|(exfalso;omega)|conv=>whnf)|((first|refine optP_map hy (by omega) ?_|refine dI ?_|refine okI ?_|refine bt ?_|refine bi (fun _=>?_) (fun _=>?_)|refine bndI ?_|intro _)<;>conv=>whnf)))
  refine And.intro ?_ ?_
  · conv=>whnf
    refine ⟨⟨?_⟩, trivial⟩
    rfl
  · repeat (first|exact trivial|refine And.intro rfl ?_|refine And.intro (by skip) ?_)
theorem ikeptB_c (s : Store) (w : Int) (m : List Amt) (memo : MemoL) (l : List Int) (hm : m.length = 6) (hl : l.length ≤ 1048576) (hR : ∀ x ∈ l, 0 ≤ x∧x < s.heads.length) :
    BoxA Tryz.prog (.fn 82) (envE s w m memo) [intsA l, .func (.func 47) [] [.ptr kT 1 1 0 0]] (intA (idx s.keptAt l)) (envE s w m memo):=by
  have hk:=fun x hx=>keptB_c s w m memo x hm (hR x hx)
  obtain ⟨p0, p1, p2, p3, p4, p5, rfl⟩:=list6 hm
  refine boxA_codeB tabOk { l:=0, f:=82, mat:=[47] } mixed call_82 Tryz.func82 (by kernel_rfl) ?_
  conv=>whnf
  refine loopK tabOk { l:=0, f:=82, mat:=[47] } mixed (fun i : Nat=>[(8, intA i)]) (fun _=>[]) (fun _=>[]) (fun i=>i ≤ l.length∧idx s.keptAt l = idxFrom s.keptAt i (l.drop i)) (fun i=>l.length - i) 0 (by kernel_rfl)
    ⟨Nat.zero_le _, rfl⟩ ?_
  conv=>whnf
  refine ⟨⟨slotsLe_cons rfl trivial, trivial, trivial⟩, ?_⟩
  intro i ⟨hi, H⟩
  conv=>whnf
  refine brP_dec (fun h1=>?_) (fun h1=>?_)
  · simp only [List.length_map] at h1
    obtain ⟨x, hx, hd⟩:=drop_cons (l:=l) (i:=i) (by omega)
    have H':=idxFrom_cons hd H
    have hc:=hk x (List.mem_of_getElem? hx)
    generalize s.keptAt x = b at hc H'
    conv=>whnf
    repeat (any_goals (first|exact falseI|((first|refine bd ?_ ?_|refine bn ?_ ?_)<;>intro _<;>first|(exfalso;omega)|conv=>whnf)|((first|refine optP_map hx rfl ?_|refine dI ?_|refine okI ?_|refine bt ?_|refine bi (fun _=>?_) (fun _=>?_)|refine bndI ?_|intro _)<;>conv=>whnf)))
    refine ⟨[kS, kM, kT], ?_⟩
    conv=>whnf
    refine ⟨_, _, hc, ?_⟩
    conv=>whnf
    repeat (any_goals (first|exact falseI|((first|refine bd ?_ ?_|refine bn ?_ ?_)<;>intro _<;>first|(exfalso;omega)|conv=>whnf)|((first|refine dI ?_|refine okI ?_|refine bt ?_|refine bi (fun _=>?_) (fun _=>?_)|refine bndI ?_|intro _)<;>conv=>whnf)))
    · rename_i he
      subst he
      simp only [if_true] at H'
      refine And.intro ?_ ?_
      · conv=>whnf
        refine ⟨⟨?_⟩, trivial⟩
        simp [oneOf, intA, H']
      · repeat (first|exact trivial|refine And.intro rfl ?_|refine And.intro (by skip) ?_)
    · rename_i he
      subst he
      simp only [Bool.false_eq_true, if_false] at H'
      (refine ⟨i + 1, ⟨by omega, H'⟩, by omega, ?_⟩;(conv=>whnf);refine ⟨?_, ?_, ?_⟩<;>repeat (first|exact trivial|refine sc rfl ?_|refine kn ?_|refine kc rfl ?_))
  · conv=>whnf
    simp only [List.length_map] at h1
    have : i = l.length:=by omega
    subst this
    refine And.intro ?_ ?_
    · conv=>whnf
      refine ⟨⟨?_⟩, trivial⟩
      simp [oneOf, intA, H, idxFrom]
    · repeat (first|exact trivial|refine And.intro rfl ?_|refine And.intro (by skip) ?_)
theorem anyKeptB_c (s : Store) (w : Int) (m : List Amt) (memo : MemoL) (l : List Int) (hm : m.length = 6) (hl : l.length ≤ 1048576) (hR : ∀ x ∈ l, 0 ≤ x∧x < s.heads.length) :
    BoxA Tryz.prog (.fn 46) (envE s w m memo) [intsA l, .func (.func 47) [] [.ptr kT 1 1 0 0]] (boolA (l.any s.keptAt)) (envE s w m memo):=by
  have hi:=ikeptB_c s w m memo l hm hl hR
  obtain ⟨p0, p1, p2, p3, p4, p5, rfl⟩:=list6 hm
  refine boxA_codeB tabOk { l:=0, f:=46, mat:=[82] } mixed call_46 Tryz.func46 (by kernel_rfl) ?_
  conv=>whnf
  refine ⟨[kS, kM, kT], ?_⟩
  conv=>whnf
  refine ⟨_, _, hi, ?_⟩
  conv=>whnf
  refine And.intro ?_ ?_
  · conv=>whnf
    refine ⟨⟨?_⟩, trivial⟩
    rw [← idx_any];rfl
  · repeat (first|exact trivial|refine And.intro rfl ?_|refine And.intro (by skip) ?_)
end Go.Proofs.YtbpiibdcncfphaaGreatDoor
namespace Go.Proofs.YtbpiibdcncfphaaGreatDoor
open Go.Am Go.Proofs Go
def upto (K i : Nat) : List Nat:=(List.range i).filter fun s=>s &&& K == 0
theorem upto_succ (K i : Nat) : upto K (i + 1) = upto K i++(if (i &&& K == 0) = true then [i] else []):=by
  unfold upto
  rw [List.range_succ, List.filter_append]
  congr 1
  simp only [List.filter_cons, List.filter_nil]
theorem upto_cons (K : Nat) : ∀ i, ∃ l, upto K (i + 1) = 0 :: l
  | 0=>⟨[], by simp [upto]⟩
  | i + 1=>by
    obtain ⟨l, hl⟩:=upto_cons K i
    rw [upto_succ, hl]
    exact ⟨_, rfl⟩
theorem upto_len (K i : Nat) : (upto K i).length ≤ i:=by
  unfold upto
  exact Nat.le_trans (List.length_filter_le ..) (by simp)
theorem upto_lt {K i n : Nat} (h : n ∈ upto K i) : n < i∧(n &&& K == 0) = true:=by
  unfold upto at h
  rw [List.mem_filter, List.mem_range] at h
  exact h
def Store.sets (s : Store) : List Nat:=setsOf s.heads.length (maskOf s.heads)
def Store.sorted (s : Store) : List Nat:=insN 0 s.sets.length s.sets
theorem sets_eq (s : Store) : s.sets = upto (maskOf s.heads) (2 ^ s.heads.length):=rfl
theorem sort_all {h K : Nat} (hh : h ≤ 6) (hK : K < 2 ^ h) : sortOk h K = true:=by
  rcases (by omega : h < 4∨h = 4∨h = 5∨h = 6) with h1|rfl|rfl|rfl
  · exact sort_small h h1 K hK
  · exact sort_four K hK
  · exact sort_five K hK
  · exact sort_six K hK
theorem sorted_pdq {s : Store} (h6 : s.heads.length ≤ 6) : pdqN (bitsLen s.sets.length) 70 0 s.sets.length true true s.sets = some s.sorted:=by
  have:=sort_all h6 (maskOf_lt s.heads)
  unfold sortOk at this
  exact of_decide_eq_true this
theorem bits_all {h n : Nat} (hh : h ≤ 6) (hn : n < 2 ^ h) : (∀ x ∈ setL n, 0 ≤ x∧x < (h : Int))∧∀ K, K < 2 ^ h→(setL n).any (fun x=>K.testBit x.toNat) = !(n &&& K == 0):=by
  have:=bits_ok h (by omega)
  unfold bitsOk at this
  rw [List.all_eq_true] at this
  have:=this n (List.mem_range.2 hn)
  rw [Bool.and_eq_true, List.all_eq_true, List.all_eq_true] at this
  refine ⟨fun x hx=>of_decide_eq_true (this.1 x hx), fun K hK=>?_⟩
  have:=this.2 K (List.mem_range.2 hK)
  simpa using this
theorem kept_any {s : Store} {n : Nat} (h6 : s.heads.length ≤ 6) (hn : n < 2 ^ s.heads.length) : (setL n).any s.keptAt = !(n &&& maskOf s.heads == 0):=by
  rw [← (bits_all h6 hn).2 _ (maskOf_lt s.heads)]
  congr 1
  funext x
  rw [maskOf_bit]
  rfl
theorem two_pow_le {h : Nat} (hh : h ≤ 6) : 2 ^ h ≤ 64:=by
  have:=Nat.pow_le_pow_right (n:=2) (by omega) hh
  omega
theorem insF_mem' (a : Nat) : ∀ (k i : Nat) (L : List Nat), ∀ x ∈ insF a k i L, x ∈ L:=by
  have hb : ∀ (j : Nat) (L : List Nat), ∀ x ∈ bubN a j L, x ∈ L:=by
    intro j
    induction j with
    | zero=>intro L x hx;exact hx
    | succ j ih =>
      intro L x hx
      unfold bubN at hx
      split at hx
      · rename_i u v hu hv
        split at hx
        · have:=ih _ x hx
          rcases List.mem_or_eq_of_mem_set this with h|h
          · rcases List.mem_or_eq_of_mem_set h with h|h
            · exact h
            · subst h;exact List.mem_of_getElem? hv
          · subst h;exact List.mem_of_getElem? hu
        · exact hx
      · exact hx
  intro k
  induction k with
  | zero=>intro i L x hx;exact hx
  | succ k ih=>intro i L x hx;exact hb _ _ x (ih _ _ x hx)
theorem sorted_mem {s : Store} {n : Nat} (h : n ∈ s.sorted) : n < 2 ^ s.heads.length∧(n &&& maskOf s.heads == 0) = true:=by
  have:=insF_mem' _ _ _ _ n h
  rw [sets_eq] at this
  exact upto_lt this
theorem sorted_len (s : Store) : s.sorted.length = s.sets.length:=insF_len _ _ _ _
def foldG {α : Type} (go : α→Nat→Bool) (nx : α→Nat→α) : List Nat→α→α × Bool
  | [], a=>(a, false)
  | n :: l, a=>if go a n = true then foldG go nx l (nx a n) else (nx a n, true)
structure Rec where
  g : Nat
  a : Code
  b : Code
  l : List AV
def Rec.box (r : Rec) (kl : Key) (ps : Array Tmp) (done : Bool) : BoxE:=match done with
  | false=>(kl, r.g, 0, [.lp .ready none ps r.a r.b r.l])
  | true=>(kl, r.g, 0, [.lp .done (some .ret) ps r.a r.b r.l])
def ownO (k : Key) : List Nat→AV
  | []=>.slice 0 [] .tight
  | _ :: l=>.own k (l.length + 1) 1 (l.length + 1) 0
def boxO : List Nat→BoxS
  | []=>(0, none)
  | x :: l=>(l.length + 1, some (1, setA x :: l.map setA))
end Go.Proofs.YtbpiibdcncfphaaGreatDoor
