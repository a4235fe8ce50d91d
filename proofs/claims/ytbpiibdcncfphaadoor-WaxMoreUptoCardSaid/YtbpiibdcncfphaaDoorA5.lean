/- Part 5 of the texts that the last one stands on. -/
import Derived.Test.YtbpiibdcncfphaaDoorA4
set_option linter.unusedVariables false
set_option linter.unusedSimpArgs false
namespace Go.Proofs.YtbpiibdcncfphaaDoor
open Go.Am Go.Proofs Go
def pdqN (lim : Nat) : Nat→Nat→Nat→Bool→Bool→List Nat→Option (List Nat)
  | 0, _, _, _, _, _=>none
  | f + 1, a, b, bal, par, L =>
    if b - a ≤ 12 then some (insN a b L)
    else if bal = false then none
    else if (chooseN L a b).2 = 12∨¬(a ≤ (chooseN L a b).1∧(chooseN L a b).1 < b) then none
    else if par = true∧(chooseN L a b).2 = 0∧partialOk L a b = false then none
    else if 0 < a∧ltN (atN L (a - 1)) (atN L (chooseN L a b).1) = false then none
    else match partN L a b (chooseN L a b).1 with
      | none=>none
      | some (mid, M) =>
        if M.length ≠ L.length∨¬(a ≤ mid∧mid < b) then none
        else if mid - a < b - mid then
          match pdqN lim f a mid true true M with
          | none=>none
          | some M2=>if M2.length ≠ L.length then none else pdqN lim f (mid + 1) b (decide ((b - a) / 8 ≤ mid - a)) false M2
        else
          match pdqN lim f (mid + 1) b true true M with
          | none=>none
          | some M2=>if M2.length ≠ L.length then none else pdqN lim f a mid (decide ((b - a) / 8 ≤ b - mid)) false M2
set_option maxHeartbeats 4000000 in
theorem pdq_c (g n lim : Nat) (hl : 0 < lim) (hl2 : lim ≤ 1000) (hn2 : n ≤ 1000) : ∀ F f : Nat, f < F→∀ (a b : Nat) (X R : List Nat), X.length = n→a ≤ b→b ≤ n→pdqN lim f a b true true X = some R →
    BoxA Tryd.prog (.fn 99) [(kA, g, 1, X.map setA)] [.own kA g 1 n 0, intA a, intA b, intA lim, cmpF] (.tuple []) [(kA, g, 1, R.map setA)]:=by
  intro F
  induction F with
  | zero=>intro f hf;omega
  | succ F ih =>
    intro f hf a b X R hX hab hbn hR
    have hcmp:=ordN_c
    refine boxA_codeB tabOk { l:=0, f:=99, mat:=[99, 104, 107, 109, 111] } mixed call_99 Tryd.func99 (by kernel_rfl) ?_
    conv=>whnf
    repeat (any_goals (first|exact falseI|((first|refine bd ?_ ?_|refine bn ?_ ?_)<;>intro _<;>first|(exfalso;omega)|conv=>whnf)|((first|refine dI ?_|refine okI ?_|refine bt ?_|refine bi (fun _=>?_) (fun _=>?_)|refine bndI ?_|intro _)<;>conv=>whnf)))
    refine loopK tabOk { l:=0, f:=99, mat:=[99, 104, 107, 109, 111] } mixed (fun x : Nat × Nat × Nat × Bool × Bool × List Nat=>[(1, intA x.2.1), (2, intA x.2.2.1), (3, intA lim), (10, boolA x.2.2.2.1), (11, boolA x.2.2.2.2.1)]) (fun x=>[(kA, some (g, some (1, x.2.2.2.2.2.map setA)))]) (fun _=>[]) (fun x=>x.1 ≤ f∧(x.2.1 ≤ x.2.2.1∧x.2.2.1 ≤ n)∧x.2.2.2.2.2.length = n∧pdqN lim x.1 x.2.1 x.2.2.1 x.2.2.2.1 x.2.2.2.2.1 x.2.2.2.2.2 = some R) (fun x=>x.1) (f, a, b, true, true, X) (by kernel_rfl)
      ⟨Nat.le_refl _, ⟨hab, hbn⟩, hX, hR⟩ ?_
    conv=>whnf
    refine ⟨⟨?_, ?_, trivial⟩, ?_⟩
    · repeat (first|exact trivial|refine sc rfl ?_)
    · repeat (first|exact trivial|refine kc rfl ?_)
    clear hR hX hab hbn
    intro ⟨f', a, b, bal, par, L⟩ ⟨hff, hab, hL, H⟩
    simp only at hff hab hL H
    cases f' with
    | zero=>simp [pdqN] at H
    | succ f' =>
      have q1 : ((f' + 1, a, b, bal, par, L) : Nat × Nat × Nat × Bool × Bool × List Nat).snd.fst = a:=rfl
      have q2 : ((f' + 1, a, b, bal, par, L) : Nat × Nat × Nat × Bool × Bool × List Nat).snd.snd.fst = b:=rfl
      rw [pdqN] at H
      by_cases h12 : b - a ≤ 12
      · rw [if_pos h12] at H
        have hi:=ins_c g n a b L (by omega) (by omega) hab.1 (by omega)
        generalize insN a b L = R' at *
        simp only [Option.some.injEq] at H
        subst H
        conv=>whnf
        repeat (any_goals (first|exact falseI|((first|refine bd ?_ ?_|refine bn ?_ ?_)<;>intro _<;>first|(exfalso;omega)|conv=>whnf)|((first|refine dI ?_|refine okI ?_|refine bt ?_|refine bi (fun _=>?_) (fun _=>?_)|refine bndI ?_|intro _)<;>conv=>whnf)))
        refine ⟨[kA], ?_⟩
        conv=>whnf
        refine optP_intro (tk_sets _ L) ?_
        conv=>whnf
        refine ⟨_, _, hi, ?_⟩
        conv=>whnf
        refine optP_intro (tk_sets _ R') ?_
        conv=>whnf
        repeat (any_goals (first|exact falseI|((first|refine bd ?_ ?_|refine bn ?_ ?_)<;>intro _<;>first|(exfalso;omega)|conv=>whnf)|((first|refine dI ?_|refine okI ?_|refine bt ?_|refine bi (fun _=>?_) (fun _=>?_)|refine bndI ?_|intro _)<;>conv=>whnf)))
        refine And.intro ?_ ?_
        · conv=>whnf
          refine ⟨⟨?_⟩, trivial⟩
          rfl
        · repeat (first|exact trivial|refine And.intro rfl ?_|refine And.intro (by skip) ?_)
      rw [if_neg h12] at H
      cases bal
      · simp at H
      rw [if_neg (by simp)] at H
      have hch:=choose_c g n L a b (by omega) hab.2 (by omega) hn2
      by_cases hc1 : (chooseN L a b).2 = 12∨¬(a ≤ (chooseN L a b).1∧(chooseN L a b).1 < b)
      · rw [if_pos hc1] at H;simp at H
      rw [if_neg hc1] at H
      by_cases hc2 : par = true∧(chooseN L a b).2 = 0∧partialOk L a b = false
      · rw [if_pos hc2] at H;simp at H
      rw [if_neg hc2] at H
      by_cases hc3 : 0 < a∧ltN (atN L (a - 1)) (atN L (chooseN L a b).1) = false
      · rw [if_pos hc3] at H;simp at H
      rw [if_neg hc3] at H
      have hpa:=partial_c g n L a b (by omega) hab.2 (by omega) hn2
      generalize chooseN L a b = c at *
      obtain ⟨p, s⟩:=c
      simp only at hch hc1 hc2 hc3 H
      have hs12 : s ≠ 12:=fun h=>hc1 (.inl h)
      have hpr : a ≤ p∧p < b:=Classical.byContradiction fun h=>hc1 (.inr h)
      cases hP : partN L a b p with
      | none=>rw [hP] at H;simp at H
      | some r =>
        obtain ⟨mid, M⟩:=r
        rw [hP] at H
        simp only at H
        have hpt:=part_c g n L a b p mid M (by omega) hab.2 (by omega) hpr hn2 hP
        by_cases hm : M.length ≠ L.length∨¬(a ≤ mid∧mid < b)
        · rw [if_pos hm] at H;simp at H
        rw [if_neg hm] at H
        have hml : M.length = L.length:=Classical.byContradiction fun h=>hm (.inl h)
        have hmr : a ≤ mid∧mid < b:=Classical.byContradiction fun h=>hm (.inr h)
        have hd8 : ((b : Int) - a).tdiv 8 = (((b - a) / 8 : Nat) : Int):=by
          rw [show (b : Int) - a = ((b - a : Nat) : Int) by omega, Int.tdiv_eq_ediv_of_nonneg (by omega)]
          rfl
        have hb8 : decide (((b : Int) - a).tdiv 8 ≤ (mid : Int) - a) = decide ((b - a) / 8 ≤ mid - a):=by
          rw [hd8, decide_eq_decide];omega
        have hb9 : decide (((b : Int) - a).tdiv 8 ≤ (b : Int) - mid) = decide ((b - a) / 8 ≤ b - mid):=by
          rw [hd8, decide_eq_decide];omega
        have hbd : 0 ≤ ((b : Int) - a).tdiv 8∧((b : Int) - a).tdiv 8 ≤ 1000:=by rw [hd8];omega
        clear hm hc1 hd8 hP
        by_cases hlr : mid - a < b - mid
        · rw [if_pos hlr] at H
          cases hM2 : pdqN lim f' a mid true true M with
          | none=>rw [hM2] at H;simp at H
          | some M2 =>
            rw [hM2] at H
            simp only at H
            by_cases hm2 : M2.length ≠ L.length
            · rw [if_pos hm2] at H;simp at H
            rw [if_neg hm2] at H
            have hm2' : M2.length = L.length:=Classical.byContradiction hm2
            have hrec:=ih f' (by omega) a mid M M2 (by omega) (by omega) (by omega) hM2
            clear hm2 hM2
            cases par
            · by_cases s0 : s = 0
              · have hh : hintN s = 1:=by simp [hintN, s0]
                rw [hh] at hch
                clear hpa
                by_cases a0 : 0 < a
                · have hlt : ordN (atN L (a - 1)) (atN L p) < 0:=by
                    cases hq : ltN (atN L (a - 1)) (atN L p)
                    · exact absurd ⟨a0, hq⟩ hc3
                    · simpa [ltN] using hq
                  have hx:=at_get (L:=L) (i:=a - 1) (by omega)
                  have hy:=at_get (L:=L) (i:=p) (by omega)
                  have hc:=hcmp (atN L (a - 1)) (atN L p)
                  have ea : (a : Int) - 1 = ((a - 1 : Nat) : Int):=by omega
                  obtain ⟨v, hv0⟩ : ∃ v, v = ordN (atN L (a - 1)) (atN L p):=⟨_, rfl⟩
                  rw [← hv0] at hc hlt
                  conv=>whnf
                  repeat (any_goals (first|exact falseI|((first|refine bd ?_ ?_|refine bn ?_ ?_)<;>intro _<;>first|(exfalso;omega)|conv=>whnf)|((first|refine dI ?_|refine okI ?_|refine bt ?_|refine bi (fun _=>?_) (fun _=>?_)|refine bndI ?_|intro _)<;>conv=>whnf)))
                  refine ⟨[kA], ?_⟩
                  conv=>whnf
                  refine optP_intro (tk_sets _ L) ?_
                  conv=>whnf
                  refine ⟨_, _, hch, ?_⟩
                  conv=>whnf
                  refine optP_intro (tk_sets _ L) ?_
                  conv=>whnf
                  repeat (any_goals (first|exact falseI|((first|refine bd ?_ ?_|refine bn ?_ ?_)<;>intro _<;>first|(exfalso;omega)|conv=>whnf)|((first|refine dI ?_|refine okI ?_|refine bt ?_|refine bi (fun _=>?_) (fun _=>?_)|refine bndI ?_|intro _)<;>conv=>whnf)))
                  repeat (any_goals (first|exact falseI|((first|refine bd ?_ ?_|refine bn ?_ ?_)<;>intro _<;>first|(exfalso;omega)|conv=>whnf)|((first|refine optP_map hx ea ?_|refine optP_map hy rfl ?_|refine callP_a hc ?_|refine dI ?_|refine okI ?_|refine bt ?_|refine bi (fun _=>?_) (fun _=>?_)|refine bndI ?_|intro _)<;>conv=>whnf)))
                  refine ⟨[kA], ?_⟩
                  conv=>whnf
                  refine optP_intro (tk_sets _ L) ?_
                  conv=>whnf
                  refine ⟨_, _, hpt, ?_⟩
                  conv=>whnf
                  refine optP_intro (tk_sets _ M) ?_
                  conv=>whnf
                  repeat (any_goals (first|exact falseI|((first|refine bd ?_ ?_|refine bn ?_ ?_)<;>intro _<;>first|(exfalso;omega)|conv=>whnf)|((first|refine dI ?_|refine okI ?_|refine bt ?_|refine bi (fun _=>?_) (fun _=>?_)|refine bndI ?_|intro _)<;>conv=>whnf)))
                  refine ⟨[kA], ?_⟩
                  conv=>whnf
                  refine optP_intro (tk_sets _ M) ?_
                  conv=>whnf
                  refine ⟨_, _, hrec, ?_⟩
                  conv=>whnf
                  refine optP_intro (tk_sets _ M2) ?_
                  conv=>whnf
                  repeat (any_goals (first|exact falseI|((first|refine bd ?_ ?_|refine bn ?_ ?_)<;>intro _<;>first|(exfalso;omega)|conv=>whnf)|((first|refine dI ?_|refine okI ?_|refine bt ?_|refine bi (fun _=>?_) (fun _=>?_)|refine bndI ?_|intro _)<;>conv=>whnf)))
                  (refine ⟨(f', mid + 1, b, decide ((b - a) / 8 ≤ mid - a), false, M2), ⟨by simp only;omega, by simp only;omega, by simp only;omega, H⟩, (by simp only;omega), ?_⟩;(conv=>whnf);refine ⟨?_, ?_, ?_⟩<;>repeat (first|exact trivial|refine sc rfl ?_|refine kn ?_|refine kc rfl ?_|refine sc (by first|rfl|exact congrArg (fun z : Bool=>some (boolA z)) hb8) ?_|refine kc (by first|rfl|exact congrArg (fun z : Bool=>some (boolA z)) hb8) ?_))
                · clear hc3
                  conv=>whnf
                  repeat (any_goals (first|exact falseI|((first|refine bd ?_ ?_|refine bn ?_ ?_)<;>intro _<;>first|(exfalso;omega)|conv=>whnf)|((first|refine dI ?_|refine okI ?_|refine bt ?_|refine bi (fun _=>?_) (fun _=>?_)|refine bndI ?_|intro _)<;>conv=>whnf)))
                  refine ⟨[kA], ?_⟩
                  conv=>whnf
                  refine optP_intro (tk_sets _ L) ?_
                  conv=>whnf
                  refine ⟨_, _, hch, ?_⟩
                  conv=>whnf
                  refine optP_intro (tk_sets _ L) ?_
                  conv=>whnf
                  repeat (any_goals (first|exact falseI|((first|refine bd ?_ ?_|refine bn ?_ ?_)<;>intro _<;>first|(exfalso;omega)|conv=>whnf)|((first|refine dI ?_|refine okI ?_|refine bt ?_|refine bi (fun _=>?_) (fun _=>?_)|refine bndI ?_|intro _)<;>conv=>whnf)))
                  refine ⟨[kA], ?_⟩
                  conv=>whnf
                  refine optP_intro (tk_sets _ L) ?_
                  conv=>whnf
                  refine ⟨_, _, hpt, ?_⟩
                  conv=>whnf
                  refine optP_intro (tk_sets _ M) ?_
                  conv=>whnf
                  repeat (any_goals (first|exact falseI|((first|refine bd ?_ ?_|refine bn ?_ ?_)<;>intro _<;>first|(exfalso;omega)|conv=>whnf)|((first|refine dI ?_|refine okI ?_|refine bt ?_|refine bi (fun _=>?_) (fun _=>?_)|refine bndI ?_|intro _)<;>conv=>whnf)))
                  refine ⟨[kA], ?_⟩
                  conv=>whnf
                  refine optP_intro (tk_sets _ M) ?_
                  conv=>whnf
                  refine ⟨_, _, hrec, ?_⟩
                  conv=>whnf
                  refine optP_intro (tk_sets _ M2) ?_
                  conv=>whnf
                  repeat (any_goals (first|exact falseI|((first|refine bd ?_ ?_|refine bn ?_ ?_)<;>intro _<;>first|(exfalso;omega)|conv=>whnf)|((first|refine dI ?_|refine okI ?_|refine bt ?_|refine bi (fun _=>?_) (fun _=>?_)|refine bndI ?_|intro _)<;>conv=>whnf)))
                  (refine ⟨(f', mid + 1, b, decide ((b - a) / 8 ≤ mid - a), false, M2), ⟨by simp only;omega, by simp only;omega, by simp only;omega, H⟩, (by simp only;omega), ?_⟩;(conv=>whnf);refine ⟨?_, ?_, ?_⟩<;>repeat (first|exact trivial|refine sc rfl ?_|refine kn ?_|refine kc rfl ?_|refine sc (by first|rfl|exact congrArg (fun z : Bool=>some (boolA z)) hb8) ?_|refine kc (by first|rfl|exact congrArg (fun z : Bool=>some (boolA z)) hb8) ?_))
              · have hh : hintN s = 0:=by simp [hintN, s0, hs12];omega
                rw [hh] at hch
                clear hpa
                by_cases a0 : 0 < a
                · have hlt : ordN (atN L (a - 1)) (atN L p) < 0:=by
                    cases hq : ltN (atN L (a - 1)) (atN L p)
                    · exact absurd ⟨a0, hq⟩ hc3
                    · simpa [ltN] using hq
                  have hx:=at_get (L:=L) (i:=a - 1) (by omega)
                  have hy:=at_get (L:=L) (i:=p) (by omega)
                  have hc:=hcmp (atN L (a - 1)) (atN L p)
                  have ea : (a : Int) - 1 = ((a - 1 : Nat) : Int):=by omega
                  obtain ⟨v, hv0⟩ : ∃ v, v = ordN (atN L (a - 1)) (atN L p):=⟨_, rfl⟩
                  rw [← hv0] at hc hlt
                  conv=>whnf
                  repeat (any_goals (first|exact falseI|((first|refine bd ?_ ?_|refine bn ?_ ?_)<;>intro _<;>first|(exfalso;omega)|conv=>whnf)|((first|refine dI ?_|refine okI ?_|refine bt ?_|refine bi (fun _=>?_) (fun _=>?_)|refine bndI ?_|intro _)<;>conv=>whnf)))
                  refine ⟨[kA], ?_⟩
                  conv=>whnf
                  refine optP_intro (tk_sets _ L) ?_
                  conv=>whnf
                  refine ⟨_, _, hch, ?_⟩
                  conv=>whnf
                  refine optP_intro (tk_sets _ L) ?_
                  conv=>whnf
                  repeat (any_goals (first|exact falseI|((first|refine bd ?_ ?_|refine bn ?_ ?_)<;>intro _<;>first|(exfalso;omega)|conv=>whnf)|((first|refine dI ?_|refine okI ?_|refine bt ?_|refine bi (fun _=>?_) (fun _=>?_)|refine bndI ?_|intro _)<;>conv=>whnf)))
                  repeat (any_goals (first|exact falseI|((first|refine bd ?_ ?_|refine bn ?_ ?_)<;>intro _<;>first|(exfalso;omega)|conv=>whnf)|((first|refine optP_map hx ea ?_|refine optP_map hy rfl ?_|refine callP_a hc ?_|refine dI ?_|refine okI ?_|refine bt ?_|refine bi (fun _=>?_) (fun _=>?_)|refine bndI ?_|intro _)<;>conv=>whnf)))
                  refine ⟨[kA], ?_⟩
                  conv=>whnf
                  refine optP_intro (tk_sets _ L) ?_
                  conv=>whnf
                  refine ⟨_, _, hpt, ?_⟩
                  conv=>whnf
                  refine optP_intro (tk_sets _ M) ?_
                  conv=>whnf
                  repeat (any_goals (first|exact falseI|((first|refine bd ?_ ?_|refine bn ?_ ?_)<;>intro _<;>first|(exfalso;omega)|conv=>whnf)|((first|refine dI ?_|refine okI ?_|refine bt ?_|refine bi (fun _=>?_) (fun _=>?_)|refine bndI ?_|intro _)<;>conv=>whnf)))
                  refine ⟨[kA], ?_⟩
                  conv=>whnf
                  refine optP_intro (tk_sets _ M) ?_
                  conv=>whnf
                  refine ⟨_, _, hrec, ?_⟩
                  conv=>whnf
                  refine optP_intro (tk_sets _ M2) ?_
                  conv=>whnf
                  repeat (any_goals (first|exact falseI|((first|refine bd ?_ ?_|refine bn ?_ ?_)<;>intro _<;>first|(exfalso;omega)|conv=>whnf)|((first|refine dI ?_|refine okI ?_|refine bt ?_|refine bi (fun _=>?_) (fun _=>?_)|refine bndI ?_|intro _)<;>conv=>whnf)))
                  (refine ⟨(f', mid + 1, b, decide ((b - a) / 8 ≤ mid - a), false, M2), ⟨by simp only;omega, by simp only;omega, by simp only;omega, H⟩, (by simp only;omega), ?_⟩;(conv=>whnf);refine ⟨?_, ?_, ?_⟩<;>repeat (first|exact trivial|refine sc rfl ?_|refine kn ?_|refine kc rfl ?_|refine sc (by first|rfl|exact congrArg (fun z : Bool=>some (boolA z)) hb8) ?_|refine kc (by first|rfl|exact congrArg (fun z : Bool=>some (boolA z)) hb8) ?_))
                · clear hc3
                  conv=>whnf
                  repeat (any_goals (first|exact falseI|((first|refine bd ?_ ?_|refine bn ?_ ?_)<;>intro _<;>first|(exfalso;omega)|conv=>whnf)|((first|refine dI ?_|refine okI ?_|refine bt ?_|refine bi (fun _=>?_) (fun _=>?_)|refine bndI ?_|intro _)<;>conv=>whnf)))
                  refine ⟨[kA], ?_⟩
                  conv=>whnf
                  refine optP_intro (tk_sets _ L) ?_
                  conv=>whnf
                  refine ⟨_, _, hch, ?_⟩
                  conv=>whnf
                  refine optP_intro (tk_sets _ L) ?_
                  conv=>whnf
                  repeat (any_goals (first|exact falseI|((first|refine bd ?_ ?_|refine bn ?_ ?_)<;>intro _<;>first|(exfalso;omega)|conv=>whnf)|((first|refine dI ?_|refine okI ?_|refine bt ?_|refine bi (fun _=>?_) (fun _=>?_)|refine bndI ?_|intro _)<;>conv=>whnf)))
                  refine ⟨[kA], ?_⟩
                  conv=>whnf
                  refine optP_intro (tk_sets _ L) ?_
                  conv=>whnf
                  refine ⟨_, _, hpt, ?_⟩
                  conv=>whnf
                  refine optP_intro (tk_sets _ M) ?_
                  conv=>whnf
                  repeat (any_goals (first|exact falseI|((first|refine bd ?_ ?_|refine bn ?_ ?_)<;>intro _<;>first|(exfalso;omega)|conv=>whnf)|((first|refine dI ?_|refine okI ?_|refine bt ?_|refine bi (fun _=>?_) (fun _=>?_)|refine bndI ?_|intro _)<;>conv=>whnf)))
                  refine ⟨[kA], ?_⟩
                  conv=>whnf
                  refine optP_intro (tk_sets _ M) ?_
                  conv=>whnf
                  refine ⟨_, _, hrec, ?_⟩
                  conv=>whnf
                  refine optP_intro (tk_sets _ M2) ?_
                  conv=>whnf
                  repeat (any_goals (first|exact falseI|((first|refine bd ?_ ?_|refine bn ?_ ?_)<;>intro _<;>first|(exfalso;omega)|conv=>whnf)|((first|refine dI ?_|refine okI ?_|refine bt ?_|refine bi (fun _=>?_) (fun _=>?_)|refine bndI ?_|intro _)<;>conv=>whnf)))
                  (refine ⟨(f', mid + 1, b, decide ((b - a) / 8 ≤ mid - a), false, M2), ⟨by simp only;omega, by simp only;omega, by simp only;omega, H⟩, (by simp only;omega), ?_⟩;(conv=>whnf);refine ⟨?_, ?_, ?_⟩<;>repeat (first|exact trivial|refine sc rfl ?_|refine kn ?_|refine kc rfl ?_|refine sc (by first|rfl|exact congrArg (fun z : Bool=>some (boolA z)) hb8) ?_|refine kc (by first|rfl|exact congrArg (fun z : Bool=>some (boolA z)) hb8) ?_))
            · by_cases s0 : s = 0
              · have hh : hintN s = 1:=by simp [hintN, s0]
                rw [hh] at hch
                have hpa':=hpa (by
                  cases hq : partialOk L a b
                  · exact absurd ⟨rfl, s0, hq⟩ hc2
                  · rfl)
                clear hpa
                by_cases a0 : 0 < a
                · have hlt : ordN (atN L (a - 1)) (atN L p) < 0:=by
                    cases hq : ltN (atN L (a - 1)) (atN L p)
                    · exact absurd ⟨a0, hq⟩ hc3
                    · simpa [ltN] using hq
                  have hx:=at_get (L:=L) (i:=a - 1) (by omega)
                  have hy:=at_get (L:=L) (i:=p) (by omega)
                  have hc:=hcmp (atN L (a - 1)) (atN L p)
                  have ea : (a : Int) - 1 = ((a - 1 : Nat) : Int):=by omega
                  obtain ⟨v, hv0⟩ : ∃ v, v = ordN (atN L (a - 1)) (atN L p):=⟨_, rfl⟩
                  rw [← hv0] at hc hlt
                  conv=>whnf
                  repeat (any_goals (first|exact falseI|((first|refine bd ?_ ?_|refine bn ?_ ?_)<;>intro _<;>first|(exfalso;omega)|conv=>whnf)|((first|refine dI ?_|refine okI ?_|refine bt ?_|refine bi (fun _=>?_) (fun _=>?_)|refine bndI ?_|intro _)<;>conv=>whnf)))
                  refine ⟨[kA], ?_⟩
                  conv=>whnf
                  refine optP_intro (tk_sets _ L) ?_
                  conv=>whnf
                  refine ⟨_, _, hch, ?_⟩
                  conv=>whnf
                  refine optP_intro (tk_sets _ L) ?_
                  conv=>whnf
                  repeat (any_goals (first|exact falseI|((first|refine bd ?_ ?_|refine bn ?_ ?_)<;>intro _<;>first|(exfalso;omega)|conv=>whnf)|((first|refine dI ?_|refine okI ?_|refine bt ?_|refine bi (fun _=>?_) (fun _=>?_)|refine bndI ?_|intro _)<;>conv=>whnf)))
                  refine ⟨[kA], ?_⟩
                  conv=>whnf
                  refine optP_intro (tk_sets _ L) ?_
                  conv=>whnf
                  refine ⟨_, _, hpa', ?_⟩
                  conv=>whnf
                  refine optP_intro (tk_sets _ L) ?_
                  conv=>whnf
                  repeat (any_goals (first|exact falseI|((first|refine bd ?_ ?_|refine bn ?_ ?_)<;>intro _<;>first|(exfalso;omega)|conv=>whnf)|((first|refine dI ?_|refine okI ?_|refine bt ?_|refine bi (fun _=>?_) (fun _=>?_)|refine bndI ?_|intro _)<;>conv=>whnf)))
                  repeat (any_goals (first|exact falseI|((first|refine bd ?_ ?_|refine bn ?_ ?_)<;>intro _<;>first|(exfalso;omega)|conv=>whnf)|((first|refine optP_map hx ea ?_|refine optP_map hy rfl ?_|refine callP_a hc ?_|refine dI ?_|refine okI ?_|refine bt ?_|refine bi (fun _=>?_) (fun _=>?_)|refine bndI ?_|intro _)<;>conv=>whnf)))
                  refine ⟨[kA], ?_⟩
                  conv=>whnf
                  refine optP_intro (tk_sets _ L) ?_
                  conv=>whnf
                  refine ⟨_, _, hpt, ?_⟩
                  conv=>whnf
                  refine optP_intro (tk_sets _ M) ?_
                  conv=>whnf
                  repeat (any_goals (first|exact falseI|((first|refine bd ?_ ?_|refine bn ?_ ?_)<;>intro _<;>first|(exfalso;omega)|conv=>whnf)|((first|refine dI ?_|refine okI ?_|refine bt ?_|refine bi (fun _=>?_) (fun _=>?_)|refine bndI ?_|intro _)<;>conv=>whnf)))
                  refine ⟨[kA], ?_⟩
                  conv=>whnf
                  refine optP_intro (tk_sets _ M) ?_
                  conv=>whnf
                  refine ⟨_, _, hrec, ?_⟩
                  conv=>whnf
                  refine optP_intro (tk_sets _ M2) ?_
                  conv=>whnf
                  repeat (any_goals (first|exact falseI|((first|refine bd ?_ ?_|refine bn ?_ ?_)<;>intro _<;>first|(exfalso;omega)|conv=>whnf)|((first|refine dI ?_|refine okI ?_|refine bt ?_|refine bi (fun _=>?_) (fun _=>?_)|refine bndI ?_|intro _)<;>conv=>whnf)))
                  (refine ⟨(f', mid + 1, b, decide ((b - a) / 8 ≤ mid - a), false, M2), ⟨by simp only;omega, by simp only;omega, by simp only;omega, H⟩, (by simp only;omega), ?_⟩;(conv=>whnf);refine ⟨?_, ?_, ?_⟩<;>repeat (first|exact trivial|refine sc rfl ?_|refine kn ?_|refine kc rfl ?_|refine sc (by first|rfl|exact congrArg (fun z : Bool=>some (boolA z)) hb8) ?_|refine kc (by first|rfl|exact congrArg (fun z : Bool=>some (boolA z)) hb8) ?_))
                · clear hc3
                  conv=>whnf
                  repeat (any_goals (first|exact falseI|((first|refine bd ?_ ?_|refine bn ?_ ?_)<;>intro _<;>first|(exfalso;omega)|conv=>whnf)|((first|refine dI ?_|refine okI ?_|refine bt ?_|refine bi (fun _=>?_) (fun _=>?_)|refine bndI ?_|intro _)<;>conv=>whnf)))
                  refine ⟨[kA], ?_⟩
                  conv=>whnf
                  refine optP_intro (tk_sets _ L) ?_
                  conv=>whnf
                  refine ⟨_, _, hch, ?_⟩
                  conv=>whnf
                  refine optP_intro (tk_sets _ L) ?_
                  conv=>whnf
                  repeat (any_goals (first|exact falseI|((first|refine bd ?_ ?_|refine bn ?_ ?_)<;>intro _<;>first|(exfalso;omega)|conv=>whnf)|((first|refine dI ?_|refine okI ?_|refine bt ?_|refine bi (fun _=>?_) (fun _=>?_)|refine bndI ?_|intro _)<;>conv=>whnf)))
                  refine ⟨[kA], ?_⟩
                  conv=>whnf
                  refine optP_intro (tk_sets _ L) ?_
                  conv=>whnf
                  refine ⟨_, _, hpa', ?_⟩
                  conv=>whnf
                  refine optP_intro (tk_sets _ L) ?_
                  conv=>whnf
                  repeat (any_goals (first|exact falseI|((first|refine bd ?_ ?_|refine bn ?_ ?_)<;>intro _<;>first|(exfalso;omega)|conv=>whnf)|((first|refine dI ?_|refine okI ?_|refine bt ?_|refine bi (fun _=>?_) (fun _=>?_)|refine bndI ?_|intro _)<;>conv=>whnf)))
                  refine ⟨[kA], ?_⟩
                  conv=>whnf
                  refine optP_intro (tk_sets _ L) ?_
                  conv=>whnf
                  refine ⟨_, _, hpt, ?_⟩
                  conv=>whnf
                  refine optP_intro (tk_sets _ M) ?_
                  conv=>whnf
                  repeat (any_goals (first|exact falseI|((first|refine bd ?_ ?_|refine bn ?_ ?_)<;>intro _<;>first|(exfalso;omega)|conv=>whnf)|((first|refine dI ?_|refine okI ?_|refine bt ?_|refine bi (fun _=>?_) (fun _=>?_)|refine bndI ?_|intro _)<;>conv=>whnf)))
                  refine ⟨[kA], ?_⟩
                  conv=>whnf
                  refine optP_intro (tk_sets _ M) ?_
                  conv=>whnf
                  refine ⟨_, _, hrec, ?_⟩
                  conv=>whnf
                  refine optP_intro (tk_sets _ M2) ?_
                  conv=>whnf
                  repeat (any_goals (first|exact falseI|((first|refine bd ?_ ?_|refine bn ?_ ?_)<;>intro _<;>first|(exfalso;omega)|conv=>whnf)|((first|refine dI ?_|refine okI ?_|refine bt ?_|refine bi (fun _=>?_) (fun _=>?_)|refine bndI ?_|intro _)<;>conv=>whnf)))
                  (refine ⟨(f', mid + 1, b, decide ((b - a) / 8 ≤ mid - a), false, M2), ⟨by simp only;omega, by simp only;omega, by simp only;omega, H⟩, (by simp only;omega), ?_⟩;(conv=>whnf);refine ⟨?_, ?_, ?_⟩<;>repeat (first|exact trivial|refine sc rfl ?_|refine kn ?_|refine kc rfl ?_|refine sc (by first|rfl|exact congrArg (fun z : Bool=>some (boolA z)) hb8) ?_|refine kc (by first|rfl|exact congrArg (fun z : Bool=>some (boolA z)) hb8) ?_))
              · have hh : hintN s = 0:=by simp [hintN, s0, hs12];omega
                rw [hh] at hch
                clear hpa
                by_cases a0 : 0 < a
                · have hlt : ordN (atN L (a - 1)) (atN L p) < 0:=by
                    cases hq : ltN (atN L (a - 1)) (atN L p)
                    · exact absurd ⟨a0, hq⟩ hc3
                    · simpa [ltN] using hq
                  have hx:=at_get (L:=L) (i:=a - 1) (by omega)
                  have hy:=at_get (L:=L) (i:=p) (by omega)
                  have hc:=hcmp (atN L (a - 1)) (atN L p)
                  have ea : (a : Int) - 1 = ((a - 1 : Nat) : Int):=by omega
                  obtain ⟨v, hv0⟩ : ∃ v, v = ordN (atN L (a - 1)) (atN L p):=⟨_, rfl⟩
                  rw [← hv0] at hc hlt
                  conv=>whnf
                  repeat (any_goals (first|exact falseI|((first|refine bd ?_ ?_|refine bn ?_ ?_)<;>intro _<;>first|(exfalso;omega)|conv=>whnf)|((first|refine dI ?_|refine okI ?_|refine bt ?_|refine bi (fun _=>?_) (fun _=>?_)|refine bndI ?_|intro _)<;>conv=>whnf)))
                  refine ⟨[kA], ?_⟩
                  conv=>whnf
                  refine optP_intro (tk_sets _ L) ?_
                  conv=>whnf
                  refine ⟨_, _, hch, ?_⟩
                  conv=>whnf
                  refine optP_intro (tk_sets _ L) ?_
                  conv=>whnf
                  repeat (any_goals (first|exact falseI|((first|refine bd ?_ ?_|refine bn ?_ ?_)<;>intro _<;>first|(exfalso;omega)|conv=>whnf)|((first|refine dI ?_|refine okI ?_|refine bt ?_|refine bi (fun _=>?_) (fun _=>?_)|refine bndI ?_|intro _)<;>conv=>whnf)))
                  repeat (any_goals (first|exact falseI|((first|refine bd ?_ ?_|refine bn ?_ ?_)<;>intro _<;>first|(exfalso;omega)|conv=>whnf)|((first|refine optP_map hx ea ?_|refine optP_map hy rfl ?_|refine callP_a hc ?_|refine dI ?_|refine okI ?_|refine bt ?_|refine bi (fun _=>?_) (fun _=>?_)|refine bndI ?_|intro _)<;>conv=>whnf)))
                  refine ⟨[kA], ?_⟩
                  conv=>whnf
                  refine optP_intro (tk_sets _ L) ?_
                  conv=>whnf
                  refine ⟨_, _, hpt, ?_⟩
                  conv=>whnf
                  refine optP_intro (tk_sets _ M) ?_
                  conv=>whnf
                  repeat (any_goals (first|exact falseI|((first|refine bd ?_ ?_|refine bn ?_ ?_)<;>intro _<;>first|(exfalso;omega)|conv=>whnf)|((first|refine dI ?_|refine okI ?_|refine bt ?_|refine bi (fun _=>?_) (fun _=>?_)|refine bndI ?_|intro _)<;>conv=>whnf)))
                  refine ⟨[kA], ?_⟩
                  conv=>whnf
                  refine optP_intro (tk_sets _ M) ?_
                  conv=>whnf
                  refine ⟨_, _, hrec, ?_⟩
                  conv=>whnf
                  refine optP_intro (tk_sets _ M2) ?_
                  conv=>whnf
                  repeat (any_goals (first|exact falseI|((first|refine bd ?_ ?_|refine bn ?_ ?_)<;>intro _<;>first|(exfalso;omega)|conv=>whnf)|((first|refine dI ?_|refine okI ?_|refine bt ?_|refine bi (fun _=>?_) (fun _=>?_)|refine bndI ?_|intro _)<;>conv=>whnf)))
                  (refine ⟨(f', mid + 1, b, decide ((b - a) / 8 ≤ mid - a), false, M2), ⟨by simp only;omega, by simp only;omega, by simp only;omega, H⟩, (by simp only;omega), ?_⟩;(conv=>whnf);refine ⟨?_, ?_, ?_⟩<;>repeat (first|exact trivial|refine sc rfl ?_|refine kn ?_|refine kc rfl ?_|refine sc (by first|rfl|exact congrArg (fun z : Bool=>some (boolA z)) hb8) ?_|refine kc (by first|rfl|exact congrArg (fun z : Bool=>some (boolA z)) hb8) ?_))
                · clear hc3
                  conv=>whnf
                  repeat (any_goals (first|exact falseI|((first|refine bd ?_ ?_|refine bn ?_ ?_)<;>intro _<;>first|(exfalso;omega)|conv=>whnf)|((first|refine dI ?_|refine okI ?_|refine bt ?_|refine bi (fun _=>?_) (fun _=>?_)|refine bndI ?_|intro _)<;>conv=>whnf)))
                  refine ⟨[kA], ?_⟩
                  conv=>whnf
                  refine optP_intro (tk_sets _ L) ?_
                  conv=>whnf
                  refine ⟨_, _, hch, ?_⟩
                  conv=>whnf
                  refine optP_intro (tk_sets _ L) ?_
                  conv=>whnf
                  repeat (any_goals (first|exact falseI|((first|refine bd ?_ ?_|refine bn ?_ ?_)<;>intro _<;>first|(exfalso;omega)|conv=>whnf)|((first|refine dI ?_|refine okI ?_|refine bt ?_|refine bi (fun _=>?_) (fun _=>?_)|refine bndI ?_|intro _)<;>conv=>whnf)))
                  refine ⟨[kA], ?_⟩
                  conv=>whnf
                  refine optP_intro (tk_sets _ L) ?_
                  conv=>whnf
                  refine ⟨_, _, hpt, ?_⟩
                  conv=>whnf
                  refine optP_intro (tk_sets _ M) ?_
                  conv=>whnf
                  repeat (any_goals (first|exact falseI|((first|refine bd ?_ ?_|refine bn ?_ ?_)<;>intro _<;>first|(exfalso;omega)|conv=>whnf)|((first|refine dI ?_|refine okI ?_|refine bt ?_|refine bi (fun _=>?_) (fun _=>?_)|refine bndI ?_|intro _)<;>conv=>whnf)))
                  refine ⟨[kA], ?_⟩
                  conv=>whnf
                  refine optP_intro (tk_sets _ M) ?_
                  conv=>whnf
                  refine ⟨_, _, hrec, ?_⟩
                  conv=>whnf
                  refine optP_intro (tk_sets _ M2) ?_
                  conv=>whnf
                  repeat (any_goals (first|exact falseI|((first|refine bd ?_ ?_|refine bn ?_ ?_)<;>intro _<;>first|(exfalso;omega)|conv=>whnf)|((first|refine dI ?_|refine okI ?_|refine bt ?_|refine bi (fun _=>?_) (fun _=>?_)|refine bndI ?_|intro _)<;>conv=>whnf)))
                  (refine ⟨(f', mid + 1, b, decide ((b - a) / 8 ≤ mid - a), false, M2), ⟨by simp only;omega, by simp only;omega, by simp only;omega, H⟩, (by simp only;omega), ?_⟩;(conv=>whnf);refine ⟨?_, ?_, ?_⟩<;>repeat (first|exact trivial|refine sc rfl ?_|refine kn ?_|refine kc rfl ?_|refine sc (by first|rfl|exact congrArg (fun z : Bool=>some (boolA z)) hb8) ?_|refine kc (by first|rfl|exact congrArg (fun z : Bool=>some (boolA z)) hb8) ?_))
        · rw [if_neg hlr] at H
          cases hM2 : pdqN lim f' (mid + 1) b true true M with
          | none=>rw [hM2] at H;simp at H
          | some M2 =>
            rw [hM2] at H
            simp only at H
            by_cases hm2 : M2.length ≠ L.length
            · rw [if_pos hm2] at H;simp at H
            rw [if_neg hm2] at H
            have hm2' : M2.length = L.length:=Classical.byContradiction hm2
            have hrec:=ih f' (by omega) (mid + 1) b M M2 (by omega) (by omega) (by omega) hM2
            rw [show ((mid + 1 : Nat) : Int) = (mid : Int) + 1 by omega] at hrec
            clear hm2 hM2
            cases par
            · by_cases s0 : s = 0
              · have hh : hintN s = 1:=by simp [hintN, s0]
                rw [hh] at hch
                clear hpa
                by_cases a0 : 0 < a
                · have hlt : ordN (atN L (a - 1)) (atN L p) < 0:=by
                    cases hq : ltN (atN L (a - 1)) (atN L p)
                    · exact absurd ⟨a0, hq⟩ hc3
                    · simpa [ltN] using hq
                  have hx:=at_get (L:=L) (i:=a - 1) (by omega)
                  have hy:=at_get (L:=L) (i:=p) (by omega)
                  have hc:=hcmp (atN L (a - 1)) (atN L p)
                  have ea : (a : Int) - 1 = ((a - 1 : Nat) : Int):=by omega
                  obtain ⟨v, hv0⟩ : ∃ v, v = ordN (atN L (a - 1)) (atN L p):=⟨_, rfl⟩
                  rw [← hv0] at hc hlt
                  conv=>whnf
                  repeat (any_goals (first|exact falseI|((first|refine bd ?_ ?_|refine bn ?_ ?_)<;>intro _<;>first|(exfalso;omega)|conv=>whnf)|((first|refine dI ?_|refine okI ?_|refine bt ?_|refine bi (fun _=>?_) (fun _=>?_)|refine bndI ?_|intro _)<;>conv=>whnf)))
                  refine ⟨[kA], ?_⟩
                  conv=>whnf
                  refine optP_intro (tk_sets _ L) ?_
                  conv=>whnf
                  refine ⟨_, _, hch, ?_⟩
                  conv=>whnf
                  refine optP_intro (tk_sets _ L) ?_
                  conv=>whnf
                  repeat (any_goals (first|exact falseI|((first|refine bd ?_ ?_|refine bn ?_ ?_)<;>intro _<;>first|(exfalso;omega)|conv=>whnf)|((first|refine dI ?_|refine okI ?_|refine bt ?_|refine bi (fun _=>?_) (fun _=>?_)|refine bndI ?_|intro _)<;>conv=>whnf)))
                  repeat (any_goals (first|exact falseI|((first|refine bd ?_ ?_|refine bn ?_ ?_)<;>intro _<;>first|(exfalso;omega)|conv=>whnf)|((first|refine optP_map hx ea ?_|refine optP_map hy rfl ?_|refine callP_a hc ?_|refine dI ?_|refine okI ?_|refine bt ?_|refine bi (fun _=>?_) (fun _=>?_)|refine bndI ?_|intro _)<;>conv=>whnf)))
                  refine ⟨[kA], ?_⟩
                  conv=>whnf
                  refine optP_intro (tk_sets _ L) ?_
                  conv=>whnf
                  refine ⟨_, _, hpt, ?_⟩
                  conv=>whnf
                  refine optP_intro (tk_sets _ M) ?_
                  conv=>whnf
                  repeat (any_goals (first|exact falseI|((first|refine bd ?_ ?_|refine bn ?_ ?_)<;>intro _<;>first|(exfalso;omega)|conv=>whnf)|((first|refine dI ?_|refine okI ?_|refine bt ?_|refine bi (fun _=>?_) (fun _=>?_)|refine bndI ?_|intro _)<;>conv=>whnf)))
                  refine ⟨[kA], ?_⟩
                  conv=>whnf
                  refine optP_intro (tk_sets _ M) ?_
                  conv=>whnf
                  refine ⟨_, _, hrec, ?_⟩
                  conv=>whnf
                  refine optP_intro (tk_sets _ M2) ?_
                  conv=>whnf
                  repeat (any_goals (first|exact falseI|((first|refine bd ?_ ?_|refine bn ?_ ?_)<;>intro _<;>first|(exfalso;omega)|conv=>whnf)|((first|refine dI ?_|refine okI ?_|refine bt ?_|refine bi (fun _=>?_) (fun _=>?_)|refine bndI ?_|intro _)<;>conv=>whnf)))
                  (refine ⟨(f', a, mid, decide ((b - a) / 8 ≤ b - mid), false, M2), ⟨by simp only;omega, by simp only;omega, by simp only;omega, H⟩, (by simp only;omega), ?_⟩;(conv=>whnf);refine ⟨?_, ?_, ?_⟩<;>repeat (first|exact trivial|refine sc rfl ?_|refine kn ?_|refine kc rfl ?_|refine sc (by first|rfl|exact congrArg (fun z : Bool=>some (boolA z)) hb9) ?_|refine kc (by first|rfl|exact congrArg (fun z : Bool=>some (boolA z)) hb9) ?_))
                · clear hc3
                  conv=>whnf
                  repeat (any_goals (first|exact falseI|((first|refine bd ?_ ?_|refine bn ?_ ?_)<;>intro _<;>first|(exfalso;omega)|conv=>whnf)|((first|refine dI ?_|refine okI ?_|refine bt ?_|refine bi (fun _=>?_) (fun _=>?_)|refine bndI ?_|intro _)<;>conv=>whnf)))
                  refine ⟨[kA], ?_⟩
                  conv=>whnf
                  refine optP_intro (tk_sets _ L) ?_
                  conv=>whnf
                  refine ⟨_, _, hch, ?_⟩
                  conv=>whnf
                  refine optP_intro (tk_sets _ L) ?_
                  conv=>whnf
                  repeat (any_goals (first|exact falseI|((first|refine bd ?_ ?_|refine bn ?_ ?_)<;>intro _<;>first|(exfalso;omega)|conv=>whnf)|((first|refine dI ?_|refine okI ?_|refine bt ?_|refine bi (fun _=>?_) (fun _=>?_)|refine bndI ?_|intro _)<;>conv=>whnf)))
                  refine ⟨[kA], ?_⟩
                  conv=>whnf
                  refine optP_intro (tk_sets _ L) ?_
                  conv=>whnf
                  refine ⟨_, _, hpt, ?_⟩
                  conv=>whnf
                  refine optP_intro (tk_sets _ M) ?_
                  conv=>whnf
                  repeat (any_goals (first|exact falseI|((first|refine bd ?_ ?_|refine bn ?_ ?_)<;>intro _<;>first|(exfalso;omega)|conv=>whnf)|((first|refine dI ?_|refine okI ?_|refine bt ?_|refine bi (fun _=>?_) (fun _=>?_)|refine bndI ?_|intro _)<;>conv=>whnf)))
                  refine ⟨[kA], ?_⟩
                  conv=>whnf
                  refine optP_intro (tk_sets _ M) ?_
                  conv=>whnf
                  refine ⟨_, _, hrec, ?_⟩
                  conv=>whnf
                  refine optP_intro (tk_sets _ M2) ?_
                  conv=>whnf
                  repeat (any_goals (first|exact falseI|((first|refine bd ?_ ?_|refine bn ?_ ?_)<;>intro _<;>first|(exfalso;omega)|conv=>whnf)|((first|refine dI ?_|refine okI ?_|refine bt ?_|refine bi (fun _=>?_) (fun _=>?_)|refine bndI ?_|intro _)<;>conv=>whnf)))
                  (refine ⟨(f', a, mid, decide ((b - a) / 8 ≤ b - mid), false, M2), ⟨by simp only;omega, by simp only;omega, by simp only;omega, H⟩, (by simp only;omega), ?_⟩;(conv=>whnf);refine ⟨?_, ?_, ?_⟩<;>repeat (first|exact trivial|refine sc rfl ?_|refine kn ?_|refine kc rfl ?_|refine sc (by first|rfl|exact congrArg (fun z : Bool=>some (boolA z)) hb9) ?_|refine kc (by first|rfl|exact congrArg (fun z : Bool=>some (boolA z)) hb9) ?_))
              · have hh : hintN s = 0:=by simp [hintN, s0, hs12];omega
                rw [hh] at hch
                clear hpa
                by_cases a0 : 0 < a
                · have hlt : ordN (atN L (a - 1)) (atN L p) < 0:=by
                    cases hq : ltN (atN L (a - 1)) (atN L p)
                    · exact absurd ⟨a0, hq⟩ hc3
                    · simpa [ltN] using hq
                  have hx:=at_get (L:=L) (i:=a - 1) (by omega)
                  have hy:=at_get (L:=L) (i:=p) (by omega)
                  have hc:=hcmp (atN L (a - 1)) (atN L p)
                  have ea : (a : Int) - 1 = ((a - 1 : Nat) : Int):=by omega
                  obtain ⟨v, hv0⟩ : ∃ v, v = ordN (atN L (a - 1)) (atN L p):=⟨_, rfl⟩
                  rw [← hv0] at hc hlt
                  conv=>whnf
                  repeat (any_goals (first|exact falseI|((first|refine bd ?_ ?_|refine bn ?_ ?_)<;>intro _<;>first|(exfalso;omega)|conv=>whnf)|((first|refine dI ?_|refine okI ?_|refine bt ?_|refine bi (fun _=>?_) (fun _=>?_)|refine bndI ?_|intro _)<;>conv=>whnf)))
                  refine ⟨[kA], ?_⟩
                  conv=>whnf
                  refine optP_intro (tk_sets _ L) ?_
                  conv=>whnf
                  refine ⟨_, _, hch, ?_⟩
                  conv=>whnf
                  refine optP_intro (tk_sets _ L) ?_
                  conv=>whnf
                  repeat (any_goals (first|exact falseI|((first|refine bd ?_ ?_|refine bn ?_ ?_)<;>intro _<;>first|(exfalso;omega)|conv=>whnf)|((first|refine dI ?_|refine okI ?_|refine bt ?_|refine bi (fun _=>?_) (fun _=>?_)|refine bndI ?_|intro _)<;>conv=>whnf)))
                  repeat (any_goals (first|exact falseI|((first|refine bd ?_ ?_|refine bn ?_ ?_)<;>intro _<;>first|(exfalso;omega)|conv=>whnf)|((first|refine optP_map hx ea ?_|refine optP_map hy rfl ?_|refine callP_a hc ?_|refine dI ?_|refine okI ?_|refine bt ?_|refine bi (fun _=>?_) (fun _=>?_)|refine bndI ?_|intro _)<;>conv=>whnf)))
                  refine ⟨[kA], ?_⟩
                  conv=>whnf
                  refine optP_intro (tk_sets _ L) ?_
                  conv=>whnf
                  refine ⟨_, _, hpt, ?_⟩
                  conv=>whnf
                  refine optP_intro (tk_sets _ M) ?_
                  conv=>whnf
                  repeat (any_goals (first|exact falseI|((first|refine bd ?_ ?_|refine bn ?_ ?_)<;>intro _<;>first|(exfalso;omega)|conv=>whnf)|((first|refine dI ?_|refine okI ?_|refine bt ?_|refine bi (fun _=>?_) (fun _=>?_)|refine bndI ?_|intro _)<;>conv=>whnf)))
                  refine ⟨[kA], ?_⟩
                  conv=>whnf
                  refine optP_intro (tk_sets _ M) ?_
                  conv=>whnf
                  refine ⟨_, _, hrec, ?_⟩
                  conv=>whnf
                  refine optP_intro (tk_sets _ M2) ?_
                  conv=>whnf
                  repeat (any_goals (first|exact falseI|((first|refine bd ?_ ?_|refine bn ?_ ?_)<;>intro _<;>first|(exfalso;omega)|conv=>whnf)|((first|refine dI ?_|refine okI ?_|refine bt ?_|refine bi (fun _=>?_) (fun _=>?_)|refine bndI ?_|intro _)<;>conv=>whnf)))
                  (refine ⟨(f', a, mid, decide ((b - a) / 8 ≤ b - mid), false, M2), ⟨by simp only;omega, by simp only;omega, by simp only;omega, H⟩, (by simp only;omega), ?_⟩;(conv=>whnf);refine ⟨?_, ?_, ?_⟩<;>repeat (first|exact trivial|refine sc rfl ?_|refine kn ?_|refine kc rfl ?_|refine sc (by first|rfl|exact congrArg (fun z : Bool=>some (boolA z)) hb9) ?_|refine kc (by first|rfl|exact congrArg (fun z : Bool=>some (boolA z)) hb9) ?_))
                · clear hc3
                  conv=>whnf
                  repeat (any_goals (first|exact falseI|((first|refine bd ?_ ?_|refine bn ?_ ?_)<;>intro _<;>first|(exfalso;omega)|conv=>whnf)|((first|refine dI ?_|refine okI ?_|refine bt ?_|refine bi (fun _=>?_) (fun _=>?_)|refine bndI ?_|intro _)<;>conv=>whnf)))
                  refine ⟨[kA], ?_⟩
                  conv=>whnf
                  refine optP_intro (tk_sets _ L) ?_
                  conv=>whnf
                  refine ⟨_, _, hch, ?_⟩
                  conv=>whnf
                  refine optP_intro (tk_sets _ L) ?_
                  conv=>whnf
                  repeat (any_goals (first|exact falseI|((first|refine bd ?_ ?_|refine bn ?_ ?_)<;>intro _<;>first|(exfalso;omega)|conv=>whnf)|((first|refine dI ?_|refine okI ?_|refine bt ?_|refine bi (fun _=>?_) (fun _=>?_)|refine bndI ?_|intro _)<;>conv=>whnf)))
                  refine ⟨[kA], ?_⟩
                  conv=>whnf
                  refine optP_intro (tk_sets _ L) ?_
                  conv=>whnf
                  refine ⟨_, _, hpt, ?_⟩
                  conv=>whnf
                  refine optP_intro (tk_sets _ M) ?_
                  conv=>whnf
                  repeat (any_goals (first|exact falseI|((first|refine bd ?_ ?_|refine bn ?_ ?_)<;>intro _<;>first|(exfalso;omega)|conv=>whnf)|((first|refine dI ?_|refine okI ?_|refine bt ?_|refine bi (fun _=>?_) (fun _=>?_)|refine bndI ?_|intro _)<;>conv=>whnf)))
                  refine ⟨[kA], ?_⟩
                  conv=>whnf
                  refine optP_intro (tk_sets _ M) ?_
                  conv=>whnf
                  refine ⟨_, _, hrec, ?_⟩
                  conv=>whnf
                  refine optP_intro (tk_sets _ M2) ?_
                  conv=>whnf
                  repeat (any_goals (first|exact falseI|((first|refine bd ?_ ?_|refine bn ?_ ?_)<;>intro _<;>first|(exfalso;omega)|conv=>whnf)|((first|refine dI ?_|refine okI ?_|refine bt ?_|refine bi (fun _=>?_) (fun _=>?_)|refine bndI ?_|intro _)<;>conv=>whnf)))
                  (refine ⟨(f', a, mid, decide ((b - a) / 8 ≤ b - mid), false, M2), ⟨by simp only;omega, by simp only;omega, by simp only;omega, H⟩, (by simp only;omega), ?_⟩;(conv=>whnf);refine ⟨?_, ?_, ?_⟩<;>repeat (first|exact trivial|refine sc rfl ?_|refine kn ?_|refine kc rfl ?_|refine sc (by first|rfl|exact congrArg (fun z : Bool=>some (boolA z)) hb9) ?_|refine kc (by first|rfl|exact congrArg (fun z : Bool=>some (boolA z)) hb9) ?_))
            · by_cases s0 : s = 0
              · have hh : hintN s = 1:=by simp [hintN, s0]
                rw [hh] at hch
                have hpa':=hpa (by
                  cases hq : partialOk L a b
                  · exact absurd ⟨rfl, s0, hq⟩ hc2
                  · rfl)
                clear hpa
                by_cases a0 : 0 < a
                · have hlt : ordN (atN L (a - 1)) (atN L p) < 0:=by
                    cases hq : ltN (atN L (a - 1)) (atN L p)
                    · exact absurd ⟨a0, hq⟩ hc3
                    · simpa [ltN] using hq
                  have hx:=at_get (L:=L) (i:=a - 1) (by omega)
                  have hy:=at_get (L:=L) (i:=p) (by omega)
                  have hc:=hcmp (atN L (a - 1)) (atN L p)
                  have ea : (a : Int) - 1 = ((a - 1 : Nat) : Int):=by omega
                  obtain ⟨v, hv0⟩ : ∃ v, v = ordN (atN L (a - 1)) (atN L p):=⟨_, rfl⟩
                  rw [← hv0] at hc hlt
                  conv=>whnf
                  repeat (any_goals (first|exact falseI|((first|refine bd ?_ ?_|refine bn ?_ ?_)<;>intro _<;>first|(exfalso;omega)|conv=>whnf)|((first|refine dI ?_|refine okI ?_|refine bt ?_|refine bi (fun _=>?_) (fun _=>?_)|refine bndI ?_|intro _)<;>conv=>whnf)))
                  refine ⟨[kA], ?_⟩
                  conv=>whnf
                  refine optP_intro (tk_sets _ L) ?_
                  conv=>whnf
                  refine ⟨_, _, hch, ?_⟩
                  conv=>whnf
                  refine optP_intro (tk_sets _ L) ?_
                  conv=>whnf
                  repeat (any_goals (first|exact falseI|((first|refine bd ?_ ?_|refine bn ?_ ?_)<;>intro _<;>first|(exfalso;omega)|conv=>whnf)|((first|refine dI ?_|refine okI ?_|refine bt ?_|refine bi (fun _=>?_) (fun _=>?_)|refine bndI ?_|intro _)<;>conv=>whnf)))
                  refine ⟨[kA], ?_⟩
                  conv=>whnf
                  refine optP_intro (tk_sets _ L) ?_
                  conv=>whnf
                  refine ⟨_, _, hpa', ?_⟩
                  conv=>whnf
                  refine optP_intro (tk_sets _ L) ?_
                  conv=>whnf
                  repeat (any_goals (first|exact falseI|((first|refine bd ?_ ?_|refine bn ?_ ?_)<;>intro _<;>first|(exfalso;omega)|conv=>whnf)|((first|refine dI ?_|refine okI ?_|refine bt ?_|refine bi (fun _=>?_) (fun _=>?_)|refine bndI ?_|intro _)<;>conv=>whnf)))
                  repeat (any_goals (first|exact falseI|((first|refine bd ?_ ?_|refine bn ?_ ?_)<;>intro _<;>first|(exfalso;omega)|conv=>whnf)|((first|refine optP_map hx ea ?_|refine optP_map hy rfl ?_|refine callP_a hc ?_|refine dI ?_|refine okI ?_|refine bt ?_|refine bi (fun _=>?_) (fun _=>?_)|refine bndI ?_|intro _)<;>conv=>whnf)))
                  refine ⟨[kA], ?_⟩
                  conv=>whnf
                  refine optP_intro (tk_sets _ L) ?_
                  conv=>whnf
                  refine ⟨_, _, hpt, ?_⟩
                  conv=>whnf
                  refine optP_intro (tk_sets _ M) ?_
                  conv=>whnf
                  repeat (any_goals (first|exact falseI|((first|refine bd ?_ ?_|refine bn ?_ ?_)<;>intro _<;>first|(exfalso;omega)|conv=>whnf)|((first|refine dI ?_|refine okI ?_|refine bt ?_|refine bi (fun _=>?_) (fun _=>?_)|refine bndI ?_|intro _)<;>conv=>whnf)))
                  refine ⟨[kA], ?_⟩
                  conv=>whnf
                  refine optP_intro (tk_sets _ M) ?_
                  conv=>whnf
                  refine ⟨_, _, hrec, ?_⟩
                  conv=>whnf
                  refine optP_intro (tk_sets _ M2) ?_
                  conv=>whnf
                  repeat (any_goals (first|exact falseI|((first|refine bd ?_ ?_|refine bn ?_ ?_)<;>intro _<;>first|(exfalso;omega)|conv=>whnf)|((first|refine dI ?_|refine okI ?_|refine bt ?_|refine bi (fun _=>?_) (fun _=>?_)|refine bndI ?_|intro _)<;>conv=>whnf)))
                  (refine ⟨(f', a, mid, decide ((b - a) / 8 ≤ b - mid), false, M2), ⟨by simp only;omega, by simp only;omega, by simp only;omega, H⟩, (by simp only;omega), ?_⟩;(conv=>whnf);refine ⟨?_, ?_, ?_⟩<;>repeat (first|exact trivial|refine sc rfl ?_|refine kn ?_|refine kc rfl ?_|refine sc (by first|rfl|exact congrArg (fun z : Bool=>some (boolA z)) hb9) ?_|refine kc (by first|rfl|exact congrArg (fun z : Bool=>some (boolA z)) hb9) ?_))
                · clear hc3
                  conv=>whnf
                  repeat (any_goals (first|exact falseI|((first|refine bd ?_ ?_|refine bn ?_ ?_)<;>intro _<;>first|(exfalso;omega)|conv=>whnf)|((first|refine dI ?_|refine okI ?_|refine bt ?_|refine bi (fun _=>?_) (fun _=>?_)|refine bndI ?_|intro _)<;>conv=>whnf)))
                  refine ⟨[kA], ?_⟩
                  conv=>whnf
                  refine optP_intro (tk_sets _ L) ?_
                  conv=>whnf
                  refine ⟨_, _, hch, ?_⟩
                  conv=>whnf
                  refine optP_intro (tk_sets _ L) ?_
                  conv=>whnf
                  repeat (any_goals (first|exact falseI|((first|refine bd ?_ ?_|refine bn ?_ ?_)<;>intro _<;>first|(exfalso;omega)|conv=>whnf)|((first|refine dI ?_|refine okI ?_|refine bt ?_|refine bi (fun _=>?_) (fun _=>?_)|refine bndI ?_|intro _)<;>conv=>whnf)))
                  refine ⟨[kA], ?_⟩
                  conv=>whnf
                  refine optP_intro (tk_sets _ L) ?_
                  conv=>whnf
                  refine ⟨_, _, hpa', ?_⟩
                  conv=>whnf
                  refine optP_intro (tk_sets _ L) ?_
                  conv=>whnf
                  repeat (any_goals (first|exact falseI|((first|refine bd ?_ ?_|refine bn ?_ ?_)<;>intro _<;>first|(exfalso;omega)|conv=>whnf)|((first|refine dI ?_|refine okI ?_|refine bt ?_|refine bi (fun _=>?_) (fun _=>?_)|refine bndI ?_|intro _)<;>conv=>whnf)))
                  refine ⟨[kA], ?_⟩
                  conv=>whnf
                  refine optP_intro (tk_sets _ L) ?_
                  conv=>whnf
                  refine ⟨_, _, hpt, ?_⟩
                  conv=>whnf
                  refine optP_intro (tk_sets _ M) ?_
                  conv=>whnf
                  repeat (any_goals (first|exact falseI|((first|refine bd ?_ ?_|refine bn ?_ ?_)<;>intro _<;>first|(exfalso;omega)|conv=>whnf)|((first|refine dI ?_|refine okI ?_|refine bt ?_|refine bi (fun _=>?_) (fun _=>?_)|refine bndI ?_|intro _)<;>conv=>whnf)))
                  refine ⟨[kA], ?_⟩
                  conv=>whnf
                  refine optP_intro (tk_sets _ M) ?_
                  conv=>whnf
                  refine ⟨_, _, hrec, ?_⟩
                  conv=>whnf
                  refine optP_intro (tk_sets _ M2) ?_
                  conv=>whnf
                  repeat (any_goals (first|exact falseI|((first|refine bd ?_ ?_|refine bn ?_ ?_)<;>intro _<;>first|(exfalso;omega)|conv=>whnf)|((first|refine dI ?_|refine okI ?_|refine bt ?_|refine bi (fun _=>?_) (fun _=>?_)|refine bndI ?_|intro _)<;>conv=>whnf)))
                  (refine ⟨(f', a, mid, decide ((b - a) / 8 ≤ b - mid), false, M2), ⟨by simp only;omega, by simp only;omega, by simp only;omega, H⟩, (by simp only;omega), ?_⟩;(conv=>whnf);refine ⟨?_, ?_, ?_⟩<;>repeat (first|exact trivial|refine sc rfl ?_|refine kn ?_|refine kc rfl ?_|refine sc (by first|rfl|exact congrArg (fun z : Bool=>some (boolA z)) hb9) ?_|refine kc (by first|rfl|exact congrArg (fun z : Bool=>some (boolA z)) hb9) ?_))
              · have hh : hintN s = 0:=by simp [hintN, s0, hs12];omega
                rw [hh] at hch
                clear hpa
                by_cases a0 : 0 < a
                · have hlt : ordN (atN L (a - 1)) (atN L p) < 0:=by
                    cases hq : ltN (atN L (a - 1)) (atN L p)
                    · exact absurd ⟨a0, hq⟩ hc3
                    · simpa [ltN] using hq
                  have hx:=at_get (L:=L) (i:=a - 1) (by omega)
                  have hy:=at_get (L:=L) (i:=p) (by omega)
                  have hc:=hcmp (atN L (a - 1)) (atN L p)
                  have ea : (a : Int) - 1 = ((a - 1 : Nat) : Int):=by omega
                  obtain ⟨v, hv0⟩ : ∃ v, v = ordN (atN L (a - 1)) (atN L p):=⟨_, rfl⟩
                  rw [← hv0] at hc hlt
                  conv=>whnf
                  repeat (any_goals (first|exact falseI|((first|refine bd ?_ ?_|refine bn ?_ ?_)<;>intro _<;>first|(exfalso;omega)|conv=>whnf)|((first|refine dI ?_|refine okI ?_|refine bt ?_|refine bi (fun _=>?_) (fun _=>?_)|refine bndI ?_|intro _)<;>conv=>whnf)))
                  refine ⟨[kA], ?_⟩
                  conv=>whnf
                  refine optP_intro (tk_sets _ L) ?_
                  conv=>whnf
                  refine ⟨_, _, hch, ?_⟩
                  conv=>whnf
                  refine optP_intro (tk_sets _ L) ?_
                  conv=>whnf
                  repeat (any_goals (first|exact falseI|((first|refine bd ?_ ?_|refine bn ?_ ?_)<;>intro _<;>first|(exfalso;omega)|conv=>whnf)|((first|refine dI ?_|refine okI ?_|refine bt ?_|refine bi (fun _=>?_) (fun _=>?_)|refine bndI ?_|intro _)<;>conv=>whnf)))
                  repeat (any_goals (first|exact falseI|((first|refine bd ?_ ?_|refine bn ?_ ?_)<;>intro _<;>first|(exfalso;omega)|conv=>whnf)|((first|refine optP_map hx ea ?_|refine optP_map hy rfl ?_|refine callP_a hc ?_|refine dI ?_|refine okI ?_|refine bt ?_|refine bi (fun _=>?_) (fun _=>?_)|refine bndI ?_|intro _)<;>conv=>whnf)))
                  refine ⟨[kA], ?_⟩
                  conv=>whnf
                  refine optP_intro (tk_sets _ L) ?_
                  conv=>whnf
                  refine ⟨_, _, hpt, ?_⟩
                  conv=>whnf
                  refine optP_intro (tk_sets _ M) ?_
                  conv=>whnf
                  repeat (any_goals (first|exact falseI|((first|refine bd ?_ ?_|refine bn ?_ ?_)<;>intro _<;>first|(exfalso;omega)|conv=>whnf)|((first|refine dI ?_|refine okI ?_|refine bt ?_|refine bi (fun _=>?_) (fun _=>?_)|refine bndI ?_|intro _)<;>conv=>whnf)))
                  refine ⟨[kA], ?_⟩
                  conv=>whnf
                  refine optP_intro (tk_sets _ M) ?_
                  conv=>whnf
                  refine ⟨_, _, hrec, ?_⟩
                  conv=>whnf
                  refine optP_intro (tk_sets _ M2) ?_
                  conv=>whnf
                  repeat (any_goals (first|exact falseI|((first|refine bd ?_ ?_|refine bn ?_ ?_)<;>intro _<;>first|(exfalso;omega)|conv=>whnf)|((first|refine dI ?_|refine okI ?_|refine bt ?_|refine bi (fun _=>?_) (fun _=>?_)|refine bndI ?_|intro _)<;>conv=>whnf)))
                  (refine ⟨(f', a, mid, decide ((b - a) / 8 ≤ b - mid), false, M2), ⟨by simp only;omega, by simp only;omega, by simp only;omega, H⟩, (by simp only;omega), ?_⟩;(conv=>whnf);refine ⟨?_, ?_, ?_⟩<;>repeat (first|exact trivial|refine sc rfl ?_|refine kn ?_|refine kc rfl ?_|refine sc (by first|rfl|exact congrArg (fun z : Bool=>some (boolA z)) hb9) ?_|refine kc (by first|rfl|exact congrArg (fun z : Bool=>some (boolA z)) hb9) ?_))
                · clear hc3
                  conv=>whnf
                  repeat (any_goals (first|exact falseI|((first|refine bd ?_ ?_|refine bn ?_ ?_)<;>intro _<;>first|(exfalso;omega)|conv=>whnf)|((first|refine dI ?_|refine okI ?_|refine bt ?_|refine bi (fun _=>?_) (fun _=>?_)|refine bndI ?_|intro _)<;>conv=>whnf)))
                  refine ⟨[kA], ?_⟩
                  conv=>whnf
                  refine optP_intro (tk_sets _ L) ?_
                  conv=>whnf
                  refine ⟨_, _, hch, ?_⟩
                  conv=>whnf
                  refine optP_intro (tk_sets _ L) ?_
                  conv=>whnf
                  repeat (any_goals (first|exact falseI|((first|refine bd ?_ ?_|refine bn ?_ ?_)<;>intro _<;>first|(exfalso;omega)|conv=>whnf)|((first|refine dI ?_|refine okI ?_|refine bt ?_|refine bi (fun _=>?_) (fun _=>?_)|refine bndI ?_|intro _)<;>conv=>whnf)))
                  refine ⟨[kA], ?_⟩
                  conv=>whnf
                  refine optP_intro (tk_sets _ L) ?_
                  conv=>whnf
                  refine ⟨_, _, hpt, ?_⟩
                  conv=>whnf
                  refine optP_intro (tk_sets _ M) ?_
                  conv=>whnf
                  repeat (any_goals (first|exact falseI|((first|refine bd ?_ ?_|refine bn ?_ ?_)<;>intro _<;>first|(exfalso;omega)|conv=>whnf)|((first|refine dI ?_|refine okI ?_|refine bt ?_|refine bi (fun _=>?_) (fun _=>?_)|refine bndI ?_|intro _)<;>conv=>whnf)))
                  refine ⟨[kA], ?_⟩
                  conv=>whnf
                  refine optP_intro (tk_sets _ M) ?_
                  conv=>whnf
                  refine ⟨_, _, hrec, ?_⟩
                  conv=>whnf
                  refine optP_intro (tk_sets _ M2) ?_
                  conv=>whnf
                  repeat (any_goals (first|exact falseI|((first|refine bd ?_ ?_|refine bn ?_ ?_)<;>intro _<;>first|(exfalso;omega)|conv=>whnf)|((first|refine dI ?_|refine okI ?_|refine bt ?_|refine bi (fun _=>?_) (fun _=>?_)|refine bndI ?_|intro _)<;>conv=>whnf)))
                  (refine ⟨(f', a, mid, decide ((b - a) / 8 ≤ b - mid), false, M2), ⟨by simp only;omega, by simp only;omega, by simp only;omega, H⟩, (by simp only;omega), ?_⟩;(conv=>whnf);refine ⟨?_, ?_, ?_⟩<;>repeat (first|exact trivial|refine sc rfl ?_|refine kn ?_|refine kc rfl ?_|refine sc (by first|rfl|exact congrArg (fun z : Bool=>some (boolA z)) hb9) ?_|refine kc (by first|rfl|exact congrArg (fun z : Bool=>some (boolA z)) hb9) ?_))
end Go.Proofs.YtbpiibdcncfphaaDoor
namespace Go.Proofs.YtbpiibdcncfphaaDoor
open Go.Am Go.Proofs Go
def bitsLen (n : Nat) : Nat:=if n = 0 then 0 else n.log2 + 1
set_option maxRecDepth 100000 in
set_option maxHeartbeats 4000000 in
theorem len64_c (n : Nat) (h : n ≤ 64) : PureA Tryd.prog 113 [uA n] (intA (bitsLen n)):=by
  rcases (by omega : n = 0∨n = 1∨n = 2∨n = 3∨n = 4∨n = 5∨n = 6∨n = 7∨n = 8∨n = 9∨n = 10∨n = 11∨n = 12∨n = 13∨n = 14∨n = 15∨n = 16∨n = 17∨n = 18∨n = 19∨n = 20∨n = 21∨n = 22∨n = 23∨n = 24∨n = 25∨n = 26∨n = 27∨n = 28∨n = 29∨n = 30∨n = 31∨n = 32∨n = 33∨n = 34∨n = 35∨n = 36∨n = 37∨n = 38∨n = 39∨n = 40∨n = 41∨n = 42∨n = 43∨n = 44∨n = 45∨n = 46∨n = 47∨n = 48∨n = 49∨n = 50∨n = 51∨n = 52∨n = 53∨n = 54∨n = 55∨n = 56∨n = 57∨n = 58∨n = 59∨n = 60∨n = 61∨n = 62∨n = 63∨n = 64) with rfl|rfl|rfl|rfl|rfl|rfl|rfl|rfl|rfl|rfl|rfl|rfl|rfl|rfl|rfl|rfl|rfl|rfl|rfl|rfl|rfl|rfl|rfl|rfl|rfl|rfl|rfl|rfl|rfl|rfl|rfl|rfl|rfl|rfl|rfl|rfl|rfl|rfl|rfl|rfl|rfl|rfl|rfl|rfl|rfl|rfl|rfl|rfl|rfl|rfl|rfl|rfl|rfl|rfl|rfl|rfl|rfl|rfl|rfl|rfl|rfl|rfl|rfl|rfl|rfl
  all_goals
    refine pureA_codeB tabOk { l:=0, f:=113 } mixed call_113 Tryd.func113 (by kernel_rfl) ?_
    conv=>whnf
    repeat (refine And.intro (by decide +kernel) ?_;conv=>whnf)
    (refine ⟨⟨?_⟩, trivial⟩;kernel_rfl)
theorem len_c (n : Nat) (h : n ≤ 64) : PureA Tryd.prog 100 [uA n] (intA (bitsLen n)):=by
  have ht:=len64_c n h
  generalize bitsLen n = r at *
  refine pureA_codeB tabOk { l:=0, f:=100 } mixed call_100 Tryd.func100 (by kernel_rfl) ?_
  conv=>whnf
  repeat (any_goals (first|exact falseI|((first|refine bd ?_ ?_|refine bn ?_ ?_)<;>intro _<;>first|(exfalso;omega)|conv=>whnf)|((first|refine callP_a ht ?_|refine dI ?_|refine okI ?_|refine bt ?_|refine bi (fun _=>?_) (fun _=>?_)|refine bndI ?_|intro _)<;>conv=>whnf)))
  (refine ⟨⟨?_⟩, trivial⟩;rfl)
theorem u64_wrap65 : ∀ n : Nat, n < 65→IntKind.u64.wrap (n : Int) = (n : Int):=by decide +kernel
theorem bitsLen_le : ∀ n : Nat, n < 65→bitsLen n ≤ 7∧(0 < n→0 < bitsLen n):=by decide +kernel
theorem sort_c (g n f : Nat) (X R : List Nat) (hX : X.length = n) (h0 : 0 < n) (h64 : n ≤ 64) (hR : pdqN (bitsLen n) f 0 n true true X = some R) :
    BoxA Tryd.prog (.fn 90) [(kA, g, 1, X.map setA)] [.own kA g 1 n 0, cmpF] (.tuple []) [(kA, g, 1, R.map setA)]:=by
  have hl:=len_c n h64
  have hb:=bitsLen_le n (by omega)
  have hw:=u64_wrap65 n (by omega)
  have hi:=pdq_c g n (bitsLen n) (hb.2 h0) (by omega) (by omega) (f + 1) f (by omega) 0 n X R hX (by omega) (by omega) hR
  generalize bitsLen n = lim at *
  unfold uA at hl
  rw [← hw] at hl
  refine boxA_codeB tabOk { l:=0, f:=90, mat:=[99] } mixed call_90 Tryd.func90 (by kernel_rfl) ?_
  conv=>whnf
  repeat (any_goals (first|exact falseI|((first|refine bd ?_ ?_|refine bn ?_ ?_)<;>intro _<;>first|(exfalso;omega)|conv=>whnf)|((first|refine callP_a hl ?_|refine dI ?_|refine okI ?_|refine bt ?_|refine bi (fun _=>?_) (fun _=>?_)|refine bndI ?_|intro _)<;>conv=>whnf)))
  refine ⟨[kA], ?_⟩
  conv=>whnf
  refine optP_intro (tk_sets _ X) ?_
  conv=>whnf
  refine ⟨_, _, hi, ?_⟩
  conv=>whnf
  refine optP_intro (tk_sets _ R) ?_
  conv=>whnf
  repeat (any_goals (first|exact falseI|((first|refine bd ?_ ?_|refine bn ?_ ?_)<;>intro _<;>first|(exfalso;omega)|conv=>whnf)|((first|refine dI ?_|refine okI ?_|refine bt ?_|refine bi (fun _=>?_) (fun _=>?_)|refine bndI ?_|intro _)<;>conv=>whnf)))
  refine And.intro ?_ ?_
  · conv=>whnf
    refine ⟨⟨?_⟩, trivial⟩
    rfl
  · repeat (first|exact trivial|refine And.intro rfl ?_|refine And.intro (by skip) ?_)
end Go.Proofs.YtbpiibdcncfphaaDoor
namespace Go.Proofs.YtbpiibdcncfphaaDoor
open Go.Am Go.Proofs Go
theorem strIdx_c (l : List ByteArray) (s : ByteArray) (hl : l.length ≤ 1048576) : PureA Tryd.prog 82 [strsA l, strA s] (intA (idx (fun x=>decide (x = s)) l)):=by
  refine pureA_codeB tabOk { l:=0, f:=82 } mixed call_82 Tryd.func82 (by kernel_rfl) ?_
  conv=>whnf
  refine loopK tabOk { l:=0, f:=82 } mixed (fun i : Nat=>[(5, intA i)]) (fun _=>[]) (fun _=>[]) (fun i=>i ≤ l.length∧idx (fun x : ByteArray=>decide (x = s)) l = idxFrom (fun x : ByteArray=>decide (x = s)) i (l.drop i)) (fun i=>l.length - i) 0 (by kernel_rfl)
    ⟨Nat.zero_le _, rfl⟩ ?_
  conv=>whnf
  refine ⟨⟨slotsLe_cons rfl trivial, trivial, trivial⟩, ?_⟩
  intro i ⟨hi, H⟩
  conv=>whnf
  refine brP_dec (fun h1=>?_) (fun h1=>?_)
  · simp only [List.length_map] at h1
    obtain ⟨x, hx, hd⟩:=drop_cons (l:=l) (i:=i) (by omega)
    have H':=idxFrom_cons hd H
    conv=>whnf
    repeat (any_goals (first|exact falseI|((first|refine bd ?_ ?_|refine bn ?_ ?_)<;>intro _<;>first|(exfalso;omega)|conv=>whnf)|((first|refine optP_map hx rfl ?_|refine dI ?_|refine okI ?_|refine bt ?_|refine bi (fun _=>?_) (fun _=>?_)|refine bndI ?_|intro _)<;>conv=>whnf)))
    · rename_i he
      simp only [he, decide_true, if_true] at H'
      (refine ⟨⟨?_⟩, trivial⟩;simp [oneOf, intA, H'])
    · rename_i he
      simp only [he, decide_false, Bool.false_eq_true, if_false] at H'
      (refine ⟨i + 1, ⟨by omega, H'⟩, by omega, ?_⟩;(conv=>whnf);refine ⟨?_, ?_, ?_⟩<;>repeat (first|exact trivial|refine sc rfl ?_|refine kn ?_|refine kc rfl ?_))
  · conv=>whnf
    simp only [List.length_map] at h1
    have : i = l.length:=by omega
    subst this
    (refine ⟨⟨?_⟩, trivial⟩;simp [oneOf, intA, H, idxFrom])
def newErr (s : ByteArray) (l : List ByteArray) : Int:=if nameOk s = false then 6 else if l.any (fun x=>decide (x = s)) = true then 5 else 0
theorem new_c (l : List ByteArray) (s : ByteArray) (hl : l.length ≤ 1048576) : PureA Tryd.prog 57 [strA s, strsA l] (intA (newErr s l)):=by
  have hn:=refName_c s
  have hi:=strIdx_c l s hl
  have hx:=idx_any (fun x=>decide (x = s)) l
  unfold newErr
  rw [← hx]
  generalize nameOk s = b at *
  generalize idx (fun x=>decide (x = s)) l = n at *
  refine pureA_codeB tabOk { l:=0, f:=57 } mixed call_57 Tryd.func57 (by kernel_rfl) ?_
  conv=>whnf
  cases b
  · repeat (any_goals (first|exact falseI|((first|refine bd ?_ ?_|refine bn ?_ ?_)<;>intro _<;>first|(exfalso;omega)|conv=>whnf)|((first|refine callP_a hn ?_|refine callP_a hi ?_|refine dI ?_|refine okI ?_|refine bt ?_|refine bi (fun _=>?_) (fun _=>?_)|refine bndI ?_|intro _)<;>conv=>whnf)))
    all_goals (refine ⟨⟨?_⟩, trivial⟩;simp [oneOf, intA, *])
  · repeat (any_goals (first|exact falseI|((first|refine bd ?_ ?_|refine bn ?_ ?_)<;>intro _<;>first|(exfalso;omega)|conv=>whnf)|((first|refine callP_a hn ?_|refine callP_a hi ?_|refine dI ?_|refine okI ?_|refine bt ?_|refine bi (fun _=>?_) (fun _=>?_)|refine bndI ?_|intro _)<;>conv=>whnf)))
    all_goals (refine ⟨⟨?_⟩, trivial⟩;simp [oneOf, intA, *])
def Amt.upTo (a m : Amt) : Bool:=within a.b 0 m.b && within a.t 0 m.t && within a.c 0 m.c
theorem amounts_c (a m : Amt) : PureA Tryd.prog 54 [amtA a, amtA m] (boolA (a.upTo m)):=by
  have h1:=within_c a.b 0 m.b
  have h2:=within_c a.t 0 m.t
  have h3:=within_c a.c 0 m.c
  unfold Amt.upTo
  generalize within a.b 0 m.b = b1 at *
  generalize within a.t 0 m.t = b2 at *
  generalize within a.c 0 m.c = b3 at *
  refine pureA_codeB tabOk { l:=0, f:=54 } mixed call_54 Tryd.func54 (by kernel_rfl) ?_
  conv=>whnf
  cases b1<;>cases b2<;>cases b3
  all_goals
    repeat (any_goals (first|exact falseI|((first|refine bd ?_ ?_|refine bn ?_ ?_)<;>intro _<;>first|(exfalso;omega)|conv=>whnf)|((first|refine callP_a h1 ?_|refine callP_a h2 ?_|refine callP_a h3 ?_|refine dI ?_|refine okI ?_|refine bt ?_|refine bi (fun _=>?_) (fun _=>?_)|refine bndI ?_|intro _)<;>conv=>whnf)))
  all_goals (refine ⟨⟨?_⟩, trivial⟩;rfl)
theorem most_c : PureA Tryd.prog 55 [] (amtA ⟨40, 40, 40⟩):=by
  refine pureA_codeB tabOk { l:=0, f:=55 } mixed call_55 Tryd.func55 (by kernel_rfl) ?_
  conv=>whnf
  (refine ⟨⟨?_⟩, trivial⟩;rfl)
def endsErr (lo hi least most : Int) : Int:=if (!within lo least most || !within hi least most) = true then 7 else if hi < lo then 2 else 0
theorem ends_c (lo hi least most : Int) : PureA Tryd.prog 97 [spanA lo hi, intA least, intA most] (intA (endsErr lo hi least most)):=by
  have h1:=within1_c lo least most
  have h2:=within1_c hi least most
  unfold endsErr
  generalize within lo least most = b1 at *
  generalize within hi least most = b2 at *
  refine pureA_codeB tabOk { l:=0, f:=97 } mixed call_97 Tryd.func97 (by kernel_rfl) ?_
  conv=>whnf
  cases b1<;>cases b2
  all_goals
    repeat (any_goals (first|exact falseI|((first|refine bd ?_ ?_|refine bn ?_ ?_)<;>intro _<;>first|(exfalso;omega)|conv=>whnf)|((first|refine callP_a h1 ?_|refine callP_a h2 ?_|refine dI ?_|refine okI ?_|refine bt ?_|refine bi (fun _=>?_) (fun _=>?_)|refine bndI ?_|intro _)<;>conv=>whnf)))
  all_goals (refine ⟨⟨?_⟩, trivial⟩;simp_all [oneOf, intA])
theorem parts_c (lo hi : Int) : PureA Tryd.prog 83 [spanA lo hi] (intA (endsErr lo hi 0 1000)):=by
  refine pureA_codeB tabOk { l:=0, f:=83 } mixed call_83 Tryd.func83 (by kernel_rfl) ?_
  conv=>whnf
  refine callP_a (ends_c lo hi 0 1000) ?_
  conv=>whnf
  (refine ⟨⟨?_⟩, trivial⟩;rfl)
def Order.err (o : Order) : Int :=
  if (!within o.weight 1 60 || endsErr o.tlo o.thi 0 1000 == 7 || endsErr o.clo o.chi 0 1000 == 7) = true then 7 else if endsErr o.tlo o.thi 0 1000 ≠ 0 then endsErr o.tlo o.thi 0 1000 else endsErr o.clo o.chi 0 1000
theorem refOrder_c (o : Order) : PureA Tryd.prog 58 [orderA o] (intA o.err):=by
  have h1:=parts_c o.tlo o.thi
  have h2:=parts_c o.clo o.chi
  have h3:=within_c o.weight 1 60
  unfold Order.err
  generalize endsErr o.tlo o.thi 0 1000 = a at *
  generalize endsErr o.clo o.chi 0 1000 = b at *
  generalize within o.weight 1 60 = c at *
  refine pureA_codeB tabOk { l:=0, f:=58 } mixed call_58 Tryd.func58 (by kernel_rfl) ?_
  conv=>whnf
  cases c
  all_goals
    repeat (any_goals (first|exact falseI|((first|refine bd ?_ ?_|refine bn ?_ ?_)<;>intro _<;>first|(exfalso;omega)|conv=>whnf)|((first|refine callP_a h1 ?_|refine callP_a h2 ?_|refine callP_a h3 ?_|refine dI ?_|refine okI ?_|refine bt ?_|refine bi (fun _=>?_) (fun _=>?_)|refine bndI ?_|intro _)<;>conv=>whnf)))
  all_goals (refine ⟨⟨?_⟩, trivial⟩;simp_all [oneOf, intA])
theorem outside_not (a b c : Int) : (!within a b c) = outside b c a:=by rw [Bool.eq_iff_iff];simp [within, outside]<;>omega
theorem ends_seven (lo hi l m : Int) : (endsErr lo hi l m == 7) = (outside l m lo || outside l m hi):=by
  unfold endsErr
  rw [outside_not, outside_not]
  generalize (outside l m lo || outside l m hi) = b
  cases b
  · by_cases h : hi < lo<;>simp [h]
  · rfl
theorem headErr_new (l : List Head) (f : Head) : headErr l f = if newErr f.name (l.map (·.name)) = 0 then (if (!f.wax.upTo ⟨40, 40, 40⟩ || !within f.days 0 364) = true then 7 else 0) else newErr f.name (l.map (·.name)):=by
  unfold headErr newErr Amt.upTo
  simp only [Bool.not_and, outside_not]
  rw [List.any_map]
  simp only [Function.comp_def]
  split
  · simp
  · split<;>simp_all
theorem orderErr_new (l : List Order) (f : Order) : orderErr l f = if newErr f.name (l.map (·.name)) = 0 then f.err else newErr f.name (l.map (·.name)):=by
  have key : f.err = if (outside 1 60 f.weight || (outside 0 1000 f.tlo || outside 0 1000 f.thi || outside 0 1000 f.clo || outside 0 1000 f.chi)) = true then 7 else if (decide (f.thi < f.tlo) || decide (f.chi < f.clo)) = true then 2 else 0:=by
    unfold Order.err
    rw [ends_seven, ends_seven, outside_not]
    unfold endsErr
    simp only [outside_not]
    generalize outside 1 60 f.weight = b1
    generalize outside 0 1000 f.tlo = b2
    generalize outside 0 1000 f.thi = b3
    generalize outside 0 1000 f.clo = b4
    generalize outside 0 1000 f.chi = b5
    by_cases c1 : f.thi < f.tlo<;>by_cases c2 : f.chi < f.clo<;>cases b1<;>cases b2<;>cases b3<;>cases b4<;>cases b5<;>simp [c1, c2]
  unfold orderErr newErr
  rw [List.any_map, key]
  simp only [Function.comp_def]
  split
  · simp
  · split<;>simp_all
end Go.Proofs.YtbpiibdcncfphaaDoor
namespace Go.Proofs.YtbpiibdcncfphaaDoor
open Go.Am Go.Proofs Go
theorem refCheck_c (s : Store) (hr : s.small) : PureA Tryd.prog 13 [storeA s] (triA s.check):=by
  obtain ⟨h1, h2, h3⟩:=hr
  have a1:=amounts_c s.lots ⟨40, 40, 40⟩
  have a2:=within_c s.fade 1 364
  have hC : s.check = if (!s.lots.upTo ⟨40, 40, 40⟩ || !within s.fade 1 364) = true then (1, 0, 7) else if (6 : Int) < s.heads.length then (2, 0, 3) else if s.headsErr.2 ≠ 0 then (2, s.headsErr.1, s.headsErr.2)
      else if (3 : Int) < s.orders.length then (3, 0, 3) else if s.ordersErr.2 ≠ 0 then (3, s.ordersErr.1, s.ordersErr.2) else (0, 0, 0):=by
    unfold Store.check Amt.upTo
    simp only [Bool.not_and, outside_not]
  rw [hC]
  clear hC
  generalize s.lots.upTo ⟨40, 40, 40⟩ = b1 at *
  generalize within s.fade 1 364 = b2 at *
  refine pureA_codeB tabOk { l:=0, f:=13 } mixed call_13 Tryd.func13 (by kernel_rfl) ?_
  conv=>whnf
  cases b1<;>cases b2
  all_goals
    repeat (any_goals (first|exact falseI|((first|refine bd ?_ ?_|refine bn ?_ ?_)<;>intro _<;>first|(exfalso;omega)|conv=>whnf)|((first|refine callP_a most_c ?_|refine callP_a a1 ?_|refine callP_a a2 ?_|refine dI ?_|refine okI ?_|refine bt ?_|refine bi (fun _=>?_) (fun _=>?_)|refine bndI ?_|intro _)<;>conv=>whnf)))
  all_goals first|((refine ⟨⟨?_⟩, trivial⟩;simp_all [oneOf, triA, intA];done))|skip
  rename_i hn6
  simp only [Bool.not_true, Bool.or_self, Bool.false_eq_true, if_false]
  simp only [List.length_map] at hn6
  rw [if_neg hn6]
  refine loopTok 5 1 ⟨0, 13, 46⟩ ?_
  conv=>whnf
  refine loopK tabOk { l:=0, f:=13 } mixed (fun i : Nat=>[(6, intA i), (5, .slice 1 ((s.heads.take i).map (fun f=>strA f.name)) (.own ⟨0, 13, 46⟩ 1))]) (fun _=>[]) (fun i=>[(⟨0, 13, 46⟩, some (1, i))]) (fun i=>i ≤ s.heads.length∧s.headsErr = firstFrom (fun i f=>headErr (s.heads.take i) f) i (s.heads.drop i)) (fun i=>s.heads.length - i) 0 (by kernel_rfl)
    ⟨Nat.zero_le _, rfl⟩ ?_
  conv=>whnf
  refine ⟨⟨slotsLe_cons rfl (slotsLe_cons rfl trivial), trivial, keysLe_cons rfl trivial⟩, ?_⟩
  intro i ⟨hi, H⟩
  conv=>whnf
  refine brP_dec (fun h1=>?_) (fun h1=>?_)
  · simp only [List.length_map] at h1
    obtain ⟨x, hx, hd⟩:=drop_cons (l:=s.heads) (i:=i) (by omega)
    rw [hd] at H
    have hnw : PureA Tryd.prog 57 [strA x.name, .slice 1 ((s.heads.take i).map (fun f=>strA f.name)) .no] (intA (newErr x.name ((s.heads.take i).map (·.name)))):=by
      have:=new_c ((s.heads.take i).map (·.name)) x.name (by simp;omega)
      simpa [strsA, List.map_map, Function.comp_def] using this
    have ht : s.heads.take (i + 1) = s.heads.take i++[x]:=by rw [List.take_add_one, hx];rfl
    simp only [firstFrom, headErr_new (s.heads.take i) x] at H
    have w1:=amounts_c x.wax ⟨40, 40, 40⟩
    have w2:=within_c x.days 0 364
    generalize newErr x.name ((s.heads.take i).map (·.name)) = e at *
    generalize x.wax.upTo ⟨40, 40, 40⟩ = b1 at *
    generalize within x.days 0 364 = b2 at *
    by_cases he : e = 0
    · subst he
      rw [if_pos rfl] at H
      cases b1<;>cases b2
      all_goals
        conv=>whnf
        repeat (any_goals (first|exact falseI|((first|refine bd ?_ ?_|refine bn ?_ ?_)<;>intro _<;>first|(exfalso;omega)|conv=>whnf)|((first|refine optP_map hx rfl ?_|refine callP_a hnw ?_|refine callP_a most_c ?_|refine callP_a w1 ?_|refine callP_a w2 ?_|refine dI ?_|refine okI ?_|refine bt ?_|refine bi (fun _=>?_) (fun _=>?_)|refine bndI ?_|intro _)<;>conv=>whnf)))
      all_goals first|((refine ⟨⟨?_⟩, trivial⟩;simp [oneOf, triA, intA, H];done))|(exfalso;simp_all;omega)|skip
      (refine ⟨i + 1, ⟨by omega, H⟩, by omega, ?_⟩;(conv=>whnf);refine ⟨?_, ?_, ?_⟩<;>repeat (first|exact trivial|refine sc rfl ?_|refine kn ?_|refine kc rfl ?_|refine sc (by first|(simp only [ht, List.map_append];rfl)|((conv=>lhs;whnf);simp;omega)) ?_|refine kc (by first|(simp only [ht, List.map_append];rfl)|((conv=>lhs;whnf);simp;omega)) ?_))
    · rw [if_neg he, if_neg he] at H
      conv=>whnf
      repeat (any_goals (first|exact falseI|((first|refine bd ?_ ?_|refine bn ?_ ?_)<;>intro _<;>first|(exfalso;omega)|conv=>whnf)|((first|refine optP_map hx rfl ?_|refine callP_a hnw ?_|refine dI ?_|refine okI ?_|refine bt ?_|refine bi (fun _=>?_) (fun _=>?_)|refine bndI ?_|intro _)<;>conv=>whnf)))
      (refine ⟨⟨?_⟩, trivial⟩;simp [oneOf, triA, intA, H, he])
  · conv=>whnf
    simp only [List.length_map] at h1
    have : i = s.heads.length:=by omega
    subst this
    simp only [List.drop_length, firstFrom] at H
    clear h1 hi hn6 a1 a2
    rw [H, if_neg (by simp)]
    clear H
    repeat (any_goals (first|exact falseI|((first|refine bd ?_ ?_|refine bn ?_ ?_)<;>intro _<;>first|(exfalso;omega)|conv=>whnf)|((first|refine dI ?_|refine okI ?_|refine bt ?_|refine bi (fun _=>?_) (fun _=>?_)|refine bndI ?_|intro _)<;>conv=>whnf)))
    · rename_i hn3
      simp only [List.length_map] at hn3
      (refine ⟨⟨?_⟩, trivial⟩;simp [oneOf, triA, intA, hn3])
    rename_i hn3
    simp only [List.length_map] at hn3
    rw [if_neg hn3]
    refine loopTok 5 1 ⟨0, 13, 93⟩ ?_
    conv=>whnf
    refine loopK tabOk { l:=0, f:=13 } mixed (fun i : Nat=>[(9, intA i), (5, .slice 1 ((s.orders.take i).map (fun f=>strA f.name)) (.own ⟨0, 13, 93⟩ 1))]) (fun _=>[]) (fun i=>[(⟨0, 13, 93⟩, some (1, i))]) (fun i=>i ≤ s.orders.length∧s.ordersErr = firstFrom (fun i f=>orderErr (s.orders.take i) f) i (s.orders.drop i)) (fun i=>s.orders.length - i) 0 (by kernel_rfl)
      ⟨Nat.zero_le _, rfl⟩ ?_
    conv=>whnf
    refine ⟨⟨slotsLe_cons rfl (slotsLe_cons rfl trivial), trivial, keysLe_cons rfl trivial⟩, ?_⟩
    intro i ⟨hi, H⟩
    conv=>whnf
    refine brP_dec (fun h1=>?_) (fun h1=>?_)
    · simp only [List.length_map] at h1
      obtain ⟨x, hx, hd⟩:=drop_cons (l:=s.orders) (i:=i) (by omega)
      rw [hd] at H
      have hnw : PureA Tryd.prog 57 [strA x.name, .slice 1 ((s.orders.take i).map (fun f=>strA f.name)) .no] (intA (newErr x.name ((s.orders.take i).map (·.name)))):=by
        have:=new_c ((s.orders.take i).map (·.name)) x.name (by simp;omega)
        simpa [strsA, List.map_map, Function.comp_def] using this
      have ht : s.orders.take (i + 1) = s.orders.take i++[x]:=by rw [List.take_add_one, hx];rfl
      simp only [firstFrom, orderErr_new (s.orders.take i) x] at H
      have w1:=refOrder_c x
      generalize newErr x.name ((s.orders.take i).map (·.name)) = e at *
      generalize x.err = e2 at *
      by_cases he : e = 0
      · subst he
        rw [if_pos rfl] at H
        conv=>whnf
        repeat (any_goals (first|exact falseI|((first|refine bd ?_ ?_|refine bn ?_ ?_)<;>intro _<;>first|(exfalso;omega)|conv=>whnf)|((first|refine optP_map hx rfl ?_|refine callP_a hnw ?_|refine callP_a w1 ?_|refine dI ?_|refine okI ?_|refine bt ?_|refine bi (fun _=>?_) (fun _=>?_)|refine bndI ?_|intro _)<;>conv=>whnf)))
        · rename_i h9
          rw [if_pos h9] at H
          (refine ⟨i + 1, ⟨by omega, H⟩, by omega, ?_⟩;(conv=>whnf);refine ⟨?_, ?_, ?_⟩<;>repeat (first|exact trivial|refine sc rfl ?_|refine kn ?_|refine kc rfl ?_|refine sc (by first|(simp only [ht, List.map_append];rfl)|((conv=>lhs;whnf);simp;omega)) ?_|refine kc (by first|(simp only [ht, List.map_append];rfl)|((conv=>lhs;whnf);simp;omega)) ?_))
        · rename_i h9
          rw [if_neg h9] at H
          (refine ⟨⟨?_⟩, trivial⟩;simp [oneOf, triA, intA, H, h9])
      · rw [if_neg he, if_neg he] at H
        conv=>whnf
        repeat (any_goals (first|exact falseI|((first|refine bd ?_ ?_|refine bn ?_ ?_)<;>intro _<;>first|(exfalso;omega)|conv=>whnf)|((first|refine optP_map hx rfl ?_|refine callP_a hnw ?_|refine dI ?_|refine okI ?_|refine bt ?_|refine bi (fun _=>?_) (fun _=>?_)|refine bndI ?_|intro _)<;>conv=>whnf)))
        (refine ⟨⟨?_⟩, trivial⟩;simp [oneOf, triA, intA, H, he])
    · conv=>whnf
      simp only [List.length_map] at h1
      have : i = s.orders.length:=by omega
      subst this
      simp only [List.drop_length, firstFrom] at H
      repeat (any_goals (first|exact falseI|((first|refine bd ?_ ?_|refine bn ?_ ?_)<;>intro _<;>first|(exfalso;omega)|conv=>whnf)|((first|refine dI ?_|refine okI ?_|refine bt ?_|refine bi (fun _=>?_) (fun _=>?_)|refine bndI ?_|intro _)<;>conv=>whnf)))
      (refine ⟨⟨?_⟩, trivial⟩;simp [H, oneOf, triA, intA])
end Go.Proofs.YtbpiibdcncfphaaDoor
namespace Go.Proofs.YtbpiibdcncfphaaDoor
open Go.Am Go.Proofs Go
def Amt.upto (m : Int) (a : Amt) : Prop:=(0 ≤ a.b∧a.b ≤ m)∧(0 ≤ a.t∧a.t ≤ m)∧0 ≤ a.c∧a.c ≤ m
def Head.ok (h : Head) : Prop:=h.wax.upto 40∧0 ≤ h.days∧h.days ≤ 2000
def Order.ok (o : Order) : Prop:=(1 ≤ o.weight∧o.weight ≤ 60)∧(0 ≤ o.tlo∧o.tlo ≤ o.thi∧o.thi ≤ 1000)∧0 ≤ o.clo∧o.clo ≤ o.chi∧o.chi ≤ 1000
structure Store.Good (s : Store) : Prop where
  lots : s.lots.upto 100
  fade : 1 ≤ s.fade∧s.fade ≤ 364
  len : s.heads.length ≤ 6
  heads : ∀ h ∈ s.heads, h.ok
  lenO : s.orders.length ≤ 3
  orders : ∀ o ∈ s.orders, o.ok
theorem firstFrom_zero {α : Type} (g : Nat→α→Int) : ∀ (l : List α) (i : Nat), (firstFrom g i l).2 = 0→∀ j x, l[j]? = some x→g (i + j) x = 0
  | [], i, h, j, x, hx=>by simp at hx
  | y :: l, i, h, j, x, hx=>by
    simp only [firstFrom] at h
    by_cases hy : g i y = 0
    · rw [if_pos hy] at h
      cases j with
      | zero=>simp at hx;subst hx;exact hy
      | succ j =>
        have:=firstFrom_zero g l (i + 1) h j x (by simpa using hx)
        rwa [show i + (j + 1) = i + 1 + j by omega]
    · rw [if_neg hy] at h;exact absurd h hy
theorem outside_iff (a b c : Int) : (outside a b c = false)↔a ≤ c∧c ≤ b:=by
  unfold outside
  simp
theorem Store.good {s : Store} (h : s.check.2.2 = 0) : s.Good:=by
  unfold Store.check at h
  split at h
  · simp at h
  rename_i h1
  split at h
  · simp at h
  rename_i h2
  split at h
  · rename_i h3;exact absurd h h3
  rename_i h3
  split at h
  · simp at h
  rename_i h4
  split at h
  · rename_i h5;exact absurd h h5
  rename_i h5
  simp only [Bool.not_eq_true, Bool.or_eq_false_iff, outside_iff] at h1
  obtain ⟨⟨⟨a1, a2⟩, a3⟩, a4⟩:=h1
  refine ⟨⟨by omega, by omega, by omega⟩, a4, by omega, ?_, by omega, ?_⟩
  · intro x hx
    obtain ⟨i, hi⟩:=List.mem_iff_getElem?.1 hx
    have:=firstFrom_zero _ s.heads 0 (by simpa [Store.headsErr] using h3) i x hi
    unfold headErr at this
    split at this
    · omega
    split at this
    · omega
    split at this
    · omega
    rename_i q
    simp only [Bool.not_eq_true, Bool.or_eq_false_iff, outside_iff] at q
    obtain ⟨⟨⟨a1, a2⟩, a3⟩, a4⟩:=q
    exact ⟨⟨a1, a2, a3⟩, by omega⟩
  · intro x hx
    obtain ⟨i, hi⟩:=List.mem_iff_getElem?.1 hx
    have:=firstFrom_zero _ s.orders 0 (by simpa [Store.ordersErr] using h5) i x hi
    unfold orderErr at this
    split at this
    · omega
    split at this
    · omega
    split at this
    · omega
    rename_i q
    split at this
    · omega
    rename_i q2
    simp only [Bool.not_eq_true, Bool.or_eq_false_iff, outside_iff, decide_eq_false_iff_not] at q q2
    obtain ⟨a1, ⟨⟨a2, a3⟩, a4⟩, a5⟩:=q
    refine ⟨a1, ?_, ?_⟩<;>omega
def Amt.add (a b : Amt) : Amt:=⟨a.b + b.b, a.t + b.t, a.c + b.c⟩
def Amt.weight (a : Amt) : Int:=a.b + a.t + a.c
def big : Int:=10000000000000
def Amt.fit (a : Amt) : Prop:=(-big ≤ a.b∧a.b ≤ big)∧(-big ≤ a.t∧a.t ≤ big)∧-big ≤ a.c∧a.c ≤ big
theorem weight_c (a : Amt) (ha : a.fit) : PureA Tryd.prog 64 [amtA a] (intA a.weight):=by
  obtain ⟨a1, a2, a3⟩:=ha
  unfold big at *
  refine pureA_codeB tabOk { l:=0, f:=64 } mixed call_64 Tryd.func64 (by kernel_rfl) ?_
  conv=>whnf
  repeat (any_goals (first|exact falseI|((first|refine bd ?_ ?_|refine bn ?_ ?_)<;>intro _<;>first|(exfalso;omega)|conv=>whnf)|((first|refine dI ?_|refine okI ?_|refine bt ?_|refine bi (fun _=>?_) (fun _=>?_)|refine bndI ?_|intro _)<;>conv=>whnf)))
  (refine ⟨⟨?_⟩, trivial⟩;rfl)
def Head.faded (h : Head) (fade later : Int) : Int:=min ((h.days + later).tdiv fade) h.wax.c
def Head.melt (h : Head) (fade later : Int) : Amt:=⟨h.wax.b + h.faded fade later, h.wax.t, h.wax.c - h.faded fade later⟩
theorem tdiv_le {a b : Int} (ha : 0 ≤ a) (hb : 1 ≤ b) : 0 ≤ a.tdiv b∧a.tdiv b ≤ a:=by
  rw [Int.tdiv_eq_ediv_of_nonneg ha]
  exact ⟨Int.ediv_nonneg ha (by omega), Int.ediv_le_self _ ha⟩
theorem faded_le {h : Head} {fade later : Int} (hh : h.ok) (hf : 1 ≤ fade) (hl : 0 ≤ later) : 0 ≤ h.faded fade later∧h.faded fade later ≤ h.wax.c:=by
  obtain ⟨⟨a1, a2, a3⟩, a4⟩:=hh
  have hq:=tdiv_le (a:=h.days + later) (by omega) hf
  unfold Head.faded
  omega
def zeroT : Amt:=⟨0, 0, 0⟩
end Go.Proofs.YtbpiibdcncfphaaDoor
namespace Go.Proofs.YtbpiibdcncfphaaDoor
open Go.Am Go.Proofs Go
def kS : Key:=⟨0, 59, 27⟩
def kM : Key:=⟨0, 59, 25⟩
def amtsC : List Amt→List AV
  | []=>[]
  | q :: l=>intA q.b :: intA q.t :: intA q.c :: amtsC l
def ruleC : List AV:=[.agg [intA 1, .func (.func 84) [] []], .agg [intA 2, .func (.func 85) [] []]]
def rulesA : AV:=.slice 2 ruleC .tight
def storeX (s : Store) (w : Int) (m : List Amt) (mp : AV) : AV:=.agg (storeC s++(intA w :: (amtsC m++[rulesA, mp])))
def meltsTo (s : Store) (later : Int) (i : Nat) : List Amt:=(s.heads.take i).map (·.melt s.fade later)++List.replicate (6 - i) zeroT
def Store.melts (s : Store) (later : Int) : List Amt:=meltsTo s later s.heads.length
def sumW : List Order→Int
  | []=>0
  | o :: l=>o.weight + sumW l
theorem sumW_take {l : List Order} {i : Nat} {x : Order} (hx : l[i]? = some x) : sumW (l.take (i + 1)) = sumW (l.take i) + x.weight:=by
  have app : ∀ a b : List Order, sumW (a++b) = sumW a + sumW b:=by
    intro a;induction a with
    | nil=>intro b;simp [sumW]
    | cons y a ih=>intro b;simp [sumW, ih];omega
  have ht : l.take (i + 1) = l.take i++[x]:=by rw [List.take_add_one, hx];rfl
  rw [ht, app]
  simp [sumW]
theorem sumW_le : ∀ (l : List Order), (∀ o ∈ l, o.ok)→0 ≤ sumW l∧sumW l ≤ 60 * l.length
  | [], _=>by simp [sumW]
  | o :: l, h=>by
    have:=sumW_le l fun x hx=>h x (List.mem_cons_of_mem _ hx)
    have:=(h o (List.mem_cons_self ..)).1
    simp only [sumW, List.length_cons]
    omega
theorem list6 {α : Type} {p : List α} (h : p.length = 6) : ∃ a b c d e f, p = [a, b, c, d, e, f] :=
  match p, h with
  | [a, b, c, d, e, f], _=>⟨a, b, c, d, e, f, rfl⟩
theorem lt6 {i : Nat} (h : i < 6) : i = 0∨i = 1∨i = 2∨i = 3∨i = 4∨i = 5:=by omega
theorem meltsTo_len (s : Store) (later : Int) (i : Nat) (h : i ≤ s.heads.length) (h6 : s.heads.length ≤ 6) : (meltsTo s later i).length = 6:=by
  simp [meltsTo];omega
theorem meltsTo_succ (s : Store) (later : Int) (i : Nat) (x : Head) (hx : s.heads[i]? = some x) (h6 : s.heads.length ≤ 6) : (meltsTo s later i).set i (x.melt s.fade later) = meltsTo s later (i + 1):=by
  have hi:=(List.getElem?_eq_some_iff.1 hx).1
  have ht : s.heads.take (i + 1) = s.heads.take i++[x]:=by rw [List.take_add_one, hx];rfl
  have hr : List.replicate (6 - i) zeroT = zeroT :: List.replicate (6 - (i + 1)) zeroT:=by
    rw [show 6 - i = (6 - (i + 1)) + 1 by omega, List.replicate_succ]
  simp only [meltsTo, ht, hr, List.map_append, List.append_assoc, List.map_cons, List.map_nil]
  rw [List.set_append_right _ _ (by simp;omega)]
  simp only [List.length_map, List.length_take, Nat.min_eq_left (Nat.le_of_lt hi), Nat.sub_self, List.set_cons_zero]
  rfl
theorem lookT_c (s : Store) (later : Int) (hr : s.small) (hc : s.check.2.2 = 0) (hl : 0 ≤ later) (hl2 : later ≤ 1000000) : BoxA Tryd.prog (.fn 59) [] [storeA s, intA later] (.tuple [.ptr kS 1 27 0 0, intA 0]) [(kS, 1, 27, [storeX s (sumW s.orders) (s.melts later) (.mp kM 1)]), (kM, 1, 0, [.v (.int .i64 0)])]:=by
  have hg:=Store.good hc
  have hk:=check_c s hr
  unfold triA at hk
  rw [hc] at hk
  have hfd:=hg.fade
  refine boxA_codeB tabOk { l:=0, f:=59 } mixed call_59 Tryd.func59 (by kernel_rfl) ?_
  conv=>whnf
  repeat (any_goals (first|exact falseI|((first|refine bd ?_ ?_|refine bn ?_ ?_)<;>intro _<;>first|(exfalso;omega)|conv=>whnf)|((first|refine callP_a hk ?_|refine dI ?_|refine okI ?_|refine bt ?_|refine bi (fun _=>?_) (fun _=>?_)|refine bndI ?_|intro _)<;>conv=>whnf)))
  refine loopK tabOk { l:=0, f:=59 } mixed (fun i : Nat=>[(37, intA i)]) (fun i=>[(kS, some (1, some (27, [storeX s (sumW (s.orders.take i)) (List.replicate 6 zeroT) (.mp kM 1)])))]) (fun _=>[]) (fun i=>i ≤ s.orders.length) (fun i=>s.orders.length - i) 0 (by kernel_rfl)
    (Nat.zero_le _) ?_
  conv=>whnf
  refine ⟨⟨slotsLe_cons rfl trivial, keysLe_cons rfl trivial, trivial⟩, ?_⟩
  intro i hi
  conv=>whnf
  refine brP_dec (fun h1=>?_) (fun h1=>?_)
  · simp only [List.length_map] at h1
    obtain ⟨x, hx, hd⟩:=drop_cons (l:=s.orders) (i:=i) (by omega)
    have hw:=sumW_take hx
    have hb:=sumW_le (s.orders.take i) fun o ho=>hg.orders o (List.mem_of_mem_take ho)
    have hb2:=(hg.orders x (List.mem_of_getElem? hx)).1
    have hb3:=hg.lenO
    simp only [List.length_take, Nat.min_eq_left hi] at hb
    generalize sumW (s.orders.take i) = y at *
    conv=>whnf
    repeat (any_goals (first|exact falseI|((first|refine bd ?_ ?_|refine bn ?_ ?_)<;>intro _<;>first|(exfalso;omega)|conv=>whnf)|((first|refine optP_map hx rfl ?_|refine dI ?_|refine okI ?_|refine bt ?_|refine bi (fun _=>?_) (fun _=>?_)|refine bndI ?_|intro _)<;>conv=>whnf)))
    (refine ⟨i + 1, (by omega), by omega, ?_⟩;(conv=>whnf);refine ⟨?_, ?_, ?_⟩<;>repeat (first|exact trivial|refine sc rfl ?_|refine kn ?_|refine kc rfl ?_|refine sc (by (rw [hw];rfl)) ?_|refine kc (by (rw [hw];rfl)) ?_))
  · conv=>whnf
    simp only [List.length_map] at h1
    have : i = s.orders.length:=by omega
    subst this
    have hb:=sumW_le s.orders hg.orders
    have hb3:=hg.lenO
    rw [List.take_length]
    generalize sumW s.orders = y at *
    have h6:=hg.len
    repeat (any_goals (first|exact falseI|((first|refine bd ?_ ?_|refine bn ?_ ?_)<;>intro _<;>first|(exfalso;omega)|conv=>whnf)|((first|refine dI ?_|refine okI ?_|refine bt ?_|refine bi (fun _=>?_) (fun _=>?_)|refine bndI ?_|intro _)<;>conv=>whnf)))
    refine loopK tabOk { l:=0, f:=59 } mixed (fun i : Nat=>[(54, intA i)]) (fun i=>[(kS, some (1, some (27, [storeX s y (meltsTo s later i) (.mp kM 1)])))]) (fun _=>[]) (fun i=>i ≤ s.heads.length) (fun i=>s.heads.length - i) 0 (by kernel_rfl)
      (Nat.zero_le _) ?_
    conv=>whnf
    refine ⟨⟨slotsLe_cons rfl trivial, keysLe_cons rfl trivial, trivial⟩, ?_⟩
    intro i hi
    conv=>whnf
    refine brP_dec (fun h1=>?_) (fun h1=>?_)
    · simp only [List.length_map] at h1
      obtain ⟨x, hx, hd⟩:=drop_cons (l:=s.heads) (i:=i) (by omega)
      conv=>whnf
      have hp:=meltsTo_len s later i hi h6
      have hs:=meltsTo_succ s later i x hx h6
      have hok:=hg.heads x (List.mem_of_getElem? hx)
      have hX:=faded_le hok hfd.1 hl
      obtain ⟨⟨a1, a2, a3⟩, a4⟩:=hok
      have hq:=tdiv_le (a:=x.days + later) (by omega) hfd.1
      have hE : x.faded s.fade later = pickM false ((x.days + later).tdiv s.fade) x.wax.c:=by rw [pickM_min, Head.faded]
      unfold Head.melt at hs
      rw [hE] at hX hs
      generalize meltsTo s later i = p at *
      obtain ⟨p0, p1, p2, p3, p4, p5, rfl⟩:=list6 hp
      clear hd hp hk hc hr hg
      rcases lt6 (by omega : i < 6) with rfl|rfl|rfl|rfl|rfl|rfl
      · repeat (any_goals (first|exact falseI|((first|refine bd ?_ ?_|refine bn ?_ ?_)<;>intro _<;>first|(exfalso;omega)|conv=>whnf)|((first|refine optP_map hx rfl ?_|refine dI ?_|refine okI ?_|refine bt ?_|refine bi (fun _=>?_) (fun _=>?_)|refine bndI ?_|intro _)<;>conv=>whnf)))
        (refine ⟨1, (by omega), by omega, ?_⟩;(conv=>whnf);refine ⟨?_, ?_, ?_⟩<;>repeat (first|exact trivial|refine sc rfl ?_|refine kn ?_|refine kc rfl ?_|refine sc (by (rw [← hs];rfl)) ?_|refine kc (by (rw [← hs];rfl)) ?_))
      · repeat (any_goals (first|exact falseI|((first|refine bd ?_ ?_|refine bn ?_ ?_)<;>intro _<;>first|(exfalso;omega)|conv=>whnf)|((first|refine optP_map hx rfl ?_|refine dI ?_|refine okI ?_|refine bt ?_|refine bi (fun _=>?_) (fun _=>?_)|refine bndI ?_|intro _)<;>conv=>whnf)))
        (refine ⟨2, (by omega), by omega, ?_⟩;(conv=>whnf);refine ⟨?_, ?_, ?_⟩<;>repeat (first|exact trivial|refine sc rfl ?_|refine kn ?_|refine kc rfl ?_|refine sc (by (rw [← hs];rfl)) ?_|refine kc (by (rw [← hs];rfl)) ?_))
      · repeat (any_goals (first|exact falseI|((first|refine bd ?_ ?_|refine bn ?_ ?_)<;>intro _<;>first|(exfalso;omega)|conv=>whnf)|((first|refine optP_map hx rfl ?_|refine dI ?_|refine okI ?_|refine bt ?_|refine bi (fun _=>?_) (fun _=>?_)|refine bndI ?_|intro _)<;>conv=>whnf)))
        (refine ⟨3, (by omega), by omega, ?_⟩;(conv=>whnf);refine ⟨?_, ?_, ?_⟩<;>repeat (first|exact trivial|refine sc rfl ?_|refine kn ?_|refine kc rfl ?_|refine sc (by (rw [← hs];rfl)) ?_|refine kc (by (rw [← hs];rfl)) ?_))
      · repeat (any_goals (first|exact falseI|((first|refine bd ?_ ?_|refine bn ?_ ?_)<;>intro _<;>first|(exfalso;omega)|conv=>whnf)|((first|refine optP_map hx rfl ?_|refine dI ?_|refine okI ?_|refine bt ?_|refine bi (fun _=>?_) (fun _=>?_)|refine bndI ?_|intro _)<;>conv=>whnf)))
        (refine ⟨4, (by omega), by omega, ?_⟩;(conv=>whnf);refine ⟨?_, ?_, ?_⟩<;>repeat (first|exact trivial|refine sc rfl ?_|refine kn ?_|refine kc rfl ?_|refine sc (by (rw [← hs];rfl)) ?_|refine kc (by (rw [← hs];rfl)) ?_))
      · repeat (any_goals (first|exact falseI|((first|refine bd ?_ ?_|refine bn ?_ ?_)<;>intro _<;>first|(exfalso;omega)|conv=>whnf)|((first|refine optP_map hx rfl ?_|refine dI ?_|refine okI ?_|refine bt ?_|refine bi (fun _=>?_) (fun _=>?_)|refine bndI ?_|intro _)<;>conv=>whnf)))
        (refine ⟨5, (by omega), by omega, ?_⟩;(conv=>whnf);refine ⟨?_, ?_, ?_⟩<;>repeat (first|exact trivial|refine sc rfl ?_|refine kn ?_|refine kc rfl ?_|refine sc (by (rw [← hs];rfl)) ?_|refine kc (by (rw [← hs];rfl)) ?_))
      · repeat (any_goals (first|exact falseI|((first|refine bd ?_ ?_|refine bn ?_ ?_)<;>intro _<;>first|(exfalso;omega)|conv=>whnf)|((first|refine optP_map hx rfl ?_|refine dI ?_|refine okI ?_|refine bt ?_|refine bi (fun _=>?_) (fun _=>?_)|refine bndI ?_|intro _)<;>conv=>whnf)))
        (refine ⟨6, (by omega), by omega, ?_⟩;(conv=>whnf);refine ⟨?_, ?_, ?_⟩<;>repeat (first|exact trivial|refine sc rfl ?_|refine kn ?_|refine kc rfl ?_|refine sc (by (rw [← hs];rfl)) ?_|refine kc (by (rw [← hs];rfl)) ?_))
    · conv=>whnf
      simp only [List.length_map] at h1
      have : i = s.heads.length:=by omega
      subst this
      refine And.intro ?_ ?_
      · conv=>whnf
        refine ⟨⟨?_⟩, trivial⟩
        rfl
      · repeat (first|exact trivial|refine And.intro rfl ?_|refine And.intro (by skip) ?_)
def nilPtr : AV:=.v (.pointer none)
theorem lookF_c (s : Store) (later : Int) (hr : s.small) (hc : s.check.2.2 ≠ 0) : BoxA Tryd.prog (.fn 59) [] [storeA s, intA later] (.tuple [nilPtr, intA s.check.2.2]) []:=by
  have hk:=check_c s hr
  unfold triA at hk
  generalize s.check = c at *
  obtain ⟨c1, c2, c3⟩:=c
  refine boxA_codeB tabOk { l:=0, f:=59 } mixed call_59 Tryd.func59 (by kernel_rfl) ?_
  conv=>whnf
  repeat (any_goals (first|exact falseI|((first|refine bd ?_ ?_|refine bn ?_ ?_)<;>intro _<;>first|(exfalso;omega)|conv=>whnf)|((first|refine callP_a hk ?_|refine dI ?_|refine okI ?_|refine bt ?_|refine bi (fun _=>?_) (fun _=>?_)|refine bndI ?_|intro _)<;>conv=>whnf)))
  refine And.intro ?_ ?_
  · conv=>whnf
    refine ⟨⟨?_⟩, trivial⟩
    rfl
  · repeat (first|exact trivial|refine And.intro rfl ?_|refine And.intro (by skip) ?_)
end Go.Proofs.YtbpiibdcncfphaaDoor
namespace Go.Proofs.YtbpiibdcncfphaaDoor
open Go.Am Go.Proofs Go
def rulesN : AV:=.slice 2 ruleC .no
def lookR (s : Store) (w : Int) (m : List Amt) : AV:=.cptr (storeC s++(intA w :: (amtsC m++[rulesN, .junk])))
def storeY (s : Store) (w : Int) (m : List Amt) (mp : AV) : AV:=.agg (storeC s++(intA w :: (amtsC m++[rulesN, mp])))
def kst : Nat→Amt→Amt→Amt
  | 0, k, _=>k
  | 1, k, a=>⟨k.b + a.b, k.t, k.c⟩
  | 2, k, a=>⟨k.b + a.b, k.t + a.t, k.c⟩
  | _, k, a=>k.add a
theorem lt3 {i : Nat} (h : i < 3) : i = 0∨i = 1∨i = 2:=by omega
def sumL (m : List Amt) (k : Amt) (l : List Int) : Amt:=l.foldl (fun k h=>k.add (m.getD h.toNat zeroT)) k
def Amt.abs (m : Int) (a : Amt) : Prop:=(-m ≤ a.b∧a.b ≤ m)∧(-m ≤ a.t∧a.t ≤ m)∧-m ≤ a.c∧a.c ≤ m
theorem sumL_take {m : List Amt} {k : Amt} {l : List Int} {i : Nat} {x : Int} (hx : l[i]? = some x) : sumL m k (l.take (i + 1)) = (sumL m k (l.take i)).add (m.getD x.toNat zeroT):=by
  have ht : l.take (i + 1) = l.take i++[x]:=by rw [List.take_add_one, hx];rfl
  rw [ht];simp [sumL]
theorem zeroT_abs (n : Int) (h : 0 ≤ n) : zeroT.abs n:=by unfold Amt.abs zeroT;simp;omega
theorem getD_abs {m : List Amt} {n : Int} (h : ∀ a ∈ m, a.abs n) (h0 : 0 ≤ n) (i : Nat) : (m.getD i zeroT).abs n:=by
  rw [List.getD_eq_getElem?_getD]
  cases hx : m[i]? with
  | none=>exact zeroT_abs n h0
  | some a=>exact h a (List.mem_of_getElem? hx)
theorem sumL_abs {m : List Amt} {n N : Int} (h : ∀ a ∈ m, a.abs n) (h0 : 0 ≤ n) : ∀ (l : List Int) (k : Amt), k.abs N→(sumL m k l).abs (N + n * l.length)
  | [], k, hk=>by simpa [sumL] using hk
  | x :: l, k, hk=>by
    have h1:=getD_abs h h0 x.toNat
    have h2 : (k.add (m.getD x.toNat zeroT)).abs (N + n):=by
      unfold Amt.abs Amt.add at *
      simp only
      omega
    have:=sumL_abs h h0 l _ h2
    rw [show N + n * ((x :: l).length : Int) = N + n + n * (l.length : Int) by simp only [List.length_cons, Int.natCast_add, Int.mul_add];omega]
    exact this
set_option maxHeartbeats 1000000 in
theorem wsum_c (s : Store) (w : Int) (m : List Amt) (k : Amt) (l : List Int) (hm : m.length = 6) (ha : ∀ a ∈ m, a.abs 1000000) (hk : k.abs 1000000) (hl : ∀ x ∈ l, 0 ≤ x∧x < 6) (hll : l.length ≤ 1048576) :
    PureA Tryd.prog 70 [lookR s w m, amtA k, intsA l] (amtA (sumL m k l)):=by
  have hab:=fun i=>sumL_abs ha (by omega) (l.take i) k hk
  have hmb:=fun i=>getD_abs ha (by omega) i
  have ht : sumL m k l = sumL m k (l.take l.length):=by rw [List.take_length]
  have ht0 : k = sumL m k (l.take 0):=rfl
  have hst:=fun i x (hx : l[i]? = some x)=>sumL_take (m:=m) (k:=k) hx
  rw [ht]
  generalize hf : (fun i=>sumL m k (l.take i)) = f at *
  have hf' : ∀ i, sumL m k (l.take i) = f i:=fun i=>by rw [← hf]
  simp only [hf'] at *
  clear hf hf' ht
  rw [ht0]
  clear hk ht0
  obtain ⟨p0, p1, p2, p3, p4, p5, rfl⟩:=list6 hm
  clear ha hm
  refine pureA_codeB tabOk { l:=0, f:=70 } mixed call_70 Tryd.func70 (by kernel_rfl) ?_
  conv=>whnf
  refine loopK tabOk { l:=0, f:=70 } mixed (fun i : Nat=>[(13, intA i)]) (fun i=>[(⟨0, 70, 4⟩, some (1, some (3, [amtA (f i)])))]) (fun _=>[]) (fun i=>i ≤ l.length) (fun i=>l.length - i) 0 (by kernel_rfl)
    (Nat.zero_le _) ?_
  conv=>whnf
  refine ⟨⟨slotsLe_cons rfl trivial, keysLe_cons rfl trivial, trivial⟩, ?_⟩
  intro i hi
  conv=>whnf
  refine brP_dec (fun h1=>?_) (fun h1=>?_)
  · simp only [List.length_map] at h1
    obtain ⟨x, hx, hd⟩:=drop_cons (l:=l) (i:=i) (by omega)
    obtain ⟨hx0, hx6⟩:=hl x (List.mem_of_getElem? hx)
    have hb1:=hab i
    have hb2:=hmb x.toNat
    have hs:=hst i x hx
    simp only [List.length_take, Nat.min_eq_left hi] at hb1
    unfold Amt.abs at hb1 hb2
    have hx' : l[i]? = some ((x.toNat : Nat) : Int):=by rw [hx];congr 1;omega
    have hxl : x.toNat < 6:=by omega
    clear hab hmb hst hl hd hx hx0 hx6
    generalize f i = y at *
    generalize x.toNat = n at *
    conv=>whnf
    rcases lt6 hxl with rfl|rfl|rfl|rfl|rfl|rfl
    · simp only [List.getD_cons_zero, List.getD_cons_succ] at hb2 hs
      repeat (any_goals (first|exact falseI|((first|refine bd ?_ ?_|refine bn ?_ ?_)<;>intro _<;>first|(exfalso;omega)|conv=>whnf)|((first|refine optP_map hx' rfl ?_|refine dI ?_|refine okI ?_|refine bt ?_|refine bi (fun _=>?_) (fun _=>?_)|refine bndI ?_|intro _)<;>conv=>whnf)))
      have e0 : (kst 0 y p0).b = y.b:=rfl
      have e1 : (kst 1 y p0).t = y.t:=rfl
      have e2 : (kst 2 y p0).c = y.c:=rfl
      refine loopK tabOk { l:=0, f:=70 } mixed (fun j : Nat=>[(23, intA j)]) (fun j=>[(⟨0, 70, 4⟩, some (1, some (3, [amtA (kst j y p0)])))]) (fun _=>[]) (fun j=>j ≤ 3) (fun j=>3 - j) 0 (by kernel_rfl)
        (Nat.zero_le _) ?_
      conv=>whnf
      refine ⟨⟨slotsLe_cons rfl trivial, keysLe_cons rfl trivial, trivial⟩, ?_⟩
      intro j hj
      conv=>whnf
      refine brP_dec (fun h1=>?_) (fun h1=>?_)
      · rcases lt3 (by omega : j < 3) with rfl|rfl|rfl
        · conv=>whnf
          repeat (any_goals (first|exact falseI|((first|refine bd ?_ ?_|refine bn ?_ ?_)<;>intro _<;>first|(exfalso;omega)|conv=>whnf)|((first|refine dI ?_|refine okI ?_|refine bt ?_|refine bi (fun _=>?_) (fun _=>?_)|refine bndI ?_|intro _)<;>conv=>whnf)))
          (refine ⟨1, (by omega), by omega, ?_⟩;(conv=>whnf);refine ⟨?_, ?_, ?_⟩<;>repeat (first|exact trivial|refine sc rfl ?_|refine kn ?_|refine kc rfl ?_))
        · conv=>whnf
          repeat (any_goals (first|exact falseI|((first|refine bd ?_ ?_|refine bn ?_ ?_)<;>intro _<;>first|(exfalso;omega)|conv=>whnf)|((first|refine dI ?_|refine okI ?_|refine bt ?_|refine bi (fun _=>?_) (fun _=>?_)|refine bndI ?_|intro _)<;>conv=>whnf)))
          (refine ⟨2, (by omega), by omega, ?_⟩;(conv=>whnf);refine ⟨?_, ?_, ?_⟩<;>repeat (first|exact trivial|refine sc rfl ?_|refine kn ?_|refine kc rfl ?_))
        · conv=>whnf
          repeat (any_goals (first|exact falseI|((first|refine bd ?_ ?_|refine bn ?_ ?_)<;>intro _<;>first|(exfalso;omega)|conv=>whnf)|((first|refine dI ?_|refine okI ?_|refine bt ?_|refine bi (fun _=>?_) (fun _=>?_)|refine bndI ?_|intro _)<;>conv=>whnf)))
          (refine ⟨3, (by omega), by omega, ?_⟩;(conv=>whnf);refine ⟨?_, ?_, ?_⟩<;>repeat (first|exact trivial|refine sc rfl ?_|refine kn ?_|refine kc rfl ?_))
      · have : j = 3:=by omega
        subst this
        conv=>whnf
        repeat (any_goals (first|exact falseI|((first|refine bd ?_ ?_|refine bn ?_ ?_)<;>intro _<;>first|(exfalso;omega)|conv=>whnf)|((first|refine dI ?_|refine okI ?_|refine bt ?_|refine bi (fun _=>?_) (fun _=>?_)|refine bndI ?_|intro _)<;>conv=>whnf)))
        (refine ⟨i + 1, (by omega), by omega, ?_⟩;(conv=>whnf);refine ⟨?_, ?_, ?_⟩<;>repeat (first|exact trivial|refine sc rfl ?_|refine kn ?_|refine kc rfl ?_|refine sc (by (rw [hs];rfl)) ?_|refine kc (by (rw [hs];rfl)) ?_))
    · simp only [List.getD_cons_zero, List.getD_cons_succ] at hb2 hs
      repeat (any_goals (first|exact falseI|((first|refine bd ?_ ?_|refine bn ?_ ?_)<;>intro _<;>first|(exfalso;omega)|conv=>whnf)|((first|refine optP_map hx' rfl ?_|refine dI ?_|refine okI ?_|refine bt ?_|refine bi (fun _=>?_) (fun _=>?_)|refine bndI ?_|intro _)<;>conv=>whnf)))
      have e0 : (kst 0 y p1).b = y.b:=rfl
      have e1 : (kst 1 y p1).t = y.t:=rfl
      have e2 : (kst 2 y p1).c = y.c:=rfl
      refine loopK tabOk { l:=0, f:=70 } mixed (fun j : Nat=>[(23, intA j)]) (fun j=>[(⟨0, 70, 4⟩, some (1, some (3, [amtA (kst j y p1)])))]) (fun _=>[]) (fun j=>j ≤ 3) (fun j=>3 - j) 0 (by kernel_rfl)
        (Nat.zero_le _) ?_
      conv=>whnf
      refine ⟨⟨slotsLe_cons rfl trivial, keysLe_cons rfl trivial, trivial⟩, ?_⟩
      intro j hj
      conv=>whnf
      refine brP_dec (fun h1=>?_) (fun h1=>?_)
      · rcases lt3 (by omega : j < 3) with rfl|rfl|rfl
        · conv=>whnf
          repeat (any_goals (first|exact falseI|((first|refine bd ?_ ?_|refine bn ?_ ?_)<;>intro _<;>first|(exfalso;omega)|conv=>whnf)|((first|refine dI ?_|refine okI ?_|refine bt ?_|refine bi (fun _=>?_) (fun _=>?_)|refine bndI ?_|intro _)<;>conv=>whnf)))
          (refine ⟨1, (by omega), by omega, ?_⟩;(conv=>whnf);refine ⟨?_, ?_, ?_⟩<;>repeat (first|exact trivial|refine sc rfl ?_|refine kn ?_|refine kc rfl ?_))
        · conv=>whnf
          repeat (any_goals (first|exact falseI|((first|refine bd ?_ ?_|refine bn ?_ ?_)<;>intro _<;>first|(exfalso;omega)|conv=>whnf)|((first|refine dI ?_|refine okI ?_|refine bt ?_|refine bi (fun _=>?_) (fun _=>?_)|refine bndI ?_|intro _)<;>conv=>whnf)))
          (refine ⟨2, (by omega), by omega, ?_⟩;(conv=>whnf);refine ⟨?_, ?_, ?_⟩<;>repeat (first|exact trivial|refine sc rfl ?_|refine kn ?_|refine kc rfl ?_))
        · conv=>whnf
          repeat (any_goals (first|exact falseI|((first|refine bd ?_ ?_|refine bn ?_ ?_)<;>intro _<;>first|(exfalso;omega)|conv=>whnf)|((first|refine dI ?_|refine okI ?_|refine bt ?_|refine bi (fun _=>?_) (fun _=>?_)|refine bndI ?_|intro _)<;>conv=>whnf)))
          (refine ⟨3, (by omega), by omega, ?_⟩;(conv=>whnf);refine ⟨?_, ?_, ?_⟩<;>repeat (first|exact trivial|refine sc rfl ?_|refine kn ?_|refine kc rfl ?_))
      · have : j = 3:=by omega
        subst this
        conv=>whnf
        repeat (any_goals (first|exact falseI|((first|refine bd ?_ ?_|refine bn ?_ ?_)<;>intro _<;>first|(exfalso;omega)|conv=>whnf)|((first|refine dI ?_|refine okI ?_|refine bt ?_|refine bi (fun _=>?_) (fun _=>?_)|refine bndI ?_|intro _)<;>conv=>whnf)))
        (refine ⟨i + 1, (by omega), by omega, ?_⟩;(conv=>whnf);refine ⟨?_, ?_, ?_⟩<;>repeat (first|exact trivial|refine sc rfl ?_|refine kn ?_|refine kc rfl ?_|refine sc (by (rw [hs];rfl)) ?_|refine kc (by (rw [hs];rfl)) ?_))
    · simp only [List.getD_cons_zero, List.getD_cons_succ] at hb2 hs
      repeat (any_goals (first|exact falseI|((first|refine bd ?_ ?_|refine bn ?_ ?_)<;>intro _<;>first|(exfalso;omega)|conv=>whnf)|((first|refine optP_map hx' rfl ?_|refine dI ?_|refine okI ?_|refine bt ?_|refine bi (fun _=>?_) (fun _=>?_)|refine bndI ?_|intro _)<;>conv=>whnf)))
      have e0 : (kst 0 y p2).b = y.b:=rfl
      have e1 : (kst 1 y p2).t = y.t:=rfl
      have e2 : (kst 2 y p2).c = y.c:=rfl
      refine loopK tabOk { l:=0, f:=70 } mixed (fun j : Nat=>[(23, intA j)]) (fun j=>[(⟨0, 70, 4⟩, some (1, some (3, [amtA (kst j y p2)])))]) (fun _=>[]) (fun j=>j ≤ 3) (fun j=>3 - j) 0 (by kernel_rfl)
        (Nat.zero_le _) ?_
      conv=>whnf
      refine ⟨⟨slotsLe_cons rfl trivial, keysLe_cons rfl trivial, trivial⟩, ?_⟩
      intro j hj
      conv=>whnf
      refine brP_dec (fun h1=>?_) (fun h1=>?_)
      · rcases lt3 (by omega : j < 3) with rfl|rfl|rfl
        · conv=>whnf
          repeat (any_goals (first|exact falseI|((first|refine bd ?_ ?_|refine bn ?_ ?_)<;>intro _<;>first|(exfalso;omega)|conv=>whnf)|((first|refine dI ?_|refine okI ?_|refine bt ?_|refine bi (fun _=>?_) (fun _=>?_)|refine bndI ?_|intro _)<;>conv=>whnf)))
          (refine ⟨1, (by omega), by omega, ?_⟩;(conv=>whnf);refine ⟨?_, ?_, ?_⟩<;>repeat (first|exact trivial|refine sc rfl ?_|refine kn ?_|refine kc rfl ?_))
        · conv=>whnf
          repeat (any_goals (first|exact falseI|((first|refine bd ?_ ?_|refine bn ?_ ?_)<;>intro _<;>first|(exfalso;omega)|conv=>whnf)|((first|refine dI ?_|refine okI ?_|refine bt ?_|refine bi (fun _=>?_) (fun _=>?_)|refine bndI ?_|intro _)<;>conv=>whnf)))
          (refine ⟨2, (by omega), by omega, ?_⟩;(conv=>whnf);refine ⟨?_, ?_, ?_⟩<;>repeat (first|exact trivial|refine sc rfl ?_|refine kn ?_|refine kc rfl ?_))
        · conv=>whnf
          repeat (any_goals (first|exact falseI|((first|refine bd ?_ ?_|refine bn ?_ ?_)<;>intro _<;>first|(exfalso;omega)|conv=>whnf)|((first|refine dI ?_|refine okI ?_|refine bt ?_|refine bi (fun _=>?_) (fun _=>?_)|refine bndI ?_|intro _)<;>conv=>whnf)))
          (refine ⟨3, (by omega), by omega, ?_⟩;(conv=>whnf);refine ⟨?_, ?_, ?_⟩<;>repeat (first|exact trivial|refine sc rfl ?_|refine kn ?_|refine kc rfl ?_))
      · have : j = 3:=by omega
        subst this
        conv=>whnf
        repeat (any_goals (first|exact falseI|((first|refine bd ?_ ?_|refine bn ?_ ?_)<;>intro _<;>first|(exfalso;omega)|conv=>whnf)|((first|refine dI ?_|refine okI ?_|refine bt ?_|refine bi (fun _=>?_) (fun _=>?_)|refine bndI ?_|intro _)<;>conv=>whnf)))
        (refine ⟨i + 1, (by omega), by omega, ?_⟩;(conv=>whnf);refine ⟨?_, ?_, ?_⟩<;>repeat (first|exact trivial|refine sc rfl ?_|refine kn ?_|refine kc rfl ?_|refine sc (by (rw [hs];rfl)) ?_|refine kc (by (rw [hs];rfl)) ?_))
    · simp only [List.getD_cons_zero, List.getD_cons_succ] at hb2 hs
      repeat (any_goals (first|exact falseI|((first|refine bd ?_ ?_|refine bn ?_ ?_)<;>intro _<;>first|(exfalso;omega)|conv=>whnf)|((first|refine optP_map hx' rfl ?_|refine dI ?_|refine okI ?_|refine bt ?_|refine bi (fun _=>?_) (fun _=>?_)|refine bndI ?_|intro _)<;>conv=>whnf)))
      have e0 : (kst 0 y p3).b = y.b:=rfl
      have e1 : (kst 1 y p3).t = y.t:=rfl
      have e2 : (kst 2 y p3).c = y.c:=rfl
      refine loopK tabOk { l:=0, f:=70 } mixed (fun j : Nat=>[(23, intA j)]) (fun j=>[(⟨0, 70, 4⟩, some (1, some (3, [amtA (kst j y p3)])))]) (fun _=>[]) (fun j=>j ≤ 3) (fun j=>3 - j) 0 (by kernel_rfl)
        (Nat.zero_le _) ?_
      conv=>whnf
      refine ⟨⟨slotsLe_cons rfl trivial, keysLe_cons rfl trivial, trivial⟩, ?_⟩
      intro j hj
      conv=>whnf
      refine brP_dec (fun h1=>?_) (fun h1=>?_)
      · rcases lt3 (by omega : j < 3) with rfl|rfl|rfl
        · conv=>whnf
          repeat (any_goals (first|exact falseI|((first|refine bd ?_ ?_|refine bn ?_ ?_)<;>intro _<;>first|(exfalso;omega)|conv=>whnf)|((first|refine dI ?_|refine okI ?_|refine bt ?_|refine bi (fun _=>?_) (fun _=>?_)|refine bndI ?_|intro _)<;>conv=>whnf)))
          (refine ⟨1, (by omega), by omega, ?_⟩;(conv=>whnf);refine ⟨?_, ?_, ?_⟩<;>repeat (first|exact trivial|refine sc rfl ?_|refine kn ?_|refine kc rfl ?_))
        · conv=>whnf
          repeat (any_goals (first|exact falseI|((first|refine bd ?_ ?_|refine bn ?_ ?_)<;>intro _<;>first|(exfalso;omega)|conv=>whnf)|((first|refine dI ?_|refine okI ?_|refine bt ?_|refine bi (fun _=>?_) (fun _=>?_)|refine bndI ?_|intro _)<;>conv=>whnf)))
          (refine ⟨2, (by omega), by omega, ?_⟩;(conv=>whnf);refine ⟨?_, ?_, ?_⟩<;>repeat (first|exact trivial|refine sc rfl ?_|refine kn ?_|refine kc rfl ?_))
        · conv=>whnf
          repeat (any_goals (first|exact falseI|((first|refine bd ?_ ?_|refine bn ?_ ?_)<;>intro _<;>first|(exfalso;omega)|conv=>whnf)|((first|refine dI ?_|refine okI ?_|refine bt ?_|refine bi (fun _=>?_) (fun _=>?_)|refine bndI ?_|intro _)<;>conv=>whnf)))
          (refine ⟨3, (by omega), by omega, ?_⟩;(conv=>whnf);refine ⟨?_, ?_, ?_⟩<;>repeat (first|exact trivial|refine sc rfl ?_|refine kn ?_|refine kc rfl ?_))
      · have : j = 3:=by omega
        subst this
        conv=>whnf
        repeat (any_goals (first|exact falseI|((first|refine bd ?_ ?_|refine bn ?_ ?_)<;>intro _<;>first|(exfalso;omega)|conv=>whnf)|((first|refine dI ?_|refine okI ?_|refine bt ?_|refine bi (fun _=>?_) (fun _=>?_)|refine bndI ?_|intro _)<;>conv=>whnf)))
        (refine ⟨i + 1, (by omega), by omega, ?_⟩;(conv=>whnf);refine ⟨?_, ?_, ?_⟩<;>repeat (first|exact trivial|refine sc rfl ?_|refine kn ?_|refine kc rfl ?_|refine sc (by (rw [hs];rfl)) ?_|refine kc (by (rw [hs];rfl)) ?_))
    · simp only [List.getD_cons_zero, List.getD_cons_succ] at hb2 hs
      repeat (any_goals (first|exact falseI|((first|refine bd ?_ ?_|refine bn ?_ ?_)<;>intro _<;>first|(exfalso;omega)|conv=>whnf)|((first|refine optP_map hx' rfl ?_|refine dI ?_|refine okI ?_|refine bt ?_|refine bi (fun _=>?_) (fun _=>?_)|refine bndI ?_|intro _)<;>conv=>whnf)))
      have e0 : (kst 0 y p4).b = y.b:=rfl
      have e1 : (kst 1 y p4).t = y.t:=rfl
      have e2 : (kst 2 y p4).c = y.c:=rfl
      refine loopK tabOk { l:=0, f:=70 } mixed (fun j : Nat=>[(23, intA j)]) (fun j=>[(⟨0, 70, 4⟩, some (1, some (3, [amtA (kst j y p4)])))]) (fun _=>[]) (fun j=>j ≤ 3) (fun j=>3 - j) 0 (by kernel_rfl)
        (Nat.zero_le _) ?_
      conv=>whnf
      refine ⟨⟨slotsLe_cons rfl trivial, keysLe_cons rfl trivial, trivial⟩, ?_⟩
      intro j hj
      conv=>whnf
      refine brP_dec (fun h1=>?_) (fun h1=>?_)
      · rcases lt3 (by omega : j < 3) with rfl|rfl|rfl
        · conv=>whnf
          repeat (any_goals (first|exact falseI|((first|refine bd ?_ ?_|refine bn ?_ ?_)<;>intro _<;>first|(exfalso;omega)|conv=>whnf)|((first|refine dI ?_|refine okI ?_|refine bt ?_|refine bi (fun _=>?_) (fun _=>?_)|refine bndI ?_|intro _)<;>conv=>whnf)))
          (refine ⟨1, (by omega), by omega, ?_⟩;(conv=>whnf);refine ⟨?_, ?_, ?_⟩<;>repeat (first|exact trivial|refine sc rfl ?_|refine kn ?_|refine kc rfl ?_))
        · conv=>whnf
          repeat (any_goals (first|exact falseI|((first|refine bd ?_ ?_|refine bn ?_ ?_)<;>intro _<;>first|(exfalso;omega)|conv=>whnf)|((first|refine dI ?_|refine okI ?_|refine bt ?_|refine bi (fun _=>?_) (fun _=>?_)|refine bndI ?_|intro _)<;>conv=>whnf)))
          (refine ⟨2, (by omega), by omega, ?_⟩;(conv=>whnf);refine ⟨?_, ?_, ?_⟩<;>repeat (first|exact trivial|refine sc rfl ?_|refine kn ?_|refine kc rfl ?_))
        · conv=>whnf
          repeat (any_goals (first|exact falseI|((first|refine bd ?_ ?_|refine bn ?_ ?_)<;>intro _<;>first|(exfalso;omega)|conv=>whnf)|((first|refine dI ?_|refine okI ?_|refine bt ?_|refine bi (fun _=>?_) (fun _=>?_)|refine bndI ?_|intro _)<;>conv=>whnf)))
          (refine ⟨3, (by omega), by omega, ?_⟩;(conv=>whnf);refine ⟨?_, ?_, ?_⟩<;>repeat (first|exact trivial|refine sc rfl ?_|refine kn ?_|refine kc rfl ?_))
      · have : j = 3:=by omega
        subst this
        conv=>whnf
        repeat (any_goals (first|exact falseI|((first|refine bd ?_ ?_|refine bn ?_ ?_)<;>intro _<;>first|(exfalso;omega)|conv=>whnf)|((first|refine dI ?_|refine okI ?_|refine bt ?_|refine bi (fun _=>?_) (fun _=>?_)|refine bndI ?_|intro _)<;>conv=>whnf)))
        (refine ⟨i + 1, (by omega), by omega, ?_⟩;(conv=>whnf);refine ⟨?_, ?_, ?_⟩<;>repeat (first|exact trivial|refine sc rfl ?_|refine kn ?_|refine kc rfl ?_|refine sc (by (rw [hs];rfl)) ?_|refine kc (by (rw [hs];rfl)) ?_))
    · simp only [List.getD_cons_zero, List.getD_cons_succ] at hb2 hs
      repeat (any_goals (first|exact falseI|((first|refine bd ?_ ?_|refine bn ?_ ?_)<;>intro _<;>first|(exfalso;omega)|conv=>whnf)|((first|refine optP_map hx' rfl ?_|refine dI ?_|refine okI ?_|refine bt ?_|refine bi (fun _=>?_) (fun _=>?_)|refine bndI ?_|intro _)<;>conv=>whnf)))
      have e0 : (kst 0 y p5).b = y.b:=rfl
      have e1 : (kst 1 y p5).t = y.t:=rfl
      have e2 : (kst 2 y p5).c = y.c:=rfl
      refine loopK tabOk { l:=0, f:=70 } mixed (fun j : Nat=>[(23, intA j)]) (fun j=>[(⟨0, 70, 4⟩, some (1, some (3, [amtA (kst j y p5)])))]) (fun _=>[]) (fun j=>j ≤ 3) (fun j=>3 - j) 0 (by kernel_rfl)
        (Nat.zero_le _) ?_
      conv=>whnf
      refine ⟨⟨slotsLe_cons rfl trivial, keysLe_cons rfl trivial, trivial⟩, ?_⟩
      intro j hj
      conv=>whnf
      refine brP_dec (fun h1=>?_) (fun h1=>?_)
      · rcases lt3 (by omega : j < 3) with rfl|rfl|rfl
        · conv=>whnf
          repeat (any_goals (first|exact falseI|((first|refine bd ?_ ?_|refine bn ?_ ?_)<;>intro _<;>first|(exfalso;omega)|conv=>whnf)|((first|refine dI ?_|refine okI ?_|refine bt ?_|refine bi (fun _=>?_) (fun _=>?_)|refine bndI ?_|intro _)<;>conv=>whnf)))
          (refine ⟨1, (by omega), by omega, ?_⟩;(conv=>whnf);refine ⟨?_, ?_, ?_⟩<;>repeat (first|exact trivial|refine sc rfl ?_|refine kn ?_|refine kc rfl ?_))
        · conv=>whnf
          repeat (any_goals (first|exact falseI|((first|refine bd ?_ ?_|refine bn ?_ ?_)<;>intro _<;>first|(exfalso;omega)|conv=>whnf)|((first|refine dI ?_|refine okI ?_|refine bt ?_|refine bi (fun _=>?_) (fun _=>?_)|refine bndI ?_|intro _)<;>conv=>whnf)))
          (refine ⟨2, (by omega), by omega, ?_⟩;(conv=>whnf);refine ⟨?_, ?_, ?_⟩<;>repeat (first|exact trivial|refine sc rfl ?_|refine kn ?_|refine kc rfl ?_))
        · conv=>whnf
          repeat (any_goals (first|exact falseI|((first|refine bd ?_ ?_|refine bn ?_ ?_)<;>intro _<;>first|(exfalso;omega)|conv=>whnf)|((first|refine dI ?_|refine okI ?_|refine bt ?_|refine bi (fun _=>?_) (fun _=>?_)|refine bndI ?_|intro _)<;>conv=>whnf)))
          (refine ⟨3, (by omega), by omega, ?_⟩;(conv=>whnf);refine ⟨?_, ?_, ?_⟩<;>repeat (first|exact trivial|refine sc rfl ?_|refine kn ?_|refine kc rfl ?_))
      · have : j = 3:=by omega
        subst this
        conv=>whnf
        repeat (any_goals (first|exact falseI|((first|refine bd ?_ ?_|refine bn ?_ ?_)<;>intro _<;>first|(exfalso;omega)|conv=>whnf)|((first|refine dI ?_|refine okI ?_|refine bt ?_|refine bi (fun _=>?_) (fun _=>?_)|refine bndI ?_|intro _)<;>conv=>whnf)))
        (refine ⟨i + 1, (by omega), by omega, ?_⟩;(conv=>whnf);refine ⟨?_, ?_, ?_⟩<;>repeat (first|exact trivial|refine sc rfl ?_|refine kn ?_|refine kc rfl ?_|refine sc (by (rw [hs];rfl)) ?_|refine kc (by (rw [hs];rfl)) ?_))
  · conv=>whnf
    simp only [List.length_map] at h1
    have : i = l.length:=by omega
    subst this
    repeat (any_goals (first|exact falseI|((first|refine bd ?_ ?_|refine bn ?_ ?_)<;>intro _<;>first|(exfalso;omega)|conv=>whnf)|((first|refine dI ?_|refine okI ?_|refine bt ?_|refine bi (fun _=>?_) (fun _=>?_)|refine bndI ?_|intro _)<;>conv=>whnf)))
    (refine ⟨⟨?_⟩, trivial⟩;rfl)
def Store.badL (s : Store) : Option Int→List Int→Bool
  | _, []=>false
  | p, h :: l=>((match p with|none=>false|some q=>decide (h ≤ q)) || (match s.heads[h.toNat]? with|none=>false|some y=>y.kept)) || s.badL (some h) l
def prevAt (l : List Int) : Nat→Option Int
  | 0=>none
  | j + 1=>l[j]?
def addFrom (b1 b2 b3 : Bool) : Nat→Bool
  | 0=>b1 || (b2 || b3)
  | 1=>b2 || b3
  | 2=>b3
  | _=>false
def Store.entErr (s : Store) (l : List Int) (add : Amt) : Int :=
  if s.check.2.2 ≠ 0 then s.check.2.2 else if l.any (outside 0 (s.heads.length - 1)) = true then 4 else if s.badL none l = true then 2 else if addFrom (outside 0 s.lots.b add.b) (outside 0 s.lots.t add.t) (outside 0 s.lots.c add.c) 0 = true then 7 else 0
theorem melts_abs {s : Store} {later : Int} (hg : s.Good) (hl : 0 ≤ later) : ∀ a ∈ s.melts later, a.abs 1000000:=by
  intro a ha
  simp only [Store.melts, meltsTo, List.take_length, List.mem_append, List.mem_map, List.mem_replicate] at ha
  rcases ha with ⟨h, hh, rfl⟩|⟨_, rfl⟩
  · have hok:=hg.heads h hh
    have:=faded_le hok hg.fade.1 hl
    obtain ⟨⟨a1, a2, a3⟩, a4⟩:=hok
    unfold Head.melt Amt.abs
    simp only
    omega
  · exact zeroT_abs _ (by decide)
theorem enter1_c (s : Store) (l : List Int) (add : Amt) (hr : s.small) (hc : s.check.2.2 ≠ 0) : BoxA Tryd.prog (.fn 61) [] [storeA s, intsA l, amtA add] (.tuple [nilPtr, amtA zeroT, intA s.check.2.2]) []:=by
  have hlk:=lookF_c s 0 hr hc
  generalize s.check.2.2 = c at *
  refine boxA_codeB tabOk { l:=0, f:=61, mat:=[59] } mixed call_61 Tryd.func61 (by kernel_rfl) ?_
  conv=>whnf
  repeat (any_goals (first|exact falseI|((first|refine bd ?_ ?_|refine bn ?_ ?_)<;>intro _<;>first|(exfalso;omega)|conv=>whnf)|((first|refine dI ?_|refine okI ?_|refine bt ?_|refine bi (fun _=>?_) (fun _=>?_)|refine bndI ?_|intro _)<;>conv=>whnf)))
  refine ⟨[], ?_⟩
  conv=>whnf
  refine ⟨_, _, hlk, ?_⟩
  conv=>whnf
  repeat (any_goals (first|exact falseI|((first|refine bd ?_ ?_|refine bn ?_ ?_)<;>intro _<;>first|(exfalso;omega)|conv=>whnf)|((first|refine dI ?_|refine okI ?_|refine bt ?_|refine bi (fun _=>?_) (fun _=>?_)|refine bndI ?_|intro _)<;>conv=>whnf)))
  refine And.intro ?_ ?_
  · conv=>whnf
    refine ⟨⟨?_⟩, trivial⟩
    rfl
  · repeat (first|exact trivial|refine And.intro rfl ?_|refine And.intro (by skip) ?_)
theorem enter4_c (s : Store) (l : List Int) (add : Amt) (hr : s.small) (hc : s.check.2.2 = 0) (hl : l.length ≤ 1048576) (hR0 : l.any (outside 0 (s.heads.length - 1)) = true) : BoxA Tryd.prog (.fn 61) [] [storeA s, intsA l, amtA add] (.tuple [nilPtr, amtA zeroT, intA 4]) []:=by
  have h6:=(Store.good hc).len
  have hlk:=lookT_c s 0 hr hc (by decide) (by decide)
  have hb:=beyond_c l 0 (((s.heads.map headA).length : Int) - 1) hl
  rw [List.length_map, hR0] at hb
  rw [← List.length_map (f:=headA)] at hb
  have hp:=meltsTo_len s 0 _ (Nat.le_refl _) (Store.good hc).len
  have e : meltsTo s 0 s.heads.length = s.melts 0:=rfl
  rw [e] at hp
  generalize s.melts 0 = p at *
  clear e
  obtain ⟨p0, p1, p2, p3, p4, p5, rfl⟩:=list6 hp
  refine boxA_codeB tabOk { l:=0, f:=61, mat:=[59] } mixed call_61 Tryd.func61 (by kernel_rfl) ?_
  conv=>whnf
  repeat (any_goals (first|exact falseI|((first|refine bd ?_ ?_|refine bn ?_ ?_)<;>intro _<;>first|(exfalso;omega)|conv=>whnf)|((first|refine dI ?_|refine okI ?_|refine bt ?_|refine bi (fun _=>?_) (fun _=>?_)|refine bndI ?_|intro _)<;>conv=>whnf)))
  refine ⟨[], ?_⟩
  conv=>whnf
  refine ⟨_, _, hlk, ?_⟩
  conv=>whnf
  repeat (any_goals (first|exact falseI|((first|refine bd ?_ ?_|refine bn ?_ ?_)<;>intro _<;>first|(exfalso;omega)|conv=>whnf)|((first|refine callP_a hb ?_|refine dI ?_|refine okI ?_|refine bt ?_|refine bi (fun _=>?_) (fun _=>?_)|refine bndI ?_|intro _)<;>conv=>whnf)))
  refine And.intro ?_ ?_
  · conv=>whnf
    refine ⟨⟨?_⟩, trivial⟩
    rfl
  · repeat (first|exact trivial|refine And.intro rfl ?_|refine And.intro (by skip) ?_)
set_option maxHeartbeats 1000000 in
theorem enter2_c (s : Store) (l : List Int) (add : Amt) (hr : s.small) (hc : s.check.2.2 = 0) (hl : l.length ≤ 1048576) (hR0 : l.any (outside 0 (s.heads.length - 1)) = false) (hB : true = s.badL none l) :
    BoxA Tryd.prog (.fn 61) [] [storeA s, intsA l, amtA add] (.tuple [nilPtr, amtA zeroT, intA 2]) []:=by
  have hg:=Store.good hc
  have h6:=hg.len
  have hlk:=lookT_c s 0 hr hc (by decide) (by decide)
  have hR : ∀ x ∈ l, 0 ≤ x∧x < s.heads.length:=by
    intro x hx
    have:=(List.any_eq_false.1 hR0) x hx
    simp only [Bool.not_eq_true, outside_iff] at this
    omega
  have hb:=beyond_c l 0 (((s.heads.map headA).length : Int) - 1) hl
  rw [List.length_map, hR0] at hb
  rw [← List.length_map (f:=headA)] at hb
  have hp:=meltsTo_len s 0 _ (Nat.le_refl _) (Store.good hc).len
  have e : meltsTo s 0 s.heads.length = s.melts 0:=rfl
  rw [e] at hp
  generalize s.melts 0 = p at *
  clear e
  obtain ⟨p0, p1, p2, p3, p4, p5, rfl⟩:=list6 hp
  refine boxA_codeB tabOk { l:=0, f:=61, mat:=[59] } mixed call_61 Tryd.func61 (by kernel_rfl) ?_
  conv=>whnf
  repeat (any_goals (first|exact falseI|((first|refine bd ?_ ?_|refine bn ?_ ?_)<;>intro _<;>first|(exfalso;omega)|conv=>whnf)|((first|refine callP_a hb ?_|refine dI ?_|refine okI ?_|refine bt ?_|refine bi (fun _=>?_) (fun _=>?_)|refine bndI ?_|intro _)<;>conv=>whnf)))
  refine ⟨[], ?_⟩
  conv=>whnf
  refine ⟨_, _, hlk, ?_⟩
  conv=>whnf
  repeat (any_goals (first|exact falseI|((first|refine bd ?_ ?_|refine bn ?_ ?_)<;>intro _<;>first|(exfalso;omega)|conv=>whnf)|((first|refine callP_a hb ?_|refine dI ?_|refine okI ?_|refine bt ?_|refine bi (fun _=>?_) (fun _=>?_)|refine bndI ?_|intro _)<;>conv=>whnf)))
  refine loopK tabOk { l:=0, f:=61 } mixed (fun i : Nat=>[(33, intA i), (6, .ptr kS 1 27 0 0)]) (fun _=>[]) (fun _=>[]) (fun i=>i ≤ l.length∧true = s.badL (prevAt l i) (l.drop i)) (fun i=>l.length - i) 0 (by kernel_rfl)
    ⟨Nat.zero_le _, hB⟩ ?_
  conv=>whnf
  refine ⟨⟨slotsLe_cons rfl (slotsLe_cons rfl trivial), trivial, trivial⟩, ?_⟩
  intro i ⟨hi, H⟩
  conv=>whnf
  refine brP_dec (fun h1=>?_) (fun h1=>?_)
  · simp only [List.length_map] at h1
    obtain ⟨x, hx, hd⟩:=drop_cons (l:=l) (i:=i) (by omega)
    obtain ⟨hx0, hx6⟩:=hR x (List.mem_of_getElem? hx)
    obtain ⟨y, hy⟩ : ∃ y, s.heads[x.toNat]? = some y:=⟨_, List.getElem?_eq_getElem (by omega)⟩
    rw [hd] at H
    by_cases hi0 : i = 0
    · subst hi0
      simp only [prevAt, Store.badL, hy, Bool.false_or] at H
      conv=>whnf
      repeat (any_goals (first|exact falseI|((first|refine bd ?_ ?_|refine bn ?_ ?_)<;>intro _<;>first|(exfalso;omega)|conv=>whnf)|((first|refine optP_map hx rfl ?_|refine optP_map hy (by omega) ?_|refine dI ?_|refine okI ?_|refine bt ?_|refine bi (fun _=>?_) (fun _=>?_)|refine bndI ?_|intro _)<;>conv=>whnf)))
      · rename_i hq
        rw [hq] at H
        refine And.intro ?_ ?_
        · conv=>whnf
          refine ⟨⟨?_⟩, trivial⟩
          rfl
        · repeat (first|exact trivial|refine And.intro rfl ?_|refine And.intro (by skip) ?_)
      · rename_i hq
        rw [hq, Bool.false_or] at H
        (refine ⟨1, ⟨by omega, by rw [H];simp [prevAt, hx]⟩, by omega, ?_⟩;(conv=>whnf);refine ⟨?_, ?_, ?_⟩<;>repeat (first|exact trivial|refine sc rfl ?_|refine kn ?_|refine kc rfl ?_))
    · obtain ⟨j, rfl⟩ : ∃ j, i = j + 1:=⟨i - 1, by omega⟩
      obtain ⟨z, hz⟩ : ∃ z, l[j]? = some z:=⟨_, List.getElem?_eq_getElem (by omega)⟩
      simp only [prevAt, hz, Store.badL, hy] at H
      conv=>whnf
      repeat (any_goals (first|exact falseI|((first|refine bd ?_ ?_|refine bn ?_ ?_)<;>intro _<;>first|(exfalso;omega)|conv=>whnf)|((first|refine optP_map hx rfl ?_|refine optP_map hy (by omega) ?_|refine optP_map hz (by omega) ?_|refine dI ?_|refine okI ?_|refine bt ?_|refine bi (fun _=>?_) (fun _=>?_)|refine bndI ?_|intro _)<;>conv=>whnf)))
      · rename_i hq
        rw [decide_eq_true hq, Bool.true_or, Bool.true_or] at H
        refine And.intro ?_ ?_
        · conv=>whnf
          refine ⟨⟨?_⟩, trivial⟩
          rfl
        · repeat (first|exact trivial|refine And.intro rfl ?_|refine And.intro (by skip) ?_)
      · rename_i hq hq2
        rw [hq2, Bool.or_true, Bool.true_or] at H
        refine And.intro ?_ ?_
        · conv=>whnf
          refine ⟨⟨?_⟩, trivial⟩
          rfl
        · repeat (first|exact trivial|refine And.intro rfl ?_|refine And.intro (by skip) ?_)
      · rename_i hq hq2
        rw [decide_eq_false hq, hq2, Bool.false_or, Bool.false_or] at H
        (refine ⟨j + 1 + 1, ⟨by omega, by rw [H];simp [prevAt, hx]⟩, by omega, ?_⟩;(conv=>whnf);refine ⟨?_, ?_, ?_⟩<;>repeat (first|exact trivial|refine sc rfl ?_|refine kn ?_|refine kc rfl ?_))
  · conv=>whnf
    simp only [List.length_map] at h1
    have : i = l.length:=by omega
    subst this
    simp [Store.badL] at H
set_option maxHeartbeats 1000000 in
theorem enter7_c (s : Store) (l : List Int) (add : Amt) (hr : s.small) (hc : s.check.2.2 = 0) (hl : l.length ≤ 1048576) (hR0 : l.any (outside 0 (s.heads.length - 1)) = false) (hB : false = s.badL none l) (hA : true = addFrom (outside 0 s.lots.b add.b) (outside 0 s.lots.t add.t) (outside 0 s.lots.c add.c) 0) :
    BoxA Tryd.prog (.fn 61) [] [storeA s, intsA l, amtA add] (.tuple [nilPtr, amtA zeroT, intA 7]) []:=by
  have hA1:=beyond_c [add.b] 0 s.lots.b (by simp)
  have hA2:=beyond_c [add.t] 0 s.lots.t (by simp)
  have hA3:=beyond_c [add.c] 0 s.lots.c (by simp)
  simp only [List.any_cons, List.any_nil, Bool.or_false] at hA1 hA2 hA3
  generalize outside 0 s.lots.b add.b = b1 at *
  generalize outside 0 s.lots.t add.t = b2 at *
  generalize outside 0 s.lots.c add.c = b3 at *
  have hg:=Store.good hc
  have h6:=hg.len
  have hlk:=lookT_c s 0 hr hc (by decide) (by decide)
  have hR : ∀ x ∈ l, 0 ≤ x∧x < s.heads.length:=by
    intro x hx
    have:=(List.any_eq_false.1 hR0) x hx
    simp only [Bool.not_eq_true, outside_iff] at this
    omega
  have hb:=beyond_c l 0 (((s.heads.map headA).length : Int) - 1) hl
  rw [List.length_map, hR0] at hb
  rw [← List.length_map (f:=headA)] at hb
  have hp:=meltsTo_len s 0 _ (Nat.le_refl _) (Store.good hc).len
  have e : meltsTo s 0 s.heads.length = s.melts 0:=rfl
  rw [e] at hp
  generalize s.melts 0 = p at *
  clear e
  obtain ⟨p0, p1, p2, p3, p4, p5, rfl⟩:=list6 hp
  refine boxA_codeB tabOk { l:=0, f:=61, mat:=[59] } mixed call_61 Tryd.func61 (by kernel_rfl) ?_
  conv=>whnf
  repeat (any_goals (first|exact falseI|((first|refine bd ?_ ?_|refine bn ?_ ?_)<;>intro _<;>first|(exfalso;omega)|conv=>whnf)|((first|refine callP_a hb ?_|refine dI ?_|refine okI ?_|refine bt ?_|refine bi (fun _=>?_) (fun _=>?_)|refine bndI ?_|intro _)<;>conv=>whnf)))
  refine ⟨[], ?_⟩
  conv=>whnf
  refine ⟨_, _, hlk, ?_⟩
  conv=>whnf
  repeat (any_goals (first|exact falseI|((first|refine bd ?_ ?_|refine bn ?_ ?_)<;>intro _<;>first|(exfalso;omega)|conv=>whnf)|((first|refine callP_a hb ?_|refine dI ?_|refine okI ?_|refine bt ?_|refine bi (fun _=>?_) (fun _=>?_)|refine bndI ?_|intro _)<;>conv=>whnf)))
  refine loopK tabOk { l:=0, f:=61 } mixed (fun i : Nat=>[(33, intA i), (6, .ptr kS 1 27 0 0)]) (fun _=>[]) (fun _=>[]) (fun i=>i ≤ l.length∧false = s.badL (prevAt l i) (l.drop i)) (fun i=>l.length - i) 0 (by kernel_rfl)
    ⟨Nat.zero_le _, hB⟩ ?_
  conv=>whnf
  refine ⟨⟨slotsLe_cons rfl (slotsLe_cons rfl trivial), trivial, trivial⟩, ?_⟩
  intro i ⟨hi, H⟩
  conv=>whnf
  refine brP_dec (fun h1=>?_) (fun h1=>?_)
  · simp only [List.length_map] at h1
    obtain ⟨x, hx, hd⟩:=drop_cons (l:=l) (i:=i) (by omega)
    obtain ⟨hx0, hx6⟩:=hR x (List.mem_of_getElem? hx)
    obtain ⟨y, hy⟩ : ∃ y, s.heads[x.toNat]? = some y:=⟨_, List.getElem?_eq_getElem (by omega)⟩
    rw [hd] at H
    by_cases hi0 : i = 0
    · subst hi0
      simp only [prevAt, Store.badL, hy, Bool.false_or] at H
      conv=>whnf
      repeat (any_goals (first|exact falseI|((first|refine bd ?_ ?_|refine bn ?_ ?_)<;>intro _<;>first|(exfalso;omega)|conv=>whnf)|((first|refine optP_map hx rfl ?_|refine optP_map hy (by omega) ?_|refine dI ?_|refine okI ?_|refine bt ?_|refine bi (fun _=>?_) (fun _=>?_)|refine bndI ?_|intro _)<;>conv=>whnf)))
      · rename_i hq
        rw [hq] at H
        simp at H
      · rename_i hq
        rw [hq, Bool.false_or] at H
        (refine ⟨1, ⟨by omega, by rw [H];simp [prevAt, hx]⟩, by omega, ?_⟩;(conv=>whnf);refine ⟨?_, ?_, ?_⟩<;>repeat (first|exact trivial|refine sc rfl ?_|refine kn ?_|refine kc rfl ?_))
    · obtain ⟨j, rfl⟩ : ∃ j, i = j + 1:=⟨i - 1, by omega⟩
      obtain ⟨z, hz⟩ : ∃ z, l[j]? = some z:=⟨_, List.getElem?_eq_getElem (by omega)⟩
      simp only [prevAt, hz, Store.badL, hy] at H
      conv=>whnf
      repeat (any_goals (first|exact falseI|((first|refine bd ?_ ?_|refine bn ?_ ?_)<;>intro _<;>first|(exfalso;omega)|conv=>whnf)|((first|refine optP_map hx rfl ?_|refine optP_map hy (by omega) ?_|refine optP_map hz (by omega) ?_|refine dI ?_|refine okI ?_|refine bt ?_|refine bi (fun _=>?_) (fun _=>?_)|refine bndI ?_|intro _)<;>conv=>whnf)))
      · rename_i hq
        rw [decide_eq_true hq, Bool.true_or, Bool.true_or] at H
        simp at H
      · rename_i hq hq2
        rw [hq2, Bool.or_true, Bool.true_or] at H
        simp at H
      · rename_i hq hq2
        rw [decide_eq_false hq, hq2, Bool.false_or, Bool.false_or] at H
        (refine ⟨j + 1 + 1, ⟨by omega, by rw [H];simp [prevAt, hx]⟩, by omega, ?_⟩;(conv=>whnf);refine ⟨?_, ?_, ?_⟩<;>repeat (first|exact trivial|refine sc rfl ?_|refine kn ?_|refine kc rfl ?_))
  · conv=>whnf
    simp only [List.length_map] at h1
    have : i = l.length:=by omega
    subst this
    clear H hi h1
    repeat (any_goals (first|exact falseI|((first|refine bd ?_ ?_|refine bn ?_ ?_)<;>intro _<;>first|(exfalso;omega)|conv=>whnf)|((first|refine dI ?_|refine okI ?_|refine bt ?_|refine bi (fun _=>?_) (fun _=>?_)|refine bndI ?_|intro _)<;>conv=>whnf)))
    refine loopK tabOk { l:=0, f:=61 } mixed (fun i : Nat=>[(60, intA i), (6, .ptr kS 1 27 0 0)]) (fun _=>[]) (fun _=>[]) (fun i=>i ≤ 3∧true = addFrom b1 b2 b3 i) (fun i=>3 - i) 0 (by kernel_rfl)
      ⟨Nat.zero_le _, hA⟩ ?_
    conv=>whnf
    refine ⟨⟨slotsLe_cons rfl (slotsLe_cons rfl trivial), trivial, trivial⟩, ?_⟩
    intro i ⟨hi, H⟩
    conv=>whnf
    refine brP_dec (fun h1=>?_) (fun h1=>?_)
    · rcases lt3 (by omega : i < 3) with rfl|rfl|rfl
      · simp only [addFrom] at H
        cases b1
        · conv=>whnf
          repeat (any_goals (first|exact falseI|((first|refine bd ?_ ?_|refine bn ?_ ?_)<;>intro _<;>first|(exfalso;omega)|conv=>whnf)|((first|refine callP_a hA1 ?_|refine dI ?_|refine okI ?_|refine bt ?_|refine bi (fun _=>?_) (fun _=>?_)|refine bndI ?_|intro _)<;>conv=>whnf)))
          (refine ⟨1, ⟨by omega, H⟩, by omega, ?_⟩;(conv=>whnf);refine ⟨?_, ?_, ?_⟩<;>repeat (first|exact trivial|refine sc rfl ?_|refine kn ?_|refine kc rfl ?_))
        · conv=>whnf
          repeat (any_goals (first|exact falseI|((first|refine bd ?_ ?_|refine bn ?_ ?_)<;>intro _<;>first|(exfalso;omega)|conv=>whnf)|((first|refine callP_a hA1 ?_|refine dI ?_|refine okI ?_|refine bt ?_|refine bi (fun _=>?_) (fun _=>?_)|refine bndI ?_|intro _)<;>conv=>whnf)))
          refine And.intro ?_ ?_
          · conv=>whnf
            refine ⟨⟨?_⟩, trivial⟩
            rfl
          · repeat (first|exact trivial|refine And.intro rfl ?_|refine And.intro (by skip) ?_)
      · simp only [addFrom] at H
        cases b2
        · conv=>whnf
          repeat (any_goals (first|exact falseI|((first|refine bd ?_ ?_|refine bn ?_ ?_)<;>intro _<;>first|(exfalso;omega)|conv=>whnf)|((first|refine callP_a hA2 ?_|refine dI ?_|refine okI ?_|refine bt ?_|refine bi (fun _=>?_) (fun _=>?_)|refine bndI ?_|intro _)<;>conv=>whnf)))
          (refine ⟨2, ⟨by omega, H⟩, by omega, ?_⟩;(conv=>whnf);refine ⟨?_, ?_, ?_⟩<;>repeat (first|exact trivial|refine sc rfl ?_|refine kn ?_|refine kc rfl ?_))
        · conv=>whnf
          repeat (any_goals (first|exact falseI|((first|refine bd ?_ ?_|refine bn ?_ ?_)<;>intro _<;>first|(exfalso;omega)|conv=>whnf)|((first|refine callP_a hA2 ?_|refine dI ?_|refine okI ?_|refine bt ?_|refine bi (fun _=>?_) (fun _=>?_)|refine bndI ?_|intro _)<;>conv=>whnf)))
          refine And.intro ?_ ?_
          · conv=>whnf
            refine ⟨⟨?_⟩, trivial⟩
            rfl
          · repeat (first|exact trivial|refine And.intro rfl ?_|refine And.intro (by skip) ?_)
      · simp only [addFrom] at H
        cases b3
        · conv=>whnf
          repeat (any_goals (first|exact falseI|((first|refine bd ?_ ?_|refine bn ?_ ?_)<;>intro _<;>first|(exfalso;omega)|conv=>whnf)|((first|refine callP_a hA3 ?_|refine dI ?_|refine okI ?_|refine bt ?_|refine bi (fun _=>?_) (fun _=>?_)|refine bndI ?_|intro _)<;>conv=>whnf)))
          (refine ⟨3, ⟨by omega, H⟩, by omega, ?_⟩;(conv=>whnf);refine ⟨?_, ?_, ?_⟩<;>repeat (first|exact trivial|refine sc rfl ?_|refine kn ?_|refine kc rfl ?_))
        · conv=>whnf
          repeat (any_goals (first|exact falseI|((first|refine bd ?_ ?_|refine bn ?_ ?_)<;>intro _<;>first|(exfalso;omega)|conv=>whnf)|((first|refine callP_a hA3 ?_|refine dI ?_|refine okI ?_|refine bt ?_|refine bi (fun _=>?_) (fun _=>?_)|refine bndI ?_|intro _)<;>conv=>whnf)))
          refine And.intro ?_ ?_
          · conv=>whnf
            refine ⟨⟨?_⟩, trivial⟩
            rfl
          · repeat (first|exact trivial|refine And.intro rfl ?_|refine And.intro (by skip) ?_)
    · have : i = 3:=by omega
      subst this
      conv=>whnf
      simp [addFrom] at H
set_option maxHeartbeats 1000000 in
theorem enterT_c (s : Store) (l : List Int) (add : Amt) (hr : s.small) (hc : s.check.2.2 = 0) (hl : l.length ≤ 1048576) (hR0 : l.any (outside 0 (s.heads.length - 1)) = false) (hB : false = s.badL none l) (hA : false = addFrom (outside 0 s.lots.b add.b) (outside 0 s.lots.t add.t) (outside 0 s.lots.c add.c) 0) :
    BoxA Tryd.prog (.fn 61) [] [storeA s, intsA l, amtA add] (.tuple [.ptr kS 1 27 0 0, amtA (sumL (s.melts 0) add l), intA 0]) [(kS, 1, 27, [storeY s (sumW s.orders) (s.melts 0) (.mp kM 1)]), (kM, 1, 0, [.v (.int .i64 0)])]:=by
  have hadd : add.abs 1000000:=by
    have h:=hA.symm
    simp only [addFrom, Bool.or_eq_false_iff, outside_iff] at h
    obtain ⟨l1, l2, l3⟩:=(Store.good hc).lots
    unfold Amt.abs;omega
  have hsum:=wsum_c s (sumW s.orders) (s.melts 0) add l (meltsTo_len s 0 _ (Nat.le_refl _) (Store.good hc).len) (melts_abs (Store.good hc) (by decide)) hadd (by
    intro x hx
    have:=(List.any_eq_false.1 hR0) x hx
    simp only [Bool.not_eq_true, outside_iff] at this
    have:=(Store.good hc).len
    omega) hl
  have hA1:=beyond_c [add.b] 0 s.lots.b (by simp)
  have hA2:=beyond_c [add.t] 0 s.lots.t (by simp)
  have hA3:=beyond_c [add.c] 0 s.lots.c (by simp)
  simp only [List.any_cons, List.any_nil, Bool.or_false] at hA1 hA2 hA3
  generalize outside 0 s.lots.b add.b = b1 at *
  generalize outside 0 s.lots.t add.t = b2 at *
  generalize outside 0 s.lots.c add.c = b3 at *
  have hg:=Store.good hc
  have h6:=hg.len
  have hlk:=lookT_c s 0 hr hc (by decide) (by decide)
  have hR : ∀ x ∈ l, 0 ≤ x∧x < s.heads.length:=by
    intro x hx
    have:=(List.any_eq_false.1 hR0) x hx
    simp only [Bool.not_eq_true, outside_iff] at this
    omega
  have hb:=beyond_c l 0 (((s.heads.map headA).length : Int) - 1) hl
  rw [List.length_map, hR0] at hb
  rw [← List.length_map (f:=headA)] at hb
  have hp:=meltsTo_len s 0 _ (Nat.le_refl _) (Store.good hc).len
  have e : meltsTo s 0 s.heads.length = s.melts 0:=rfl
  rw [e] at hp
  generalize s.melts 0 = p at *
  clear e
  obtain ⟨p0, p1, p2, p3, p4, p5, rfl⟩:=list6 hp
  refine boxA_codeB tabOk { l:=0, f:=61, mat:=[59] } mixed call_61 Tryd.func61 (by kernel_rfl) ?_
  conv=>whnf
  repeat (any_goals (first|exact falseI|((first|refine bd ?_ ?_|refine bn ?_ ?_)<;>intro _<;>first|(exfalso;omega)|conv=>whnf)|((first|refine callP_a hb ?_|refine dI ?_|refine okI ?_|refine bt ?_|refine bi (fun _=>?_) (fun _=>?_)|refine bndI ?_|intro _)<;>conv=>whnf)))
  refine ⟨[], ?_⟩
  conv=>whnf
  refine ⟨_, _, hlk, ?_⟩
  conv=>whnf
  repeat (any_goals (first|exact falseI|((first|refine bd ?_ ?_|refine bn ?_ ?_)<;>intro _<;>first|(exfalso;omega)|conv=>whnf)|((first|refine callP_a hb ?_|refine dI ?_|refine okI ?_|refine bt ?_|refine bi (fun _=>?_) (fun _=>?_)|refine bndI ?_|intro _)<;>conv=>whnf)))
  refine loopK tabOk { l:=0, f:=61 } mixed (fun i : Nat=>[(33, intA i), (6, .ptr kS 1 27 0 0)]) (fun _=>[]) (fun _=>[]) (fun i=>i ≤ l.length∧false = s.badL (prevAt l i) (l.drop i)) (fun i=>l.length - i) 0 (by kernel_rfl)
    ⟨Nat.zero_le _, hB⟩ ?_
  conv=>whnf
  refine ⟨⟨slotsLe_cons rfl (slotsLe_cons rfl trivial), trivial, trivial⟩, ?_⟩
  intro i ⟨hi, H⟩
  conv=>whnf
  refine brP_dec (fun h1=>?_) (fun h1=>?_)
  · simp only [List.length_map] at h1
    obtain ⟨x, hx, hd⟩:=drop_cons (l:=l) (i:=i) (by omega)
    obtain ⟨hx0, hx6⟩:=hR x (List.mem_of_getElem? hx)
    obtain ⟨y, hy⟩ : ∃ y, s.heads[x.toNat]? = some y:=⟨_, List.getElem?_eq_getElem (by omega)⟩
    rw [hd] at H
    by_cases hi0 : i = 0
    · subst hi0
      simp only [prevAt, Store.badL, hy, Bool.false_or] at H
      conv=>whnf
      repeat (any_goals (first|exact falseI|((first|refine bd ?_ ?_|refine bn ?_ ?_)<;>intro _<;>first|(exfalso;omega)|conv=>whnf)|((first|refine optP_map hx rfl ?_|refine optP_map hy (by omega) ?_|refine dI ?_|refine okI ?_|refine bt ?_|refine bi (fun _=>?_) (fun _=>?_)|refine bndI ?_|intro _)<;>conv=>whnf)))
      · rename_i hq
        rw [hq] at H
        simp at H
      · rename_i hq
        rw [hq, Bool.false_or] at H
        (refine ⟨1, ⟨by omega, by rw [H];simp [prevAt, hx]⟩, by omega, ?_⟩;(conv=>whnf);refine ⟨?_, ?_, ?_⟩<;>repeat (first|exact trivial|refine sc rfl ?_|refine kn ?_|refine kc rfl ?_))
    · obtain ⟨j, rfl⟩ : ∃ j, i = j + 1:=⟨i - 1, by omega⟩
      obtain ⟨z, hz⟩ : ∃ z, l[j]? = some z:=⟨_, List.getElem?_eq_getElem (by omega)⟩
      simp only [prevAt, hz, Store.badL, hy] at H
      conv=>whnf
      repeat (any_goals (first|exact falseI|((first|refine bd ?_ ?_|refine bn ?_ ?_)<;>intro _<;>first|(exfalso;omega)|conv=>whnf)|((first|refine optP_map hx rfl ?_|refine optP_map hy (by omega) ?_|refine optP_map hz (by omega) ?_|refine dI ?_|refine okI ?_|refine bt ?_|refine bi (fun _=>?_) (fun _=>?_)|refine bndI ?_|intro _)<;>conv=>whnf)))
      · rename_i hq
        rw [decide_eq_true hq, Bool.true_or, Bool.true_or] at H
        simp at H
      · rename_i hq hq2
        rw [hq2, Bool.or_true, Bool.true_or] at H
        simp at H
      · rename_i hq hq2
        rw [decide_eq_false hq, hq2, Bool.false_or, Bool.false_or] at H
        (refine ⟨j + 1 + 1, ⟨by omega, by rw [H];simp [prevAt, hx]⟩, by omega, ?_⟩;(conv=>whnf);refine ⟨?_, ?_, ?_⟩<;>repeat (first|exact trivial|refine sc rfl ?_|refine kn ?_|refine kc rfl ?_))
  · conv=>whnf
    simp only [List.length_map] at h1
    have : i = l.length:=by omega
    subst this
    clear H hi h1
    repeat (any_goals (first|exact falseI|((first|refine bd ?_ ?_|refine bn ?_ ?_)<;>intro _<;>first|(exfalso;omega)|conv=>whnf)|((first|refine dI ?_|refine okI ?_|refine bt ?_|refine bi (fun _=>?_) (fun _=>?_)|refine bndI ?_|intro _)<;>conv=>whnf)))
    refine loopK tabOk { l:=0, f:=61 } mixed (fun i : Nat=>[(60, intA i), (6, .ptr kS 1 27 0 0)]) (fun _=>[]) (fun _=>[]) (fun i=>i ≤ 3∧false = addFrom b1 b2 b3 i) (fun i=>3 - i) 0 (by kernel_rfl)
      ⟨Nat.zero_le _, hA⟩ ?_
    conv=>whnf
    refine ⟨⟨slotsLe_cons rfl (slotsLe_cons rfl trivial), trivial, trivial⟩, ?_⟩
    intro i ⟨hi, H⟩
    conv=>whnf
    refine brP_dec (fun h1=>?_) (fun h1=>?_)
    · rcases lt3 (by omega : i < 3) with rfl|rfl|rfl
      · simp only [addFrom] at H
        cases b1
        · conv=>whnf
          repeat (any_goals (first|exact falseI|((first|refine bd ?_ ?_|refine bn ?_ ?_)<;>intro _<;>first|(exfalso;omega)|conv=>whnf)|((first|refine callP_a hA1 ?_|refine dI ?_|refine okI ?_|refine bt ?_|refine bi (fun _=>?_) (fun _=>?_)|refine bndI ?_|intro _)<;>conv=>whnf)))
          (refine ⟨1, ⟨by omega, H⟩, by omega, ?_⟩;(conv=>whnf);refine ⟨?_, ?_, ?_⟩<;>repeat (first|exact trivial|refine sc rfl ?_|refine kn ?_|refine kc rfl ?_))
        · conv=>whnf
          repeat (any_goals (first|exact falseI|((first|refine bd ?_ ?_|refine bn ?_ ?_)<;>intro _<;>first|(exfalso;omega)|conv=>whnf)|((first|refine callP_a hA1 ?_|refine dI ?_|refine okI ?_|refine bt ?_|refine bi (fun _=>?_) (fun _=>?_)|refine bndI ?_|intro _)<;>conv=>whnf)))
          simp at H
      · simp only [addFrom] at H
        cases b2
        · conv=>whnf
          repeat (any_goals (first|exact falseI|((first|refine bd ?_ ?_|refine bn ?_ ?_)<;>intro _<;>first|(exfalso;omega)|conv=>whnf)|((first|refine callP_a hA2 ?_|refine dI ?_|refine okI ?_|refine bt ?_|refine bi (fun _=>?_) (fun _=>?_)|refine bndI ?_|intro _)<;>conv=>whnf)))
          (refine ⟨2, ⟨by omega, H⟩, by omega, ?_⟩;(conv=>whnf);refine ⟨?_, ?_, ?_⟩<;>repeat (first|exact trivial|refine sc rfl ?_|refine kn ?_|refine kc rfl ?_))
        · conv=>whnf
          repeat (any_goals (first|exact falseI|((first|refine bd ?_ ?_|refine bn ?_ ?_)<;>intro _<;>first|(exfalso;omega)|conv=>whnf)|((first|refine callP_a hA2 ?_|refine dI ?_|refine okI ?_|refine bt ?_|refine bi (fun _=>?_) (fun _=>?_)|refine bndI ?_|intro _)<;>conv=>whnf)))
          simp at H
      · simp only [addFrom] at H
        cases b3
        · conv=>whnf
          repeat (any_goals (first|exact falseI|((first|refine bd ?_ ?_|refine bn ?_ ?_)<;>intro _<;>first|(exfalso;omega)|conv=>whnf)|((first|refine callP_a hA3 ?_|refine dI ?_|refine okI ?_|refine bt ?_|refine bi (fun _=>?_) (fun _=>?_)|refine bndI ?_|intro _)<;>conv=>whnf)))
          (refine ⟨3, ⟨by omega, H⟩, by omega, ?_⟩;(conv=>whnf);refine ⟨?_, ?_, ?_⟩<;>repeat (first|exact trivial|refine sc rfl ?_|refine kn ?_|refine kc rfl ?_))
        · conv=>whnf
          repeat (any_goals (first|exact falseI|((first|refine bd ?_ ?_|refine bn ?_ ?_)<;>intro _<;>first|(exfalso;omega)|conv=>whnf)|((first|refine callP_a hA3 ?_|refine dI ?_|refine okI ?_|refine bt ?_|refine bi (fun _=>?_) (fun _=>?_)|refine bndI ?_|intro _)<;>conv=>whnf)))
          simp at H
    · have : i = 3:=by omega
      subst this
      conv=>whnf
      repeat (any_goals (first|exact falseI|((first|refine bd ?_ ?_|refine bn ?_ ?_)<;>intro _<;>first|(exfalso;omega)|conv=>whnf)|((first|refine callP_f hsum rfl ?_|refine dI ?_|refine okI ?_|refine bt ?_|refine bi (fun _=>?_) (fun _=>?_)|refine bndI ?_|intro _)<;>conv=>whnf)))
      refine And.intro ?_ ?_
      · conv=>whnf
        refine ⟨⟨?_⟩, trivial⟩
        rfl
      · repeat (first|exact trivial|refine And.intro rfl ?_|refine And.intro (by skip) ?_)
end Go.Proofs.YtbpiibdcncfphaaDoor
namespace Go.Proofs.YtbpiibdcncfphaaDoor
open Go.Am Go.Proofs Go
theorem meltsTo_get {s : Store} {later : Int} {i : Nat} {h : Head} (hi : s.heads[i]? = some h) : (s.melts later)[i]? = some (h.melt s.fade later):=by
  have hl:=(List.getElem?_eq_some_iff.1 hi).1
  simp only [Store.melts, meltsTo, List.take_length]
  rw [List.getElem?_append_left (by simpa using hl)]
  simp [hi]
def Store.meltedA (s : Store) (n : Int) : AV :=
  if s.check.2.2 ≠ 0 then .tuple [amtA zeroT, intA s.check.2.2] else match (if n < 0 then none else s.heads[n.toNat]?) with|none=>.tuple [amtA zeroT, intA 4]|some h=>.tuple [amtA (h.melt s.fade 0), intA 0]
theorem melted_c (s : Store) (n : Int) (hr : s.small) : PureA Tryd.prog 14 [storeA s, intA n] (s.meltedA n):=by
  unfold Store.meltedA
  by_cases hc : s.check.2.2 = 0
  · rw [if_neg (by omega)]
    have hg:=Store.good hc
    have h6:=hg.len
    have hlk:=lookT_c s 0 hr hc (by decide) (by decide)
    have hb:=beyond_c [n] 0 (((s.heads.map headA).length : Int) - 1) (by simp)
    simp only [List.any_cons, List.any_nil, Bool.or_false] at hb
    have hp:=meltsTo_len s 0 _ (Nat.le_refl _) hg.len
    have e : meltsTo s 0 s.heads.length = s.melts 0:=rfl
    rw [e] at hp
    cases hx : (if n < 0 then none else s.heads[n.toNat]?) with
    | none =>
      have ho : outside 0 (((s.heads.map headA).length : Int) - 1) n = true:=by
        rw [List.length_map]
        cases hq : outside 0 ((s.heads.length : Int) - 1) n
        · rw [outside_iff] at hq
          rw [if_neg (by omega), List.getElem?_eq_none_iff] at hx
          omega
        · rfl
      rw [ho] at hb
      generalize s.melts 0 = p at *
      clear e hx
      obtain ⟨p0, p1, p2, p3, p4, p5, rfl⟩:=list6 hp
      refine pureA_codeB tabOk { l:=0, f:=14, mat:=[59] } mixed call_14 Tryd.func14 (by kernel_rfl) ?_
      conv=>whnf
      repeat (any_goals (first|exact falseI|((first|refine bd ?_ ?_|refine bn ?_ ?_)<;>intro _<;>first|(exfalso;omega)|conv=>whnf)|((first|refine dI ?_|refine okI ?_|refine bt ?_|refine bi (fun _=>?_) (fun _=>?_)|refine bndI ?_|intro _)<;>conv=>whnf)))
      refine ⟨[], ?_⟩
      conv=>whnf
      refine ⟨_, _, hlk, ?_⟩
      conv=>whnf
      repeat (any_goals (first|exact falseI|((first|refine bd ?_ ?_|refine bn ?_ ?_)<;>intro _<;>first|(exfalso;omega)|conv=>whnf)|((first|refine callP_a hb ?_|refine dI ?_|refine okI ?_|refine bt ?_|refine bi (fun _=>?_) (fun _=>?_)|refine bndI ?_|intro _)<;>conv=>whnf)))
      (refine ⟨⟨?_⟩, trivial⟩;rfl)
    | some h =>
      have hn : ¬ n < 0:=fun hn=>by rw [if_pos hn] at hx;cases hx
      rw [if_neg hn] at hx
      have hlt:=(List.getElem?_eq_some_iff.1 hx).1
      have ho : outside 0 (((s.heads.map headA).length : Int) - 1) n = false:=by
        rw [List.length_map, outside_iff];omega
      rw [ho] at hb
      have hm:=meltsTo_get (later:=0) hx
      obtain ⟨k, rfl⟩ : ∃ k : Nat, n = k:=⟨n.toNat, by omega⟩
      rw [Int.toNat_natCast] at hm hlt
      show PureA Tryd.prog 14 _ (.tuple [amtA (h.melt s.fade 0), intA 0])
      generalize h.melt s.fade 0 = q at *
      generalize s.melts 0 = p at *
      clear e hx
      obtain ⟨p0, p1, p2, p3, p4, p5, rfl⟩:=list6 hp
      rcases lt6 (by omega : k < 6) with rfl|rfl|rfl|rfl|rfl|rfl
      all_goals
        simp at hm
        subst hm
        refine pureA_codeB tabOk { l:=0, f:=14, mat:=[59] } mixed call_14 Tryd.func14 (by kernel_rfl) ?_
        conv=>whnf
        repeat (any_goals (first|exact falseI|((first|refine bd ?_ ?_|refine bn ?_ ?_)<;>intro _<;>first|(exfalso;omega)|conv=>whnf)|((first|refine dI ?_|refine okI ?_|refine bt ?_|refine bi (fun _=>?_) (fun _=>?_)|refine bndI ?_|intro _)<;>conv=>whnf)))
        refine ⟨[], ?_⟩
        conv=>whnf
        refine ⟨_, _, hlk, ?_⟩
        conv=>whnf
        repeat (any_goals (first|exact falseI|((first|refine bd ?_ ?_|refine bn ?_ ?_)<;>intro _<;>first|(exfalso;omega)|conv=>whnf)|((first|refine callP_a hb ?_|refine dI ?_|refine okI ?_|refine bt ?_|refine bi (fun _=>?_) (fun _=>?_)|refine bndI ?_|intro _)<;>conv=>whnf)))
        (refine ⟨⟨?_⟩, trivial⟩;rfl)
  · rw [if_pos hc]
    have hlk:=lookF_c s 0 hr hc
    generalize s.check.2.2 = c at *
    refine pureA_codeB tabOk { l:=0, f:=14, mat:=[59] } mixed call_14 Tryd.func14 (by kernel_rfl) ?_
    conv=>whnf
    repeat (any_goals (first|exact falseI|((first|refine bd ?_ ?_|refine bn ?_ ?_)<;>intro _<;>first|(exfalso;omega)|conv=>whnf)|((first|refine dI ?_|refine okI ?_|refine bt ?_|refine bi (fun _=>?_) (fun _=>?_)|refine bndI ?_|intro _)<;>conv=>whnf)))
    refine ⟨[], ?_⟩
    conv=>whnf
    refine ⟨_, _, hlk, ?_⟩
    conv=>whnf
    repeat (any_goals (first|exact falseI|((first|refine bd ?_ ?_|refine bn ?_ ?_)<;>intro _<;>first|(exfalso;omega)|conv=>whnf)|((first|refine dI ?_|refine okI ?_|refine bt ?_|refine bi (fun _=>?_) (fun _=>?_)|refine bndI ?_|intro _)<;>conv=>whnf)))
    (refine ⟨⟨?_⟩, trivial⟩;rfl)
def Store.kettle (s : Store) (l : List Int) (add : Amt) : Amt × Int:=if s.entErr l add ≠ 0 then (zeroT, s.entErr l add) else (sumL (s.melts 0) add l, 0)
def pairA (x : Amt × Int) : AV:=.tuple [amtA x.1, intA x.2]
theorem kettle_c (s : Store) (l : List Int) (add : Amt) (hr : s.small) (hl : l.length ≤ 1048576) : PureA Tryd.prog 16 [storeA s, intsA l, amtA add] (pairA (s.kettle l add)):=by
  have bad : ∀ e : Int, BoxA Tryd.prog (.fn 61) [] [storeA s, intsA l, amtA add] (.tuple [nilPtr, amtA zeroT, intA e]) []→PureA Tryd.prog 16 [storeA s, intsA l, amtA add] (pairA (zeroT, e)):=by
    intro e he
    refine pureA_codeB tabOk { l:=0, f:=16, mat:=[61] } mixed call_16 Tryd.func16 (by kernel_rfl) ?_
    conv=>whnf
    repeat (any_goals (first|exact falseI|((first|refine bd ?_ ?_|refine bn ?_ ?_)<;>intro _<;>first|(exfalso;omega)|conv=>whnf)|((first|refine dI ?_|refine okI ?_|refine bt ?_|refine bi (fun _=>?_) (fun _=>?_)|refine bndI ?_|intro _)<;>conv=>whnf)))
    refine ⟨[], ?_⟩
    conv=>whnf
    refine ⟨_, _, he, ?_⟩
    conv=>whnf
    repeat (any_goals (first|exact falseI|((first|refine bd ?_ ?_|refine bn ?_ ?_)<;>intro _<;>first|(exfalso;omega)|conv=>whnf)|((first|refine dI ?_|refine okI ?_|refine bt ?_|refine bi (fun _=>?_) (fun _=>?_)|refine bndI ?_|intro _)<;>conv=>whnf)))
    (refine ⟨⟨?_⟩, trivial⟩;rfl)
  unfold Store.kettle Store.entErr
  by_cases hc : s.check.2.2 = 0
  · simp only [hc, ne_eq, not_true_eq_false, if_false]
    cases hR : l.any (outside 0 (s.heads.length - 1))
    · simp only [Bool.false_eq_true, if_false]
      cases hB : s.badL none l
      · simp only [Bool.false_eq_true, if_false]
        cases hA : addFrom (outside 0 s.lots.b add.b) (outside 0 s.lots.t add.t) (outside 0 s.lots.c add.c) 0
        · simp only [Bool.false_eq_true, if_false, not_true_eq_false]
          have he:=enterT_c s l add hr hc hl hR hB.symm hA.symm
          have hp:=meltsTo_len s 0 _ (Nat.le_refl _) (Store.good hc).len
          have e : meltsTo s 0 s.heads.length = s.melts 0:=rfl
          rw [e] at hp
          generalize sumL (s.melts 0) add l = q at *
          generalize s.melts 0 = p at *
          clear e
          obtain ⟨p0, p1, p2, p3, p4, p5, rfl⟩:=list6 hp
          refine pureA_codeB tabOk { l:=0, f:=16, mat:=[61] } mixed call_16 Tryd.func16 (by kernel_rfl) ?_
          conv=>whnf
          repeat (any_goals (first|exact falseI|((first|refine bd ?_ ?_|refine bn ?_ ?_)<;>intro _<;>first|(exfalso;omega)|conv=>whnf)|((first|refine dI ?_|refine okI ?_|refine bt ?_|refine bi (fun _=>?_) (fun _=>?_)|refine bndI ?_|intro _)<;>conv=>whnf)))
          refine ⟨[], ?_⟩
          conv=>whnf
          refine ⟨_, _, he, ?_⟩
          conv=>whnf
          repeat (any_goals (first|exact falseI|((first|refine bd ?_ ?_|refine bn ?_ ?_)<;>intro _<;>first|(exfalso;omega)|conv=>whnf)|((first|refine dI ?_|refine okI ?_|refine bt ?_|refine bi (fun _=>?_) (fun _=>?_)|refine bndI ?_|intro _)<;>conv=>whnf)))
          (refine ⟨⟨?_⟩, trivial⟩;rfl)
        · exact bad 7 (enter7_c s l add hr hc hl hR hB.symm hA.symm)
      · exact bad 2 (enter2_c s l add hr hc hl hR hB.symm)
    · exact bad 4 (enter4_c s l add hr hc hl hR)
  · simp only [ne_eq, hc, not_false_eq_true, if_true]
    exact bad _ (enter1_c s l add hr hc)
theorem within_not (a b c : Int) : within a b c = !outside b c a:=by rw [← outside_not, Bool.not_not]
theorem addFrom_upTo (a m : Amt) : addFrom (outside 0 m.b a.b) (outside 0 m.t a.t) (outside 0 m.c a.c) 0 = !a.upTo m:=by
  simp only [addFrom, Amt.upTo, Bool.not_and, outside_not, Bool.or_assoc]
end Go.Proofs.YtbpiibdcncfphaaDoor
namespace Go.Proofs.YtbpiibdcncfphaaDoor
open Go.Am Go.Proofs Go
theorem mul_abs {a b A B : Int} (h0 : 0 ≤ a) (h1 : a ≤ A) (h2 : -B ≤ b) (h3 : b ≤ B) (hB : 0 ≤ B) : -(A * B) ≤ a * b∧a * b ≤ A * B:=by
  have hA : 0 ≤ A:=by omega
  constructor
  · have h4 : a * (-B) ≤ a * b:=Int.mul_le_mul_of_nonneg_left h2 h0
    have h5 : a * B ≤ A * B:=Int.mul_le_mul_of_nonneg_right h1 hB
    rw [Int.mul_neg] at h4
    omega
  · have h4 : a * b ≤ a * B:=Int.mul_le_mul_of_nonneg_left h3 h0
    have h5 : a * B ≤ A * B:=Int.mul_le_mul_of_nonneg_right h1 hB
    omega
theorem weight_abs {k : Amt} {M : Int} (h : k.abs M) : -(3 * M) ≤ k.weight∧k.weight ≤ 3 * M:=by
  unfold Amt.abs at h;unfold Amt.weight;omega
theorem abs_fit {k : Amt} (h : k.abs big) : k.fit:=h
def Amt.fits (k : Amt) (o : Order) : Bool:=within (1000 * k.t) (o.tlo * k.weight) (o.thi * k.weight) && within (1000 * k.c) (o.clo * k.weight) (o.chi * k.weight)
theorem span1_c (o : Order) : PureA Tryd.prog 84 [orderA o] (spanA o.tlo o.thi):=by
  refine pureA_codeB tabOk { l:=0, f:=84 } mixed call_84 Tryd.func84 (by kernel_rfl) ?_
  conv=>whnf
  repeat (any_goals (first|exact falseI|((first|refine bd ?_ ?_|refine bn ?_ ?_)<;>intro _<;>first|(exfalso;omega)|conv=>whnf)|((first|refine dI ?_|refine okI ?_|refine bt ?_|refine bi (fun _=>?_) (fun _=>?_)|refine bndI ?_|intro _)<;>conv=>whnf)))
  (refine ⟨⟨?_⟩, trivial⟩;rfl)
theorem span2_c (o : Order) : PureA Tryd.prog 85 [orderA o] (spanA o.clo o.chi):=by
  refine pureA_codeB tabOk { l:=0, f:=85 } mixed call_85 Tryd.func85 (by kernel_rfl) ?_
  conv=>whnf
  repeat (any_goals (first|exact falseI|((first|refine bd ?_ ?_|refine bn ?_ ?_)<;>intro _<;>first|(exfalso;omega)|conv=>whnf)|((first|refine dI ?_|refine okI ?_|refine bt ?_|refine bi (fun _=>?_) (fun _=>?_)|refine bndI ?_|intro _)<;>conv=>whnf)))
  (refine ⟨⟨?_⟩, trivial⟩;rfl)
theorem room {k : Amt} {o : Order} (hk : k.abs big) (ho : o.ok) : (-(1000 * (3 * big)) ≤ o.tlo * k.weight∧o.tlo * k.weight ≤ 1000 * (3 * big))∧(-(1000 * (3 * big)) ≤ o.thi * k.weight∧o.thi * k.weight ≤ 1000 * (3 * big)) ∧
    (-(1000 * (3 * big)) ≤ o.clo * k.weight∧o.clo * k.weight ≤ 1000 * (3 * big))∧(-(1000 * (3 * big)) ≤ o.chi * k.weight∧o.chi * k.weight ≤ 1000 * (3 * big)):=by
  have hw:=weight_abs hk
  obtain ⟨o1, o2, o3⟩:=ho
  have hb : (0 : Int) ≤ 3 * big:=by decide
  exact ⟨mul_abs (by omega) (by omega) hw.1 hw.2 hb, mul_abs (by omega) (by omega) hw.1 hw.2 hb, mul_abs (by omega) (by omega) hw.1 hw.2 hb, mul_abs (by omega) (by omega) hw.1 hw.2 hb⟩
theorem wsuits_c (s : Store) (w : Int) (m : List Amt) (k : Amt) (o : Order) (hm : m.length = 6) (hk : k.abs big) (ho : o.ok) : PureA Tryd.prog 63 [lookR s w m, amtA k, orderA o] (boolA (k.fits o)):=by
  have hroom:=room hk ho
  have hW:=weight_c k (abs_fit hk)
  have s1:=span1_c o
  have s2:=span2_c o
  have hb1:=beyond_c [1000 * k.t] (o.tlo * k.weight) (o.thi * k.weight) (by simp)
  have hb2:=beyond_c [1000 * k.c] (o.clo * k.weight) (o.chi * k.weight) (by simp)
  simp only [List.any_cons, List.any_nil, Bool.or_false] at hb1 hb2
  unfold Amt.fits
  rw [within_not, within_not]
  generalize outside (o.tlo * k.weight) (o.thi * k.weight) (1000 * k.t) = b1 at *
  generalize outside (o.clo * k.weight) (o.chi * k.weight) (1000 * k.c) = b2 at *
  obtain ⟨k1, k2, k3⟩:=hk
  unfold big at *
  generalize k.weight = W at *
  obtain ⟨p0, p1, p2, p3, p4, p5, rfl⟩:=list6 hm
  refine pureA_codeB tabOk { l:=0, f:=63 } mixed call_63 Tryd.func63 (by kernel_rfl) ?_
  conv=>whnf
  refine loopK tabOk { l:=0, f:=63 } mixed (fun i : Nat=>[(14, intA i)]) (fun _=>[]) (fun _=>[]) (fun i=>i ≤ 2∧(0 < i→b1 = false)∧(1 < i→b2 = false)) (fun i=>2 - i) 0 (by kernel_rfl)
    ⟨Nat.zero_le _, by omega, by omega⟩ ?_
  conv=>whnf
  refine ⟨⟨slotsLe_cons rfl trivial, trivial, trivial⟩, ?_⟩
  intro i ⟨hi, H1, H2⟩
  conv=>whnf
  refine brP_dec (fun h1=>?_) (fun h1=>?_)
  · have h1 : (i : Int) < 2:=h1
    rcases (by omega : i = 0∨i = 1) with rfl|rfl
    · cases b1
      · conv=>whnf
        repeat (any_goals (first|exact falseI|((first|refine bd ?_ ?_|refine bn ?_ ?_)<;>intro _<;>first|(exfalso;omega)|conv=>whnf)|((first|refine callP_a s1 ?_|refine callP_a hW ?_|refine callP_a hb1 ?_|refine dI ?_|refine okI ?_|refine bt ?_|refine bi (fun _=>?_) (fun _=>?_)|refine bndI ?_|intro _)<;>conv=>whnf)))
        (refine ⟨1, ⟨by omega, fun _=>rfl, by omega⟩, by omega, ?_⟩;(conv=>whnf);refine ⟨?_, ?_, ?_⟩<;>repeat (first|exact trivial|refine sc rfl ?_|refine kn ?_|refine kc rfl ?_))
      · conv=>whnf
        repeat (any_goals (first|exact falseI|((first|refine bd ?_ ?_|refine bn ?_ ?_)<;>intro _<;>first|(exfalso;omega)|conv=>whnf)|((first|refine callP_a s1 ?_|refine callP_a hW ?_|refine callP_a hb1 ?_|refine dI ?_|refine okI ?_|refine bt ?_|refine bi (fun _=>?_) (fun _=>?_)|refine bndI ?_|intro _)<;>conv=>whnf)))
        (refine ⟨⟨?_⟩, trivial⟩;rfl)
    · have:=H1 (by omega)
      subst this
      cases b2
      · conv=>whnf
        repeat (any_goals (first|exact falseI|((first|refine bd ?_ ?_|refine bn ?_ ?_)<;>intro _<;>first|(exfalso;omega)|conv=>whnf)|((first|refine callP_a s2 ?_|refine callP_a hW ?_|refine callP_a hb2 ?_|refine dI ?_|refine okI ?_|refine bt ?_|refine bi (fun _=>?_) (fun _=>?_)|refine bndI ?_|intro _)<;>conv=>whnf)))
        (refine ⟨2, ⟨by omega, fun _=>rfl, fun _=>rfl⟩, by omega, ?_⟩;(conv=>whnf);refine ⟨?_, ?_, ?_⟩<;>repeat (first|exact trivial|refine sc rfl ?_|refine kn ?_|refine kc rfl ?_))
      · conv=>whnf
        repeat (any_goals (first|exact falseI|((first|refine bd ?_ ?_|refine bn ?_ ?_)<;>intro _<;>first|(exfalso;omega)|conv=>whnf)|((first|refine callP_a s2 ?_|refine callP_a hW ?_|refine callP_a hb2 ?_|refine dI ?_|refine okI ?_|refine bt ?_|refine bi (fun _=>?_) (fun _=>?_)|refine bndI ?_|intro _)<;>conv=>whnf)))
        (refine ⟨⟨?_⟩, trivial⟩;rfl)
  · have h1 : ¬ (i : Int) < 2:=h1
    have e1:=H1 (by omega)
    have e2:=H2 (by omega)
    subst e1 e2
    conv=>whnf
    (refine ⟨⟨?_⟩, trivial⟩;rfl)
def Store.enough (s : Store) (k : Amt) : Bool:=!s.orders.any (fun o=>!k.fits o) && decide (sumW s.orders ≤ k.weight)
def Store.suits (s : Store) (l : List Int) (add : Amt) : Int × Int :=
  if s.entErr l add ≠ 0 then (0, s.entErr l add) else
    if 0 ≤ idx (fun o=>!(sumL (s.melts 0) add l).fits o) s.orders then (idx (fun o=>!(sumL (s.melts 0) add l).fits o) s.orders, 0) else if (sumL (s.melts 0) add l).weight < sumW s.orders then (0, 9) else (0, 4)
def pairI (x : Int × Int) : AV:=.tuple [intA x.1, intA x.2]
theorem kettle_abs {s : Store} {l : List Int} {add : Amt} (h : s.entErr l add = 0) : s.Good∧l.length ≤ 6∧(sumL (s.melts 0) add l).abs big:=by
  unfold Store.entErr at h
  split at h
  · omega
  rename_i hc
  have hg:=Store.good (s:=s) (by omega)
  split at h
  · omega
  rename_i hR
  split at h
  · omega
  rename_i hB
  split at h
  · omega
  rename_i hA
  have hlen : l.length ≤ 6:=by
    have key : ∀ (l : List Int) (p : Option Int) (a : Int), (match p with|none=>a ≤ 0|some q=>a ≤ q + 1)→s.badL p l = false→l.any (outside 0 (s.heads.length - 1)) = false→a + l.length ≤ s.heads.length∨l = []:=by
      intro l
      induction l with
      | nil=>intro p a _ _ _;exact .inr rfl
      | cons x l ih =>
        intro p a hp hb ho
        simp only [Store.badL, Bool.or_eq_false_iff] at hb
        simp only [List.any_cons, Bool.or_eq_false_iff, outside_iff] at ho
        obtain ⟨⟨hb1, hb2⟩, hb3⟩:=hb
        have hax : a ≤ x:=by
          cases p with
          | none=>simp only at hp;omega
          | some q=>simp only [decide_eq_false_iff_not] at hb1 hp;omega
        rcases ih (some x) (a + 1) (by simp only;omega) hb3 ho.2 with h|rfl
        · left;simp only [List.length_cons];omega
        · left;simp only [List.length_cons, List.length_nil];omega
    rcases key l none 0 (by simp) (by simpa using hB) (by simpa using hR) with h|rfl
    · have:=hg.len;omega
    · simp
  refine ⟨hg, hlen, ?_⟩
  have hadd : add.abs 1000000:=by
    rw [addFrom_upTo] at hA
    obtain ⟨l1, l2, l3⟩:=hg.lots
    simp only [Amt.upTo, within, Bool.not_eq_true, Bool.not_eq_false', Bool.and_eq_true, decide_eq_true_eq] at hA
    unfold Amt.abs;omega
  have:=sumL_abs (melts_abs hg (Int.le_refl 0)) (by decide) l add hadd
  unfold Amt.abs big at *
  omega
end Go.Proofs.YtbpiibdcncfphaaDoor
namespace Go.Proofs.YtbpiibdcncfphaaDoor
open Go.Am Go.Proofs Go
theorem entErr_split {s : Store} {l : List Int} {add : Amt} (h : s.entErr l add = 0) : s.check.2.2 = 0∧l.any (outside 0 (s.heads.length - 1)) = false∧false = s.badL none l ∧
    false = addFrom (outside 0 s.lots.b add.b) (outside 0 s.lots.t add.t) (outside 0 s.lots.c add.c) 0:=by
  unfold Store.entErr at h
  split at h
  · omega
  rename_i h1
  split at h
  · omega
  rename_i h2
  split at h
  · omega
  rename_i h3
  split at h
  · omega
  rename_i h4
  exact ⟨by omega, by simpa using h2, by simpa using h3, by simpa using h4⟩
theorem enterF_c (s : Store) (l : List Int) (add : Amt) (hr : s.small) (hl : l.length ≤ 1048576) (h : s.entErr l add ≠ 0) : BoxA Tryd.prog (.fn 61) [] [storeA s, intsA l, amtA add] (.tuple [nilPtr, amtA zeroT, intA (s.entErr l add)]) []:=by
  unfold Store.entErr at h ⊢
  by_cases hc : s.check.2.2 = 0
  · simp only [hc, ne_eq, not_true_eq_false, if_false] at h ⊢
    cases hR : l.any (outside 0 (s.heads.length - 1))
    · simp only [hR, Bool.false_eq_true, if_false] at h ⊢
      cases hB : s.badL none l
      · simp only [hB, Bool.false_eq_true, if_false] at h ⊢
        cases hA : addFrom (outside 0 s.lots.b add.b) (outside 0 s.lots.t add.t) (outside 0 s.lots.c add.c) 0
        · simp [hA] at h
        · exact enter7_c s l add hr hc hl hR hB.symm hA.symm
      · exact enter2_c s l add hr hc hl hR hB.symm
    · exact enter4_c s l add hr hc hl hR
  · simp only [ne_eq, hc, not_false_eq_true, if_true]
    exact enter1_c s l add hr hc
theorem suits_c (s : Store) (l : List Int) (add : Amt) (hr : s.small) (hl : l.length ≤ 1048576) : PureA Tryd.prog 19 [storeA s, intsA l, amtA add] (pairI (s.suits l add)):=by
  unfold Store.suits
  by_cases he : s.entErr l add = 0
  · rw [if_neg (by omega)]
    obtain ⟨hc, hR, hB, hA⟩:=entErr_split he
    obtain ⟨hg, hl6, hk⟩:=kettle_abs he
    have hen:=enterT_c s l add hr hc hl hR hB hA
    have hp:=meltsTo_len s 0 _ (Nat.le_refl _) hg.len
    have e : meltsTo s 0 s.heads.length = s.melts 0:=rfl
    rw [e] at hp
    have hW:=weight_c _ (abs_fit hk)
    have hwb:=weight_abs hk
    have h3:=hg.lenO
    generalize sumL (s.melts 0) add l = k at *
    have hf : ∀ o ∈ s.orders, PureA Tryd.prog 63 [lookR s (sumW s.orders) (s.melts 0), amtA k, orderA o] (boolA (k.fits o)):=fun o ho=>wsuits_c s _ _ k o hp hk (hg.orders o ho)
    generalize sumW s.orders = y at *
    generalize s.melts 0 = p at *
    generalize k.weight = W at *
    clear e he hR hB hA hk
    obtain ⟨p0, p1, p2, p3, p4, p5, rfl⟩:=list6 hp
    refine pureA_codeB tabOk { l:=0, f:=19, mat:=[61] } mixed call_19 Tryd.func19 (by kernel_rfl) ?_
    conv=>whnf
    repeat (any_goals (first|exact falseI|((first|refine bd ?_ ?_|refine bn ?_ ?_)<;>intro _<;>first|(exfalso;omega)|conv=>whnf)|((first|refine dI ?_|refine okI ?_|refine bt ?_|refine bi (fun _=>?_) (fun _=>?_)|refine bndI ?_|intro _)<;>conv=>whnf)))
    refine ⟨[], ?_⟩
    conv=>whnf
    refine ⟨_, _, hen, ?_⟩
    conv=>whnf
    repeat (any_goals (first|exact falseI|((first|refine bd ?_ ?_|refine bn ?_ ?_)<;>intro _<;>first|(exfalso;omega)|conv=>whnf)|((first|refine dI ?_|refine okI ?_|refine bt ?_|refine bi (fun _=>?_) (fun _=>?_)|refine bndI ?_|intro _)<;>conv=>whnf)))
    refine loopK tabOk { l:=0, f:=19, mat:=[61] } mixed (fun i : Nat=>[(27, intA i)]) (fun _=>[]) (fun _=>[]) (fun i=>i ≤ s.orders.length∧idx (fun o=>!k.fits o) s.orders = idxFrom (fun o=>!k.fits o) i (s.orders.drop i)) (fun i=>s.orders.length - i) 0 (by kernel_rfl)
      ⟨Nat.zero_le _, rfl⟩ ?_
    conv=>whnf
    refine ⟨⟨slotsLe_cons rfl trivial, trivial, trivial⟩, ?_⟩
    intro i ⟨hi, H⟩
    conv=>whnf
    refine brP_dec (fun h1=>?_) (fun h1=>?_)
    · simp only [List.length_map] at h1
      obtain ⟨x, hx, hd⟩:=drop_cons (l:=s.orders) (i:=i) (by omega)
      have hx2:=hf x (List.mem_of_getElem? hx)
      have H':=idxFrom_cons hd H
      generalize k.fits x = b at *
      cases b
      · conv=>whnf
        repeat (any_goals (first|exact falseI|((first|refine bd ?_ ?_|refine bn ?_ ?_)<;>intro _<;>first|(exfalso;omega)|conv=>whnf)|((first|refine optP_map hx rfl ?_|refine callP_a hx2 ?_|refine callP_f hx2 rfl ?_|refine dI ?_|refine okI ?_|refine bt ?_|refine bi (fun _=>?_) (fun _=>?_)|refine bndI ?_|intro _)<;>conv=>whnf)))
        simp only [Bool.not_false, if_true] at H'
        rw [H', if_pos (by omega)]
        (refine ⟨⟨?_⟩, trivial⟩;rfl)
      · conv=>whnf
        repeat (any_goals (first|exact falseI|((first|refine bd ?_ ?_|refine bn ?_ ?_)<;>intro _<;>first|(exfalso;omega)|conv=>whnf)|((first|refine optP_map hx rfl ?_|refine callP_a hx2 ?_|refine callP_f hx2 rfl ?_|refine dI ?_|refine okI ?_|refine bt ?_|refine bi (fun _=>?_) (fun _=>?_)|refine bndI ?_|intro _)<;>conv=>whnf)))
        simp only [Bool.not_true, Bool.false_eq_true, if_false] at H'
        (refine ⟨i + 1, ⟨by omega, H'⟩, by omega, ?_⟩;(conv=>whnf);refine ⟨?_, ?_, ?_⟩<;>repeat (first|exact trivial|refine sc rfl ?_|refine kn ?_|refine kc rfl ?_))
    · conv=>whnf
      simp only [List.length_map] at h1
      have : i = s.orders.length:=by omega
      subst this
      simp only [List.drop_length, idxFrom] at H
      rw [H, if_neg (by omega)]
      repeat (any_goals (first|exact falseI|((first|refine bd ?_ ?_|refine bn ?_ ?_)<;>intro _<;>first|(exfalso;omega)|conv=>whnf)|((first|refine callP_a hW ?_|refine callP_f hW rfl ?_|refine dI ?_|refine okI ?_|refine bt ?_|refine bi (fun _=>?_) (fun _=>?_)|refine bndI ?_|intro _)<;>conv=>whnf)))
      · rw [if_pos (by omega)]
        (refine ⟨⟨?_⟩, trivial⟩;rfl)
      · rw [if_neg (by omega)]
        (refine ⟨⟨?_⟩, trivial⟩;rfl)
  · rw [if_pos he]
    have hen:=enterF_c s l add hr hl he
    generalize s.entErr l add = e at *
    refine pureA_codeB tabOk { l:=0, f:=19, mat:=[61] } mixed call_19 Tryd.func19 (by kernel_rfl) ?_
    conv=>whnf
    repeat (any_goals (first|exact falseI|((first|refine bd ?_ ?_|refine bn ?_ ?_)<;>intro _<;>first|(exfalso;omega)|conv=>whnf)|((first|refine dI ?_|refine okI ?_|refine bt ?_|refine bi (fun _=>?_) (fun _=>?_)|refine bndI ?_|intro _)<;>conv=>whnf)))
    refine ⟨[], ?_⟩
    conv=>whnf
    refine ⟨_, _, hen, ?_⟩
    conv=>whnf
    repeat (any_goals (first|exact falseI|((first|refine bd ?_ ?_|refine bn ?_ ?_)<;>intro _<;>first|(exfalso;omega)|conv=>whnf)|((first|refine dI ?_|refine okI ?_|refine bt ?_|refine bi (fun _=>?_) (fun _=>?_)|refine bndI ?_|intro _)<;>conv=>whnf)))
    (refine ⟨⟨?_⟩, trivial⟩;rfl)
end Go.Proofs.YtbpiibdcncfphaaDoor
namespace Go.Proofs.YtbpiibdcncfphaaDoor
open Go.Am Go.Proofs Go
theorem pickM_max (a b : Int) : pickM true a b = max a b:=by
  simp only [pickM]
def foldHi (a : Int) : List Int→Int→Option Int
  | [], l=>some l
  | h :: hs, l=>if 0 < h then foldHi a hs (max l ((1000 * a + h - 1).tdiv h)) else if 0 < a then none else foldHi a hs l
structure Work where
  orders : List Order
  lotsB : Int
  k : Amt
def Work.ret (x : Work) (l : Int) : Int × Bool:=(l - x.k.weight, decide (l - x.k.weight ≤ x.lotsB))
def Work.lo2 (x : Work) (j : Nat) (l : Int) : Int × Bool:=if (x.orders.drop j).any (fun o=>decide (1000 * x.k.c < o.clo * l)) = true then (0, false) else x.ret l
def Work.lo1 (x : Work) (j : Nat) (l : Int) : Int × Bool:=if (x.orders.drop j).any (fun o=>decide (1000 * x.k.t < o.tlo * l)) = true then (0, false) else x.lo2 0 l
def Work.hi2 (x : Work) (j : Nat) (l : Int) : Int × Bool:=match foldHi x.k.c ((x.orders.drop j).map (·.chi)) l with|none=>(0, false)|some l=>x.lo1 0 l
def Work.hi1 (x : Work) (j : Nat) (l : Int) : Int × Bool:=match foldHi x.k.t ((x.orders.drop j).map (·.thi)) l with|none=>(0, false)|some l=>x.hi2 0 l
def Store.work (s : Store) (k : Amt) : Work:=⟨s.orders, s.lots.b, k⟩
def Store.bees (s : Store) (k : Amt) : Int × Bool:=(s.work k).hi1 0 (max k.weight (sumW s.orders))
def pairB (x : Int × Bool) : AV:=.tuple [intA x.1, boolA x.2]
theorem prod_abs {a b : Int} (h0 : 0 ≤ a) (h1 : a ≤ 1000) (h2 : -10000000000 ≤ b) (h3 : b ≤ 10000000000) : -10000000000000 ≤ a * b∧a * b ≤ 10000000000000:=by
  have:=mul_abs h0 h1 h2 h3 (by decide)
  omega
set_option maxHeartbeats 2000000 in
theorem bees_c (s : Store) (m : List Amt) (k : Amt) (hm : m.length = 6) (hg : s.Good) (hk : k.upto 1000000) : PureA Tryd.prog 93 [lookR s (sumW s.orders) m, amtA k] (pairB (s.bees k)):=by
  obtain ⟨k1, k2, k3⟩:=hk
  have hW:=weight_c k (by unfold Amt.fit big;omega)
  have hwb : 0 ≤ k.weight∧k.weight ≤ 3000000:=by unfold Amt.weight;omega
  have hs:=sumW_le s.orders hg.orders
  have h3:=hg.lenO
  have hlots:=hg.lots.1
  have ho:=hg.orders
  obtain ⟨B, hB⟩ : ∃ B, B = s.bees k:=⟨_, rfl⟩
  rw [← hB]
  unfold Store.bees at hB
  have hret : ∀ l, (s.work k).ret l = (l - k.weight, decide (l - k.weight ≤ s.lots.b)):=fun l=>rfl
  have hlo2 : ∀ l j, (s.work k).lo2 j l = if (s.orders.drop j).any (fun o=>decide (1000 * k.c < o.clo * l)) = true then (0, false) else (s.work k).ret l:=fun l j=>rfl
  have hlo1 : ∀ l j, (s.work k).lo1 j l = if (s.orders.drop j).any (fun o=>decide (1000 * k.t < o.tlo * l)) = true then (0, false) else (s.work k).lo2 0 l:=fun l j=>rfl
  have hhi2 : ∀ l j, (s.work k).hi2 j l = match foldHi k.c ((s.orders.drop j).map (·.chi)) l with|none=>(0, false)|some l=>(s.work k).lo1 0 l:=fun l j=>rfl
  have hhi1 : ∀ l j, (s.work k).hi1 j l = match foldHi k.t ((s.orders.drop j).map (·.thi)) l with|none=>(0, false)|some l=>(s.work k).hi2 0 l:=fun l j=>rfl
  generalize s.work k = x at *
  generalize sumW s.orders = y at *
  have hl0 : -10000000000 ≤ max k.weight y∧max k.weight y ≤ 10000000000:=by omega
  rw [← pickM_max] at hB hl0
  generalize k.weight = V at *
  clear hg
  obtain ⟨p0, p1, p2, p3, p4, p5, rfl⟩:=list6 hm
  refine pureA_codeB tabOk { l:=0, f:=93 } mixed call_93 Tryd.func93 (by kernel_rfl) ?_
  conv=>whnf
  repeat (any_goals (first|exact falseI|((first|refine bd ?_ ?_|refine bn ?_ ?_)<;>intro _<;>first|(exfalso;omega)|conv=>whnf)|((first|refine callP_a hW ?_|refine dI ?_|refine okI ?_|refine bt ?_|refine bi (fun _=>?_) (fun _=>?_)|refine bndI ?_|intro _)<;>conv=>whnf)))
  generalize pickM true V y = l0 at *
  refine loopK tabOk { l:=0, f:=93 } mixed (fun a : Nat × Int=>[(29, intA a.1), (6, intA a.2)]) (fun _=>[]) (fun _=>[]) (fun a=>(-10000000000 ≤ a.2∧a.2 ≤ 10000000000)∧((a.1 = 0∧B = x.hi1 0 a.2)∨(a.1 = 1∧B = x.hi2 0 a.2)∨(a.1 = 2∧B = x.lo1 0 a.2))) (fun a=>2 - a.1) (0, l0) (by kernel_rfl)
    ⟨hl0, .inl ⟨rfl, hB⟩⟩ ?_
  conv=>whnf
  refine ⟨⟨slotsLe_cons rfl (slotsLe_cons rfl trivial), trivial, trivial⟩, ?_⟩
  intro ⟨i, l⟩ ⟨hl, H⟩
  simp only at hl H
  rcases H with ⟨rfl, H⟩|⟨rfl, H⟩|⟨rfl, H⟩
  · conv=>whnf
    repeat (any_goals (first|exact falseI|((first|refine bd ?_ ?_|refine bn ?_ ?_)<;>intro _<;>first|(exfalso;omega)|conv=>whnf)|((first|refine dI ?_|refine okI ?_|refine bt ?_|refine bi (fun _=>?_) (fun _=>?_)|refine bndI ?_|intro _)<;>conv=>whnf)))
    refine loopK tabOk { l:=0, f:=93 } mixed (fun a : Nat × Int=>[(39, intA a.1), (6, intA a.2)]) (fun _=>[]) (fun _=>[]) (fun a=>a.1 ≤ s.orders.length∧(-10000000000 ≤ a.2∧a.2 ≤ 10000000000)∧B = x.hi1 a.1 a.2) (fun a=>s.orders.length - a.1) (0, l) (by kernel_rfl)
      ⟨Nat.zero_le _, hl, H⟩ ?_
    conv=>whnf
    refine ⟨⟨slotsLe_cons rfl (slotsLe_cons rfl trivial), trivial, trivial⟩, ?_⟩
    clear H hl
    intro ⟨j, l⟩ ⟨hj, hl, H⟩
    simp only at hj hl H
    rw [hhi1] at H
    conv=>whnf
    refine brP_dec (fun h1=>?_) (fun h1=>?_)
    · have h1 : (j : Int) < ((s.orders.map orderA).length : Nat):=h1
      simp only [List.length_map] at h1
      obtain ⟨z, hz, hd⟩:=drop_cons (l:=s.orders) (i:=j) (by omega)
      have hsp:=span1_c z
      have hzo:=ho z (List.mem_of_getElem? hz)
      obtain ⟨o1, o2, o3⟩:=hzo
      rw [hd, List.map_cons] at H
      simp only [foldHi] at H
      rw [← pickM_max] at H
      by_cases hp : 0 < z.thi
      · rw [if_pos hp, ← hhi1] at H
        have hq:=tdiv_le (a:=1000 * k.t + z.thi - 1) (b:=z.thi) (by omega) (by omega)
        have hpm : -10000000000 ≤ pickM true l ((1000 * k.t + z.thi - 1).tdiv z.thi)∧pickM true l ((1000 * k.t + z.thi - 1).tdiv z.thi) ≤ 10000000000:=by rw [pickM_max];omega
        conv=>whnf
        repeat (any_goals (first|exact falseI|((first|refine bd ?_ ?_|refine bn ?_ ?_)<;>intro _<;>first|(exfalso;omega)|conv=>whnf)|((first|refine optP_map hz rfl ?_|refine callP_a hsp ?_|refine dI ?_|refine okI ?_|refine bt ?_|refine bi (fun _=>?_) (fun _=>?_)|refine bndI ?_|intro _)<;>conv=>whnf)))
        (refine ⟨(j + 1, pickM true l ((1000 * k.t + z.thi - 1).tdiv z.thi)), ⟨by simp only;omega, hpm, H⟩, by simp only;omega, ?_⟩;(conv=>whnf);refine ⟨?_, ?_, ?_⟩<;>repeat (first|exact trivial|refine sc rfl ?_|refine kn ?_|refine kc rfl ?_))
      · rw [if_neg hp] at H
        by_cases hp2 : 0 < k.t
        · rw [if_pos hp2] at H
          conv=>whnf
          repeat (any_goals (first|exact falseI|((first|refine bd ?_ ?_|refine bn ?_ ?_)<;>intro _<;>first|(exfalso;omega)|conv=>whnf)|((first|refine optP_map hz rfl ?_|refine callP_a hsp ?_|refine dI ?_|refine okI ?_|refine bt ?_|refine bi (fun _=>?_) (fun _=>?_)|refine bndI ?_|intro _)<;>conv=>whnf)))
          (refine ⟨⟨?_⟩, trivial⟩;rw [H];rfl)
        · rw [if_neg hp2, ← hhi1] at H
          conv=>whnf
          repeat (any_goals (first|exact falseI|((first|refine bd ?_ ?_|refine bn ?_ ?_)<;>intro _<;>first|(exfalso;omega)|conv=>whnf)|((first|refine optP_map hz rfl ?_|refine callP_a hsp ?_|refine dI ?_|refine okI ?_|refine bt ?_|refine bi (fun _=>?_) (fun _=>?_)|refine bndI ?_|intro _)<;>conv=>whnf)))
          (refine ⟨(j + 1, l), ⟨by simp only;omega, hl, H⟩, by simp only;omega, ?_⟩;(conv=>whnf);refine ⟨?_, ?_, ?_⟩<;>repeat (first|exact trivial|refine sc rfl ?_|refine kn ?_|refine kc rfl ?_))
    · have h1 : ¬ (j : Int) < ((s.orders.map orderA).length : Nat):=h1
      simp only [List.length_map] at h1
      rw [List.drop_of_length_le (by omega)] at H
      simp only [List.map_nil, foldHi] at H
      conv=>whnf
      repeat (any_goals (first|exact falseI|((first|refine bd ?_ ?_|refine bn ?_ ?_)<;>intro _<;>first|(exfalso;omega)|conv=>whnf)|((first|refine dI ?_|refine okI ?_|refine bt ?_|refine bi (fun _=>?_) (fun _=>?_)|refine bndI ?_|intro _)<;>conv=>whnf)))
      (refine ⟨(1, l), ⟨hl, .inr (.inl ⟨rfl, H⟩)⟩, by simp only;omega, ?_⟩;(conv=>whnf);refine ⟨?_, ?_, ?_⟩<;>repeat (first|exact trivial|refine sc rfl ?_|refine kn ?_|refine kc rfl ?_))
  · conv=>whnf
    repeat (any_goals (first|exact falseI|((first|refine bd ?_ ?_|refine bn ?_ ?_)<;>intro _<;>first|(exfalso;omega)|conv=>whnf)|((first|refine dI ?_|refine okI ?_|refine bt ?_|refine bi (fun _=>?_) (fun _=>?_)|refine bndI ?_|intro _)<;>conv=>whnf)))
    refine loopK tabOk { l:=0, f:=93 } mixed (fun a : Nat × Int=>[(39, intA a.1), (6, intA a.2)]) (fun _=>[]) (fun _=>[]) (fun a=>a.1 ≤ s.orders.length∧(-10000000000 ≤ a.2∧a.2 ≤ 10000000000)∧B = x.hi2 a.1 a.2) (fun a=>s.orders.length - a.1) (0, l) (by kernel_rfl)
      ⟨Nat.zero_le _, hl, H⟩ ?_
    conv=>whnf
    refine ⟨⟨slotsLe_cons rfl (slotsLe_cons rfl trivial), trivial, trivial⟩, ?_⟩
    clear H hl
    intro ⟨j, l⟩ ⟨hj, hl, H⟩
    simp only at hj hl H
    rw [hhi2] at H
    conv=>whnf
    refine brP_dec (fun h1=>?_) (fun h1=>?_)
    · have h1 : (j : Int) < ((s.orders.map orderA).length : Nat):=h1
      simp only [List.length_map] at h1
      obtain ⟨z, hz, hd⟩:=drop_cons (l:=s.orders) (i:=j) (by omega)
      have hsp:=span2_c z
      have hzo:=ho z (List.mem_of_getElem? hz)
      obtain ⟨o1, o2, o3⟩:=hzo
      rw [hd, List.map_cons] at H
      simp only [foldHi] at H
      rw [← pickM_max] at H
      by_cases hp : 0 < z.chi
      · rw [if_pos hp, ← hhi2] at H
        have hq:=tdiv_le (a:=1000 * k.c + z.chi - 1) (b:=z.chi) (by omega) (by omega)
        have hpm : -10000000000 ≤ pickM true l ((1000 * k.c + z.chi - 1).tdiv z.chi)∧pickM true l ((1000 * k.c + z.chi - 1).tdiv z.chi) ≤ 10000000000:=by rw [pickM_max];omega
        conv=>whnf
        repeat (any_goals (first|exact falseI|((first|refine bd ?_ ?_|refine bn ?_ ?_)<;>intro _<;>first|(exfalso;omega)|conv=>whnf)|((first|refine optP_map hz rfl ?_|refine callP_a hsp ?_|refine dI ?_|refine okI ?_|refine bt ?_|refine bi (fun _=>?_) (fun _=>?_)|refine bndI ?_|intro _)<;>conv=>whnf)))
        (refine ⟨(j + 1, pickM true l ((1000 * k.c + z.chi - 1).tdiv z.chi)), ⟨by simp only;omega, hpm, H⟩, by simp only;omega, ?_⟩;(conv=>whnf);refine ⟨?_, ?_, ?_⟩<;>repeat (first|exact trivial|refine sc rfl ?_|refine kn ?_|refine kc rfl ?_))
      · rw [if_neg hp] at H
        by_cases hp2 : 0 < k.c
        · rw [if_pos hp2] at H
          conv=>whnf
          repeat (any_goals (first|exact falseI|((first|refine bd ?_ ?_|refine bn ?_ ?_)<;>intro _<;>first|(exfalso;omega)|conv=>whnf)|((first|refine optP_map hz rfl ?_|refine callP_a hsp ?_|refine dI ?_|refine okI ?_|refine bt ?_|refine bi (fun _=>?_) (fun _=>?_)|refine bndI ?_|intro _)<;>conv=>whnf)))
          (refine ⟨⟨?_⟩, trivial⟩;rw [H];rfl)
        · rw [if_neg hp2, ← hhi2] at H
          conv=>whnf
          repeat (any_goals (first|exact falseI|((first|refine bd ?_ ?_|refine bn ?_ ?_)<;>intro _<;>first|(exfalso;omega)|conv=>whnf)|((first|refine optP_map hz rfl ?_|refine callP_a hsp ?_|refine dI ?_|refine okI ?_|refine bt ?_|refine bi (fun _=>?_) (fun _=>?_)|refine bndI ?_|intro _)<;>conv=>whnf)))
          (refine ⟨(j + 1, l), ⟨by simp only;omega, hl, H⟩, by simp only;omega, ?_⟩;(conv=>whnf);refine ⟨?_, ?_, ?_⟩<;>repeat (first|exact trivial|refine sc rfl ?_|refine kn ?_|refine kc rfl ?_))
    · have h1 : ¬ (j : Int) < ((s.orders.map orderA).length : Nat):=h1
      simp only [List.length_map] at h1
      rw [List.drop_of_length_le (by omega)] at H
      simp only [List.map_nil, foldHi] at H
      conv=>whnf
      repeat (any_goals (first|exact falseI|((first|refine bd ?_ ?_|refine bn ?_ ?_)<;>intro _<;>first|(exfalso;omega)|conv=>whnf)|((first|refine dI ?_|refine okI ?_|refine bt ?_|refine bi (fun _=>?_) (fun _=>?_)|refine bndI ?_|intro _)<;>conv=>whnf)))
      (refine ⟨(2, l), ⟨hl, .inr (.inr ⟨rfl, H⟩)⟩, by simp only;omega, ?_⟩;(conv=>whnf);refine ⟨?_, ?_, ?_⟩<;>repeat (first|exact trivial|refine sc rfl ?_|refine kn ?_|refine kc rfl ?_))
  · conv=>whnf
    repeat (any_goals (first|exact falseI|((first|refine bd ?_ ?_|refine bn ?_ ?_)<;>intro _<;>first|(exfalso;omega)|conv=>whnf)|((first|refine dI ?_|refine okI ?_|refine bt ?_|refine bi (fun _=>?_) (fun _=>?_)|refine bndI ?_|intro _)<;>conv=>whnf)))
    refine loopK tabOk { l:=0, f:=93 } mixed (fun i : Nat=>[(76, intA i)]) (fun _=>[]) (fun _=>[]) (fun i=>(i = 0∧B = x.lo1 0 l)∨(i = 1∧B = x.lo2 0 l)∨(i = 2∧B = x.ret l)) (fun i=>2 - i) 0 (by kernel_rfl)
      (.inl ⟨rfl, H⟩) ?_
    conv=>whnf
    refine ⟨⟨slotsLe_cons rfl trivial, trivial, trivial⟩, ?_⟩
    intro i H
    rcases H with ⟨rfl, H⟩|⟨rfl, H⟩|⟨rfl, H⟩
    · conv=>whnf
      repeat (any_goals (first|exact falseI|((first|refine bd ?_ ?_|refine bn ?_ ?_)<;>intro _<;>first|(exfalso;omega)|conv=>whnf)|((first|refine dI ?_|refine okI ?_|refine bt ?_|refine bi (fun _=>?_) (fun _=>?_)|refine bndI ?_|intro _)<;>conv=>whnf)))
      refine loopK tabOk { l:=0, f:=93 } mixed (fun j : Nat=>[(86, intA j)]) (fun _=>[]) (fun _=>[]) (fun j=>j ≤ s.orders.length∧B = x.lo1 j l) (fun j=>s.orders.length - j) 0 (by kernel_rfl)
        ⟨Nat.zero_le _, H⟩ ?_
      conv=>whnf
      refine ⟨⟨slotsLe_cons rfl trivial, trivial, trivial⟩, ?_⟩
      clear H
      intro j ⟨hj, H⟩
      rw [hlo1] at H
      conv=>whnf
      refine brP_dec (fun h1=>?_) (fun h1=>?_)
      · have h1 : (j : Int) < ((s.orders.map orderA).length : Nat):=h1
        simp only [List.length_map] at h1
        obtain ⟨z, hz, hd⟩:=drop_cons (l:=s.orders) (i:=j) (by omega)
        have hsp:=span1_c z
        have hzo:=ho z (List.mem_of_getElem? hz)
        obtain ⟨o1, o2, o3⟩:=hzo
        have hpr:=prod_abs (a:=z.tlo) (b:=l) (by omega) (by omega) hl.1 hl.2
        rw [hd, List.any_cons] at H
        by_cases hp : 1000 * k.t < z.tlo * l
        · have hp' : 1000 * k.t < z.tlo * ((2 : Nat), l).snd:=hp
          rw [decide_eq_true hp, Bool.true_or, if_pos rfl] at H
          conv=>whnf
          repeat (any_goals (first|exact falseI|((first|refine bd ?_ ?_|refine bn ?_ ?_)<;>intro _<;>first|(exfalso;omega)|conv=>whnf)|((first|refine optP_map hz rfl ?_|refine callP_a hsp ?_|refine dI ?_|refine okI ?_|refine bt ?_|refine bi (fun _=>?_) (fun _=>?_)|refine bndI ?_|intro _)<;>conv=>whnf)))
          (refine ⟨⟨?_⟩, trivial⟩;rw [H];rfl)
        · have hp' : ¬ 1000 * k.t < z.tlo * ((2 : Nat), l).snd:=hp
          rw [decide_eq_false hp, Bool.false_or, ← hlo1] at H
          conv=>whnf
          repeat (any_goals (first|exact falseI|((first|refine bd ?_ ?_|refine bn ?_ ?_)<;>intro _<;>first|(exfalso;omega)|conv=>whnf)|((first|refine optP_map hz rfl ?_|refine callP_a hsp ?_|refine dI ?_|refine okI ?_|refine bt ?_|refine bi (fun _=>?_) (fun _=>?_)|refine bndI ?_|intro _)<;>conv=>whnf)))
          (refine ⟨j + 1, ⟨by omega, H⟩, by omega, ?_⟩;(conv=>whnf);refine ⟨?_, ?_, ?_⟩<;>repeat (first|exact trivial|refine sc rfl ?_|refine kn ?_|refine kc rfl ?_))
      · have h1 : ¬ (j : Int) < ((s.orders.map orderA).length : Nat):=h1
        simp only [List.length_map] at h1
        rw [List.drop_of_length_le (by omega)] at H
        simp only [List.any_nil, Bool.false_eq_true, if_false] at H
        conv=>whnf
        repeat (any_goals (first|exact falseI|((first|refine bd ?_ ?_|refine bn ?_ ?_)<;>intro _<;>first|(exfalso;omega)|conv=>whnf)|((first|refine dI ?_|refine okI ?_|refine bt ?_|refine bi (fun _=>?_) (fun _=>?_)|refine bndI ?_|intro _)<;>conv=>whnf)))
        (refine ⟨1, .inr (.inl ⟨rfl, H⟩), by omega, ?_⟩;(conv=>whnf);refine ⟨?_, ?_, ?_⟩<;>repeat (first|exact trivial|refine sc rfl ?_|refine kn ?_|refine kc rfl ?_))
    · conv=>whnf
      repeat (any_goals (first|exact falseI|((first|refine bd ?_ ?_|refine bn ?_ ?_)<;>intro _<;>first|(exfalso;omega)|conv=>whnf)|((first|refine dI ?_|refine okI ?_|refine bt ?_|refine bi (fun _=>?_) (fun _=>?_)|refine bndI ?_|intro _)<;>conv=>whnf)))
      refine loopK tabOk { l:=0, f:=93 } mixed (fun j : Nat=>[(86, intA j)]) (fun _=>[]) (fun _=>[]) (fun j=>j ≤ s.orders.length∧B = x.lo2 j l) (fun j=>s.orders.length - j) 0 (by kernel_rfl)
        ⟨Nat.zero_le _, H⟩ ?_
      conv=>whnf
      refine ⟨⟨slotsLe_cons rfl trivial, trivial, trivial⟩, ?_⟩
      clear H
      intro j ⟨hj, H⟩
      rw [hlo2] at H
      conv=>whnf
      refine brP_dec (fun h1=>?_) (fun h1=>?_)
      · have h1 : (j : Int) < ((s.orders.map orderA).length : Nat):=h1
        simp only [List.length_map] at h1
        obtain ⟨z, hz, hd⟩:=drop_cons (l:=s.orders) (i:=j) (by omega)
        have hsp:=span2_c z
        have hzo:=ho z (List.mem_of_getElem? hz)
        obtain ⟨o1, o2, o3⟩:=hzo
        have hpr:=prod_abs (a:=z.clo) (b:=l) (by omega) (by omega) hl.1 hl.2
        rw [hd, List.any_cons] at H
        by_cases hp : 1000 * k.c < z.clo * l
        · have hp' : 1000 * k.c < z.clo * ((2 : Nat), l).snd:=hp
          rw [decide_eq_true hp, Bool.true_or, if_pos rfl] at H
          conv=>whnf
          repeat (any_goals (first|exact falseI|((first|refine bd ?_ ?_|refine bn ?_ ?_)<;>intro _<;>first|(exfalso;omega)|conv=>whnf)|((first|refine optP_map hz rfl ?_|refine callP_a hsp ?_|refine dI ?_|refine okI ?_|refine bt ?_|refine bi (fun _=>?_) (fun _=>?_)|refine bndI ?_|intro _)<;>conv=>whnf)))
          (refine ⟨⟨?_⟩, trivial⟩;rw [H];rfl)
        · have hp' : ¬ 1000 * k.c < z.clo * ((2 : Nat), l).snd:=hp
          rw [decide_eq_false hp, Bool.false_or, ← hlo2] at H
          conv=>whnf
          repeat (any_goals (first|exact falseI|((first|refine bd ?_ ?_|refine bn ?_ ?_)<;>intro _<;>first|(exfalso;omega)|conv=>whnf)|((first|refine optP_map hz rfl ?_|refine callP_a hsp ?_|refine dI ?_|refine okI ?_|refine bt ?_|refine bi (fun _=>?_) (fun _=>?_)|refine bndI ?_|intro _)<;>conv=>whnf)))
          (refine ⟨j + 1, ⟨by omega, H⟩, by omega, ?_⟩;(conv=>whnf);refine ⟨?_, ?_, ?_⟩<;>repeat (first|exact trivial|refine sc rfl ?_|refine kn ?_|refine kc rfl ?_))
      · have h1 : ¬ (j : Int) < ((s.orders.map orderA).length : Nat):=h1
        simp only [List.length_map] at h1
        rw [List.drop_of_length_le (by omega)] at H
        simp only [List.any_nil, Bool.false_eq_true, if_false] at H
        conv=>whnf
        repeat (any_goals (first|exact falseI|((first|refine bd ?_ ?_|refine bn ?_ ?_)<;>intro _<;>first|(exfalso;omega)|conv=>whnf)|((first|refine dI ?_|refine okI ?_|refine bt ?_|refine bi (fun _=>?_) (fun _=>?_)|refine bndI ?_|intro _)<;>conv=>whnf)))
        (refine ⟨2, .inr (.inr ⟨rfl, H⟩), by omega, ?_⟩;(conv=>whnf);refine ⟨?_, ?_, ?_⟩<;>repeat (first|exact trivial|refine sc rfl ?_|refine kn ?_|refine kc rfl ?_))
    · conv=>whnf
      rw [hret] at H
      repeat (any_goals (first|exact falseI|((first|refine bd ?_ ?_|refine bn ?_ ?_)<;>intro _<;>first|(exfalso;omega)|conv=>whnf)|((first|refine callP_a hW ?_|refine dI ?_|refine okI ?_|refine bt ?_|refine bi (fun _=>?_) (fun _=>?_)|refine bndI ?_|intro _)<;>conv=>whnf)))
      (refine ⟨⟨?_⟩, trivial⟩;rw [H];rfl)
end Go.Proofs.YtbpiibdcncfphaaDoor
namespace Go.Proofs.YtbpiibdcncfphaaDoor
open Go.Am Go.Proofs Go
structure Poured where
  amt : Amt
  ok : Bool
deriving DecidableEq
def zeroP : Poured:=⟨zeroT, false⟩
def pouredA (p : Poured) : AV:=.agg [intA p.amt.b, intA p.amt.t, intA p.amt.c, boolA p.ok]
def Poured.better (x best : Poured) : Bool :=
  decide (best = zeroP) || decide (x.amt.weight - best.amt.weight < 0) || (decide (x.amt.weight - best.amt.weight = 0) && decide (cmpL [x.amt.b, x.amt.t, x.amt.c] [best.amt.b, best.amt.t, best.amt.c] < 0))
def Store.pourStep (s : Store) (base : Amt) (t c : Nat) (best : Poured) : Poured :=
  if (s.bees ⟨base.b, base.t + t, base.c + c⟩).2 = false then best else
    if Poured.better ⟨⟨(s.bees ⟨base.b, base.t + t, base.c + c⟩).1, t, c⟩, true⟩ best = true then ⟨⟨(s.bees ⟨base.b, base.t + t, base.c + c⟩).1, t, c⟩, true⟩ else best
def Store.pourIn (s : Store) (base : Amt) (t : Nat) : Nat→Nat→Poured→Poured
  | 0, _, best=>best
  | n + 1, c, best=>s.pourIn base t n (c + 1) (s.pourStep base t c best)
def Store.pourOut (s : Store) (base : Amt) : Nat→Nat→Poured→Poured
  | 0, _, best=>best
  | n + 1, t, best=>s.pourOut base n (t + 1) (s.pourIn base t (s.lots.c.toNat + 1) 0 best)
def Store.pour (s : Store) (base : Amt) : Poured:=s.pourOut base (s.lots.t.toNat + 1) 0 zeroP
theorem poured_eqL (p : Poured) : eqL [.int .i64 p.amt.b, .int .i64 p.amt.t, .int .i64 p.amt.c, .bool p.ok] [.int .i64 0, .int .i64 0, .int .i64 0, .bool false] = decide (p = zeroP):=by
  obtain ⟨⟨a, b, c⟩, d⟩:=p
  rw [Bool.eq_iff_iff]
  simp [eqL, eqC, zeroP, zeroT]
  constructor
  · rintro ⟨rfl, rfl, rfl, rfl⟩;simp
  · rintro ⟨⟨rfl, rfl, rfl⟩, rfl⟩;simp
theorem foldHi_le {a : Int} (ha : 0 ≤ a∧a ≤ 1000000) : ∀ (hs : List Int) (l l' : Int), (∀ h ∈ hs, h ≤ 1000)→(-10000000000 ≤ l∧l ≤ 10000000000)→foldHi a hs l = some l'→-10000000000 ≤ l'∧l' ≤ 10000000000
  | [], l, l', _, hl, h=>by simp [foldHi] at h;subst h;exact hl
  | x :: hs, l, l', hx, hl, h=>by
    have h1:=hx x (List.mem_cons_self ..)
    simp only [foldHi] at h
    split at h
    · rename_i hp
      have hq:=tdiv_le (a:=1000 * a + x - 1) (b:=x) (by omega) (by omega)
      exact foldHi_le ha hs _ l' (fun y hy=>hx y (List.mem_cons_of_mem _ hy)) (by omega) h
    · split at h
      · cases h
      · exact foldHi_le ha hs l l' (fun y hy=>hx y (List.mem_cons_of_mem _ hy)) hl h
theorem bees_le {s : Store} {k : Amt} (hg : s.Good) (hk : k.upto 1000000) : -20000000000 ≤ (s.bees k).1∧(s.bees k).1 ≤ 20000000000:=by
  obtain ⟨k1, k2, k3⟩:=hk
  have hs:=sumW_le s.orders hg.orders
  have h3:=hg.lenO
  have hw : 0 ≤ k.weight∧k.weight ≤ 3000000:=by unfold Amt.weight;omega
  have hth : ∀ h ∈ (s.orders.drop 0).map (·.thi), h ≤ 1000:=by
    intro h hh
    obtain ⟨o, ho, rfl⟩:=List.mem_map.1 hh
    have:=(hg.orders o (by simpa using ho)).2.1
    omega
  have hch : ∀ h ∈ (s.orders.drop 0).map (·.chi), h ≤ 1000:=by
    intro h hh
    obtain ⟨o, ho, rfl⟩:=List.mem_map.1 hh
    have:=(hg.orders o (by simpa using ho)).2.2
    omega
  unfold Store.bees Work.hi1
  simp only [Store.work]
  split
  · simp
  rename_i l1 e1
  have b1:=foldHi_le k2 _ _ _ hth (by omega) e1
  unfold Work.hi2
  split
  · simp
  rename_i l2 e2
  have b2:=foldHi_le k3 _ _ _ hch b1 e2
  unfold Work.lo1 Work.lo2 Work.ret
  split
  · simp
  · split
    · simp
    · simp only;omega
def Poured.fit (p : Poured) : Prop:=p.amt.abs 20000000000
theorem pourStep_fit {s : Store} {base : Amt} {t c : Nat} {best : Poured} (hg : s.Good) (hb : base.upto 900000) (ht : t ≤ 100) (hc : c ≤ 100) (h : best.fit) : (s.pourStep base t c best).fit:=by
  have hk : (⟨base.b, base.t + t, base.c + c⟩ : Amt).upto 1000000:=by
    obtain ⟨b1, b2, b3⟩:=hb
    refine ⟨?_, ?_, ?_⟩<;>simp only<;>omega
  have:=bees_le hg hk
  unfold Store.pourStep
  split
  · exact h
  · split
    · unfold Poured.fit Amt.abs;simp only;omega
    · exact h
end Go.Proofs.YtbpiibdcncfphaaDoor
namespace Go.Proofs.YtbpiibdcncfphaaDoor
open Go.Am Go.Proofs Go
def entA (e : Amt × Poured) : AV:=.tuple [amtA e.1, pouredA e.2]
abbrev MemoL:=Int × List (Amt × Poured)
def mapX (memo : MemoL) : List AV:=.v (.int .i64 memo.1) :: memo.2.map entA
def storeE (s : Store) (w : Int) (m : List Amt) (memo : MemoL) : List BoxE:=[(kS, 1, 27, [storeY s w m (.mp kM 1)]), (kM, 1, 0, mapX memo)]
def Store.memoOk (s : Store) (memo : MemoL) : Prop:=∀ e ∈ memo.2, e.2 = s.pour e.1
def Store.remember (s : Store) (memo : MemoL) (base : Amt) : MemoL:=if memo.2.any (fun e=>decide (e.1 = base)) = true then memo else (memo.1, memo.2++[(base, s.pour base)])
theorem Store.memoOk.remember {s : Store} {memo : MemoL} (h : s.memoOk memo) (base : Amt) : s.memoOk (s.remember memo base):=by
  unfold Store.remember
  split
  · exact h
  · intro e he
    rcases List.mem_append.1 he with he|he
    · exact h e he
    · simp at he;subst he;rfl
def kkA : KK:=.agg [.int .i64, .int .i64, .int .i64]
def valA (a : Amt) : Value:=.agg #[.int .i64 a.b, .int .i64 a.t, .int .i64 a.c]
theorem eqV_amt (a b : Amt) : eqV (valA a) (valA b) = decide (a = b):=by
  obtain ⟨a1, a2, a3⟩:=a
  obtain ⟨b1, b2, b3⟩:=b
  rw [Bool.eq_iff_iff]
  simp [eqV, valA, eqL, eqC]
theorem find_met {s : Store} : ∀ (l : List (Amt × Poured)) (a : Amt) (n : Nat), (∀ e ∈ l, e.2 = s.pour e.1)→(l.any fun e=>decide (e.1 = a)) = true→∃ i, mapFind kkA (l.map entA) (valA a) n = some (some (i, pouredA (s.pour a)))
  | [], a, n, _, h=>by simp at h
  | e :: l, a, n, hl, h=>by
    have ht : toVal (amtA e.1) = some (valA e.1):=rfl
    have hty : kkA.typed (valA e.1) = true:=rfl
    simp only [List.map_cons, entA, mapFind, ht, hty, if_true, eqV_amt]
    by_cases q : e.1 = a
    · refine ⟨n, ?_⟩
      rw [if_pos (by simp [q]), hl e (List.mem_cons_self ..), q]
    · rw [if_neg (by simp only [decide_eq_true_eq];exact fun h=>q h.symm)]
      exact find_met l a (n + 1) (fun f hf=>hl f (List.mem_cons_of_mem _ hf)) (by simpa [q] using h)
theorem find_new : ∀ (l : List (Amt × Poured)) (a : Amt) (n : Nat), (l.any fun e=>decide (e.1 = a)) = false→mapFind kkA (l.map entA) (valA a) n = some none
  | [], a, n, h=>rfl
  | e :: l, a, n, h=>by
    have ht : toVal (amtA e.1) = some (valA e.1):=rfl
    have hty : kkA.typed (valA e.1) = true:=rfl
    simp only [List.map_cons, entA, mapFind, ht, hty, if_true, eqV_amt]
    by_cases q : e.1 = a
    · simp [q] at h
    · rw [if_neg (by simp only [decide_eq_true_eq];exact fun h=>q h.symm)]
      exact find_new l a (n + 1) (by simpa [q] using h)
set_option maxHeartbeats 4000000 in
set_option maxRecDepth 20000 in
theorem pour_c (s : Store) (m : List Amt) (memo : MemoL) (base : Amt) (hm : m.length = 6) (hg : s.Good) (hb : base.upto 900000) (hok : s.memoOk memo) :
    BoxA Tryd.prog (.fn 69) (storeE s (sumW s.orders) m memo) [.ptr kS 1 27 0 0, amtA base] (pouredA (s.pour base)) (storeE s (sumW s.orders) m (s.remember memo base)):=by
  have hbees:=fun k hk=>bees_c s m k hm hg hk
  have hble:=fun k hk=>bees_le (k:=k) hg hk
  obtain ⟨l1, l2, l3⟩:=hg.lots
  have hfit:=fun t c best=>pourStep_fit (t:=t) (c:=c) (best:=best) hg hb
  generalize hw : sumW s.orders = w at *
  obtain ⟨p0, p1, p2, p3, p4, p5, rfl⟩:=list6 hm
  obtain ⟨mc, memo⟩:=memo
  by_cases hmet : (memo.any fun e=>decide (e.1 = base)) = true
  · obtain ⟨i, hi⟩:=find_met memo base 0 hok hmet
    unfold Store.remember
    rw [if_pos hmet]
    generalize s.pour base = R at *
    have hi : mapFind (.agg [.int .i64, .int .i64, .int .i64]) (memo.map entA) (.agg #[.int .i64 base.b, .int .i64 base.t, .int .i64 base.c]) 0 = some (some (i, pouredA R)):=hi
    clear hbees hble hfit
    refine boxA_codeB tabOk { l:=0, f:=69 } mixed call_69 Tryd.func69 (by kernel_rfl) ?_
    conv=>whnf
    repeat (any_goals (first|exact falseI|((first|refine bd ?_ ?_|refine bn ?_ ?_)<;>intro _<;>first|(exfalso;omega)|conv=>whnf)|((first|rw [hi]|refine dI ?_|refine okI ?_|refine bt ?_|refine bi (fun _=>?_) (fun _=>?_)|refine bndI ?_|intro _)<;>conv=>whnf)))
    refine And.intro ?_ ?_
    · conv=>whnf
      refine ⟨⟨?_⟩, trivial⟩
      rfl
    · repeat (first|exact trivial|refine And.intro rfl ?_|refine And.intro (by skip) ?_)
  · have hi:=find_new memo base 0 (Bool.eq_false_iff.2 hmet)
    have hi : mapFind (.agg [.int .i64, .int .i64, .int .i64]) (memo.map entA) (.agg #[.int .i64 base.b, .int .i64 base.t, .int .i64 base.c]) 0 = some none:=hi
    unfold Store.remember
    rw [if_neg hmet]
    obtain ⟨R, hR⟩ : ∃ R, R = s.pour base:=⟨_, rfl⟩
    rw [← hR]
    unfold Store.pour at hR
    obtain ⟨T, hT⟩ : ∃ T, T = s.lots.t.toNat + 1:=⟨_, rfl⟩
    obtain ⟨C, hC⟩ : ∃ C, C = s.lots.c.toNat + 1:=⟨_, rfl⟩
    have hIn : ∀ t n c best, s.pourIn base t (n + 1) c best = s.pourIn base t n (c + 1) (s.pourStep base t c best):=fun t n c best=>rfl
    have hIn0 : ∀ t c best, s.pourIn base t 0 c best = best:=fun t c best=>rfl
    have hOut : ∀ n t best, s.pourOut base (n + 1) t best = s.pourOut base n (t + 1) (s.pourIn base t C 0 best):=fun n t best=>by rw [hC];rfl
    have hOut0 : ∀ t best, s.pourOut base 0 t best = best:=fun t best=>rfl
    rw [← hT] at hR
    have hz0 : zeroP.fit:=by unfold Poured.fit Amt.abs zeroP zeroT;simp
    refine boxA_codeB tabOk { l:=0, f:=69 } mixed call_69 Tryd.func69 (by kernel_rfl) ?_
    conv=>whnf
    repeat (any_goals (first|exact falseI|((first|refine bd ?_ ?_|refine bn ?_ ?_)<;>intro _<;>first|(exfalso;omega)|conv=>whnf)|((first|rw [hi]|refine dI ?_|refine okI ?_|refine bt ?_|refine bi (fun _=>?_) (fun _=>?_)|refine bndI ?_|intro _)<;>conv=>whnf)))
    refine loopK tabOk { l:=0, f:=69 } mixed (fun a : Nat × Poured=>[(33, intA a.1)]) (fun a=>[(⟨0, 69, 7⟩, some (1, some (4, [pouredA a.2])))]) (fun _=>[]) (fun a=>a.1 ≤ T∧a.2.fit∧R = s.pourOut base (T - a.1) a.1 a.2) (fun a=>T - a.1) (0, zeroP) (by kernel_rfl)
      ⟨Nat.zero_le _, hz0, hR⟩ ?_
    conv=>whnf
    refine ⟨⟨slotsLe_cons rfl trivial, keysLe_cons rfl trivial, trivial⟩, ?_⟩
    intro ⟨t, best⟩ ⟨ht, hbf, H⟩
    simp only at ht hbf H
    clear hR hz0
    conv=>whnf
    refine brP_dec (fun h1=>?_) (fun h1=>?_)
    · have h1 : (t : Int) < s.lots.t + 1:=h1
      obtain ⟨n, hn⟩ : ∃ n, T - t = n + 1:=⟨T - t - 1, by omega⟩
      rw [hn, hOut] at H
      conv=>whnf
      repeat (any_goals (first|exact falseI|((first|refine bd ?_ ?_|refine bn ?_ ?_)<;>intro _<;>first|(exfalso;omega)|conv=>whnf)|((first|refine dI ?_|refine okI ?_|refine bt ?_|refine bi (fun _=>?_) (fun _=>?_)|refine bndI ?_|intro _)<;>conv=>whnf)))
      refine loopK tabOk { l:=0, f:=69 } mixed (fun a : Nat × Poured=>[(43, intA a.1)]) (fun a=>[(⟨0, 69, 7⟩, some (1, some (4, [pouredA a.2])))]) (fun _=>[]) (fun a=>a.1 ≤ C∧a.2.fit∧R = s.pourOut base n (t + 1) (s.pourIn base t (C - a.1) a.1 a.2)) (fun a=>C - a.1) (0, best) (by kernel_rfl)
        ⟨Nat.zero_le _, hbf, H⟩ ?_
      conv=>whnf
      refine ⟨⟨slotsLe_cons rfl trivial, keysLe_cons rfl trivial, trivial⟩, ?_⟩
      clear H hbf
      intro ⟨c, best⟩ ⟨hc, hbf, H⟩
      simp only at hc hbf H
      conv=>whnf
      refine brP_dec (fun h1=>?_) (fun h1=>?_)
      · have h1 : (c : Int) < s.lots.c + 1:=h1
        obtain ⟨q, hq⟩ : ∃ q, C - c = q + 1:=⟨C - c - 1, by omega⟩
        have hq1 : C - (c + 1) = q:=by omega
        rw [hq, hIn] at H
        have hk : (⟨base.b, base.t + t, base.c + c⟩ : Amt).upto 1000000:=by
          obtain ⟨b1, b2, b3⟩:=hb
          refine ⟨?_, ?_, ?_⟩<;>simp only<;>omega
        have hbe:=hbees _ hk
        have hle:=hble _ hk
        have hft:=hfit t c best (by omega) (by omega) hbf
        obtain ⟨b1, b2, b3⟩:=hb
        obtain ⟨S, hS⟩ : ∃ S, S = s.pourStep base t c best:=⟨_, rfl⟩
        rw [← hS] at H hft
        unfold Store.pourStep at hS
        clear hbees hble hfit hIn hIn0 hOut hOut0 hg hk
        generalize s.bees ⟨base.b, base.t + t, base.c + c⟩ = r at *
        obtain ⟨rn, rb⟩:=r
        simp only at hbe hle hS
        have hq2 : R = s.pourOut base n (t + 1) (s.pourIn base t (C - (c + 1)) (c + 1) S):=by rw [hq1];exact H
        cases rb
        · rw [if_pos rfl] at hS
          subst hS
          conv=>whnf
          repeat (any_goals (first|exact falseI|((first|refine bd ?_ ?_|refine bn ?_ ?_)<;>intro _<;>first|(exfalso;omega)|conv=>whnf)|((first|refine callP_f hbe rfl ?_|refine dI ?_|refine okI ?_|refine bt ?_|refine bi (fun _=>?_) (fun _=>?_)|refine bndI ?_|intro _)<;>conv=>whnf)))
          (refine ⟨(c + 1, S), ⟨by simp only;omega, hft, hq2⟩, (by simp only;omega), ?_⟩;(conv=>whnf);refine ⟨?_, ?_, ?_⟩<;>repeat (first|exact trivial|refine sc rfl ?_|refine kn ?_|refine kc rfl ?_|refine sc (by rfl) ?_|refine kc (by rfl) ?_))
        · rw [if_neg (by simp)] at hS
          have hWx:=weight_c ⟨rn, t, c⟩ (by unfold Amt.fit big;simp only;omega)
          have hWb:=weight_c best.amt (by unfold Poured.fit Amt.abs at hbf;unfold Amt.fit big;omega)
          have hcm:=cmpL_c [rn, t, c] [best.amt.b, best.amt.t, best.amt.c] (by simp) (by simp)
          have hwx:=weight_abs (k:=⟨rn, t, c⟩) (M:=20000000000) (by unfold Amt.abs;simp only;omega)
          have hwb:=weight_abs (k:=best.amt) (M:=20000000000) hbf
          have hz:=poured_eqL best
          unfold Poured.better at hS
          simp only at hS
          generalize Amt.weight ⟨rn, t, c⟩ = Wx at *
          generalize best.amt.weight = Wb at *
          generalize cmpL [rn, t, c] [best.amt.b, best.amt.t, best.amt.c] = cm at *
          by_cases e : best = zeroP
          · rw [decide_eq_true e, Bool.true_or, Bool.true_or, if_pos rfl] at hS
            rw [decide_eq_true e] at hz
            subst hS
            conv=>whnf
            repeat (any_goals (first|exact falseI|((first|refine bd ?_ ?_|refine bn ?_ ?_)<;>intro _<;>first|(exfalso;omega)|conv=>whnf)|((first|refine callP_f hbe rfl ?_|refine callP_a hWx ?_|refine callP_a hWb ?_|refine callP_f hcm rfl ?_|refine brP_true hz ?_|refine dI ?_|refine okI ?_|refine bt ?_|refine bi (fun _=>?_) (fun _=>?_)|refine bndI ?_|intro _)<;>conv=>whnf)))
            (refine ⟨(c + 1, ⟨⟨rn, t, c⟩, true⟩), ⟨by simp only;omega, hft, hq2⟩, (by simp only;omega), ?_⟩;(conv=>whnf);refine ⟨?_, ?_, ?_⟩<;>repeat (first|exact trivial|refine sc rfl ?_|refine kn ?_|refine kc rfl ?_|refine sc (by rfl) ?_|refine kc (by rfl) ?_))
          · rw [decide_eq_false e, Bool.false_or] at hS
            rw [decide_eq_false e] at hz
            by_cases e1 : Wx - Wb < 0
            · rw [decide_eq_true e1, Bool.true_or, if_pos rfl] at hS
              subst hS
              conv=>whnf
              repeat (any_goals (first|exact falseI|((first|refine bd ?_ ?_|refine bn ?_ ?_)<;>intro _<;>first|(exfalso;omega)|conv=>whnf)|((first|refine callP_f hbe rfl ?_|refine callP_a hWx ?_|refine callP_a hWb ?_|refine callP_f hcm rfl ?_|refine brP_false hz ?_|refine dI ?_|refine okI ?_|refine bt ?_|refine bi (fun _=>?_) (fun _=>?_)|refine bndI ?_|intro _)<;>conv=>whnf)))
              (refine ⟨(c + 1, ⟨⟨rn, t, c⟩, true⟩), ⟨by simp only;omega, hft, hq2⟩, (by simp only;omega), ?_⟩;(conv=>whnf);refine ⟨?_, ?_, ?_⟩<;>repeat (first|exact trivial|refine sc rfl ?_|refine kn ?_|refine kc rfl ?_|refine sc (by rfl) ?_|refine kc (by rfl) ?_))
            · rw [decide_eq_false e1, Bool.false_or] at hS
              by_cases e2 : Wx - Wb = 0
              · rw [decide_eq_true e2, Bool.true_and] at hS
                by_cases e3 : cm < 0
                · rw [decide_eq_true e3, if_pos rfl] at hS
                  subst hS
                  conv=>whnf
                  repeat (any_goals (first|exact falseI|((first|refine bd ?_ ?_|refine bn ?_ ?_)<;>intro _<;>first|(exfalso;omega)|conv=>whnf)|((first|refine callP_f hbe rfl ?_|refine callP_a hWx ?_|refine callP_a hWb ?_|refine callP_f hcm rfl ?_|refine brP_false hz ?_|refine dI ?_|refine okI ?_|refine bt ?_|refine bi (fun _=>?_) (fun _=>?_)|refine bndI ?_|intro _)<;>conv=>whnf)))
                  (refine ⟨(c + 1, ⟨⟨rn, t, c⟩, true⟩), ⟨by simp only;omega, hft, hq2⟩, (by simp only;omega), ?_⟩;(conv=>whnf);refine ⟨?_, ?_, ?_⟩<;>repeat (first|exact trivial|refine sc rfl ?_|refine kn ?_|refine kc rfl ?_|refine sc (by rfl) ?_|refine kc (by rfl) ?_))
                · rw [decide_eq_false e3, if_neg (by simp)] at hS
                  subst hS
                  conv=>whnf
                  repeat (any_goals (first|exact falseI|((first|refine bd ?_ ?_|refine bn ?_ ?_)<;>intro _<;>first|(exfalso;omega)|conv=>whnf)|((first|refine callP_f hbe rfl ?_|refine callP_a hWx ?_|refine callP_a hWb ?_|refine callP_f hcm rfl ?_|refine brP_false hz ?_|refine dI ?_|refine okI ?_|refine bt ?_|refine bi (fun _=>?_) (fun _=>?_)|refine bndI ?_|intro _)<;>conv=>whnf)))
                  (refine ⟨(c + 1, S), ⟨by simp only;omega, hft, hq2⟩, (by simp only;omega), ?_⟩;(conv=>whnf);refine ⟨?_, ?_, ?_⟩<;>repeat (first|exact trivial|refine sc rfl ?_|refine kn ?_|refine kc rfl ?_|refine sc (by rfl) ?_|refine kc (by rfl) ?_))
              · rw [decide_eq_false e2, Bool.false_and, if_neg (by simp)] at hS
                subst hS
                conv=>whnf
                repeat (any_goals (first|exact falseI|((first|refine bd ?_ ?_|refine bn ?_ ?_)<;>intro _<;>first|(exfalso;omega)|conv=>whnf)|((first|refine callP_f hbe rfl ?_|refine callP_a hWx ?_|refine callP_a hWb ?_|refine callP_f hcm rfl ?_|refine brP_false hz ?_|refine dI ?_|refine okI ?_|refine bt ?_|refine bi (fun _=>?_) (fun _=>?_)|refine bndI ?_|intro _)<;>conv=>whnf)))
                (refine ⟨(c + 1, S), ⟨by simp only;omega, hft, hq2⟩, (by simp only;omega), ?_⟩;(conv=>whnf);refine ⟨?_, ?_, ?_⟩<;>repeat (first|exact trivial|refine sc rfl ?_|refine kn ?_|refine kc rfl ?_|refine sc (by rfl) ?_|refine kc (by rfl) ?_))
      · have h1 : ¬ (c : Int) < s.lots.c + 1:=h1
        have hcC : c = C:=by omega
        subst hcC
        rw [Nat.sub_self, hIn0] at H
        conv=>whnf
        repeat (any_goals (first|exact falseI|((first|refine bd ?_ ?_|refine bn ?_ ?_)<;>intro _<;>first|(exfalso;omega)|conv=>whnf)|((first|refine dI ?_|refine okI ?_|refine bt ?_|refine bi (fun _=>?_) (fun _=>?_)|refine bndI ?_|intro _)<;>conv=>whnf)))
        (refine ⟨(t + 1, best), ⟨by simp only;omega, hbf, by simp only;rw [show T - (t + 1) = n by omega];exact H⟩, (by simp only;omega), ?_⟩;(conv=>whnf);refine ⟨?_, ?_, ?_⟩<;>repeat (first|exact trivial|refine sc rfl ?_|refine kn ?_|refine kc rfl ?_|refine sc (by rfl) ?_|refine kc (by rfl) ?_))
    · have h1 : ¬ (t : Int) < s.lots.t + 1:=h1
      have htT : t = T:=by omega
      subst htT
      rw [Nat.sub_self, hOut0] at H
      subst H
      conv=>whnf
      repeat (any_goals (first|exact falseI|((first|refine bd ?_ ?_|refine bn ?_ ?_)<;>intro _<;>first|(exfalso;omega)|conv=>whnf)|((first|rw [hi]|refine dI ?_|refine okI ?_|refine bt ?_|refine bi (fun _=>?_) (fun _=>?_)|refine bndI ?_|intro _)<;>conv=>whnf)))
      refine And.intro ?_ ?_
      · conv=>whnf
        refine ⟨⟨?_⟩, trivial⟩
        rfl
      · repeat (first|exact trivial|refine And.intro rfl ?_|refine And.intro (by (simp only [mapX, List.map_append];rfl)) ?_)
end Go.Proofs.YtbpiibdcncfphaaDoor
namespace Go.Proofs.YtbpiibdcncfphaaDoor
open Go.Am Go.Proofs Go
def Store.short (s : Store) (k : Amt) : Bool:=s.orders.any fun o=>decide (1000 * k.t < o.tlo * max k.weight (sumW s.orders)) || decide (1000 * k.c < o.clo * max k.weight (sumW s.orders))
def Store.rbeesF (s : Store) (k : Amt) : Nat→Int→Int
  | 0, n=>n
  | f + 1, n=>if n ≤ s.lots.b then if s.enough (k.add ⟨n, 0, 0⟩) = true then n else s.rbeesF k f (n + 1) else n
def Store.rbees (s : Store) (k : Amt) : Int:=s.rbeesF k 101 (max 0 (sumW s.orders - k.weight))
end Go.Proofs.YtbpiibdcncfphaaDoor
namespace Go.Proofs.YtbpiibdcncfphaaDoor
open Go.Am Go.Proofs Go
def Store.leastStep (s : Store) (base : Amt) (t c : Nat) (p : Amt × Bool) : Amt × Bool :=
  if s.short (base.add ⟨0, t, c⟩) = true then p else
    if (decide (s.rbees (base.add ⟨0, t, c⟩) ≤ s.lots.b) && (!p.2 || lessL [Amt.weight ⟨s.rbees (base.add ⟨0, t, c⟩), t, c⟩, s.rbees (base.add ⟨0, t, c⟩), t, c] [p.1.weight, p.1.b, p.1.t, p.1.c])) = true then (⟨s.rbees (base.add ⟨0, t, c⟩), t, c⟩, true) else p
def Store.leastIn (s : Store) (base : Amt) (t : Nat) : Nat→Nat→Amt × Bool→Amt × Bool
  | 0, _, p=>p
  | n + 1, c, p=>s.leastIn base t n (c + 1) (s.leastStep base t c p)
def Store.leastOut (s : Store) (base : Amt) : Nat→Nat→Amt × Bool→Amt × Bool
  | 0, _, p=>p
  | n + 1, t, p=>s.leastOut base n (t + 1) (s.leastIn base t (s.lots.c.toNat + 1) 0 p)
def Store.least (s : Store) (l : List Int) : Amt × Bool:=s.leastOut (sumL (s.melts 0) zeroT l) (s.lots.t.toNat + 1) 0 (zeroT, false)
end Go.Proofs.YtbpiibdcncfphaaDoor
namespace Go.Proofs.YtbpiibdcncfphaaDoor
open Go.Am Go.Proofs Go
def setsOf (h kept : Nat) : List Nat:=(List.range (2 ^ h)).filter fun s=>s &&& kept == 0
def sortOk (h kept : Nat) : Bool:=decide (pdqN (if (setsOf h kept).length = 0 then 0 else (setsOf h kept).length.log2 + 1) 70 0 (setsOf h kept).length true true (setsOf h kept) = some (insN 0 (setsOf h kept).length (setsOf h kept)))
theorem sort_small : ∀ h, h < 4→∀ kept, kept < 2 ^ h→sortOk h kept = true:=by decide +kernel
theorem sort_four : ∀ kept, kept < 2 ^ 4→sortOk 4 kept = true:=by decide +kernel
theorem sort_five : ∀ kept, kept < 2 ^ 5→sortOk 5 kept = true:=by decide +kernel
theorem sort_six : ∀ kept, kept < 2 ^ 6→sortOk 6 kept = true:=by decide +kernel
end Go.Proofs.YtbpiibdcncfphaaDoor
namespace Go.Proofs.YtbpiibdcncfphaaDoor
open Go.Am Go.Proofs Go
def Store.baseOf (s : Store) (l : List Int) (later : Int) : Amt:=sumL (s.melts later) zeroT l
theorem baseOf_upto {s : Store} {l : List Int} {later : Int} (hg : s.Good) (hl : 0 ≤ later) (h6 : l.length ≤ 6) : (s.baseOf l later).upto 900000:=by
  have hm : ∀ a ∈ s.melts later, a.upto 80:=by
    intro a ha
    simp only [Store.melts, meltsTo, List.take_length, List.mem_append, List.mem_map, List.mem_replicate] at ha
    rcases ha with ⟨h, hh, rfl⟩|⟨_, rfl⟩
    · have hok:=hg.heads h hh
      have:=faded_le hok hg.fade.1 hl
      obtain ⟨⟨a1, a2, a3⟩, a4⟩:=hok
      unfold Head.melt Amt.upto
      simp only
      omega
    · unfold Amt.upto zeroT;simp
  have key : ∀ (l : List Int) (k : Amt) (N : Int), k.upto N→(sumL (s.melts later) k l).upto (N + 80 * l.length):=by
    intro l
    induction l with
    | nil=>intro k N hk;simpa [sumL] using hk
    | cons x l ih =>
      intro k N hk
      have h1 : ((s.melts later).getD x.toNat zeroT).upto 80:=by
        rw [List.getD_eq_getElem?_getD]
        cases hx : (s.melts later)[x.toNat]? with
        | none=>unfold Amt.upto zeroT;simp
        | some a=>exact hm a (List.mem_of_getElem? hx)
      have h2 : (k.add ((s.melts later).getD x.toNat zeroT)).upto (N + 80):=by
        unfold Amt.upto Amt.add at *
        simp only
        omega
      have:=ih _ _ h2
      rw [show N + 80 * ((x :: l).length : Int) = N + 80 + 80 * (l.length : Int) by simp only [List.length_cons, Int.natCast_add, Int.mul_add];omega]
      exact this
  have:=key l zeroT 0 (by unfold Amt.upto zeroT;simp)
  unfold Store.baseOf
  unfold Amt.upto at *
  omega
theorem does_c (s : Store) (later : Int) (memo : MemoL) (l : List Int) (hg : s.Good) (h0 : 0 ≤ later) (hl6 : l.length ≤ 6) (hR : ∀ x ∈ l, 0 ≤ x∧x < 6) (hok : s.memoOk memo) :
    BoxA Tryd.prog (.fn 74) (storeE s (sumW s.orders) (s.melts later) memo) [.ptr kS 1 27 0 0, intsA l] (boolA (s.pour (s.baseOf l later)).ok) (storeE s (sumW s.orders) (s.melts later) (s.remember memo (s.baseOf l later))):=by
  have hp:=meltsTo_len s later _ (Nat.le_refl _) hg.len
  have e : meltsTo s later s.heads.length = s.melts later:=rfl
  rw [e] at hp
  have hsum:=wsum_c s (sumW s.orders) (s.melts later) zeroT l hp (melts_abs hg h0) (zeroT_abs _ (by decide)) hR (by omega)
  have hpo:=pour_c s (s.melts later) memo (s.baseOf l later) hp hg (baseOf_upto hg h0 hl6) hok
  have eb : sumL (s.melts later) zeroT l = s.baseOf l later:=rfl
  rw [eb] at hsum
  generalize s.baseOf l later = b at *
  generalize s.pour b = P at *
  generalize s.remember memo b = memo' at *
  generalize sumW s.orders = w at *
  generalize s.melts later = p at *
  clear e eb
  obtain ⟨p0, p1, p2, p3, p4, p5, rfl⟩:=list6 hp
  refine boxA_codeB tabOk { l:=0, f:=74, mat:=[69] } mixed call_74 Tryd.func74 (by kernel_rfl) ?_
  conv=>whnf
  repeat (any_goals (first|exact falseI|((first|refine bd ?_ ?_|refine bn ?_ ?_)<;>intro _<;>first|(exfalso;omega)|conv=>whnf)|((first|refine callP_f hsum rfl ?_|refine dI ?_|refine okI ?_|refine bt ?_|refine bi (fun _=>?_) (fun _=>?_)|refine bndI ?_|intro _)<;>conv=>whnf)))
  refine ⟨[kS, kM], ?_⟩
  conv=>whnf
  refine ⟨_, _, hpo, ?_⟩
  conv=>whnf
  repeat (any_goals (first|exact falseI|((first|refine bd ?_ ?_|refine bn ?_ ?_)<;>intro _<;>first|(exfalso;omega)|conv=>whnf)|((first|refine dI ?_|refine okI ?_|refine bt ?_|refine bi (fun _=>?_) (fun _=>?_)|refine bndI ?_|intro _)<;>conv=>whnf)))
  refine And.intro ?_ ?_
  · conv=>whnf
    refine ⟨⟨?_⟩, trivial⟩
    rfl
  · repeat (first|exact trivial|refine And.intro rfl ?_|refine And.intro (by skip) ?_)
end Go.Proofs.YtbpiibdcncfphaaDoor
namespace Go.Proofs.YtbpiibdcncfphaaDoor
open Go.Am Go.Proofs Go
def Store.keptAt (s : Store) (x : Int) : Bool:=match s.heads[x.toNat]? with|none=>false|some y=>y.kept
end Go.Proofs.YtbpiibdcncfphaaDoor
namespace Go.Proofs.YtbpiibdcncfphaaDoor
open Go.Am Go.Proofs Go
def maskOf : List Head→Nat
  | []=>0
  | h :: l=>(if h.kept = true then 1 else 0) + 2 * maskOf l
theorem maskOf_lt : ∀ l : List Head, maskOf l < 2 ^ l.length
  | []=>by simp [maskOf]
  | h :: l=>by
    have:=maskOf_lt l
    simp only [maskOf, List.length_cons, Nat.pow_succ]
    split<;>omega
theorem maskOf_bit : ∀ (l : List Head) (i : Nat), (maskOf l).testBit i = (match l[i]? with|none=>false|some y=>y.kept)
  | [], i=>by simp [maskOf]
  | h :: l, 0=>by
    simp only [maskOf, List.getElem?_cons_zero, Nat.testBit_zero]
    cases h.kept<;>simp<;>omega
  | h :: l, i + 1=>by
    have:=maskOf_bit l i
    simp only [maskOf, List.getElem?_cons_succ, Nat.testBit_succ]
    rw [← this]
    congr 1
    split<;>omega
def bitsOk (h : Nat) : Bool:=(List.range (2 ^ h)).all fun s=>(setL s).all (fun x=>decide (0 ≤ x∧x < (h : Int))) && (List.range (2 ^ h)).all fun k=>((setL s).any (fun x=>k.testBit x.toNat)) == !(s &&& k == 0)
theorem bits_ok : ∀ h, h < 7→bitsOk h = true:=by decide +kernel
end Go.Proofs.YtbpiibdcncfphaaDoor
namespace Go.Proofs.YtbpiibdcncfphaaDoor
open Go.Am Go.Proofs Go
def kT : Key:=⟨0, 68, 1⟩
def envE (s : Store) (w : Int) (m : List Amt) (memo : MemoL) : List BoxE:=[(kS, 1, 27, [storeY s w m (.mp kM 1)]), (kM, 1, 0, mapX memo), (kT, 1, 1, [.ptr kS 1 27 0 0])]
theorem listsF_c (s : Store) (w : Int) (m : List Amt) (memo : MemoL) (hm : m.length = 6) : BoxA Tryd.prog (.fn 68) (storeE s w m memo) [.ptr kS 1 27 0 0] (.func (.func 87) [] [.ptr kT 1 1 0 0]) (envE s w m memo):=by
  obtain ⟨p0, p1, p2, p3, p4, p5, rfl⟩:=list6 hm
  refine boxA_codeB tabOk { l:=0, f:=68 } mixed call_68 Tryd.func68 (by kernel_rfl) ?_
  conv=>whnf
  repeat (any_goals (first|exact falseI|((first|refine bd ?_ ?_|refine bn ?_ ?_)<;>intro _<;>first|(exfalso;omega)|conv=>whnf)|((first|refine dI ?_|refine okI ?_|refine bt ?_|refine bi (fun _=>?_) (fun _=>?_)|refine bndI ?_|intro _)<;>conv=>whnf)))
  refine And.intro ?_ ?_
  · conv=>whnf
    refine ⟨⟨?_⟩, trivial⟩
    rfl
  · repeat (first|exact trivial|refine And.intro rfl ?_|refine And.intro (by skip) ?_)
theorem keptB_c (s : Store) (w : Int) (m : List Amt) (memo : MemoL) (x : Int) (hm : m.length = 6) (hx : 0 ≤ x∧x < s.heads.length) :
    BoxA Tryd.prog (.fn 89) (envE s w m memo) [intA x, .ptr kT 1 1 0 0] (boolA (s.keptAt x)) (envE s w m memo):=by
  obtain ⟨y, hy⟩ : ∃ y, s.heads[x.toNat]? = some y:=⟨_, List.getElem?_eq_getElem (by omega)⟩
  have hx0:=hx.1
  unfold Store.keptAt
  rw [hy]
  simp only
  obtain ⟨p0, p1, p2, p3, p4, p5, rfl⟩:=list6 hm
  refine boxA_codeB tabOk { l:=0, f:=89 } mixed call_89 Tryd.func89 (by kernel_rfl) ?_
  conv=>whnf
  repeat (any_goals (first|exact falseI|((first|refine bd ?_ ?_|refine bn ?_ ?_)<;>intro _<;>first|(exfalso;omega)|conv=>whnf)|((first|refine optP_map hy (by omega) ?_|refine dI ?_|refine okI ?_|refine bt ?_|refine bi (fun _=>?_) (fun _=>?_)|refine bndI ?_|intro _)<;>conv=>whnf)))
  refine And.intro ?_ ?_
  · conv=>whnf
    refine ⟨⟨?_⟩, trivial⟩
    rfl
  · repeat (first|exact trivial|refine And.intro rfl ?_|refine And.intro (by skip) ?_)
theorem ikeptB_c (s : Store) (w : Int) (m : List Amt) (memo : MemoL) (l : List Int) (hm : m.length = 6) (hl : l.length ≤ 1048576) (hR : ∀ x ∈ l, 0 ≤ x∧x < s.heads.length) :
    BoxA Tryd.prog (.fn 95) (envE s w m memo) [intsA l, .func (.func 89) [] [.ptr kT 1 1 0 0]] (intA (idx s.keptAt l)) (envE s w m memo):=by
  have hk:=fun x hx=>keptB_c s w m memo x hm (hR x hx)
  obtain ⟨p0, p1, p2, p3, p4, p5, rfl⟩:=list6 hm
  refine boxA_codeB tabOk { l:=0, f:=95, mat:=[89] } mixed call_95 Tryd.func95 (by kernel_rfl) ?_
  conv=>whnf
  refine loopK tabOk { l:=0, f:=95, mat:=[89] } mixed (fun i : Nat=>[(8, intA i)]) (fun _=>[]) (fun _=>[]) (fun i=>i ≤ l.length∧idx s.keptAt l = idxFrom s.keptAt i (l.drop i)) (fun i=>l.length - i) 0 (by kernel_rfl)
    ⟨Nat.zero_le _, rfl⟩ ?_
  conv=>whnf
  refine ⟨⟨slotsLe_cons rfl trivial, trivial, trivial⟩, ?_⟩
  intro i ⟨hi, H⟩
  conv=>whnf
  refine brP_dec (fun h1=>?_) (fun h1=>?_)
  · simp only [List.length_map] at h1
    obtain ⟨x, hx, hd⟩:=drop_cons (l:=l) (i:=i) (by omega)
    have H':=idxFrom_cons hd H
    have hc:=hk x (List.mem_of_getElem? hx)
    generalize s.keptAt x = b at hc H'
    conv=>whnf
    repeat (any_goals (first|exact falseI|((first|refine bd ?_ ?_|refine bn ?_ ?_)<;>intro _<;>first|(exfalso;omega)|conv=>whnf)|((first|refine optP_map hx rfl ?_|refine dI ?_|refine okI ?_|refine bt ?_|refine bi (fun _=>?_) (fun _=>?_)|refine bndI ?_|intro _)<;>conv=>whnf)))
    refine ⟨[kS, kM, kT], ?_⟩
    conv=>whnf
    refine ⟨_, _, hc, ?_⟩
    conv=>whnf
    repeat (any_goals (first|exact falseI|((first|refine bd ?_ ?_|refine bn ?_ ?_)<;>intro _<;>first|(exfalso;omega)|conv=>whnf)|((first|refine dI ?_|refine okI ?_|refine bt ?_|refine bi (fun _=>?_) (fun _=>?_)|refine bndI ?_|intro _)<;>conv=>whnf)))
    · rename_i he
      subst he
      simp only [if_true] at H'
      refine And.intro ?_ ?_
      · conv=>whnf
        refine ⟨⟨?_⟩, trivial⟩
        simp [oneOf, intA, H']
      · repeat (first|exact trivial|refine And.intro rfl ?_|refine And.intro (by skip) ?_)
    · rename_i he
      subst he
      simp only [Bool.false_eq_true, if_false] at H'
      (refine ⟨i + 1, ⟨by omega, H'⟩, by omega, ?_⟩;(conv=>whnf);refine ⟨?_, ?_, ?_⟩<;>repeat (first|exact trivial|refine sc rfl ?_|refine kn ?_|refine kc rfl ?_))
  · conv=>whnf
    simp only [List.length_map] at h1
    have : i = l.length:=by omega
    subst this
    refine And.intro ?_ ?_
    · conv=>whnf
      refine ⟨⟨?_⟩, trivial⟩
      simp [oneOf, intA, H, idxFrom]
    · repeat (first|exact trivial|refine And.intro rfl ?_|refine And.intro (by skip) ?_)
theorem anyKeptB_c (s : Store) (w : Int) (m : List Amt) (memo : MemoL) (l : List Int) (hm : m.length = 6) (hl : l.length ≤ 1048576) (hR : ∀ x ∈ l, 0 ≤ x∧x < s.heads.length) :
    BoxA Tryd.prog (.fn 77) (envE s w m memo) [intsA l, .func (.func 89) [] [.ptr kT 1 1 0 0]] (boolA (l.any s.keptAt)) (envE s w m memo):=by
  have hi:=ikeptB_c s w m memo l hm hl hR
  obtain ⟨p0, p1, p2, p3, p4, p5, rfl⟩:=list6 hm
  refine boxA_codeB tabOk { l:=0, f:=77, mat:=[95] } mixed call_77 Tryd.func77 (by kernel_rfl) ?_
  conv=>whnf
  refine ⟨[kS, kM, kT], ?_⟩
  conv=>whnf
  refine ⟨_, _, hi, ?_⟩
  conv=>whnf
  refine And.intro ?_ ?_
  · conv=>whnf
    refine ⟨⟨?_⟩, trivial⟩
    rw [← idx_any];rfl
  · repeat (first|exact trivial|refine And.intro rfl ?_|refine And.intro (by skip) ?_)
end Go.Proofs.YtbpiibdcncfphaaDoor
namespace Go.Proofs.YtbpiibdcncfphaaDoor
open Go.Am Go.Proofs Go
def upto (K i : Nat) : List Nat:=(List.range i).filter fun s=>s &&& K == 0
theorem upto_succ (K i : Nat) : upto K (i + 1) = upto K i++(if (i &&& K == 0) = true then [i] else []):=by
  unfold upto
  rw [List.range_succ, List.filter_append]
  congr 1
  simp only [List.filter_cons, List.filter_nil]
theorem upto_cons (K : Nat) : ∀ i, ∃ l, upto K (i + 1) = 0 :: l
  | 0=>⟨[], by simp [upto]⟩
  | i + 1=>by
    obtain ⟨l, hl⟩:=upto_cons K i
    rw [upto_succ, hl]
    exact ⟨_, rfl⟩
theorem upto_len (K i : Nat) : (upto K i).length ≤ i:=by
  unfold upto
  exact Nat.le_trans (List.length_filter_le ..) (by simp)
theorem upto_lt {K i n : Nat} (h : n ∈ upto K i) : n < i∧(n &&& K == 0) = true:=by
  unfold upto at h
  rw [List.mem_filter, List.mem_range] at h
  exact h
def Store.sets (s : Store) : List Nat:=setsOf s.heads.length (maskOf s.heads)
def Store.sorted (s : Store) : List Nat:=insN 0 s.sets.length s.sets
theorem sets_eq (s : Store) : s.sets = upto (maskOf s.heads) (2 ^ s.heads.length):=rfl
theorem sort_all {h K : Nat} (hh : h ≤ 6) (hK : K < 2 ^ h) : sortOk h K = true:=by
  rcases (by omega : h < 4∨h = 4∨h = 5∨h = 6) with h1|rfl|rfl|rfl
  · exact sort_small h h1 K hK
  · exact sort_four K hK
  · exact sort_five K hK
  · exact sort_six K hK
theorem sorted_pdq {s : Store} (h6 : s.heads.length ≤ 6) : pdqN (bitsLen s.sets.length) 70 0 s.sets.length true true s.sets = some s.sorted:=by
  have:=sort_all h6 (maskOf_lt s.heads)
  unfold sortOk at this
  exact of_decide_eq_true this
theorem bits_all {h n : Nat} (hh : h ≤ 6) (hn : n < 2 ^ h) : (∀ x ∈ setL n, 0 ≤ x∧x < (h : Int))∧∀ K, K < 2 ^ h→(setL n).any (fun x=>K.testBit x.toNat) = !(n &&& K == 0):=by
  have:=bits_ok h (by omega)
  unfold bitsOk at this
  rw [List.all_eq_true] at this
  have:=this n (List.mem_range.2 hn)
  rw [Bool.and_eq_true, List.all_eq_true, List.all_eq_true] at this
  refine ⟨fun x hx=>of_decide_eq_true (this.1 x hx), fun K hK=>?_⟩
  have:=this.2 K (List.mem_range.2 hK)
  simpa using this
theorem kept_any {s : Store} {n : Nat} (h6 : s.heads.length ≤ 6) (hn : n < 2 ^ s.heads.length) : (setL n).any s.keptAt = !(n &&& maskOf s.heads == 0):=by
  rw [← (bits_all h6 hn).2 _ (maskOf_lt s.heads)]
  congr 1
  funext x
  rw [maskOf_bit]
  rfl
theorem two_pow_le {h : Nat} (hh : h ≤ 6) : 2 ^ h ≤ 64:=by
  have:=Nat.pow_le_pow_right (n:=2) (by omega) hh
  omega
theorem insF_mem' (a : Nat) : ∀ (k i : Nat) (L : List Nat), ∀ x ∈ insF a k i L, x ∈ L:=by
  have hb : ∀ (j : Nat) (L : List Nat), ∀ x ∈ bubN a j L, x ∈ L:=by
    intro j
    induction j with
    | zero=>intro L x hx;exact hx
    | succ j ih =>
      intro L x hx
      unfold bubN at hx
      split at hx
      · rename_i u v hu hv
        split at hx
        · have:=ih _ x hx
          rcases List.mem_or_eq_of_mem_set this with h|h
          · rcases List.mem_or_eq_of_mem_set h with h|h
            · exact h
            · subst h;exact List.mem_of_getElem? hv
          · subst h;exact List.mem_of_getElem? hu
        · exact hx
      · exact hx
  intro k
  induction k with
  | zero=>intro i L x hx;exact hx
  | succ k ih=>intro i L x hx;exact hb _ _ x (ih _ _ x hx)
theorem sorted_mem {s : Store} {n : Nat} (h : n ∈ s.sorted) : n < 2 ^ s.heads.length∧(n &&& maskOf s.heads == 0) = true:=by
  have:=insF_mem' _ _ _ _ n h
  rw [sets_eq] at this
  exact upto_lt this
theorem sorted_len (s : Store) : s.sorted.length = s.sets.length:=insF_len _ _ _ _
def foldG {α : Type} (go : α→Nat→Bool) (nx : α→Nat→α) : List Nat→α→α × Bool
  | [], a=>(a, false)
  | n :: l, a=>if go a n = true then foldG go nx l (nx a n) else (nx a n, true)
structure Rec where
  g : Nat
  a : Code
  b : Code
  l : List AV
def Rec.box (r : Rec) (kl : Key) (ps : Array Tmp) (done : Bool) : BoxE:=match done with
  | false=>(kl, r.g, 0, [.lp .ready none ps r.a r.b r.l])
  | true=>(kl, r.g, 0, [.lp .done (some .ret) ps r.a r.b r.l])
def ownO (k : Key) : List Nat→AV
  | []=>.slice 0 [] .tight
  | _ :: l=>.own k (l.length + 1) 1 (l.length + 1) 0
def boxO : List Nat→BoxS
  | []=>(0, none)
  | x :: l=>(l.length + 1, some (1, setA x :: l.map setA))
end Go.Proofs.YtbpiibdcncfphaaDoor
namespace Go.Proofs.YtbpiibdcncfphaaDoor
open Go.Am Go.Proofs Go
def kLs : Key:=({ l:=0, f:=67 } : Cx).loopKey #[6]
def someE (s : Store) (w : Int) (m : List Amt) (r : Rec) (done : Bool) (memo : MemoL) : List BoxE :=
  r.box kLs #[6] done :: (⟨0, 67, 1⟩, 1, 1, [.ptr kS 1 27 0 0]) :: (⟨0, 67, 2⟩, 1, 1, [boolA done]) :: envE s w m memo
theorem wrap_shl : ∀ h : Nat, h ≤ 6→IntKind.i64.wrap (1 * 2 ^ min ((h : Int)).toNat IntKind.i64.bits) = ((2 ^ h : Nat) : Int):=by
  intro h hh
  rcases (by omega : h = 0∨h = 1∨h = 2∨h = 3∨h = 4∨h = 5∨h = 6) with rfl|rfl|rfl|rfl|rfl|rfl|rfl<;>rfl
set_option maxHeartbeats 2000000 in
theorem iterS_c (s : Store) (w : Int) (m : List Amt) (r : Rec) (hm : m.length = 6) (hg : s.Good) (hl : ∀ a, tkJs (keysE (someE s w m r false a)) r.l = r.l)
    (ok : MemoL→Prop) (go : MemoL→Nat→Bool) (nx : MemoL→Nat→MemoL)
    (hy : ∀ a n, ok a→n ∈ s.sorted→(go a n = true∧ok (nx a n)∧BoxA Tryd.prog (.yld kLs r.g) (someE s w m r false a) [setA n] (boolA true) (someE s w m r false (nx a n))) ∨
      (go a n = false∧BoxA Tryd.prog (.yld kLs r.g) (someE s w m r false a) [setA n] (boolA false) (someE s w m r true (nx a n))))
    (a0 : MemoL) (h0 : ok a0) :
    BoxA Tryd.prog (.fn 87) (someE s w m r false a0) [.yld kLs r.g, .ptr kT 1 1 0 0] (.tuple []) (someE s w m r (foldG go nx s.sorted a0).2 (foldG go nx s.sorted a0).1):=by
  have h6:=hg.len
  obtain ⟨p0, p1, p2, p3, p4, p5, rfl⟩:=list6 hm
  obtain ⟨rg, ra, rb, rl⟩:=r
  refine boxA_codeB tabOk { l:=0, f:=87, mat:=[77, 90], ow:=[27] } mixed call_87 Tryd.func87 (by kernel_rfl) ?_
  conv=>whnf
  repeat (any_goals (first|exact falseI|((first|refine bd ?_ ?_|refine bn ?_ ?_)<;>intro _<;>first|(exfalso;omega)|conv=>whnf)|((first|refine dI ?_|refine okI ?_|refine bt ?_|refine bi (fun _=>?_) (fun _=>?_)|refine bndI ?_|intro _)<;>conv=>whnf)))
  refine loopK tabOk { l:=0, f:=87, mat:=[77, 90], ow:=[27] } mixed (fun a : Nat × List Nat=>[(15, intA a.1), (3, ownO kA a.2)]) (fun a=>[(kA, some (boxO a.2))]) (fun _=>[]) (fun a=>a.1 ≤ 2 ^ s.heads.length∧a.2 = upto (maskOf s.heads) a.1) (fun a=>2 ^ s.heads.length - a.1) (0, []) (by kernel_rfl)
    ⟨Nat.zero_le _, rfl⟩ ?_
  conv=>whnf
  refine ⟨⟨?_, ?_, trivial⟩, ?_⟩
  · repeat (first|exact trivial|refine sc rfl ?_)
  · exact keysLe_new rfl trivial
  intro ⟨i, L⟩ ⟨hi, hL⟩
  simp only at hi hL
  have hsh:=wrap_shl s.heads.length h6
  have hp6:=two_pow_le h6
  conv=>whnf
  refine brP_dec (fun h1=>?_) (fun h1=>?_)
  · have h1 : (i : Int) < IntKind.i64.wrap (1 * 2 ^ min ((s.heads.map headA).length : Int).toNat IntKind.i64.bits):=h1
    rw [List.length_map, hsh] at h1
    have hlt : i < 2 ^ s.heads.length:=by omega
    have hlc:=list_c i (by omega)
    have hin:=(bits_all h6 hlt).1
    have hka:=anyKeptB_c s w [p0, p1, p2, p3, p4, p5] a0 (setL i) rfl (by have:=setL_len i;omega) hin
    rw [kept_any h6 hlt] at hka
    have hsu:=upto_succ (maskOf s.heads) i
    cases hb : (i &&& maskOf s.heads == 0) with
    | true =>
      rw [hb] at hka hsu
      simp only [Bool.not_true, if_true] at hka hsu
      cases L with
      | nil =>
        conv=>whnf
        repeat (any_goals (first|exact falseI|((first|refine bd ?_ ?_|refine bn ?_ ?_)<;>intro _<;>first|(exfalso;omega)|conv=>whnf)|((first|refine callP_a hlc ?_|refine dI ?_|refine okI ?_|refine bt ?_|refine bi (fun _=>?_) (fun _=>?_)|refine bndI ?_|intro _)<;>conv=>whnf)))
        refine ⟨[kS, kM, kT], ?_⟩
        conv=>whnf
        refine ⟨_, _, hka, ?_⟩
        conv=>whnf
        repeat (any_goals (first|exact falseI|((first|refine bd ?_ ?_|refine bn ?_ ?_)<;>intro _<;>first|(exfalso;omega)|conv=>whnf)|((first|refine dI ?_|refine okI ?_|refine bt ?_|refine bi (fun _=>?_) (fun _=>?_)|refine bndI ?_|intro _)<;>conv=>whnf)))
        (refine ⟨(i + 1, [i]), ⟨by simp only;omega, by simp only;rw [hsu, ← hL];rfl⟩, (by simp only;omega), ?_⟩;(conv=>whnf);refine ⟨?_, ?_, ?_⟩<;>repeat (first|exact trivial|refine sc rfl ?_|refine kn ?_|refine kc rfl ?_|refine sc (by rfl) ?_|refine kc (by rfl) ?_))
      | cons x L =>
        conv=>whnf
        repeat (any_goals (first|exact falseI|((first|refine bd ?_ ?_|refine bn ?_ ?_)<;>intro _<;>first|(exfalso;omega)|conv=>whnf)|((first|refine callP_a hlc ?_|refine dI ?_|refine okI ?_|refine bt ?_|refine bi (fun _=>?_) (fun _=>?_)|refine bndI ?_|intro _)<;>conv=>whnf)))
        refine ⟨[kS, kM, kT], ?_⟩
        conv=>whnf
        refine ⟨_, _, hka, ?_⟩
        conv=>whnf
        repeat (any_goals (first|exact falseI|((first|refine bd ?_ ?_|refine bn ?_ ?_)<;>intro _<;>first|(exfalso;omega)|conv=>whnf)|((first|refine dI ?_|refine okI ?_|refine bt ?_|refine bi (fun _=>?_) (fun _=>?_)|refine bndI ?_|intro _)<;>conv=>whnf)))
        have e1 : (L++[i]).length = L.length + 1:=by simp
        have e2 : List.take (L.length + 1) (setA x :: L.map setA)++[setA i] = setA x :: (L++[i]).map setA:=by
          rw [List.take_of_length_le (by simp)];simp
        have hLl : L.length + 1 ≤ 64:=by
          have:=upto_len (maskOf s.heads) i
          rw [← hL] at this
          simp only [List.length_cons] at this
          omega
        refine And.intro ⟨by simp, by simp only [List.length_cons, List.length_nil];omega, by simp only [List.length_cons, List.length_nil, maxLen];omega⟩ ?_
        conv=>whnf
        repeat (any_goals (first|exact falseI|((first|refine bd ?_ ?_|refine bn ?_ ?_)<;>intro _<;>first|(exfalso;omega)|conv=>whnf)|((first|refine dI ?_|refine okI ?_|refine bt ?_|refine bi (fun _=>?_) (fun _=>?_)|refine bndI ?_|intro _)<;>conv=>whnf)))
        (refine ⟨(i + 1, x :: (L++[i])), ⟨by simp only;omega, by simp only;rw [hsu, ← hL];rfl⟩, (by simp only;omega), ?_⟩;(conv=>whnf);refine ⟨?_, ?_, ?_⟩<;>repeat (first|exact trivial|refine sc rfl ?_|refine kn ?_|refine kc rfl ?_|refine sc (by first|(show some (AV.own kA (L.length + 1 + 1) 1 (L.length + 1 + 1) 0) = some (AV.own kA ((L++[i]).length + 1) 1 ((L++[i]).length + 1) 0);rw [e1])|(show some (some (L.length + 1 + 1, some (1, List.take (L.length + 1) (setA x :: L.map setA)++[setA i]))) = some (some ((L++[i]).length + 1, some (1, setA x :: (L++[i]).map setA)));rw [e1, e2])|rfl) ?_|refine kc (by first|(show some (AV.own kA (L.length + 1 + 1) 1 (L.length + 1 + 1) 0) = some (AV.own kA ((L++[i]).length + 1) 1 ((L++[i]).length + 1) 0);rw [e1])|(show some (some (L.length + 1 + 1, some (1, List.take (L.length + 1) (setA x :: L.map setA)++[setA i]))) = some (some ((L++[i]).length + 1, some (1, setA x :: (L++[i]).map setA)));rw [e1, e2])|rfl) ?_))
    | false =>
      rw [hb] at hka hsu
      simp only [Bool.not_false, Bool.false_eq_true, if_false, List.append_nil] at hka hsu
      cases L with
      | nil =>
        conv=>whnf
        repeat (any_goals (first|exact falseI|((first|refine bd ?_ ?_|refine bn ?_ ?_)<;>intro _<;>first|(exfalso;omega)|conv=>whnf)|((first|refine callP_a hlc ?_|refine dI ?_|refine okI ?_|refine bt ?_|refine bi (fun _=>?_) (fun _=>?_)|refine bndI ?_|intro _)<;>conv=>whnf)))
        refine ⟨[kS, kM, kT], ?_⟩
        conv=>whnf
        refine ⟨_, _, hka, ?_⟩
        conv=>whnf
        repeat (any_goals (first|exact falseI|((first|refine bd ?_ ?_|refine bn ?_ ?_)<;>intro _<;>first|(exfalso;omega)|conv=>whnf)|((first|refine dI ?_|refine okI ?_|refine bt ?_|refine bi (fun _=>?_) (fun _=>?_)|refine bndI ?_|intro _)<;>conv=>whnf)))
        (refine ⟨(i + 1, []), ⟨by simp only;omega, by simp only;rw [hsu, ← hL]⟩, (by simp only;omega), ?_⟩;(conv=>whnf);refine ⟨?_, ?_, ?_⟩<;>repeat (first|exact trivial|refine sc rfl ?_|refine kn ?_|refine kc rfl ?_|refine sc (by rfl) ?_|refine kc (by rfl) ?_))
      | cons x L =>
        conv=>whnf
        repeat (any_goals (first|exact falseI|((first|refine bd ?_ ?_|refine bn ?_ ?_)<;>intro _<;>first|(exfalso;omega)|conv=>whnf)|((first|refine callP_a hlc ?_|refine dI ?_|refine okI ?_|refine bt ?_|refine bi (fun _=>?_) (fun _=>?_)|refine bndI ?_|intro _)<;>conv=>whnf)))
        refine ⟨[kS, kM, kT], ?_⟩
        conv=>whnf
        refine ⟨_, _, hka, ?_⟩
        conv=>whnf
        repeat (any_goals (first|exact falseI|((first|refine bd ?_ ?_|refine bn ?_ ?_)<;>intro _<;>first|(exfalso;omega)|conv=>whnf)|((first|refine dI ?_|refine okI ?_|refine bt ?_|refine bi (fun _=>?_) (fun _=>?_)|refine bndI ?_|intro _)<;>conv=>whnf)))
        (refine ⟨(i + 1, x :: L), ⟨by simp only;omega, by simp only;rw [hsu, ← hL]⟩, (by simp only;omega), ?_⟩;(conv=>whnf);refine ⟨?_, ?_, ?_⟩<;>repeat (first|exact trivial|refine sc rfl ?_|refine kn ?_|refine kc rfl ?_|refine sc (by rfl) ?_|refine kc (by rfl) ?_))
  · have h1 : ¬ (i : Int) < IntKind.i64.wrap (1 * 2 ^ min ((s.heads.map headA).length : Int).toNat IntKind.i64.bits):=h1
    rw [List.length_map, hsh] at h1
    have hiN : i = 2 ^ s.heads.length:=by omega
    have hLs : L = s.sets:=by rw [hL, hiN, sets_eq]
    have hlen:=sorted_len s
    have hpq:=sorted_pdq (s:=s) h6
    have hsl : s.sets.length ≤ 64:=by
      have:=upto_len (maskOf s.heads) (2 ^ s.heads.length)
      rw [← sets_eq] at this
      omega
    obtain ⟨RR, hRR⟩ : ∃ RR, RR = foldG go nx s.sorted a0:=⟨_, rfl⟩
    rw [← hRR]
    generalize s.sorted = X at *
    cases L with
    | nil =>
      exfalso
      obtain ⟨l, h⟩:=upto_cons (maskOf s.heads) (2 ^ s.heads.length - 1)
      have : 2 ^ s.heads.length - 1 + 1 = 2 ^ s.heads.length:=by have:=Nat.two_pow_pos s.heads.length;omega
      rw [this, ← hiN, ← hL] at h
      cases h
    | cons x L =>
      rw [← hLs] at hpq hlen hsl
      simp only [List.length_cons] at hpq hlen hsl
      have hso:=sort_c (L.length + 1) (L.length + 1) 70 (x :: L) X (by simp) (by simp) hsl hpq
      have e3 : tkL (tk2 [kA]) (setA x :: L.map setA) = some ((x :: L).map setA):=tk_sets [kA] (x :: L)
      conv=>whnf
      repeat (any_goals (first|exact falseI|((first|refine bd ?_ ?_|refine bn ?_ ?_)<;>intro _<;>first|(exfalso;omega)|conv=>whnf)|((first|refine dI ?_|refine okI ?_|refine bt ?_|refine bi (fun _=>?_) (fun _=>?_)|refine bndI ?_|intro _)<;>conv=>whnf)))
      refine ⟨[kA], ?_⟩
      conv=>whnf
      refine optP_intro e3 ?_
      conv=>whnf
      refine ⟨_, _, hso, ?_⟩
      conv=>whnf
      refine optP_intro (tk_sets _ X) ?_
      conv=>whnf
      repeat (any_goals (first|exact falseI|((first|refine bd ?_ ?_|refine bn ?_ ?_)<;>intro _<;>first|(exfalso;omega)|conv=>whnf)|((first|refine dI ?_|refine okI ?_|refine bt ?_|refine bi (fun _=>?_) (fun _=>?_)|refine bndI ?_|intro _)<;>conv=>whnf)))
      refine loopK tabOk { l:=0, f:=87, mat:=[77, 90], ow:=[27] } mixed (fun a : Nat × MemoL=>[(33, intA a.1)]) (fun a=>preK (someE s w [p0, p1, p2, p3, p4, p5] ⟨rg, ra, rb, rl⟩ false a.2)) (fun _=>[]) (fun a=>a.1 ≤ X.length∧ok a.2∧RR = foldG go nx (X.drop a.1) a.2) (fun a=>X.length - a.1) (0, a0) (by kernel_rfl)
        ⟨Nat.zero_le _, h0, hRR⟩ ?_
      conv=>whnf
      refine ⟨⟨?_, ?_, trivial⟩, ?_⟩
      · repeat (first|exact trivial|refine sc rfl ?_)
      · repeat (first|exact trivial|refine kc rfl ?_)
      intro ⟨k, a⟩ ⟨hk, hok, H⟩
      simp only at hk hok H
      skip
      conv=>whnf
      refine brP_dec (fun h1=>?_) (fun h1=>?_)
      · have h1 : (k : Int) < ((L.length + 1 : Nat) : Int):=h1
        obtain ⟨n, hn, hd⟩:=drop_cons (l:=X) (i:=k) (by omega)
        rw [hd] at H
        simp only [foldG] at H
        have hkeys : keysE (someE s w [p0, p1, p2, p3, p4, p5] ⟨rg, ra, rb, tkJs (keysE (someE s w [p0, p1, p2, p3, p4, p5] ⟨rg, ra, rb, rl⟩ false a)) rl⟩ false a) = keysE (someE s w [p0, p1, p2, p3, p4, p5] ⟨rg, ra, rb, rl⟩ false a):=rfl
        have hl:=hl a
        rcases hy a n hok (List.mem_of_getElem? hn) with ⟨hgo, hok', hyy⟩|⟨hgo, hyy⟩
        · rw [if_pos hgo] at H
          have hyy : BoxA Tryd.prog (Tgt.yld kLs rg) (someE s w [p0, p1, p2, p3, p4, p5] ⟨rg, ra, rb, tkJs (keysE (someE s w [p0, p1, p2, p3, p4, p5] ⟨rg, ra, rb, rl⟩ false a)) rl⟩ false a) [setA n] (boolA true) (someE s w [p0, p1, p2, p3, p4, p5] ⟨rg, ra, rb, rl⟩ false (nx a n)):=by
            rw [hl];exact hyy
          generalize nx a n = a' at *
          conv=>whnf
          repeat (any_goals (first|exact falseI|((first|refine bd ?_ ?_|refine bn ?_ ?_)<;>intro _<;>first|(exfalso;omega)|conv=>whnf)|((first|refine optP_map hn rfl ?_|refine dI ?_|refine okI ?_|refine bt ?_|refine bi (fun _=>?_) (fun _=>?_)|refine bndI ?_|intro _)<;>conv=>whnf)))
          refine ⟨keysE (someE s w [p0, p1, p2, p3, p4, p5] ⟨rg, ra, rb, rl⟩ false a), ?_⟩
          conv=>whnf
          refine ⟨_, _, hyy, ?_⟩
          conv=>whnf
          repeat (any_goals (first|exact falseI|((first|refine bd ?_ ?_|refine bn ?_ ?_)<;>intro _<;>first|(exfalso;omega)|conv=>whnf)|((first|refine dI ?_|refine okI ?_|refine bt ?_|refine bi (fun _=>?_) (fun _=>?_)|refine bndI ?_|intro _)<;>conv=>whnf)))
          (refine ⟨(k + 1, a'), ⟨by simp only;omega, hok', H⟩, (by simp only;omega), ?_⟩;(conv=>whnf);refine ⟨?_, ?_, ?_⟩<;>repeat (first|exact trivial|refine sc rfl ?_|refine kn ?_|refine kc rfl ?_|refine sc (by first|rfl|exact congrArg (fun z=>some (some (rg, some (0, [AV.lp .ready none #[6] ra rb z])))) hl) ?_|refine kc (by first|rfl|exact congrArg (fun z=>some (some (rg, some (0, [AV.lp .ready none #[6] ra rb z])))) hl) ?_))
        · rw [if_neg (by rw [hgo];simp)] at H
          subst H
          have hyy : BoxA Tryd.prog (Tgt.yld kLs rg) (someE s w [p0, p1, p2, p3, p4, p5] ⟨rg, ra, rb, tkJs (keysE (someE s w [p0, p1, p2, p3, p4, p5] ⟨rg, ra, rb, rl⟩ false a)) rl⟩ false a) [setA n] (boolA false) (someE s w [p0, p1, p2, p3, p4, p5] ⟨rg, ra, rb, rl⟩ true (nx a n)):=by
            rw [hl];exact hyy
          generalize nx a n = a' at *
          conv=>whnf
          repeat (any_goals (first|exact falseI|((first|refine bd ?_ ?_|refine bn ?_ ?_)<;>intro _<;>first|(exfalso;omega)|conv=>whnf)|((first|refine optP_map hn rfl ?_|refine dI ?_|refine okI ?_|refine bt ?_|refine bi (fun _=>?_) (fun _=>?_)|refine bndI ?_|intro _)<;>conv=>whnf)))
          refine ⟨keysE (someE s w [p0, p1, p2, p3, p4, p5] ⟨rg, ra, rb, rl⟩ false a), ?_⟩
          conv=>whnf
          refine ⟨_, _, hyy, ?_⟩
          conv=>whnf
          repeat (any_goals (first|exact falseI|((first|refine bd ?_ ?_|refine bn ?_ ?_)<;>intro _<;>first|(exfalso;omega)|conv=>whnf)|((first|refine dI ?_|refine okI ?_|refine bt ?_|refine bi (fun _=>?_) (fun _=>?_)|refine bndI ?_|intro _)<;>conv=>whnf)))
          refine And.intro ?_ ?_
          · conv=>whnf
            exact ⟨⟨rfl⟩, trivial⟩
          · rw [openS_eq]
            refine kc ?_ ?_
            exact (congrArg (fun z=>some (some (rg, some (0, [AV.lp .done (some .ret) #[6] ra rb z])))) hl)
            repeat (first|exact trivial|refine kc rfl ?_)
      · have h1 : ¬ (k : Int) < ((L.length + 1 : Nat) : Int):=h1
        have : k = X.length:=by omega
        subst this
        rw [List.drop_length] at H
        simp only [foldG] at H
        subst H
        conv=>whnf
        refine And.intro ?_ ?_
        · conv=>whnf
          refine ⟨⟨?_⟩, trivial⟩
          rfl
        · repeat (first|exact trivial|refine And.intro rfl ?_|refine And.intro (by skip) ?_)
end Go.Proofs.YtbpiibdcncfphaaDoor
