/- Part 7 of the texts that the last one stands on. -/
import Derived.Test.YtbpiibdcncfphaaDoorA6
set_option linter.unusedVariables false
set_option linter.unusedSimpArgs false
namespace Go.Proofs.YtbpiibdcncfphaaDoor
open Go.Am Go.Proofs Go
theorem rbeesF_spec {s : Store} {k : Amt} : ∀ (f : Nat) (n : Int), s.lots.b + 1 ≤ n + f→n ≤ s.rbeesF k f n∧(s.rbeesF k f n ≤ s.lots.b→s.enough (k.add ⟨s.rbeesF k f n, 0, 0⟩) = true)∧∀ m, n ≤ m→m ≤ s.lots.b→s.enough (k.add ⟨m, 0, 0⟩) = true→s.rbeesF k f n ≤ m
  | 0, n, h=>by
    unfold Store.rbeesF
    exact ⟨Int.le_refl _, fun h2=>by simp at h;omega, fun m h1 _ _=>h1⟩
  | f + 1, n, h=>by
    unfold Store.rbeesF
    by_cases h1 : n ≤ s.lots.b
    · rw [if_pos h1]
      by_cases h2 : s.enough (k.add ⟨n, 0, 0⟩) = true
      · rw [if_pos h2]
        exact ⟨Int.le_refl _, fun _=>h2, fun m h1 _ _=>h1⟩
      · rw [if_neg h2]
        obtain ⟨a, b, c⟩:=rbeesF_spec (s:=s) (k:=k) f (n + 1) (by omega)
        refine ⟨by omega, b, fun m h3 h4 h5=>?_⟩
        by_cases e : m = n
        · subst e;exact absurd h5 h2
        · exact c m (by omega) h4 h5
    · rw [if_neg h1]
      exact ⟨Int.le_refl _, fun h=>absurd h h1, fun m h1 _ _=>h1⟩
theorem rbees_spec {s : Store} {k : Amt} (hg : s.Good) : 0 ≤ s.rbees k∧(s.rbees k ≤ s.lots.b→s.enough (k.add ⟨s.rbees k, 0, 0⟩) = true)∧∀ m, 0 ≤ m→m ≤ s.lots.b→s.enough (k.add ⟨m, 0, 0⟩) = true→s.rbees k ≤ m:=by
  obtain ⟨l1, l2, l3⟩:=hg.lots
  obtain ⟨a, b, c⟩:=rbeesF_spec (s:=s) (k:=k) 101 (max 0 (sumW s.orders - k.weight)) (by omega)
  unfold Store.rbees
  refine ⟨by omega, b, fun m h1 h2 h3=>c m ?_ h2 h3⟩
  have:=(enough_iff.1 h3).2
  rw [add_weight] at this
  omega
theorem short_spec {s : Store} {k : Amt} (hg : s.Good) (hk : 0 ≤ k.weight) (h : s.short k = true) {m : Int} (hm : 0 ≤ m) : ¬ s.enough (k.add ⟨m, 0, 0⟩) = true:=by
  intro he
  obtain ⟨q1, q2⟩:=enough_iff.1 he
  rw [add_weight] at q2
  unfold Store.short at h
  rw [List.any_eq_true] at h
  obtain ⟨o, ho, hb⟩:=h
  have hw : max k.weight (sumW s.orders) ≤ k.weight + m:=by omega
  have ho2:=hg.orders o ho
  obtain ⟨⟨h1, _⟩, h2, _⟩:=q1 o ho
  rw [add_weight] at h1 h2
  have m1 : o.tlo * max k.weight (sumW s.orders) ≤ o.tlo * (k.weight + m):=Int.mul_le_mul_of_nonneg_left hw ho2.2.1.1
  have m2 : o.clo * max k.weight (sumW s.orders) ≤ o.clo * (k.weight + m):=Int.mul_le_mul_of_nonneg_left hw ho2.2.2.1
  simp only [Amt.add, Int.add_zero] at h1 h2
  simp only [Bool.or_eq_true, decide_eq_true_eq] at hb
  omega
theorem bees_same {s : Store} {k : Amt} (hg : s.Good) (hk : k.upto 1000000) : (s.bees k).2 = (!s.short k && decide (s.rbees k ≤ s.lots.b))∧((s.bees k).2 = true→(s.bees k).1 = s.rbees k):=by
  obtain ⟨p1, p2⟩:=bees_spec hg hk
  obtain ⟨r0, r1, r2⟩:=rbees_spec (k:=k) hg
  have hw : 0 ≤ k.weight:=by obtain ⟨a, b, c⟩:=hk;unfold Amt.weight;omega
  constructor
  · rw [Bool.eq_iff_iff]
    simp only [Bool.and_eq_true, Bool.not_eq_true', decide_eq_true_eq]
    constructor
    · intro h
      obtain ⟨a, b, c⟩:=p1 h
      have:=r2 _ a b c
      exact ⟨Bool.eq_false_iff.2 fun hs=>short_spec hg hw hs a c, by omega⟩
    · rintro ⟨h1, h2⟩
      exact (p2 _ r0 h2 (r1 h2)).1
  · intro h
    obtain ⟨a, b, c⟩:=p1 h
    have h1:=r2 _ a b c
    have h2:=(p2 _ r0 (by omega) (r1 (by omega))).2
    omega
theorem lessL4 (a b : Amt) : lessL [a.weight, a.b, a.t, a.c] [b.weight, b.b, b.t, b.c] = true↔a.lt b:=by
  unfold Amt.lt
  simp only [lessL]
  generalize a.weight = x
  generalize b.weight = y
  split
  · split
    · split
      · split
        · simp;omega
        · simp;omega
      · simp;omega
    · simp;omega
  · simp;omega
theorem least_step {s : Store} {base : Amt} {t c : Nat} {best : Poured} (hg : s.Good) (hb : base.upto 900000) (ht : (t : Int) ≤ s.lots.t) (hc : (c : Int) ≤ s.lots.c) (h : best.ok = false→best = zeroP) :
    s.leastStep base t c (best.amt, best.ok) = ((s.pourStep base t c best).amt, (s.pourStep base t c best).ok)∧((s.pourStep base t c best).ok = false→s.pourStep base t c best = zeroP):=by
  obtain ⟨l1, l2, l3⟩:=hg.lots
  have hk : (⟨base.b, base.t + t, base.c + c⟩ : Amt).upto 1000000:=by
    obtain ⟨b1, b2, b3⟩:=hb
    refine ⟨?_, ?_, ?_⟩<;>simp only<;>omega
  obtain ⟨e1, e2⟩:=bees_same hg hk
  have hadd : base.add ⟨0, t, c⟩ = ⟨base.b, base.t + t, base.c + c⟩:=by unfold Amt.add;simp
  unfold Store.leastStep Store.pourStep
  rw [hadd]
  generalize hbe : s.bees ⟨base.b, base.t + t, base.c + c⟩ = r at *
  obtain ⟨n, is⟩:=r
  simp only at e1 e2 ⊢
  cases is with
  | false =>
    rw [if_pos rfl]
    refine ⟨?_, h⟩
    by_cases hs : s.short ⟨base.b, base.t + t, base.c + c⟩ = true
    · rw [if_pos hs]
    · rw [if_neg hs]
      have hs:=Bool.eq_false_iff.2 hs
      rw [hs] at e1
      simp only [Bool.not_false, Bool.true_and] at e1
      rw [← e1, Bool.false_and, if_neg (by simp)]
  | true =>
    have e2:=e2 rfl
    have hb1 : s.short ⟨base.b, base.t + t, base.c + c⟩ = false∧decide (s.rbees ⟨base.b, base.t + t, base.c + c⟩ ≤ s.lots.b) = true:=by
      have:=e1.symm
      simpa [Bool.and_eq_true] using this
    rw [if_neg (show ¬ s.short ⟨base.b, base.t + t, base.c + c⟩ = true by rw [hb1.1];simp), if_neg (show ¬ (true = false) by simp), ← e2]
    rw [← e2] at hb1
    rw [hb1.2, Bool.true_and]
    have hiff : ((!best.ok || lessL [Amt.weight ⟨n, t, c⟩, n, t, c] [best.amt.weight, best.amt.b, best.amt.t, best.amt.c]) = true)↔Poured.better ⟨⟨n, t, c⟩, true⟩ best = true:=by
      rw [better_iff, Bool.or_eq_true, lessL4 ⟨n, t, c⟩ best.amt]
      constructor
      · rintro (hx|hx)
        · exact .inl (h (by simpa using hx))
        · exact .inr hx
      · rintro (hx|hx)
        · rw [hx];exact .inl rfl
        · exact .inr hx
    by_cases hbt : Poured.better ⟨⟨n, t, c⟩, true⟩ best = true
    · rw [if_pos hbt, if_pos (hiff.2 hbt)]
      exact ⟨rfl, by simp⟩
    · rw [if_neg hbt, if_neg (fun hx=>hbt (hiff.1 hx))]
      exact ⟨rfl, h⟩
theorem least_in {s : Store} {base : Amt} {t : Nat} (hg : s.Good) (hb : base.upto 900000) (ht : (t : Int) ≤ s.lots.t) : ∀ (n c : Nat) (best : Poured), (n : Int) + c ≤ s.lots.c + 1→(best.ok = false→best = zeroP) →
    s.leastIn base t n c (best.amt, best.ok) = ((s.pourIn base t n c best).amt, (s.pourIn base t n c best).ok)∧((s.pourIn base t n c best).ok = false→s.pourIn base t n c best = zeroP)
  | 0, c, best, _, h=>⟨rfl, h⟩
  | n + 1, c, best, hn, h=>by
    unfold Store.leastIn Store.pourIn
    obtain ⟨a, b⟩:=least_step hg hb ht (c:=c) (by omega) h
    rw [a]
    exact least_in hg hb ht n (c + 1) _ (by omega) b
theorem least_out {s : Store} {base : Amt} (hg : s.Good) (hb : base.upto 900000) : ∀ (n t : Nat) (best : Poured), (n : Int) + t ≤ s.lots.t + 1→(best.ok = false→best = zeroP) →
    s.leastOut base n t (best.amt, best.ok) = ((s.pourOut base n t best).amt, (s.pourOut base n t best).ok)∧((s.pourOut base n t best).ok = false→s.pourOut base n t best = zeroP)
  | 0, t, best, _, h=>⟨rfl, h⟩
  | n + 1, t, best, hn, h=>by
    unfold Store.leastOut Store.pourOut
    obtain ⟨l1, l2, l3⟩:=hg.lots
    obtain ⟨a, b⟩:=least_in hg hb (t:=t) (by omega) (s.lots.c.toNat + 1) 0 best (by omega) h
    rw [a]
    exact least_out hg hb n (t + 1) _ (by omega) b
theorem least_pour {s : Store} {l : List Int} (hg : s.Good) (h6 : l.length ≤ 6) : s.least l = ((s.pour (s.baseOf l 0)).amt, (s.pour (s.baseOf l 0)).ok):=by
  obtain ⟨l1, l2, l3⟩:=hg.lots
  exact (least_out hg (baseOf_upto hg (by decide) h6) (s.lots.t.toNat + 1) 0 zeroP (by omega) (fun _=>rfl)).1
end Go.Proofs.YtbpiibdcncfphaaDoor
namespace Go.Proofs.YtbpiibdcncfphaaDoor
open Go.Am Go.Proofs Go
theorem valid_c (s : Store) (hr : s.small) : PureA Tryd.prog 25 [storeA s] (boolA (decide (s.check.2.2 = 0))):=by
  have hk:=refCheck_c s hr
  unfold triA at hk
  generalize s.check = c at *
  obtain ⟨c1, c2, c3⟩:=c
  refine pureA_codeB tabOk { l:=0, f:=25 } mixed call_25 Tryd.func25 (by kernel_rfl) ?_
  conv=>whnf
  repeat (any_goals (first|exact falseI|((first|refine bd ?_ ?_|refine bn ?_ ?_)<;>intro _<;>first|(exfalso;omega)|conv=>whnf)|((first|refine callP_a hk ?_|refine dI ?_|refine okI ?_|refine bt ?_|refine bi (fun _=>?_) (fun _=>?_)|refine bndI ?_|intro _)<;>conv=>whnf)))
  (refine ⟨⟨?_⟩, trivial⟩;rfl)
def u8A (n : Int) : AV:=.v (.int .u8 n)
def pouredL (h a b c : Int) : AV:=.agg [u8A h, u8A a, u8A b, u8A c]
def bitU (h : Int) (i : Nat) : Prop:=(h.fdiv (2 ^ min ((i : Int)).toNat IntKind.u8.bits)).tmod 2 = 1
instance (h : Int) (i : Nat) : Decidable (bitU h i):=inferInstanceAs (Decidable (_ = _))
def Store.pickB (s : Store) (h : Int) (n : Int) : Bool:=decide (bitU h n.toNat) && !s.keptAt n
def Store.anyL (s : Store) (h : Int) : List Int:=pickTo (s.pickB h) s.heads.length
def Store.anyA (s : Store) (a b c : Int) : Amt:=⟨a.tmod (s.lots.b + 1), b.tmod (s.lots.t + 1), c.tmod (s.lots.c + 1)⟩
def anyTo (s : Store) (a b c : Int) : Nat→Amt
  | 0=>zeroT
  | 1=>⟨a.tmod (s.lots.b + 1), 0, 0⟩
  | 2=>⟨a.tmod (s.lots.b + 1), b.tmod (s.lots.t + 1), 0⟩
  | _=>s.anyA a b c
set_option maxHeartbeats 2000000 in
theorem any_c (s : Store) (h a b c : Int) (hg : s.Good) (h1 : 0 ≤ a∧a ≤ 255) (h2 : 0 ≤ b∧b ≤ 255) (h3 : 0 ≤ c∧c ≤ 255) :
    PureA Tryd.prog 26 [storeA s, pouredL h a b c] (.tuple [intsA (s.anyL h), amtA (s.anyA a b c)]):=by
  have h6:=hg.len
  obtain ⟨l1, l2, l3⟩:=hg.lots
  unfold Store.anyL
  have hM:=pickTo_succ (s.pickB h)
  have hMl:=pickTo_len (s.pickB h)
  have hM0 : pickTo (s.pickB h) 0 = []:=rfl
  have hpk : ∀ (i : Nat) y, s.heads[i]? = some y→s.pickB h i = (decide (bitU h i) && !y.kept):=by
    intro i y hy
    unfold Store.pickB Store.keptAt
    simp only [Int.toNat_natCast, hy]
  generalize pickTo (s.pickB h) = M at *
  refine pureA_codeB tabOk { l:=0, f:=26 } mixed call_26 Tryd.func26 (by kernel_rfl) ?_
  conv=>whnf
  refine loopTok 6 1 ⟨0, 26, 39⟩ ?_
  conv=>whnf
  refine loopK tabOk { l:=0, f:=26 } mixed (fun i : Nat=>[(7, intA i), (6, .slice 1 ((M i).map intA) (.own ⟨0, 26, 39⟩ 1))]) (fun _=>[]) (fun i=>[(⟨0, 26, 39⟩, some (1, (M i).length))]) (fun i=>i ≤ s.heads.length) (fun i=>s.heads.length - i) 0 (by kernel_rfl)
    (Nat.zero_le _) ?_
  conv=>whnf
  refine ⟨⟨slotsLe_cons rfl (slotsLe_cons (by rw [hM0];rfl) trivial), trivial, keysLe_cons (by rw [hM0];rfl) trivial⟩, ?_⟩
  intro i hi
  have hMi:=hM i
  have hMli:=hMl i
  by_cases hlt : i < s.heads.length
  · obtain ⟨y, hy, _⟩:=drop_cons (l:=s.heads) (i:=i) hlt
    rw [hpk i y hy] at hMi
    clear hpk hM hMl
    have hlm : i < (s.heads.map headA).length:=by simpa using hlt
    obtain ⟨yn, yw, yd, yk⟩:=y
    by_cases q : bitU h i
    · rw [decide_eq_true q] at hMi
      unfold bitU at q
      cases yk with
      | true =>
        simp only [Bool.not_true, Bool.and_false, Bool.false_eq_true, if_false, List.append_nil] at hMi
        conv=>whnf
        repeat (any_goals (first|exact falseI|((first|refine bd ?_ ?_|refine bn ?_ ?_)<;>intro _<;>first|(exfalso;omega)|conv=>whnf)|((first|refine optP_map hy rfl ?_|refine dI ?_|refine okI ?_|refine bt ?_|refine bi (fun _=>?_) (fun _=>?_)|refine bndI ?_|intro _)<;>conv=>whnf)))
        (refine ⟨i + 1, (by omega), (by omega), ?_⟩;(conv=>whnf);refine ⟨?_, ?_, ?_⟩<;>repeat (first|exact trivial|refine sc rfl ?_|refine kn ?_|refine kc rfl ?_|refine sc (by first|rfl|(rw [hMi];rfl)) ?_|refine kc (by first|rfl|(rw [hMi];rfl)) ?_))
      | false =>
        simp only [Bool.not_false, Bool.and_true, if_true] at hMi
        conv=>whnf
        repeat (any_goals (first|exact falseI|((first|refine bd ?_ ?_|refine bn ?_ ?_)<;>intro _<;>first|(exfalso;omega)|conv=>whnf)|((first|refine optP_map hy rfl ?_|refine dI ?_|refine okI ?_|refine bt ?_|refine bi (fun _=>?_) (fun _=>?_)|refine bndI ?_|intro _)<;>conv=>whnf)))
        (refine ⟨i + 1, (by omega), (by omega), ?_⟩;(conv=>whnf);refine ⟨?_, ?_, ?_⟩<;>repeat (first|exact trivial|refine sc rfl ?_|refine kn ?_|refine kc rfl ?_|refine sc (by first|rfl|(rw [hMi, List.map_append];rfl)|(rw [hMi, List.length_append, ← List.length_map (f:=intA)];rfl)) ?_|refine kc (by first|rfl|(rw [hMi, List.map_append];rfl)|(rw [hMi, List.length_append, ← List.length_map (f:=intA)];rfl)) ?_))
    · rw [decide_eq_false q] at hMi
      unfold bitU at q
      simp only [Bool.false_and, Bool.false_eq_true, if_false, List.append_nil] at hMi
      conv=>whnf
      repeat (any_goals (first|exact falseI|((first|refine bd ?_ ?_|refine bn ?_ ?_)<;>intro _<;>first|(exfalso;omega)|conv=>whnf)|((first|refine optP_map hy rfl ?_|refine dI ?_|refine okI ?_|refine bt ?_|refine bi (fun _=>?_) (fun _=>?_)|refine bndI ?_|intro _)<;>conv=>whnf)))
      (refine ⟨i + 1, (by omega), (by omega), ?_⟩;(conv=>whnf);refine ⟨?_, ?_, ?_⟩<;>repeat (first|exact trivial|refine sc rfl ?_|refine kn ?_|refine kc rfl ?_|refine sc (by first|rfl|(rw [hMi];rfl)) ?_|refine kc (by first|rfl|(rw [hMi];rfl)) ?_))
  · have : i = s.heads.length:=by omega
    subst this
    have hnl : ¬ ((s.heads.length : Nat) : Int) < ((s.heads.map headA).length : Nat):=by simp
    clear hM hpk hMl hMi
    generalize M s.heads.length = L at *
    conv=>whnf
    repeat (any_goals (first|exact falseI|((first|refine bd ?_ ?_|refine bn ?_ ?_)<;>intro _<;>first|(exfalso;omega)|conv=>whnf)|((first|refine dI ?_|refine okI ?_|refine bt ?_|refine bi (fun _=>?_) (fun _=>?_)|refine bndI ?_|intro _)<;>conv=>whnf)))
    refine loopK tabOk { l:=0, f:=26 } mixed (fun i : Nat=>[(9, intA i)]) (fun i=>[(⟨0, 26, 8⟩, some (1, some (3, [amtA (anyTo s a b c i)])))]) (fun _=>[]) (fun i=>i ≤ 3) (fun i=>3 - i) 0 (by kernel_rfl)
      (Nat.zero_le _) ?_
    conv=>whnf
    refine ⟨⟨slotsLe_cons rfl trivial, keysLe_cons rfl trivial, trivial⟩, ?_⟩
    intro i hi
    conv=>whnf
    refine brP_dec (fun h4=>?_) (fun h4=>?_)
    · have h4 : (i : Int) < 3:=h4
      rcases lt3 (by omega : i < 3) with rfl|rfl|rfl
      · conv=>whnf
        repeat (any_goals (first|exact falseI|((first|refine bd ?_ ?_|refine bn ?_ ?_)<;>intro _<;>first|(exfalso;omega)|conv=>whnf)|((first|refine dI ?_|refine okI ?_|refine bt ?_|refine bi (fun _=>?_) (fun _=>?_)|refine bndI ?_|intro _)<;>conv=>whnf)))
        (refine ⟨1, (by omega), (by omega), ?_⟩;(conv=>whnf);refine ⟨?_, ?_, ?_⟩<;>repeat (first|exact trivial|refine sc rfl ?_|refine kn ?_|refine kc rfl ?_|refine sc (by rfl) ?_|refine kc (by rfl) ?_))
      · conv=>whnf
        repeat (any_goals (first|exact falseI|((first|refine bd ?_ ?_|refine bn ?_ ?_)<;>intro _<;>first|(exfalso;omega)|conv=>whnf)|((first|refine dI ?_|refine okI ?_|refine bt ?_|refine bi (fun _=>?_) (fun _=>?_)|refine bndI ?_|intro _)<;>conv=>whnf)))
        (refine ⟨2, (by omega), (by omega), ?_⟩;(conv=>whnf);refine ⟨?_, ?_, ?_⟩<;>repeat (first|exact trivial|refine sc rfl ?_|refine kn ?_|refine kc rfl ?_|refine sc (by rfl) ?_|refine kc (by rfl) ?_))
      · conv=>whnf
        repeat (any_goals (first|exact falseI|((first|refine bd ?_ ?_|refine bn ?_ ?_)<;>intro _<;>first|(exfalso;omega)|conv=>whnf)|((first|refine dI ?_|refine okI ?_|refine bt ?_|refine bi (fun _=>?_) (fun _=>?_)|refine bndI ?_|intro _)<;>conv=>whnf)))
        (refine ⟨3, (by omega), (by omega), ?_⟩;(conv=>whnf);refine ⟨?_, ?_, ?_⟩<;>repeat (first|exact trivial|refine sc rfl ?_|refine kn ?_|refine kc rfl ?_|refine sc (by rfl) ?_|refine kc (by rfl) ?_))
    · have h4 : ¬ (i : Int) < 3:=h4
      have : i = 3:=by omega
      subst this
      conv=>whnf
      repeat (any_goals (first|exact falseI|((first|refine bd ?_ ?_|refine bn ?_ ?_)<;>intro _<;>first|(exfalso;omega)|conv=>whnf)|((first|refine dI ?_|refine okI ?_|refine bt ?_|refine bi (fun _=>?_) (fun _=>?_)|refine bndI ?_|intro _)<;>conv=>whnf)))
      (refine ⟨⟨?_⟩, trivial⟩;rfl)
end Go.Proofs.YtbpiibdcncfphaaDoor
namespace Go.Proofs.YtbpiibdcncfphaaDoor
open Go.Am Go.Proofs Go
def pairwB {α : Type} (r : α→α→Bool) : List α→Bool
  | []=>true
  | x :: l=>l.all (r x) && pairwB r l
theorem pairwB_iff {α : Type} {r : α→α→Bool} : ∀ {l : List α}, pairwB r l = true→l.Pairwise (fun x y=>r x y = true)
  | [], _=>.nil
  | x :: l, h=>by
    simp only [pairwB, Bool.and_eq_true, List.all_eq_true] at h
    exact .cons h.1 (pairwB_iff h.2)
def sortedOk (h K : Nat) : Bool :=
  pairwB (fun a b=>fewer (setL a) (setL b)) (insN 0 (setsOf h K).length (setsOf h K)) && (List.range (2 ^ h)).all fun n=>!(n &&& K == 0) || (insN 0 (setsOf h K).length (setsOf h K)).contains n
theorem sorted_small : ∀ h, h < 5→∀ K, K < 2 ^ h→sortedOk h K = true:=by decide +kernel
theorem sorted_five : ∀ K, K < 2 ^ 5→sortedOk 5 K = true:=by decide +kernel
theorem sorted_six : ∀ K, K < 2 ^ 6→sortedOk 6 K = true:=by decide +kernel
theorem sorted_spec (s : Store) (h6 : s.heads.length ≤ 6) : s.sorted.Pairwise (fun a b=>fewer (setL a) (setL b) = true)∧∀ n, n < 2 ^ s.heads.length→(n &&& maskOf s.heads == 0) = true→n ∈ s.sorted:=by
  have hK:=maskOf_lt s.heads
  have : sortedOk s.heads.length (maskOf s.heads) = true:=by
    rcases (by omega : s.heads.length < 5∨s.heads.length = 5∨s.heads.length = 6) with h|h|h
    · exact sorted_small _ h _ hK
    · rw [h] at hK ⊢;exact sorted_five _ hK
    · rw [h] at hK ⊢;exact sorted_six _ hK
  unfold sortedOk at this
  rw [Bool.and_eq_true, List.all_eq_true] at this
  refine ⟨pairwB_iff this.1, fun n hn h0=>?_⟩
  have:=this.2 n (List.mem_range.2 hn)
  rw [h0] at this
  simp only [Bool.not_true, Bool.false_or, List.contains_eq_mem, decide_eq_true_eq] at this
  exact this
theorem lessL_asymm : ∀ {a b : List Int}, lessL a b = true→lessL b a = false
  | [], [], h=>by simp [lessL] at h
  | [], _ :: _, _=>rfl
  | _ :: _, [], h=>by simp [lessL] at h
  | x :: a, y :: b, h=>by
    simp only [lessL] at h ⊢
    split at h
    · rename_i e
      rw [if_pos e.symm]
      exact lessL_asymm h
    · rename_i e
      rw [if_neg (fun h=>e h.symm)]
      simp at h ⊢
      omega
theorem fewer_asymm {a b : List Int} (h : fewer a b = true) : fewer b a = false:=by
  unfold fewer at *
  split at h
  · rename_i e
    rw [if_pos e.symm]
    exact lessL_asymm h
  · rename_i e
    rw [if_neg (fun h=>e h.symm)]
    simp at h ⊢
    omega
theorem fewer_irrefl (a : List Int) : fewer a a = false:=by
  have : ∀ a : List Int, lessL a a = false:=by
    intro a
    induction a with
    | nil=>rfl
    | cons x a ih=>simp [lessL, ih]
  unfold fewer
  rw [if_pos rfl, this]
theorem find_first {s : Store} (h6 : s.heads.length ≤ 6) {p : Nat→Bool} {n m : Nat} (h : s.sorted.find? p = some n) (hm : m ∈ s.sorted) (hp : p m = true) : m = n∨fewer (setL n) (setL m) = true:=by
  obtain ⟨hpn, l1, l2, he, hno⟩:=List.find?_eq_some_iff_append.1 h
  have hs:=(sorted_spec s h6).1
  rw [he] at hm hs
  rcases List.mem_append.1 hm with hm|hm
  · have:=hno m hm;simp [hp] at this
  · rcases List.mem_cons.1 hm with e|hm
    · exact .inl e
    · rw [List.pairwise_append] at hs
      exact .inr ((List.pairwise_cons.1 hs.2.1).1 m hm)
theorem find_mem {s : Store} {p : Nat→Bool} {n : Nat} (h : s.sorted.find? p = some n) : n ∈ s.sorted∧p n = true:=⟨List.mem_of_find?_eq_some h, List.find?_some h⟩
def setOfP (p : Int→Bool) : Nat→Nat
  | 0=>0
  | h + 1=>setOfP p h + (if p (h : Int) = true then 2 ^ h else 0)
theorem setOfP_lt (p : Int→Bool) : ∀ h, setOfP p h < 2 ^ h
  | 0=>by simp [setOfP]
  | h + 1=>by
    have:=setOfP_lt p h
    unfold setOfP
    rw [Nat.pow_succ]
    split<;>omega
theorem setOfP_bit (p : Int→Bool) : ∀ (h i : Nat), i < h→(setOfP p h).testBit i = p i
  | 0, i, hi=>absurd hi (by omega)
  | h + 1, i, hi=>by
    have hlt:=setOfP_lt p h
    unfold setOfP
    by_cases e : i = h
    · subst e
      cases hp : p i with
      | true=>rw [if_pos rfl, Nat.add_comm, Nat.testBit_two_pow_add_eq, Nat.testBit_lt_two_pow hlt];rfl
      | false=>rw [if_neg (by simp), Nat.add_zero, Nat.testBit_lt_two_pow hlt]
    · have ih:=setOfP_bit p h i (by omega)
      cases hp : p h with
      | true=>rw [if_pos rfl, Nat.add_comm, Nat.testBit_two_pow_add_gt (by omega)];exact ih
      | false=>rw [if_neg (by simp), Nat.add_zero];exact ih
def pickOk (h : Nat) : Bool:=(List.range (2 ^ h)).all fun n=>decide (setL n = pickTo (fun x=>n.testBit x.toNat) h) && decide ((setL n).Pairwise (· < ·))
theorem pick_ok : ∀ h, h < 7→pickOk h = true:=by decide +kernel
theorem setL_pick {h n : Nat} (hh : h ≤ 6) (hn : n < 2 ^ h) : setL n = pickTo (fun x=>n.testBit x.toNat) h∧(setL n).Pairwise (· < ·):=by
  have:=pick_ok h (by omega)
  unfold pickOk at this
  rw [List.all_eq_true] at this
  have:=this n (List.mem_range.2 hn)
  rw [Bool.and_eq_true, decide_eq_true_eq, decide_eq_true_eq] at this
  exact this
theorem pickTo_congr {p q : Int→Bool} : ∀ (h : Nat), (∀ i : Nat, i < h→p i = q i)→pickTo p h = pickTo q h
  | 0, _=>rfl
  | h + 1, e=>by rw [pickTo_succ, pickTo_succ, pickTo_congr h fun i hi=>e i (by omega), e h (by omega)]
theorem pickTo_mem {p : Int→Bool} {h : Nat} {x : Int} : x ∈ pickTo p h↔(0 ≤ x∧x < h)∧p x = true:=by
  unfold pickTo
  rw [List.mem_filter, List.mem_map]
  constructor
  · rintro ⟨⟨i, hi, rfl⟩, hp⟩
    have:=List.mem_range.1 hi
    exact ⟨⟨Int.natCast_nonneg i, by show (i : Int) < h;omega⟩, hp⟩
  · rintro ⟨⟨h0, h1⟩, hp⟩
    exact ⟨⟨x.toNat, List.mem_range.2 (by omega), by show ((x.toNat : Nat) : Int) = x;omega⟩, hp⟩
theorem pickTo_set (p : Int→Bool) {h : Nat} (hh : h ≤ 6) : pickTo p h = setL (setOfP p h):=by
  rw [(setL_pick hh (setOfP_lt p h)).1]
  exact pickTo_congr h fun i hi=>by rw [Int.toNat_natCast, setOfP_bit p h i hi]
theorem free_set {s : Store} (h6 : s.heads.length ≤ 6) {p : Int→Bool} (hp : ∀ x, p x = true→s.keptAt x = false) : ∃ n ∈ s.sorted, pickTo p s.heads.length = setL n:=by
  refine ⟨setOfP p s.heads.length, (sorted_spec s h6).2 _ (setOfP_lt _ _) ?_, pickTo_set p h6⟩
  have:=kept_any h6 (setOfP_lt p s.heads.length)
  rw [← pickTo_set p h6] at this
  have hno : (pickTo p s.heads.length).any s.keptAt = false:=by
    rw [List.any_eq_false]
    intro x hx
    rw [hp x (pickTo_mem.1 hx).2];simp
  rw [hno] at this
  simpa using this.symm
theorem any_set {s : Store} (h6 : s.heads.length ≤ 6) (h : Int) : ∃ n ∈ s.sorted, s.anyL h = setL n:=free_set h6 fun x hx=>by
  unfold Store.pickB at hx
  simp only [Bool.and_eq_true, Bool.not_eq_true'] at hx
  exact hx.2
structure Store.Free (s : Store) (l : List Int) : Prop where
  at_ : ∀ x ∈ l, 0 ≤ x∧x < s.heads.length
  len : l.length ≤ 6
  bad : s.badL none l = false
theorem badL_free {s : Store} : ∀ {l : List Int} {p : Option Int}, l.Pairwise (· < ·)→(∀ x ∈ l, s.keptAt x = false)→(∀ q, p = some q→∀ x ∈ l, q < x)→s.badL p l = false
  | [], _, _, _, _=>rfl
  | x :: l, p, h, hk, hp=>by
    have h1:=List.pairwise_cons.1 h
    unfold Store.badL
    rw [badL_free (p:=some x) h1.2 (fun y hy=>hk y (List.mem_cons_of_mem _ hy)) (fun q hq y hy=>by cases hq;exact h1.1 y hy)]
    have h3:=hk x (List.mem_cons_self ..)
    have h4 : ∀ b : Bool, b = false→((b || s.keptAt x) || false) = false:=by intro b hb;rw [h3, hb];rfl
    refine h4 _ ?_
    cases p with
    | none=>rfl
    | some q =>
      have:=hp q rfl x (List.mem_cons_self ..)
      simp
      omega
theorem sorted_free {s : Store} (h6 : s.heads.length ≤ 6) {n : Nat} (hn : n ∈ s.sorted) : s.Free (setL n):=by
  obtain ⟨h1, h2⟩:=sorted_mem hn
  refine ⟨(bits_all h6 h1).1, setL_len n, badL_free (setL_pick h6 h1).2 ?_ (fun q hq=>by cases hq)⟩
  have:=kept_any h6 h1
  rw [h2] at this
  simp only [Bool.not_true] at this
  intro x hx
  exact Bool.eq_false_iff.2 fun h=>(List.any_eq_false.1 this x hx) h
theorem headsE_free {s : Store} (hc : s.check.2.2 = 0) {l : List Int} (hf : s.Free l) : s.headsE l = 0:=by
  unfold Store.headsE
  rw [if_neg (fun h=>h hc), if_neg, if_neg (by rw [hf.bad];simp)]
  rw [Bool.not_eq_true, List.any_eq_false]
  intro x hx
  have:=hf.at_ x hx
  rw [Bool.not_eq_true, outside_iff]
  omega
theorem entErr_free {s : Store} (hc : s.check.2.2 = 0) {l : List Int} (hf : s.Free l) {a : Amt} (ha : (0 ≤ a.b∧a.b ≤ s.lots.b)∧(0 ≤ a.t∧a.t ≤ s.lots.t)∧0 ≤ a.c∧a.c ≤ s.lots.c) : s.entErr l a = 0:=by
  have h1:=headsE_free hc hf
  unfold Store.headsE at h1
  rw [if_neg (fun h=>h hc)] at h1
  unfold Store.entErr
  rw [if_neg (fun h=>h hc)]
  split at h1
  · cases h1
  · rename_i q
    rw [if_neg q]
    split at h1
    · cases h1
    · rename_i q
      rw [if_neg q, if_neg]
      rw [Bool.not_eq_true]
      simp only [addFrom, Bool.or_eq_false_iff, outside_iff]
      omega
theorem sumL_add (m : List Amt) : ∀ (l : List Int) (k : Amt), sumL m k l = (sumL m zeroT l).add k:=by
  have key : ∀ (l : List Int) (k a : Amt), sumL m (k.add a) l = (sumL m k l).add a:=by
    intro l
    induction l with
    | nil=>intro k a;rfl
    | cons x l ih =>
      intro k a
      have : (k.add a).add (m.getD x.toNat zeroT) = (k.add (m.getD x.toNat zeroT)).add a:=by unfold Amt.add;simp;omega
      show sumL m ((k.add a).add (m.getD x.toNat zeroT)) l = _
      rw [this, ih]
      rfl
  intro l k
  rw [← key]
  congr 1
  unfold Amt.add zeroT;simp
theorem suits_free {s : Store} (hc : s.check.2.2 = 0) {l : List Int} (hf : s.Free l) {a : Amt} (ha : (0 ≤ a.b∧a.b ≤ s.lots.b)∧(0 ≤ a.t∧a.t ≤ s.lots.t)∧0 ≤ a.c∧a.c ≤ s.lots.c) :
    s.kettle l a = ((s.baseOf l 0).add a, 0)∧((s.suits l a).2 = 4↔s.Feas (s.baseOf l 0) a):=by
  have he:=entErr_free hc hf ha
  have hsum:=sumL_add (s.melts 0) l a
  constructor
  · unfold Store.kettle
    rw [if_neg (fun h=>h he), hsum]
    rfl
  · unfold Store.suits
    rw [if_neg (fun h=>h he), hsum]
    have hidx : 0 ≤ idx (fun o=>!((sumL (s.melts 0) zeroT l).add a).fits o) s.orders↔(s.orders.any fun o=>!((sumL (s.melts 0) zeroT l).add a).fits o) = true:=by
      rw [← idx_any];simp
    have hen : s.enough ((s.baseOf l 0).add a) = true↔(s.orders.any fun o=>!((sumL (s.melts 0) zeroT l).add a).fits o) = false∧sumW s.orders ≤ ((sumL (s.melts 0) zeroT l).add a).weight:=by
      unfold Store.enough Store.baseOf
      rw [Bool.and_eq_true, decide_eq_true_eq, Bool.not_eq_true']
    constructor
    · intro h
      split at h
      · simp at h
      · rename_i q
        split at h
        · simp at h
        · rename_i q2
          refine ⟨ha.1, ha.2.1, ha.2.2, hen.2 ⟨Bool.eq_false_iff.2 fun h=>q (hidx.2 h), by omega⟩⟩
    · intro h
      obtain ⟨h1, h2⟩:=hen.1 h.en
      rw [if_neg (fun hq=>by rw [hidx.1 hq] at h1;simp at h1), if_neg (by omega)]
end Go.Proofs.YtbpiibdcncfphaaDoor
namespace Go.Proofs.YtbpiibdcncfphaaDoor
open Go.Am Go.Proofs Go
theorem anyA_in {s : Store} (hg : s.Good) {a b c : Int} (h1 : 0 ≤ a) (h2 : 0 ≤ b) (h3 : 0 ≤ c) : (0 ≤ (s.anyA a b c).b∧(s.anyA a b c).b ≤ s.lots.b)∧(0 ≤ (s.anyA a b c).t∧(s.anyA a b c).t ≤ s.lots.t)∧0 ≤ (s.anyA a b c).c∧(s.anyA a b c).c ≤ s.lots.c:=by
  obtain ⟨l1, l2, l3⟩:=hg.lots
  have key : ∀ {x y : Int}, 0 ≤ x→0 ≤ y→0 ≤ x.tmod (y + 1)∧x.tmod (y + 1) ≤ y:=by
    intro x y hx hy
    have a:=Int.tmod_nonneg (y + 1) hx
    have b:=Int.tmod_lt_of_pos x (show 0 < y + 1 by omega)
    omega
  exact ⟨key h1 l1.1, key h2 l2.1, key h3 l3.1⟩
theorem baseOf_free {s : Store} (hg : s.Good) (n : Nat) : (s.baseOf (setL n) 0).upto 900000:=baseOf_upto hg (by decide) (setL_len n)
theorem okAt_feas {s : Store} (hg : s.Good) {n : Nat} {a : Amt} (h : s.Feas (s.baseOf (setL n) 0) a) : s.okAt 0 n = true:=(pour_ok_iff hg (baseOf_free hg n)).2 ⟨a, h⟩
theorem weight_base (k a : Amt) : (k.add a).weight = k.weight + a.weight:=by unfold Amt.add Amt.weight;simp;omega
theorem poured_law {s : Store} (hc : s.check.2.2 = 0) {n m : Nat} {a : Amt} (hF : s.sorted.find? (s.okAt 0) = some n) (hm : m ∈ s.sorted) (hfe : s.Feas (s.baseOf (setL m) 0) a) :
    fewer (setL m) (setL n) = false∧(setL m = setL n→((s.baseOf (setL n) 0).add (s.pour (s.baseOf (setL n) 0)).amt).weight ≤ ((s.baseOf (setL m) 0).add a).weight):=by
  have hg:=Store.good hc
  constructor
  · rcases find_first hg.len hF hm (okAt_feas hg hfe) with h|h
    · rw [h];exact fewer_irrefl _
    · exact fewer_asymm h
  · intro e
    rw [e] at hfe ⊢
    rcases pour_spec hg (baseOf_free hg n) with ⟨_, _, h⟩|⟨_, _, h⟩
    · exact absurd hfe (h a)
    · have:=h a hfe
      unfold Amt.lt at this
      rw [weight_base, weight_base]
      omega
theorem feas_fit {s : Store} (hg : s.Good) {n : Nat} {a : Amt} (h : s.Feas (s.baseOf (setL n) 0) a) : ((s.baseOf (setL n) 0).add a).upto 1000000:=by
  obtain ⟨l1, l2, l3⟩:=hg.lots
  have h1:=h.b
  have h2:=h.t
  have h3:=h.c
  obtain ⟨b1, b2, b3⟩:=baseOf_free hg n
  unfold Amt.add
  refine ⟨?_, ?_, ?_⟩<;>simp only<;>omega
theorem upto_fit {a : Amt} (h : a.upto 1000000) : a.fit:=by
  obtain ⟨b1, b2, b3⟩:=h
  unfold Amt.fit big
  omega
theorem upto_abs {a : Amt} (h : a.upto 1000000) : a.abs big:=by
  obtain ⟨b1, b2, b3⟩:=h
  unfold Amt.abs big
  omega
theorem refHeads_free {s : Store} (hr : s.small) (hc : s.check.2.2 = 0) {n : Nat} (hn : n ∈ s.sorted) : PureA Tryd.prog 27 [storeA s, intsA (setL n)] (intA 0):=by
  have h:=refHeads_c s (setL n) hr (by have:=setL_len n;omega)
  rw [headsE_free hc (sorted_free (Store.good hc).len hn)] at h
  exact h
theorem eqI (l m : List Int) : eqAll (fun x y : Int=>decide (x = y)) l m = true↔l = m:=by
  induction l generalizing m with
  | nil=>cases m<;>simp [eqAll]
  | cons x l ih=>cases m with
    | nil=>simp [eqAll]
    | cons y m=>simp [eqAll, ih]
def u8 (a : Int) : Prop:=0 ≤ a∧a ≤ 255
set_option maxHeartbeats 4000000 in
theorem WaxPoured_c (s : Store) (h a b c : Int) (hr : s.small) (h1 : u8 a) (h2 : u8 b) (h3 : u8 c) : PureA Tryd.prog 6 [storeA s, pouredL h a b c] (boolA true):=by
  have hv:=valid_c s hr
  have hp:=pourTop_c s hr
  have aw:=Awake_c
  unfold Store.pourR pourA at hp
  by_cases hc : s.check.2.2 = 0
  · have hg:=Store.good hc
    have h6:=hg.len
    have ha:=any_c s h a b c hg h1 h2 h3
    rw [if_neg (fun h=>h hc)] at hp
    rw [decide_eq_true hc] at hv
    obtain ⟨m, hm, hL⟩:=any_set h6 h
    have hin:=anyA_in hg h1.1 h2.1 h3.1
    rw [hL] at ha
    have hll:=setL_len m
    have hsu:=suits_c s (setL m) (s.anyA a b c) hr (by omega)
    have hsf:=(suits_free hc (sorted_free h6 hm) hin).2
    unfold pairI at hsu
    generalize s.suits (setL m) (s.anyA a b c) = r at *
    obtain ⟨r1, r2⟩:=r
    simp only at hsf
    generalize s.anyA a b c = A at *
    cases hF : s.sorted.find? (s.okAt 0) with
    | none =>
      rw [hF] at hp
      simp only at hp
      have hno : ¬ r2 = 4:=by
        intro e
        have:=okAt_feas hg (hsf.1 e)
        exact List.find?_eq_none.1 hF m hm this
      obtain ⟨A1, A2, A3⟩:=A
      generalize setL m = L at *
      clear hsf hF hin hL hm
      refine pureA_codeB tabOk { l:=0, f:=6 } mixed call_6 Tryd.func6 (by kernel_rfl) ?_
      conv=>whnf
      repeat (any_goals (first|exact falseI|((first|refine bd ?_ ?_|refine bn ?_ ?_)<;>intro _<;>first|(exfalso;omega)|conv=>whnf)|((first|refine callP_a hp ?_|refine callP_a hv ?_|refine callP_a ha ?_|refine callP_a hsu ?_|refine callP_a aw ?_|refine dI ?_|refine okI ?_|refine bt ?_|refine bi (fun _=>?_) (fun _=>?_)|refine bndI ?_|intro _)<;>conv=>whnf)))
      (refine ⟨⟨?_⟩, trivial⟩;rfl)
    | some n =>
      rw [hF] at hp
      simp only at hp
      obtain ⟨hns, hnok⟩:=find_mem hF
      unfold Store.okAt at hnok
      have hspec : s.Feas (s.baseOf (setL n) 0) (s.pour (s.baseOf (setL n) 0)).amt:=by
        rcases pour_spec hg (baseOf_free hg n) with ⟨h, _, _⟩|⟨_, h, _⟩
        · rw [h] at hnok;simp at hnok
        · exact h
      have hlaw:=fun hfe=>poured_law (a:=A) hc hF hm hfe
      have hfn:=sorted_free h6 hns
      have hnl:=setL_len n
      have hin2 : (0 ≤ (s.pour (s.baseOf (setL n) 0)).amt.b∧(s.pour (s.baseOf (setL n) 0)).amt.b ≤ s.lots.b)∧(0 ≤ (s.pour (s.baseOf (setL n) 0)).amt.t∧(s.pour (s.baseOf (setL n) 0)).amt.t ≤ s.lots.t)∧0 ≤ (s.pour (s.baseOf (setL n) 0)).amt.c∧(s.pour (s.baseOf (setL n) 0)).amt.c ≤ s.lots.c:=⟨hspec.b, hspec.t, hspec.c⟩
      obtain ⟨hk1, hk2⟩:=suits_free hc hfn hin2
      have hk2:=hk2.2 hspec
      have hkc:=kettle_c s (setL n) (s.pour (s.baseOf (setL n) 0)).amt hr (by omega)
      have hs2:=suits_c s (setL n) (s.pour (s.baseOf (setL n) 0)).amt hr (by omega)
      have hhd:=refHeads_free hr hc hns
      have hup:=feas_fit hg hspec
      have hen:=enough_c s _ hg (upto_abs hup)
      rw [hspec.en] at hen
      have hw:=refWeight_c _ (upto_fit hup)
      have hfw:=fewer_c (setL m) (setL n) (by omega) (by omega)
      have hii:=ints_c (setL m) (setL n) (by omega) (by omega)
      unfold pairA at hkc
      rw [hk1] at hkc
      unfold pairI at hs2
      generalize s.suits (setL n) (s.pour (s.baseOf (setL n) 0)).amt = q at *
      obtain ⟨q1, q2⟩:=q
      simp only at hk2 hkc hs2
      subst hk2
      have hfa:=(sorted_free h6 hm).at_
      have hal : A.abs 1000000:=by
        obtain ⟨l1, l2, l3⟩:=hg.lots
        unfold Amt.abs
        omega
      have hinc:=in_c s (setL m) A hg (by omega) hfa hal
      have hbe : sumL (s.melts 0) A (setL m) = (s.baseOf (setL m) 0).add A:=sumL_add _ _ _
      rw [hbe] at hinc
      by_cases hr4 : r2 = 4
      · have hfe:=hsf.1 hr4
        obtain ⟨g1, g2⟩:=hlaw hfe
        rw [g1] at hfw
        have hw2:=refWeight_c _ (upto_fit (feas_fit hg hfe))
        generalize (s.baseOf (setL m) 0).add A = K at *
        generalize (s.baseOf (setL n) 0).add (s.pour (s.baseOf (setL n) 0)).amt = K2 at *
        generalize (s.pour (s.baseOf (setL n) 0)).amt = P at *
        obtain ⟨A1, A2, A3⟩:=A
        obtain ⟨P1, P2, P3⟩:=P
        clear hlaw hspec hin2 hfe hup hk1 hsf hF hnok hfn hin hfa hal hbe hL hm hns
        by_cases hE : eqAll (fun x y : Int=>decide (x = y)) (setL m) (setL n) = true
        · rw [hE] at hii
          have g2:=g2 ((eqI _ _).1 hE)
          clear hE
          obtain ⟨K1, K2', K3⟩:=K
          obtain ⟨Q1, Q2, Q3⟩:=K2
          generalize Amt.weight ⟨K1, K2', K3⟩ = W1 at *
          generalize Amt.weight ⟨Q1, Q2, Q3⟩ = W2 at *
          generalize setL m = L at *
          generalize setL n = N at *
          refine pureA_codeB tabOk { l:=0, f:=6 } mixed call_6 Tryd.func6 (by kernel_rfl) ?_
          conv=>whnf
          repeat (any_goals (first|exact falseI|((first|refine bd ?_ ?_|refine bn ?_ ?_)<;>intro _<;>first|(exfalso;omega)|conv=>whnf)|((first|refine callP_a hp ?_|refine callP_a hv ?_|refine callP_a ha ?_|refine callP_a hsu ?_|refine callP_a hkc ?_|refine callP_a hs2 ?_|refine callP_a hhd ?_|refine callP_a hen ?_|refine callP_a hfw ?_|refine callP_a hii ?_|refine callP_a hinc ?_|refine callP_a hw ?_|refine callP_a hw2 ?_|refine callP_a aw ?_|refine dI ?_|refine okI ?_|refine bt ?_|refine bi (fun _=>?_) (fun _=>?_)|refine bndI ?_|intro _)<;>conv=>whnf)))
          (refine ⟨⟨?_⟩, trivial⟩;rfl)
        · rw [Bool.eq_false_iff.2 hE] at hii
          clear hE g2
          obtain ⟨K1, K2', K3⟩:=K
          obtain ⟨Q1, Q2, Q3⟩:=K2
          generalize setL m = L at *
          generalize setL n = N at *
          refine pureA_codeB tabOk { l:=0, f:=6 } mixed call_6 Tryd.func6 (by kernel_rfl) ?_
          conv=>whnf
          repeat (any_goals (first|exact falseI|((first|refine bd ?_ ?_|refine bn ?_ ?_)<;>intro _<;>first|(exfalso;omega)|conv=>whnf)|((first|refine callP_a hp ?_|refine callP_a hv ?_|refine callP_a ha ?_|refine callP_a hsu ?_|refine callP_a hkc ?_|refine callP_a hs2 ?_|refine callP_a hhd ?_|refine callP_a hen ?_|refine callP_a hfw ?_|refine callP_a hii ?_|refine callP_a aw ?_|refine dI ?_|refine okI ?_|refine bt ?_|refine bi (fun _=>?_) (fun _=>?_)|refine bndI ?_|intro _)<;>conv=>whnf)))
          (refine ⟨⟨?_⟩, trivial⟩;rfl)
      · generalize (s.baseOf (setL n) 0).add (s.pour (s.baseOf (setL n) 0)).amt = K2 at *
        generalize (s.pour (s.baseOf (setL n) 0)).amt = P at *
        obtain ⟨A1, A2, A3⟩:=A
        obtain ⟨P1, P2, P3⟩:=P
        obtain ⟨Q1, Q2, Q3⟩:=K2
        clear hlaw hspec hin2 hup hk1 hsf hF hnok hfn hin hfa hal hbe hL hm hns hinc
        generalize setL m = L at *
        generalize setL n = N at *
        refine pureA_codeB tabOk { l:=0, f:=6 } mixed call_6 Tryd.func6 (by kernel_rfl) ?_
        conv=>whnf
        repeat (any_goals (first|exact falseI|((first|refine bd ?_ ?_|refine bn ?_ ?_)<;>intro _<;>first|(exfalso;omega)|conv=>whnf)|((first|refine callP_a hp ?_|refine callP_a hv ?_|refine callP_a ha ?_|refine callP_a hsu ?_|refine callP_a hkc ?_|refine callP_a hs2 ?_|refine callP_a hhd ?_|refine callP_a hen ?_|refine callP_a aw ?_|refine dI ?_|refine okI ?_|refine bt ?_|refine bi (fun _=>?_) (fun _=>?_)|refine bndI ?_|intro _)<;>conv=>whnf)))
        (refine ⟨⟨?_⟩, trivial⟩;rfl)
  · rw [if_pos hc] at hp
    rw [decide_eq_false hc] at hv
    generalize s.check.2.2 = c at *
    refine pureA_codeB tabOk { l:=0, f:=6 } mixed call_6 Tryd.func6 (by kernel_rfl) ?_
    conv=>whnf
    repeat (any_goals (first|exact falseI|((first|refine bd ?_ ?_|refine bn ?_ ?_)<;>intro _<;>first|(exfalso;omega)|conv=>whnf)|((first|refine callP_a hp ?_|refine callP_a hv ?_|refine callP_a aw ?_|refine dI ?_|refine okI ?_|refine bt ?_|refine bi (fun _=>?_) (fun _=>?_)|refine bndI ?_|intro _)<;>conv=>whnf)))
    (refine ⟨⟨?_⟩, trivial⟩;rfl)
end Go.Proofs.YtbpiibdcncfphaaDoor
namespace Go.Proofs.YtbpiibdcncfphaaDoor
open Go.Am Go.Proofs Go Go.ChangeShapes Go.WideShapes Go.RowKit
section
variable {H : Type} {enc : TypeId × Value→H} {W : World} {sp : Nat→Bool} {held : Bool}
theorem u8_wf {n : Int} (h : (Lit.int .u8 n).wf = true) : u8 n:=bounds_u8 h
theorem cells47 : Tryd.prog.cellsOf 47 = 4:=by kernel_rfl
theorem leaves47 : leaves Tryd.prog 6 47 = some [.int .u8, .int .u8, .int .u8, .int .u8]:=by kernel_rfl
set_option maxRecDepth 100000 in
theorem poured_read {r : Reach} {b0 : Nat} {v : Value} {d : DataW H} {ps : List MemPlace} (hk : Value.okWide Tryd.prog W r b0 47 v) (h : DataW.Trod enc Tryd.prog W 0 sp held 47 v d ps) :
    ∃ x a b c : Int, u8 x∧u8 a∧u8 b∧u8 c∧PRel W (lies W) (pouredL x a b c) v:=by
  have f:=flat_arg leaves47 h
  simp only [Value.okWide, Tryd.underlying47] at hk
  obtain ⟨vs, rfl, hsz, _⟩:=hk
  rw [cells47] at hsz
  obtain ⟨l⟩:=vs
  obtain ⟨c0, c1, c2, c3, rfl⟩:=four (by simpa using hsz)
  have f : Fit (Rows.uptoBulk d) _ [c0, c1, c2, c3]:=f
  match c0, c1, c2, c3, f with
  | .int _ x, .int _ a, .int _ b, .int _ c, f =>
    obtain ⟨⟨rfl, w0⟩, ⟨rfl, w1⟩, ⟨rfl, w2⟩, ⟨rfl, w3⟩, _⟩:=f
    refine ⟨x, a, b, c, u8_wf w0, u8_wf w1, u8_wf w2, u8_wf w3, ?_⟩
    refine PRel.agg rfl (fun i x y hx hy=>?_) (fun y hy=>?_)
    · match i with
      | 0=>simp at hx hy;subst hx hy;exact .v _
      | 1=>simp at hx hy;subst hx hy;exact .v _
      | 2=>simp at hx hy;subst hx hy;exact .v _
      | 3=>simp at hx hy;subst hx hy;exact .v _
      | i + 4=>simp at hx
    · simp at hy
      rcases hy with rfl|rfl|rfl|rfl<;>rfl
end
end Go.Proofs.YtbpiibdcncfphaaDoor
namespace Go.Proofs.YtbpiibdcncfphaaDoor
open Go.Am Go.Proofs Go
theorem melt_weight (h : Head) (f l : Int) : (h.melt f l).weight = h.wax.weight:=by unfold Head.melt Amt.weight;simp only;omega
theorem pick_has (p : Int→Bool) {h i : Nat} (hi : i < h) : (pickTo p h).any (fun x=>decide (x = (i : Int))) = p i:=by
  rw [Bool.eq_iff_iff, List.any_eq_true]
  constructor
  · rintro ⟨x, hx, he⟩
    rw [decide_eq_true_eq] at he
    subst he
    exact (pickTo_mem.1 hx).2
  · intro hp
    exact ⟨i, pickTo_mem.2 ⟨⟨by omega, by omega⟩, hp⟩, by simp⟩
theorem meltsGet {s : Store} {i : Nat} {y : Head} (hy : s.heads[i]? = some y) : (s.melts 0).getD i zeroT = y.melt s.fade 0:=by
  rw [List.getD_eq_getElem?_getD, meltsTo_get hy];rfl
def lostW (s : Store) (A : Amt) (p : Int→Bool) (i : Nat) : Int:=(sumL (s.melts 0) A (pickTo p i)).weight
theorem lostW_succ {s : Store} {A : Amt} {p : Int→Bool} {i : Nat} {y : Head} (hy : s.heads[i]? = some y) : lostW s A p (i + 1) = lostW s A p i + (if p i = true then y.wax.weight else 0):=by
  unfold lostW
  rw [pickTo_succ]
  by_cases hp : p (i : Int) = true
  · rw [if_pos hp, if_pos hp]
    unfold sumL
    rw [List.foldl_append]
    show (Amt.add _ ((s.melts 0).getD (Int.toNat (i : Int)) zeroT)).weight = _
    rw [weight_base, Int.toNat_natCast, meltsGet hy, melt_weight]
  · rw [if_neg hp, if_neg hp, List.append_nil, Int.add_zero]
theorem wax_le {s : Store} (hg : s.Good) {i : Nat} {y : Head} (hy : s.heads[i]? = some y) : 0 ≤ y.wax.weight∧y.wax.weight ≤ 120:=by
  obtain ⟨⟨h1, h2, h3⟩, _⟩:=hg.heads y (List.mem_of_getElem? hy)
  unfold Amt.weight
  omega
theorem lostW_le {s : Store} {A : Amt} {p : Int→Bool} (hg : s.Good) (hA : 0 ≤ A.weight∧A.weight ≤ 300) : ∀ i : Nat, i ≤ s.heads.length→0 ≤ lostW s A p i∧lostW s A p i ≤ 300 + 120 * (i : Int)
  | 0, _=>by
    have : lostW s A p 0 = A.weight:=rfl
    omega
  | i + 1, hi=>by
    obtain ⟨y, hy, _⟩:=drop_cons (l:=s.heads) (i:=i) (by omega)
    have h1:=lostW_le (p:=p) hg hA i (by omega)
    have h2:=wax_le hg hy
    rw [lostW_succ hy]
    split<;>omega
theorem take_free {s : Store} (h6 : s.heads.length ≤ 6) {m : Nat} (hm : m ∈ s.sorted) (j : Nat) : s.Free ((setL m).take j):=by
  obtain ⟨h1, h2⟩:=sorted_mem hm
  have hf:=sorted_free h6 hm
  refine ⟨fun x hx=>hf.at_ x (List.mem_of_mem_take hx), by have:=hf.len;rw [List.length_take];omega, badL_free ((setL_pick h6 h1).2.sublist (List.take_sublist ..)) ?_ (fun q hq=>by cases hq)⟩
  have:=kept_any h6 h1
  rw [h2] at this
  simp only [Bool.not_true] at this
  intro x hx
  exact Bool.eq_false_iff.2 fun h=>(List.any_eq_false.1 this x (List.mem_of_mem_take hx)) h
theorem melted_at {s : Store} (hr : s.small) (hc : s.check.2.2 = 0) {i : Nat} {y : Head} (hy : s.heads[i]? = some y) : PureA Tryd.prog 14 [storeA s, intA i] (.tuple [amtA (y.melt s.fade 0), intA 0]):=by
  have h:=melted_c s i hr
  unfold Store.meltedA at h
  rw [if_neg (fun h=>h hc), if_neg (by omega), Int.toNat_natCast, hy] at h
  exact h
theorem melt_fit {s : Store} (hg : s.Good) {i : Nat} {y : Head} (hy : s.heads[i]? = some y) : (y.melt s.fade 0).upto 1000000:=by
  have hh:=hg.heads y (List.mem_of_getElem? hy)
  obtain ⟨f1, f2⟩:=faded_le (later:=0) hh hg.fade.1 (by decide)
  obtain ⟨⟨h1, h2, h3⟩, _⟩:=hh
  unfold Head.melt
  refine ⟨?_, ?_, ?_⟩<;>simp only<;>omega
theorem lost_c (s : Store) (h a b c : Int) (hr : s.small) (hv : PureA Tryd.prog 25 [storeA s] (boolA false)) (hc : s.check.2.2 ≠ 0) : PureA Tryd.prog 8 [storeA s, pouredL h a b c] (boolA true):=by
  have hk:=kettleN_c s zeroT hr
  have aw:=Awake_c
  have : s.kettle [] zeroT = (zeroT, s.check.2.2):=by
    unfold Store.kettle Store.entErr
    rw [if_pos hc, if_pos hc]
  rw [this] at hk
  unfold pairA at hk
  generalize s.check.2.2 = c at *
  refine pureA_codeB tabOk { l:=0, f:=8 } mixed call_8 Tryd.func8 (by kernel_rfl) ?_
  conv=>whnf
  repeat (any_goals (first|exact falseI|((first|refine bd ?_ ?_|refine bn ?_ ?_)<;>intro _<;>first|(exfalso;omega)|conv=>whnf)|((first|refine callP_a hv ?_|refine callP_a (ounces_c 0 0 0) ?_|refine callP_a hk ?_|refine callP_a aw ?_|refine dI ?_|refine okI ?_|refine bt ?_|refine bi (fun _=>?_) (fun _=>?_)|refine bndI ?_|intro _)<;>conv=>whnf)))
  (refine ⟨⟨?_⟩, trivial⟩;rfl)
set_option maxHeartbeats 4000000 in
theorem lostT_c (s : Store) (h a b c : Int) (hr : s.small) (h1 : u8 a) (h2 : u8 b) (h3 : u8 c) (hc : s.check.2.2 = 0) : PureA Tryd.prog 8 [storeA s, pouredL h a b c] (boolA true):=by
  have hv:=valid_c s hr
  rw [decide_eq_true hc] at hv
  have aw:=Awake_c
  have hg:=Store.good hc
  have h6:=hg.len
  have ha:=any_c s h a b c hg h1 h2 h3
  obtain ⟨m, hm, hL⟩:=any_set h6 h
  have hin:=anyA_in hg h1.1 h2.1 h3.1
  have hf:=sorted_free h6 hm
  have hin3 : 0 ≤ (s.anyA a b c).weight∧(s.anyA a b c).weight ≤ 300:=by
    obtain ⟨l1, l2, l3⟩:=hg.lots
    unfold Amt.weight
    omega
  rw [← hL] at hf
  have hAf : (s.anyA a b c).fit:=by
    obtain ⟨l1, l2, l3⟩:=hg.lots
    unfold Amt.fit big
    omega
  have hk:=kettle_c s (s.anyL h) (s.anyA a b c) hr (by have:=hf.len;omega)
  rw [(suits_free hc hf hin).1] at hk
  unfold pairA at hk
  have hsum:=sumL_add (s.melts 0) (s.anyL h) (s.anyA a b c)
  have hW:=fun i y (hy : s.heads[i]? = some y)=>lostW_succ (A:=s.anyA a b c) (p:=s.pickB h) hy
  have hWl:=lostW_le (p:=s.pickB h) hg hin3
  have hW0 : lostW s (s.anyA a b c) (s.pickB h) 0 = (s.anyA a b c).weight:=rfl
  have hWe : lostW s (s.anyA a b c) (s.pickB h) s.heads.length = ((s.baseOf (s.anyL h) 0).add (s.anyA a b c)).weight:=by
    unfold lostW
    show (sumL (s.melts 0) (s.anyA a b c) (s.anyL h)).weight = _
    rw [hsum]
    rfl
  have hbu : ((s.baseOf (s.anyL h) 0).add (s.anyA a b c)).upto 1000000:=by
    obtain ⟨l1, l2, l3⟩:=hg.lots
    obtain ⟨b1, b2, b3⟩:=baseOf_upto (later:=0) hg (by decide) hf.len
    unfold Amt.add
    refine ⟨?_, ?_, ?_⟩<;>simp only<;>omega
  have hwA:=refWeight_c _ hAf
  have hwK:=refWeight_c _ (upto_fit hbu)
  have hhas:=fun i=>hasI_c (s.anyL h) i (by have:=hf.len;omega)
  have hhas2 : ∀ i : Nat, i < s.heads.length→PureA Tryd.prog 37 [intsA (s.anyL h), intA i] (boolA (s.pickB h i)):=by
    intro i hi
    have:=hhas i
    unfold Store.anyL at this
    rw [pick_has _ hi] at this
    exact this
  clear hhas
  have hback : s.anyL h = []∨∃ z K0 Y, (s.anyL h)[(s.anyL h).length - 1]? = some z∧0 < (s.anyL h).length∧PureA Tryd.prog 16 [storeA s, .slice 1 (((s.anyL h).map intA).take ((((s.anyL h).map intA).length : Int) - 1).toNat) .no, amtA (s.anyA a b c)] (.tuple [amtA K0, intA 0]) ∧
      PureA Tryd.prog 14 [storeA s, intA z] (.tuple [amtA Y, intA 0])∧PureA Tryd.prog 38 [amtA K0, amtA Y] (amtA ((s.baseOf (s.anyL h) 0).add (s.anyA a b c))):=by
    cases hl : s.anyL h with
    | nil=>exact .inl rfl
    | cons x xs =>
      refine .inr ?_
      rw [← hl]
      have hpos : 0 < (s.anyL h).length:=by rw [hl];simp
      clear hl
      obtain ⟨z, hz, _⟩:=drop_cons (l:=s.anyL h) (i:=(s.anyL h).length - 1) (by omega)
      have hfz:=hf.at_ z (List.mem_of_getElem? hz)
      obtain ⟨y, hy, _⟩:=drop_cons (l:=s.heads) (i:=z.toNat) (by omega)
      have hmz:=melted_at hr hc hy
      have hft:=take_free h6 hm ((s.anyL h).length - 1)
      rw [← hL] at hft
      have hk0:=kettle_c s ((s.anyL h).take ((s.anyL h).length - 1)) (s.anyA a b c) hr (by have:=hft.len;omega)
      rw [(suits_free hc hft hin).1] at hk0
      have hb0 : ((s.baseOf ((s.anyL h).take ((s.anyL h).length - 1)) 0).add (s.anyA a b c)).upto 1000000:=by
        obtain ⟨l1, l2, l3⟩:=hg.lots
        obtain ⟨b1, b2, b3⟩:=baseOf_upto (later:=0) hg (by decide) hft.len
        unfold Amt.add
        refine ⟨?_, ?_, ?_⟩<;>simp only<;>omega
      have hs:=sum_c _ _ (upto_fit hb0) (upto_fit (melt_fit hg hy))
      have e1 : (z.toNat : Int) = z:=by omega
      rw [e1] at hmz
      refine ⟨z, (s.baseOf ((s.anyL h).take ((s.anyL h).length - 1)) 0).add (s.anyA a b c), y.melt s.fade 0, hz, hpos, ?_, hmz, ?_⟩
      · have e : ((s.anyL h).map intA).take ((((s.anyL h).map intA).length : Int) - 1).toNat = ((s.anyL h).take ((s.anyL h).length - 1)).map intA:=by
          rw [List.map_take]
          congr 1
          rw [List.length_map]
          omega
        rw [e]
        exact hk0
      · have hst:=sumL_take (m:=s.melts 0) (k:=zeroT) hz
        rw [show (s.anyL h).length - 1 + 1 = (s.anyL h).length by omega, List.take_length, meltsGet hy] at hst
        have : (s.baseOf (s.anyL h) 0).add (s.anyA a b c) = ((s.baseOf ((s.anyL h).take ((s.anyL h).length - 1)) 0).add (s.anyA a b c)).add (y.melt s.fade 0):=by
          show (sumL (s.melts 0) zeroT (s.anyL h)).add _ = _
          rw [hst]
          unfold Store.baseOf
          unfold Amt.add
          simp only [Amt.mk.injEq]
          omega
        rw [this]
        exact hs
  have hhead : ∀ (i : Nat) (y : Head), s.heads[i]? = some y→∃ M1 M3 W0 : Int, (0 ≤ M3∧M3 ≤ y.wax.c)∧(0 ≤ W0∧W0 ≤ 120)∧y.wax.weight = W0∧PureA Tryd.prog 14 [storeA s, intA i] (.tuple [.agg [intA M1, intA y.wax.t, intA M3], intA 0]) ∧
      PureA Tryd.prog 31 [.agg [intA M1, intA y.wax.t, intA M3]] (intA W0)∧PureA Tryd.prog 31 [amtA y.wax] (intA W0):=by
    intro i y hy
    have hm:=melted_at hr hc hy
    have hw1:=refWeight_c _ (upto_fit (melt_fit hg hy))
    rw [melt_weight] at hw1
    obtain ⟨g1, g2, g3⟩:=melt_fit hg hy
    have hh:=hg.heads y (List.mem_of_getElem? hy)
    obtain ⟨f1, f2⟩:=faded_le (later:=0) hh hg.fade.1 (by decide)
    have hw2:=refWeight_c y.wax (by obtain ⟨⟨h1, h2, h3⟩, _⟩:=hh;unfold Amt.fit big;omega)
    exact ⟨_, _, _, ⟨g3.1, by unfold Head.melt;simp only;omega⟩, wax_le hg hy, rfl, hm, hw1, hw2⟩
  generalize (s.baseOf (s.anyL h) 0).add (s.anyA a b c) = K at *
  generalize s.anyA a b c = A at *
  generalize K.weight = KW at *
  generalize A.weight = AW at *
  generalize s.anyL h = L at *
  generalize lostW s A (s.pickB h) = W at *
  generalize s.pickB h = p at *
  obtain ⟨A1, A2, A3⟩:=A
  obtain ⟨K1, K2, K3⟩:=K
  clear hsum hbu hAf hin hL hm
  refine pureA_codeB tabOk { l:=0, f:=8 } mixed call_8 Tryd.func8 (by kernel_rfl) ?_
  conv=>whnf
  repeat (any_goals (first|exact falseI|((first|refine bd ?_ ?_|refine bn ?_ ?_)<;>intro _<;>first|(exfalso;omega)|conv=>whnf)|((first|refine callP_a hv ?_|refine callP_a ha ?_|refine callP_a hk ?_|refine callP_a hwA ?_|refine dI ?_|refine okI ?_|refine bt ?_|refine bi (fun _=>?_) (fun _=>?_)|refine bndI ?_|intro _)<;>conv=>whnf)))
  refine loopK tabOk { l:=0, f:=8 } mixed (fun i : Nat=>[(12, intA i), (11, intA (W i))]) (fun _=>[]) (fun _=>[]) (fun i=>i ≤ s.heads.length) (fun i=>s.heads.length - i) 0 (by kernel_rfl)
    (Nat.zero_le _) ?_
  conv=>whnf
  refine ⟨⟨slotsLe_cons rfl (slotsLe_cons (by rw [hW0];rfl) trivial), trivial, trivial⟩, ?_⟩
  intro i hi
  have hWi:=hW i
  have hWli:=hWl i hi
  by_cases hlt : i < s.heads.length
  · obtain ⟨y, hy, _⟩:=drop_cons (l:=s.heads) (i:=i) hlt
    have hlm : i < (s.heads.map headA).length:=by simpa using hlt
    have hWi:=hWi y hy
    have hhi:=hhas2 i hlt
    obtain ⟨M1, M3, W0, g1, g2, g3, q1, q2, q3⟩:=hhead i y hy
    rw [g3] at hWi
    clear hW hWl hhas2 hhead hback g3
    obtain ⟨yn, ⟨y1, y2, y3⟩, yd, yk⟩:=y
    generalize p i = pb at *
    cases pb with
    | true =>
      simp only [if_true] at hWi
      conv=>whnf
      repeat (any_goals (first|exact falseI|((first|refine bd ?_ ?_|refine bn ?_ ?_)<;>intro _<;>first|(exfalso;omega)|conv=>whnf)|((first|refine optP_map hy rfl ?_|refine callP_a q1 ?_|refine callP_a q2 ?_|refine callP_a q3 ?_|refine callP_a hhi ?_|refine dI ?_|refine okI ?_|refine bt ?_|refine bi (fun _=>?_) (fun _=>?_)|refine bndI ?_|intro _)<;>conv=>whnf)))
      (refine ⟨i + 1, (by omega), (by omega), ?_⟩;(conv=>whnf);refine ⟨?_, ?_, ?_⟩<;>repeat (first|exact trivial|refine sc rfl ?_|refine kn ?_|refine kc rfl ?_|refine sc (by first|rfl|(rw [hWi];rfl)) ?_|refine kc (by first|rfl|(rw [hWi];rfl)) ?_))
    | false =>
      simp only [Bool.false_eq_true, if_false, Int.add_zero] at hWi
      conv=>whnf
      repeat (any_goals (first|exact falseI|((first|refine bd ?_ ?_|refine bn ?_ ?_)<;>intro _<;>first|(exfalso;omega)|conv=>whnf)|((first|refine optP_map hy rfl ?_|refine callP_a q1 ?_|refine callP_a q2 ?_|refine callP_a q3 ?_|refine callP_a hhi ?_|refine dI ?_|refine okI ?_|refine bt ?_|refine bi (fun _=>?_) (fun _=>?_)|refine bndI ?_|intro _)<;>conv=>whnf)))
      (refine ⟨i + 1, (by omega), (by omega), ?_⟩;(conv=>whnf);refine ⟨?_, ?_, ?_⟩<;>repeat (first|exact trivial|refine sc rfl ?_|refine kn ?_|refine kc rfl ?_|refine sc (by first|rfl|(rw [hWi];rfl)) ?_|refine kc (by first|rfl|(rw [hWi];rfl)) ?_))
  · have : i = s.heads.length:=by omega
    subst this
    have hnl : ¬ ((s.heads.length : Nat) : Int) < ((s.heads.map headA).length : Nat):=by simp
    clear hW hWl hWi hhas2 hhead
    generalize W s.heads.length = Wn at *
    subst hWe
    rcases hback with rfl|⟨z, K0, Y, hz, hpos, b1, b2, b3⟩
    · conv=>whnf
      repeat (any_goals (first|exact falseI|((first|refine bd ?_ ?_|refine bn ?_ ?_)<;>intro _<;>first|(exfalso;omega)|conv=>whnf)|((first|refine callP_a hwK ?_|refine callP_a aw ?_|refine dI ?_|refine okI ?_|refine bt ?_|refine bi (fun _=>?_) (fun _=>?_)|refine bndI ?_|intro _)<;>conv=>whnf)))
      (refine ⟨⟨?_⟩, trivial⟩;rfl)
    · obtain ⟨k1, k2, k3⟩:=K0
      obtain ⟨y1, y2, y3⟩:=Y
      have hLl : (L.map intA).length = L.length:=List.length_map ..
      have hf6:=hf.len
      conv=>whnf
      repeat (any_goals (first|exact falseI|((first|refine bd ?_ ?_|refine bn ?_ ?_)<;>intro _<;>first|(exfalso;omega)|conv=>whnf)|((first|refine brP_true (eqL3 _ _ _) ?_|refine callP_a hwK ?_|refine callP_a b1 ?_|refine optP_map hz (by omega) ?_|refine callP_a b2 ?_|refine callP_a b3 ?_|refine callP_a aw ?_|refine dI ?_|refine okI ?_|refine bt ?_|refine bi (fun _=>?_) (fun _=>?_)|refine bndI ?_|intro _)<;>conv=>whnf)))
      (refine ⟨⟨?_⟩, trivial⟩;rfl)
theorem WaxLost_c (s : Store) (h a b c : Int) (hr : s.small) (h1 : u8 a) (h2 : u8 b) (h3 : u8 c) : PureA Tryd.prog 8 [storeA s, pouredL h a b c] (boolA true):=by
  by_cases hc : s.check.2.2 = 0
  · exact lostT_c s h a b c hr h1 h2 h3 hc
  · have hv:=valid_c s hr
    rw [decide_eq_false hc] at hv
    exact lost_c s h a b c hr hv hc
end Go.Proofs.YtbpiibdcncfphaaDoor
namespace Go.Proofs.YtbpiibdcncfphaaDoor
open Go.Am Go.Proofs Go
theorem more_c (s : Store) (k : Nat) (x n : Int) (hx : x = k) (hk : k < 3) (h4 : s.lots.upto 40) (hn : 0 ≤ n∧n ≤ 60) : PureA Tryd.prog 41 [storeA s, intA x, intA n] (storeA (s.more k n)):=by
  obtain ⟨a1, a2, a3⟩:=h4
  subst hx
  rcases lt3 hk with rfl|rfl|rfl
  · refine pureA_codeB tabOk { l:=0, f:=41 } mixed call_41 Tryd.func41 (by kernel_rfl) ?_
    conv=>whnf
    repeat (any_goals (first|exact falseI|((first|refine bd ?_ ?_|refine bn ?_ ?_)<;>intro _<;>first|(exfalso;omega)|conv=>whnf)|((first|refine dI ?_|refine okI ?_|refine bt ?_|refine bi (fun _=>?_) (fun _=>?_)|refine bndI ?_|intro _)<;>conv=>whnf)))
    (refine ⟨⟨?_⟩, trivial⟩;rfl)
  · refine pureA_codeB tabOk { l:=0, f:=41 } mixed call_41 Tryd.func41 (by kernel_rfl) ?_
    conv=>whnf
    repeat (any_goals (first|exact falseI|((first|refine bd ?_ ?_|refine bn ?_ ?_)<;>intro _<;>first|(exfalso;omega)|conv=>whnf)|((first|refine dI ?_|refine okI ?_|refine bt ?_|refine bi (fun _=>?_) (fun _=>?_)|refine bndI ?_|intro _)<;>conv=>whnf)))
    (refine ⟨⟨?_⟩, trivial⟩;rfl)
  · refine pureA_codeB tabOk { l:=0, f:=41 } mixed call_41 Tryd.func41 (by kernel_rfl) ?_
    conv=>whnf
    repeat (any_goals (first|exact falseI|((first|refine bd ?_ ?_|refine bn ?_ ?_)<;>intro _<;>first|(exfalso;omega)|conv=>whnf)|((first|refine dI ?_|refine okI ?_|refine bt ?_|refine bi (fun _=>?_) (fun _=>?_)|refine bndI ?_|intro _)<;>conv=>whnf)))
    (refine ⟨⟨?_⟩, trivial⟩;rfl)
theorem more_zero (s : Store) (k : Nat) : s.more k 0 = s:=by
  unfold Store.more Amt.more
  split<;>simp
theorem lackIn_spec {s : Store} {n : Nat} : ∀ (f k : Nat), match s.lackIn n f k with
    | some k'=>k' < k + f∧((s.more k' ((n : Int) + 1)).pour zeroT).ok = true
    | none=>∀ j, k ≤ j→j < k + f→((s.more j ((n : Int) + 1)).pour zeroT).ok = false
  | 0, k=>fun j h1 h2=>absurd h2 (by omega)
  | f + 1, k=>by
    unfold Store.lackIn
    by_cases h : ((s.more k ((n : Int) + 1)).pour zeroT).ok = true
    · rw [if_pos h]
      exact ⟨by omega, h⟩
    · rw [if_neg h]
      have:=lackIn_spec (s:=s) (n:=n) f (k + 1)
      cases hq : s.lackIn n f (k + 1) with
      | some k' =>
        rw [hq] at this
        exact ⟨by have:=this.1;omega, this.2⟩
      | none =>
        rw [hq] at this
        intro j h1 h2
        by_cases e : j = k
        · subst e;exact Bool.eq_false_iff.2 h
        · exact this j (by omega) (by omega)
theorem lackOut_spec {s : Store} : ∀ (f n : Nat), (∀ (j k : Nat), 1 ≤ j→j ≤ n→k < 3→((s.more k j).pour zeroT).ok = false) →
    (s.lackOut f n = (0, 0, 9)∧∀ (j k : Nat), 1 ≤ j→j ≤ n + f→k < 3→((s.more k j).pour zeroT).ok = false) ∨
    ∃ k m : Nat, k < 3∧1 ≤ m∧m ≤ n + f∧s.lackOut f n = ((k : Int), (m : Int), 0)∧((s.more k m).pour zeroT).ok = true∧∀ (j k : Nat), 1 ≤ j→j < m→k < 3→((s.more k j).pour zeroT).ok = false
  | 0, n, h=>.inl ⟨rfl, h⟩
  | f + 1, n, h=>by
    have hs:=lackIn_spec (s:=s) (n:=n) 3 0
    unfold Store.lackOut
    cases hq : s.lackIn n 3 0 with
    | some k =>
      rw [hq] at hs
      refine .inr ⟨k, n + 1, by have:=hs.1;omega, by omega, by omega, by simp, by simpa using hs.2, fun j k h1 h2 h3=>h j k h1 (by omega) h3⟩
    | none =>
      rw [hq] at hs
      have hs : ∀ j, 0 ≤ j→j < 0 + 3→((s.more j ((n : Int) + 1)).pour zeroT).ok = false:=hs
      rcases lackOut_spec (s:=s) f (n + 1) (fun j k h1 h2 h3=>by
        by_cases e : j = n + 1
        · subst e;have:=hs k (by omega) (by omega);simpa using this
        · exact h j k h1 (by omega) h3) with ⟨a, b⟩|⟨k, m, a, b, c, d⟩
      · exact .inl ⟨a, fun j k h1 h2 h3=>b j k h1 (by omega) h3⟩
      · exact .inr ⟨k, m, a, b, by omega, d⟩
theorem setL_zero : setL 0 = []:=by decide
theorem fewer_nil (a : List Int) : fewer a [] = false:=by
  cases a with
  | nil=>rfl
  | cons x a =>
    unfold fewer
    rw [if_neg (by simp;omega)]
    simp
    omega
theorem zero_sorted {s : Store} (h6 : s.heads.length ≤ 6) : 0 ∈ s.sorted:=(sorted_spec s h6).2 0 (Nat.two_pow_pos _) (by simp)
theorem spared_iff {s : Store} (hg : s.Good) : (match s.sorted.find? (s.okAt 0) with|none=>False|some n=>setL n = [])↔(s.pour zeroT).ok = true:=by
  have e : s.okAt 0 0 = (s.pour zeroT).ok:=by unfold Store.okAt;rw [setL_zero];rfl
  constructor
  · intro h
    cases hF : s.sorted.find? (s.okAt 0) with
    | none=>rw [hF] at h;exact h.elim
    | some n =>
      rw [hF] at h
      have:=(find_mem hF).2
      unfold Store.okAt at this
      rw [show setL n = [] from h] at this
      exact this
  · intro h
    rw [← e] at h
    cases hF : s.sorted.find? (s.okAt 0) with
    | none=>exact List.find?_eq_none.1 hF 0 (zero_sorted hg.len) h
    | some n =>
      show setL n = []
      rcases find_first hg.len hF (zero_sorted hg.len) h with h|h
      · rw [← h];exact setL_zero
      · rw [setL_zero, fewer_nil] at h;simp at h
theorem pour_not {s : Store} (hr : s.small) (hc : s.check.2.2 = 0) (h : (s.pour zeroT).ok = false) :
    ∃ (l : List Int) (a : Amt) (e : Int), PureA Tryd.prog 24 [storeA s] (.tuple [intsA l, amtA a, intA e])∧(e = 9∨(e = 0∧0 < (l.map intA).length)):=by
  have hg:=Store.good hc
  have hp:=pourTop_c s hr
  have hs:=spared_iff hg
  unfold Store.pourR pourA at hp
  rw [if_neg (fun h=>h hc)] at hp
  cases hF : s.sorted.find? (s.okAt 0) with
  | none=>rw [hF] at hp;exact ⟨_, _, _, hp, .inl rfl⟩
  | some n =>
    rw [hF] at hp hs
    simp only at hp hs
    refine ⟨_, _, _, hp, .inr ⟨rfl, ?_⟩⟩
    rw [List.length_map]
    cases hl : setL n with
    | nil=>have:=hs.1 hl;rw [h] at this;simp at this
    | cons x l=>simp
theorem pour_yes {s : Store} (hr : s.small) (hc : s.check.2.2 = 0) (h : (s.pour zeroT).ok = true) :
    ∃ (a : Amt), PureA Tryd.prog 24 [storeA s] (.tuple [intsA [], amtA a, intA 0]):=by
  have hg:=Store.good hc
  have hp:=pourTop_c s hr
  have hs:=(spared_iff hg).2 h
  unfold Store.pourR pourA at hp
  rw [if_neg (fun h=>h hc)] at hp
  cases hF : s.sorted.find? (s.okAt 0) with
  | none=>rw [hF] at hs;exact hs.elim
  | some n =>
    rw [hF] at hp hs
    simp only at hp hs
    rw [hs] at hp
    exact ⟨_, hp⟩
theorem leastN_c (s : Store) (hg : s.Good) : ∃ a : Amt, PureA Tryd.prog 40 [storeA s, nilS] (.tuple [amtA a, boolA (s.pour zeroT).ok]):=by
  have h:=(least_c s [] hg (by simp) (by simp)).args (args:=[storeA s, nilS]) (.cons (Wk.refl _) (.cons (Wk.nil 1) trivial))
  rw [least_pour hg (by simp)] at h
  exact ⟨_, h⟩
theorem more_small {s : Store} {k : Nat} {n : Int} (hr : s.small) : (s.more k n).small:=hr
theorem lackingE_c (s : Store) (w : Int) (hr : s.small) (hc : s.check.2.2 ≠ 0) : PureA Tryd.prog 9 [storeA s, u8A w] (boolA true):=by
  have hl:=lackTop_c s hr
  have hv:=valid_c s hr
  have aw:=Awake_c
  unfold Store.lackR triA at hl
  rw [if_pos hc] at hl
  rw [decide_eq_false hc] at hv
  generalize s.check.2.2 = c at *
  refine pureA_codeB tabOk { l:=0, f:=9 } mixed call_9 Tryd.func9 (by kernel_rfl) ?_
  conv=>whnf
  repeat (any_goals (first|exact falseI|((first|refine bd ?_ ?_|refine bn ?_ ?_)<;>intro _<;>first|(exfalso;omega)|conv=>whnf)|((first|refine callP_a hl ?_|refine callP_a hv ?_|refine callP_a aw ?_|refine dI ?_|refine okI ?_|refine bt ?_|refine bi (fun _=>?_) (fun _=>?_)|refine bndI ?_|intro _)<;>conv=>whnf)))
  (refine ⟨⟨?_⟩, trivial⟩;rfl)
theorem lackingY_c (s : Store) (w : Int) (hr : s.small) (hc : s.check.2.2 = 0) (ho : (s.pour zeroT).ok = true) : PureA Tryd.prog 9 [storeA s, u8A w] (boolA true):=by
  have hl:=lackTop_c s hr
  have hv:=valid_c s hr
  have aw:=Awake_c
  unfold Store.lackR triA at hl
  rw [if_neg (fun h=>h hc), if_pos ho] at hl
  rw [decide_eq_true hc] at hv
  obtain ⟨⟨a1, a2, a3⟩, hp⟩:=pour_yes hr hc ho
  refine pureA_codeB tabOk { l:=0, f:=9 } mixed call_9 Tryd.func9 (by kernel_rfl) ?_
  conv=>whnf
  repeat (any_goals (first|exact falseI|((first|refine bd ?_ ?_|refine bn ?_ ?_)<;>intro _<;>first|(exfalso;omega)|conv=>whnf)|((first|refine callP_a hl ?_|refine callP_a hv ?_|refine callP_a hp ?_|refine callP_a aw ?_|refine dI ?_|refine okI ?_|refine bt ?_|refine bi (fun _=>?_) (fun _=>?_)|refine bndI ?_|intro _)<;>conv=>whnf)))
  (refine ⟨⟨?_⟩, trivial⟩;rfl)
set_option maxHeartbeats 4000000 in
set_option maxRecDepth 100000 in
theorem lackingN_c (s : Store) (w K N E less : Int) (k2 : Nat) (hr : s.small) (hc : s.check.2.2 = 0) (ho : (s.pour zeroT).ok = false) (hl : PureA Tryd.prog 39 [storeA s] (.tuple [intA K, intA N, intA E]))
    (hw : 0 ≤ w∧w ≤ 255) (hk2 : w.tmod 3 = k2) (hk3 : k2 < 3)
    (hE : (E = 9∧K = 0∧N = 0∧less = 40)∨(E = 0∧(0 ≤ K∧K < 3)∧(1 ≤ N∧N ≤ 40)∧less = N - 1∧((s.more K.toNat N).pour zeroT).ok = true))
    (hno : ((s.more k2 less).pour zeroT).ok = false) : PureA Tryd.prog 9 [storeA s, u8A w] (boolA true):=by
  have hv:=valid_c s hr
  have aw:=Awake_c
  rw [decide_eq_true hc] at hv
  have hg:=Store.good hc
  have h4:=check_lots hc
  obtain ⟨l, ⟨a1, a2, a3⟩, f, hp, hpf⟩:=pour_not hr hc ho
  have hl60 : 0 ≤ less∧less ≤ 60:=by omega
  have hm:=more_c s k2 (w.tmod 3) less hk2 hk3 h4 hl60
  have hv2:=valid_c (s.more k2 less) (more_small hr)
  obtain ⟨⟨b1, b2, b3⟩, hle⟩:=leastN_c (s.more k2 less) (more_good hg h4 hl60)
  rw [hno] at hle
  have hp2 : (s.more k2 less).check.2.2 = 0→_:=fun hc=>pour_not (more_small hr) hc hno
  rcases hE with ⟨rfl, rfl, rfl, rfl⟩|⟨rfl, hK, hN, rfl, hy⟩
  · by_cases hc2 : (s.more k2 40).check.2.2 = 0
    · rw [decide_eq_true hc2] at hv2
      obtain ⟨l2, ⟨c1, c2, c3⟩, f2, hp2, hpf2⟩:=hp2 hc2
      generalize s.more k2 40 = S2 at *
      clear ho hno hc2 hc hle hk2
      rcases hpf with rfl|⟨rfl, hpf⟩<;>rcases hpf2 with rfl|⟨rfl, hpf2⟩
      · refine pureA_codeB tabOk { l:=0, f:=9 } mixed call_9 Tryd.func9 (by kernel_rfl) ?_
        conv=>whnf
        repeat (any_goals (first|exact falseI|((first|refine bd ?_ ?_|refine bn ?_ ?_)<;>intro _<;>first|(exfalso;omega)|conv=>whnf)|((first|refine callP_a hl ?_|refine callP_a hv ?_|refine callP_a hp ?_|refine callP_a hm ?_|refine callP_a hv2 ?_|refine callP_a hle ?_|refine callP_a hp2 ?_|refine callP_a hmK ?_|refine callP_a hlK ?_|refine callP_a aw ?_|refine dI ?_|refine okI ?_|refine bt ?_|refine bi (fun _=>?_) (fun _=>?_)|refine bndI ?_|intro _)<;>conv=>whnf)))
        (refine ⟨⟨?_⟩, trivial⟩;rfl)
      · refine pureA_codeB tabOk { l:=0, f:=9 } mixed call_9 Tryd.func9 (by kernel_rfl) ?_
        conv=>whnf
        repeat (any_goals (first|exact falseI|((first|refine bd ?_ ?_|refine bn ?_ ?_)<;>intro _<;>first|(exfalso;omega)|conv=>whnf)|((first|refine callP_a hl ?_|refine callP_a hv ?_|refine callP_a hp ?_|refine callP_a hm ?_|refine callP_a hv2 ?_|refine callP_a hle ?_|refine callP_a hp2 ?_|refine callP_a hmK ?_|refine callP_a hlK ?_|refine callP_a aw ?_|refine dI ?_|refine okI ?_|refine bt ?_|refine bi (fun _=>?_) (fun _=>?_)|refine bndI ?_|intro _)<;>conv=>whnf)))
        (refine ⟨⟨?_⟩, trivial⟩;rfl)
      · refine pureA_codeB tabOk { l:=0, f:=9 } mixed call_9 Tryd.func9 (by kernel_rfl) ?_
        conv=>whnf
        repeat (any_goals (first|exact falseI|((first|refine bd ?_ ?_|refine bn ?_ ?_)<;>intro _<;>first|(exfalso;omega)|conv=>whnf)|((first|refine callP_a hl ?_|refine callP_a hv ?_|refine callP_a hp ?_|refine callP_a hm ?_|refine callP_a hv2 ?_|refine callP_a hle ?_|refine callP_a hp2 ?_|refine callP_a hmK ?_|refine callP_a hlK ?_|refine callP_a aw ?_|refine dI ?_|refine okI ?_|refine bt ?_|refine bi (fun _=>?_) (fun _=>?_)|refine bndI ?_|intro _)<;>conv=>whnf)))
        (refine ⟨⟨?_⟩, trivial⟩;rfl)
      · refine pureA_codeB tabOk { l:=0, f:=9 } mixed call_9 Tryd.func9 (by kernel_rfl) ?_
        conv=>whnf
        repeat (any_goals (first|exact falseI|((first|refine bd ?_ ?_|refine bn ?_ ?_)<;>intro _<;>first|(exfalso;omega)|conv=>whnf)|((first|refine callP_a hl ?_|refine callP_a hv ?_|refine callP_a hp ?_|refine callP_a hm ?_|refine callP_a hv2 ?_|refine callP_a hle ?_|refine callP_a hp2 ?_|refine callP_a hmK ?_|refine callP_a hlK ?_|refine callP_a aw ?_|refine dI ?_|refine okI ?_|refine bt ?_|refine bi (fun _=>?_) (fun _=>?_)|refine bndI ?_|intro _)<;>conv=>whnf)))
        (refine ⟨⟨?_⟩, trivial⟩;rfl)
    · rw [decide_eq_false hc2] at hv2
      generalize s.more k2 40 = S2 at *
      clear ho hno hc2 hc hp2 hk2
      rcases hpf with rfl|⟨rfl, hpf⟩
      · refine pureA_codeB tabOk { l:=0, f:=9 } mixed call_9 Tryd.func9 (by kernel_rfl) ?_
        conv=>whnf
        repeat (any_goals (first|exact falseI|((first|refine bd ?_ ?_|refine bn ?_ ?_)<;>intro _<;>first|(exfalso;omega)|conv=>whnf)|((first|refine callP_a hl ?_|refine callP_a hv ?_|refine callP_a hp ?_|refine callP_a hm ?_|refine callP_a hv2 ?_|refine callP_a hle ?_|refine callP_a hp2 ?_|refine callP_a hmK ?_|refine callP_a hlK ?_|refine callP_a aw ?_|refine dI ?_|refine okI ?_|refine bt ?_|refine bi (fun _=>?_) (fun _=>?_)|refine bndI ?_|intro _)<;>conv=>whnf)))
        (refine ⟨⟨?_⟩, trivial⟩;rfl)
      · refine pureA_codeB tabOk { l:=0, f:=9 } mixed call_9 Tryd.func9 (by kernel_rfl) ?_
        conv=>whnf
        repeat (any_goals (first|exact falseI|((first|refine bd ?_ ?_|refine bn ?_ ?_)<;>intro _<;>first|(exfalso;omega)|conv=>whnf)|((first|refine callP_a hl ?_|refine callP_a hv ?_|refine callP_a hp ?_|refine callP_a hm ?_|refine callP_a hv2 ?_|refine callP_a hle ?_|refine callP_a hp2 ?_|refine callP_a hmK ?_|refine callP_a hlK ?_|refine callP_a aw ?_|refine dI ?_|refine okI ?_|refine bt ?_|refine bi (fun _=>?_) (fun _=>?_)|refine bndI ?_|intro _)<;>conv=>whnf)))
        (refine ⟨⟨?_⟩, trivial⟩;rfl)
  · have hmK:=more_c s K.toNat K N (by omega) (by omega) h4 (by omega)
    obtain ⟨⟨d1, d2, d3⟩, hlK⟩:=leastN_c (s.more K.toNat N) (more_good hg h4 (by omega))
    rw [hy] at hlK
    generalize s.more K.toNat N = S1 at *
    by_cases hc2 : (s.more k2 (N - 1)).check.2.2 = 0
    · rw [decide_eq_true hc2] at hv2
      obtain ⟨l2, ⟨c1, c2, c3⟩, f2, hp2, hpf2⟩:=hp2 hc2
      generalize s.more k2 (N - 1) = S2 at *
      clear ho hno hc2 hc hle hk2
      rcases hpf with rfl|⟨rfl, hpf⟩<;>rcases hpf2 with rfl|⟨rfl, hpf2⟩
      · refine pureA_codeB tabOk { l:=0, f:=9 } mixed call_9 Tryd.func9 (by kernel_rfl) ?_
        conv=>whnf
        repeat (any_goals (first|exact falseI|((first|refine bd ?_ ?_|refine bn ?_ ?_)<;>intro _<;>first|(exfalso;omega)|conv=>whnf)|((first|refine callP_a hl ?_|refine callP_a hv ?_|refine callP_a hp ?_|refine callP_a hm ?_|refine callP_a hv2 ?_|refine callP_a hle ?_|refine callP_a hp2 ?_|refine callP_a hmK ?_|refine callP_a hlK ?_|refine callP_a aw ?_|refine dI ?_|refine okI ?_|refine bt ?_|refine bi (fun _=>?_) (fun _=>?_)|refine bndI ?_|intro _)<;>conv=>whnf)))
        (refine ⟨⟨?_⟩, trivial⟩;rfl)
      · refine pureA_codeB tabOk { l:=0, f:=9 } mixed call_9 Tryd.func9 (by kernel_rfl) ?_
        conv=>whnf
        repeat (any_goals (first|exact falseI|((first|refine bd ?_ ?_|refine bn ?_ ?_)<;>intro _<;>first|(exfalso;omega)|conv=>whnf)|((first|refine callP_a hl ?_|refine callP_a hv ?_|refine callP_a hp ?_|refine callP_a hm ?_|refine callP_a hv2 ?_|refine callP_a hle ?_|refine callP_a hp2 ?_|refine callP_a hmK ?_|refine callP_a hlK ?_|refine callP_a aw ?_|refine dI ?_|refine okI ?_|refine bt ?_|refine bi (fun _=>?_) (fun _=>?_)|refine bndI ?_|intro _)<;>conv=>whnf)))
        (refine ⟨⟨?_⟩, trivial⟩;rfl)
      · refine pureA_codeB tabOk { l:=0, f:=9 } mixed call_9 Tryd.func9 (by kernel_rfl) ?_
        conv=>whnf
        repeat (any_goals (first|exact falseI|((first|refine bd ?_ ?_|refine bn ?_ ?_)<;>intro _<;>first|(exfalso;omega)|conv=>whnf)|((first|refine callP_a hl ?_|refine callP_a hv ?_|refine callP_a hp ?_|refine callP_a hm ?_|refine callP_a hv2 ?_|refine callP_a hle ?_|refine callP_a hp2 ?_|refine callP_a hmK ?_|refine callP_a hlK ?_|refine callP_a aw ?_|refine dI ?_|refine okI ?_|refine bt ?_|refine bi (fun _=>?_) (fun _=>?_)|refine bndI ?_|intro _)<;>conv=>whnf)))
        (refine ⟨⟨?_⟩, trivial⟩;rfl)
      · refine pureA_codeB tabOk { l:=0, f:=9 } mixed call_9 Tryd.func9 (by kernel_rfl) ?_
        conv=>whnf
        repeat (any_goals (first|exact falseI|((first|refine bd ?_ ?_|refine bn ?_ ?_)<;>intro _<;>first|(exfalso;omega)|conv=>whnf)|((first|refine callP_a hl ?_|refine callP_a hv ?_|refine callP_a hp ?_|refine callP_a hm ?_|refine callP_a hv2 ?_|refine callP_a hle ?_|refine callP_a hp2 ?_|refine callP_a hmK ?_|refine callP_a hlK ?_|refine callP_a aw ?_|refine dI ?_|refine okI ?_|refine bt ?_|refine bi (fun _=>?_) (fun _=>?_)|refine bndI ?_|intro _)<;>conv=>whnf)))
        (refine ⟨⟨?_⟩, trivial⟩;rfl)
    · rw [decide_eq_false hc2] at hv2
      generalize s.more k2 (N - 1) = S2 at *
      clear ho hno hc2 hc hp2 hk2
      rcases hpf with rfl|⟨rfl, hpf⟩
      · refine pureA_codeB tabOk { l:=0, f:=9 } mixed call_9 Tryd.func9 (by kernel_rfl) ?_
        conv=>whnf
        repeat (any_goals (first|exact falseI|((first|refine bd ?_ ?_|refine bn ?_ ?_)<;>intro _<;>first|(exfalso;omega)|conv=>whnf)|((first|refine callP_a hl ?_|refine callP_a hv ?_|refine callP_a hp ?_|refine callP_a hm ?_|refine callP_a hv2 ?_|refine callP_a hle ?_|refine callP_a hp2 ?_|refine callP_a hmK ?_|refine callP_a hlK ?_|refine callP_a aw ?_|refine dI ?_|refine okI ?_|refine bt ?_|refine bi (fun _=>?_) (fun _=>?_)|refine bndI ?_|intro _)<;>conv=>whnf)))
        (refine ⟨⟨?_⟩, trivial⟩;rfl)
      · refine pureA_codeB tabOk { l:=0, f:=9 } mixed call_9 Tryd.func9 (by kernel_rfl) ?_
        conv=>whnf
        repeat (any_goals (first|exact falseI|((first|refine bd ?_ ?_|refine bn ?_ ?_)<;>intro _<;>first|(exfalso;omega)|conv=>whnf)|((first|refine callP_a hl ?_|refine callP_a hv ?_|refine callP_a hp ?_|refine callP_a hm ?_|refine callP_a hv2 ?_|refine callP_a hle ?_|refine callP_a hp2 ?_|refine callP_a hmK ?_|refine callP_a hlK ?_|refine callP_a aw ?_|refine dI ?_|refine okI ?_|refine bt ?_|refine bi (fun _=>?_) (fun _=>?_)|refine bndI ?_|intro _)<;>conv=>whnf)))
        (refine ⟨⟨?_⟩, trivial⟩;rfl)
theorem WaxLacking_c (s : Store) (w : Int) (hr : s.small) (hw : u8 w) : PureA Tryd.prog 9 [storeA s, u8A w] (boolA true):=by
  by_cases hc : s.check.2.2 = 0
  · cases ho : (s.pour zeroT).ok with
    | true=>exact lackingY_c s w hr hc ho
    | false =>
      have hl:=lackTop_c s hr
      unfold Store.lackR triA at hl
      rw [if_neg (fun h=>h hc), if_neg (by rw [ho];simp)] at hl
      have hk : w.tmod 3 = ((w.tmod 3).toNat : Int)∧(w.tmod 3).toNat < 3:=by
        have:=Int.tmod_nonneg 3 hw.1
        have:=Int.tmod_lt_of_pos w (show (0 : Int) < 3 by decide)
        omega
      rcases lackOut_spec (s:=s) 40 0 (fun j k h1 h2=>absurd h1 (by omega)) with ⟨a, b⟩|⟨k, m, a1, a2, a3, a4, a5, a6⟩
      · rw [a] at hl
        exact lackingN_c s w 0 0 9 40 _ hr hc ho hl hw hk.1 hk.2 (.inl ⟨rfl, rfl, rfl, rfl⟩) (b 40 _ (by omega) (by omega) hk.2)
      · rw [a4] at hl
        refine lackingN_c s w k m 0 (m - 1) _ hr hc ho hl hw hk.1 hk.2 (.inr ⟨rfl, by omega, by omega, rfl, by simpa using a5⟩) ?_
        by_cases e : m = 1
        · subst e
          rw [show ((1 : Nat) : Int) - 1 = 0 by omega, more_zero]
          exact ho
        · have:=a6 (m - 1) _ (by omega) (by omega) hk.2
          rw [show ((m : Int) - 1) = ((m - 1 : Nat) : Int) by omega]
          exact this
  · exact lackingE_c s w hr hc
end Go.Proofs.YtbpiibdcncfphaaDoor
namespace Go.Proofs.YtbpiibdcncfphaaDoor
open Go.Am Go.Proofs Go
def Head.bare (h : Head) : Head:={ h with kept:=false }
def Store.bare (s : Store) : Store:={ s with heads:=s.heads.map Head.bare }
theorem firstFrom_map {α β : Type} (f : α→β) (g : Nat→β→Int) : ∀ (i : Nat) (l : List α), firstFrom g i (l.map f) = firstFrom (fun i x=>g i (f x)) i l
  | _, []=>rfl
  | i, x :: l=>by
    simp only [List.map_cons, firstFrom]
    rw [firstFrom_map f g (i + 1) l]
theorem headErr_bare (l : List Head) (h : Head) : headErr (l.map Head.bare) h.bare = headErr l h:=by
  unfold headErr
  rw [List.any_map]
  rfl
theorem bare_check (s : Store) : s.bare.check = s.check:=by
  have h : s.bare.headsErr = s.headsErr:=by
    unfold Store.headsErr Store.bare
    rw [firstFrom_map]
    congr 1
    funext i x
    rw [← List.map_take, headErr_bare]
  have h2 : s.bare.ordersErr = s.ordersErr:=rfl
  have h3 : s.bare.heads.length = s.heads.length:=List.length_map ..
  unfold Store.check
  rw [h, h2, h3]
  rfl
theorem bare_melts (s : Store) (later : Int) : s.bare.melts later = s.melts later:=by
  unfold Store.melts meltsTo
  have h3 : s.bare.heads.length = s.heads.length:=List.length_map ..
  rw [h3]
  unfold Store.bare
  simp only
  rw [← List.map_take, List.map_map]
  rfl
theorem bees_congr {s s' : Store} (h1 : s'.lots = s.lots) (h2 : s'.orders = s.orders) (k : Amt) : s'.bees k = s.bees k:=by unfold Store.bees Store.work;rw [h1, h2]
theorem pourStep_congr {s s' : Store} (h1 : s'.lots = s.lots) (h2 : s'.orders = s.orders) (base : Amt) (t c : Nat) (best : Poured) : s'.pourStep base t c best = s.pourStep base t c best:=by unfold Store.pourStep;rw [bees_congr h1 h2]
theorem pourIn_congr {s s' : Store} (h1 : s'.lots = s.lots) (h2 : s'.orders = s.orders) (base : Amt) (t : Nat) : ∀ (n c : Nat) (best : Poured), s'.pourIn base t n c best = s.pourIn base t n c best
  | 0, _, _=>rfl
  | n + 1, c, best=>by unfold Store.pourIn;rw [pourStep_congr h1 h2, pourIn_congr h1 h2 base t n]
theorem pourOut_congr {s s' : Store} (h1 : s'.lots = s.lots) (h2 : s'.orders = s.orders) (base : Amt) : ∀ (n t : Nat) (best : Poured), s'.pourOut base n t best = s.pourOut base n t best
  | 0, _, _=>rfl
  | n + 1, t, best=>by unfold Store.pourOut;rw [h1, pourIn_congr h1 h2, pourOut_congr h1 h2 base n]
theorem pour_congr {s s' : Store} (h1 : s'.lots = s.lots) (h2 : s'.orders = s.orders) (base : Amt) : s'.pour base = s.pour base:=by unfold Store.pour;rw [h1, pourOut_congr h1 h2]
theorem okAt_congr {s s' : Store} (h1 : s'.lots = s.lots) (h2 : s'.orders = s.orders) (later : Int) (h3 : s'.melts later = s.melts later) (n : Nat) : s'.okAt later n = s.okAt later n:=by
  unfold Store.okAt Store.baseOf
  rw [h3, pour_congr h1 h2]
theorem sorted_iff {s : Store} (h6 : s.heads.length ≤ 6) (n : Nat) : n ∈ s.sorted↔n < 2 ^ s.heads.length∧(setL n).any s.keptAt = false:=by
  constructor
  · intro h
    obtain ⟨h1, h2⟩:=sorted_mem h
    have:=kept_any h6 h1
    rw [h2] at this
    exact ⟨h1, by simpa using this⟩
  · rintro ⟨h1, h2⟩
    refine (sorted_spec s h6).2 n h1 ?_
    have:=kept_any h6 h1
    rw [h2] at this
    simpa using this
def Store.keep (s : Store) (n : Nat) (y : Head) : Store:={ s with heads:=s.heads.set n { y with kept:=true } }
theorem keep_bare {s : Store} {n : Nat} {y : Head} (hy : s.heads[n]? = some y) : (s.keep n y).bare = s.bare:=by
  unfold Store.keep Store.bare
  simp only [Store.mk.injEq, true_and, and_true]
  apply List.ext_getElem?
  intro i
  rw [List.getElem?_map, List.getElem?_map, List.getElem?_set]
  split
  · rename_i e
    subst e
    rw [hy]
    have:=(List.getElem?_eq_some_iff.1 hy).1
    rw [if_pos this]
    rfl
  · rfl
theorem keep_check {s : Store} {n : Nat} {y : Head} (hy : s.heads[n]? = some y) : (s.keep n y).check = s.check:=by rw [← bare_check, keep_bare hy, bare_check]
theorem keep_melts {s : Store} {n : Nat} {y : Head} (hy : s.heads[n]? = some y) (later : Int) : (s.keep n y).melts later = s.melts later:=by rw [← bare_melts, keep_bare hy, bare_melts]
theorem keep_kept {s : Store} {n : Nat} {y : Head} (hy : s.heads[n]? = some y) (x : Int) : (s.keep n y).keptAt x = (decide (x.toNat = n) || s.keptAt x):=by
  have:=(List.getElem?_eq_some_iff.1 hy).1
  unfold Store.keptAt Store.keep
  simp only
  rw [List.getElem?_set]
  by_cases e : n = x.toNat
  · rw [if_pos e, ← e, if_pos this]
    simp
  · rw [if_neg e, decide_eq_false (fun h=>e h.symm)]
    rfl
theorem keep_small {s : Store} {n : Nat} {y : Head} (hy : s.heads[n]? = some y) (hr : s.small) : (s.keep n y).small:=by
  obtain ⟨h1, h2, h3, h4⟩:=hr
  refine ⟨by show (s.heads.set n _).length ≤ _;rw [List.length_set];exact h1, h2, ?_, h4⟩
  intro h hh
  rcases List.mem_or_eq_of_mem_set hh with hh|rfl
  · exact h3 h hh
  · exact h3 y (List.mem_of_getElem? hy)
theorem keep_sorted {s : Store} {n : Nat} {y : Head} (h6 : s.heads.length ≤ 6) (hy : s.heads[n]? = some y) (m : Nat) : m ∈ (s.keep n y).sorted↔m ∈ s.sorted∧(setL m).any (fun x=>decide (x = (n : Int))) = false:=by
  have hl : (s.keep n y).heads.length = s.heads.length:=List.length_set ..
  have hk:=keep_kept hy
  rw [sorted_iff h6, sorted_iff (by omega), hl]
  have hpos : m < 2 ^ s.heads.length→∀ x ∈ setL m, 0 ≤ x:=fun h x hx=>((bits_all h6 h).1 x hx).1
  constructor
  · rintro ⟨a, b⟩
    rw [List.any_eq_false] at b
    simp only [hk, Bool.or_eq_true, decide_eq_true_eq, not_or] at b
    refine ⟨⟨a, ?_⟩, ?_⟩
    · rw [List.any_eq_false];exact fun x hx=>(b x hx).2
    · rw [List.any_eq_false]
      intro x hx
      have:=(b x hx).1
      have:=hpos a x hx
      simp only [decide_eq_true_eq]
      omega
  · rintro ⟨⟨a, b⟩, c⟩
    refine ⟨a, ?_⟩
    rw [List.any_eq_false] at b c ⊢
    intro x hx
    have h1:=b x hx
    have h2:=c x hx
    have:=hpos a x hx
    simp only [decide_eq_true_eq] at h2
    simp only [hk, Bool.or_eq_true, decide_eq_true_eq, not_or]
    exact ⟨by omega, h1⟩
theorem keep_find {s : Store} {n : Nat} {y : Head} (h6 : s.heads.length ≤ 6) (hy : s.heads[n]? = some y) : ((s.keep n y).sorted.find? ((s.keep n y).okAt 0) = none)↔∀ l ∈ s.allOk.map setL, l.any (fun x=>decide (x = (n : Int))) = true:=by
  have hok : ∀ m, (s.keep n y).okAt 0 m = s.okAt 0 m:=fun m=>okAt_congr (s:=s) (s':=s.keep n y) rfl rfl 0 (keep_melts hy 0) m
  rw [List.find?_eq_none]
  unfold Store.allOk
  constructor
  · intro h l hl
    obtain ⟨m, hm, rfl⟩:=List.mem_map.1 hl
    obtain ⟨h1, h2⟩:=List.mem_filter.1 hm
    cases hq : (setL m).any (fun x=>decide (x = (n : Int))) with
    | true=>rfl
    | false =>
      have:=h m ((keep_sorted h6 hy m).2 ⟨h1, hq⟩)
      rw [hok] at this
      exact absurd h2 this
  · intro h m hm
    obtain ⟨h1, h2⟩:=(keep_sorted h6 hy m).1 hm
    rw [hok]
    intro h3
    have:=h _ (List.mem_map_of_mem (List.mem_filter.2 ⟨h1, h3⟩))
    rw [h2] at this
    simp at this
theorem pureEs_heads (l : List Head) (n : Nat) (h : n = l.length) : pureEs ((l.map headA).take n) = some (l.map headA):=by
  rw [List.take_of_length_le (by simp [h])]
  clear h
  induction l with
  | nil=>rfl
  | cons x l ih=>simp only [List.map_cons, pureEs, ih, show pureE (headA x) = some (headA x) from rfl]
theorem set_heads (l : List Head) (a : Int) (n : Nat) (x : AV) (f : Head) (ha : a = n) (hx : x = headA f) : (l.map headA).set a.toNat x = (l.set n f).map headA:=by
  subst ha hx
  simp [List.map_set]
theorem keeping_c (s : Store) (x : Int) (n : Nat) (y : Head) (hx : x = n) (hy : s.heads[n]? = some y) (h6 : s.heads.length ≤ 6) : PureA Tryd.prog 36 [storeA s, intA x] (storeA (s.keep n y)):=by
  have hlt:=(List.getElem?_eq_some_iff.1 hy).1
  have hs:=set_heads s.heads x n (.agg [strA y.name, intA y.wax.b, intA y.wax.t, intA y.wax.c, intA y.days, boolA true]) { y with kept:=true } hx rfl
  have hp:=pureEs_heads (s.heads.set n { y with kept:=true }) (s.heads.map headA).length (by simp)
  refine pureA_codeB tabOk { l:=0, f:=36, ow:=[8] } mixed call_36 Tryd.func36 (by kernel_rfl) ?_
  conv=>whnf
  repeat (any_goals (first|exact falseI|((first|refine bd ?_ ?_|refine bn ?_ ?_)<;>intro _<;>first|(exfalso;omega)|conv=>whnf)|((first|refine optP_map hy hx ?_|refine forceL_to hs ?_|refine optP_intro hp ?_|refine dI ?_|refine okI ?_|refine bt ?_|refine bi (fun _=>?_) (fun _=>?_)|refine bndI ?_|intro _)<;>conv=>whnf)))
  (refine ⟨⟨?_⟩, trivial⟩;rfl)
end Go.Proofs.YtbpiibdcncfphaaDoor
namespace Go.Proofs.YtbpiibdcncfphaaDoor
open Go.Am Go.Proofs Go
theorem neqBr (i j : Nat) {a b r : Bool} (h : (a != b) = r) : ∀ w : World, Sem.run Tryd.prog (binS BinOp.neq 4 (Operand.tmp i) (Operand.tmp j) (.bool a) (.bool b)) w = .ok (.bool r) w:=by
  intro w
  subst h
  cases a<;>cases b<;>kernel_rfl
theorem eqBr (i j : Nat) {a b r : Bool} (h : (a == b) = r) : ∀ w : World, Sem.run Tryd.prog (binS BinOp.eql 4 (Operand.tmp i) (Operand.tmp j) (.bool a) (.bool b)) w = .ok (.bool r) w:=by
  intro w
  subst h
  cases a<;>cases b<;>kernel_rfl
theorem ascending_c (l : List Int) (many : Nat) (hl : l.length ≤ 6) (hm : many ≤ 6) (hp : ∀ (i : Nat) a b, l[i]? = some a→l[i + 1]? = some b→a < b) (hR : ∀ x ∈ l, 0 ≤ x∧x < many) : PureA Tryd.prog 35 [intsA l, intA many] (boolA true):=by
  refine pureA_codeB tabOk { l:=0, f:=35 } mixed call_35 Tryd.func35 (by kernel_rfl) ?_
  conv=>whnf
  refine loopK tabOk { l:=0, f:=35 } mixed (fun i : Nat=>[(5, intA i)]) (fun _=>[]) (fun _=>[]) (fun i=>i ≤ l.length) (fun i=>l.length - i) 0 (by kernel_rfl)
    (Nat.zero_le _) ?_
  conv=>whnf
  refine ⟨⟨slotsLe_cons rfl trivial, trivial, trivial⟩, ?_⟩
  intro i hi
  have hLl : (l.map intA).length = l.length:=List.length_map ..
  by_cases hlt : i < l.length
  · obtain ⟨x, hx, _⟩:=drop_cons (l:=l) (i:=i) hlt
    have hR:=hR x (List.mem_of_getElem? hx)
    by_cases h0 : i = 0
    · subst h0
      conv=>whnf
      repeat (any_goals (first|exact falseI|((first|refine bd ?_ ?_|refine bn ?_ ?_)<;>intro _<;>first|(exfalso;omega)|conv=>whnf)|((first|refine optP_map hx rfl ?_|refine dI ?_|refine okI ?_|refine bt ?_|refine bi (fun _=>?_) (fun _=>?_)|refine bndI ?_|intro _)<;>conv=>whnf)))
      (refine ⟨1, (by omega), (by omega), ?_⟩;(conv=>whnf);refine ⟨?_, ?_, ?_⟩<;>repeat (first|exact trivial|refine sc rfl ?_|refine kn ?_|refine kc rfl ?_|refine sc (by rfl) ?_|refine kc (by rfl) ?_))
    · obtain ⟨z, hz, _⟩:=drop_cons (l:=l) (i:=i - 1) (by omega)
      have hlt2:=hp (i - 1) z x hz (by rw [show i - 1 + 1 = i by omega];exact hx)
      conv=>whnf
      repeat (any_goals (first|exact falseI|((first|refine bd ?_ ?_|refine bn ?_ ?_)<;>intro _<;>first|(exfalso;omega)|conv=>whnf)|((first|refine optP_map hx rfl ?_|refine optP_map hz (by omega) ?_|refine dI ?_|refine okI ?_|refine bt ?_|refine bi (fun _=>?_) (fun _=>?_)|refine bndI ?_|intro _)<;>conv=>whnf)))
      (refine ⟨i + 1, (by omega), (by omega), ?_⟩;(conv=>whnf);refine ⟨?_, ?_, ?_⟩<;>repeat (first|exact trivial|refine sc rfl ?_|refine kn ?_|refine kc rfl ?_|refine sc (by rfl) ?_|refine kc (by rfl) ?_))
  · have : i = l.length:=by omega
    subst this
    conv=>whnf
    repeat (any_goals (first|exact falseI|((first|refine bd ?_ ?_|refine bn ?_ ?_)<;>intro _<;>first|(exfalso;omega)|conv=>whnf)|((first|refine dI ?_|refine okI ?_|refine bt ?_|refine bi (fun _=>?_) (fun _=>?_)|refine bndI ?_|intro _)<;>conv=>whnf)))
    (refine ⟨⟨?_⟩, trivial⟩;rfl)
theorem pickTo_asc (p : Int→Bool) {h : Nat} (hh : h ≤ 6) : ∀ (i : Nat) a b, (pickTo p h)[i]? = some a→(pickTo p h)[i + 1]? = some b→a < b:=by
  have:=(setL_pick hh (setOfP_lt p h)).2
  rw [← pickTo_set p hh] at this
  intro i a b ha hb
  obtain ⟨h1, e1⟩:=List.getElem?_eq_some_iff.1 ha
  obtain ⟨h2, e2⟩:=List.getElem?_eq_some_iff.1 hb
  have:=List.pairwise_iff_getElem.1 this i (i + 1) h1 h2 (by omega)
  rw [e1, e2] at this
  exact this
theorem asc_pick (p : Int→Bool) {h : Nat} (hh : h ≤ 6) : PureA Tryd.prog 35 [intsA (pickTo p h), intA h] (boolA true) :=
  ascending_c _ h (by have:=pickTo_len p h;omega) hh (pickTo_asc p hh) fun _ hx=>(pickTo_mem.1 hx).1
theorem all_pair {s : Store} (h6 : s.heads.length ≤ 6) : ∀ (i : Nat) a b, (s.allOk.map setL)[i]? = some a→(s.allOk.map setL)[i + 1]? = some b→fewer a b = true:=by
  have h1 : (s.allOk.map setL).Pairwise (fun a b=>fewer a b = true):=by
    rw [List.pairwise_map]
    exact (sorted_spec s h6).1.sublist List.filter_sublist
  intro i a b ha hb
  obtain ⟨h2, e1⟩:=List.getElem?_eq_some_iff.1 ha
  obtain ⟨h3, e2⟩:=List.getElem?_eq_some_iff.1 hb
  have:=List.pairwise_iff_getElem.1 h1 i (i + 1) h2 h3 (by omega)
  rw [e1, e2] at this
  exact this
theorem all_len {s : Store} (h6 : s.heads.length ≤ 6) : (s.allOk.map setL).length ≤ 64:=by
  rw [List.length_map]
  refine Nat.le_trans (List.length_filter_le ..) ?_
  rw [sorted_len, sets_eq]
  exact Nat.le_trans (upto_len _ _) (two_pow_le h6)
theorem all_six {s : Store} : ∀ l ∈ s.allOk.map setL, l.length ≤ 6:=by
  intro l hl
  obtain ⟨n, _, rfl⟩:=List.mem_map.1 hl
  exact setL_len n
theorem hasL_eq (n : Int) (l : List Int) : l.any (fun x=>decide (x = n)) = hasL n l:=by
  unfold hasL
  congr 1
  funext x
  rw [Bool.eq_iff_iff]
  simp [eq_comm]
theorem must_has {all : List (List Int)} {h i : Nat} (hi : i < h) : (mustL h all).any (fun x=>decide (x = (i : Int))) = all.all (hasL i):=by
  unfold mustL
  rw [pick_has _ hi, Bool.eq_iff_iff, decide_eq_true_eq, List.all_eq_true]
  unfold eachN
  constructor
  · intro h
    exact List.length_filter_eq_length_iff.1 (by omega)
  · intro h
    have:=List.length_filter_eq_length_iff.2 h
    omega
theorem may_has {all : List (List Int)} {h i : Nat} (hi : i < h) : (mayL h all).any (fun x=>decide (x = (i : Int))) = all.any (fun l=>hasL i l && decide ((l.length : Int) = (all.headD []).length)):=by
  unfold mayL
  rw [pick_has _ hi, Bool.eq_iff_iff, decide_eq_true_eq, List.any_eq_true]
  unfold someN
  constructor
  · intro h
    obtain ⟨x, hx⟩:=List.exists_mem_of_length_pos (l:=all.filter fun l=>hasL (i : Int) l && decide ((l.length : Int) = (all.headD []).length)) (by omega)
    obtain ⟨a, b⟩:=List.mem_filter.1 hx
    exact ⟨x, a, b⟩
  · rintro ⟨x, a, b⟩
    have:=List.length_pos_of_mem (l:=all.filter fun l=>hasL (i : Int) l && decide ((l.length : Int) = (all.headD []).length)) (List.mem_filter.2 ⟨a, b⟩)
    omega
theorem any_take {α : Type} (p : α→Bool) {l : List α} {j : Nat} {x : α} (hx : l[j]? = some x) : (l.take (j + 1)).any p = ((l.take j).any p || p x):=by
  rw [List.take_add_one, hx, List.any_append]
  simp
theorem mustE_c (s : Store) (w : Int) (hr : s.small) (hc : s.check.2.2 ≠ 0) : PureA Tryd.prog 7 [storeA s, u8A w] (boolA true):=by
  have hd:=doubtTop_c s hr
  have hv:=valid_c s hr
  have aw:=Awake_c
  unfold Store.doubtR doubtA at hd
  rw [if_pos hc] at hd
  rw [decide_eq_false hc] at hv
  generalize s.check.2.2 = c at *
  refine pureA_codeB tabOk { l:=0, f:=7 } mixed call_7 Tryd.func7 (by kernel_rfl) ?_
  conv=>whnf
  repeat (any_goals (first|exact falseI|((first|refine bd ?_ ?_|refine bn ?_ ?_)<;>intro _<;>first|(exfalso;omega)|conv=>whnf)|((first|refine callP_a hd ?_|refine callP_a hv ?_|refine callP_a aw ?_|refine dI ?_|refine okI ?_|refine bt ?_|refine bi (fun _=>?_) (fun _=>?_)|refine bndI ?_|intro _)<;>conv=>whnf)))
  (refine ⟨⟨?_⟩, trivial⟩;rfl)
theorem mustN_c (s : Store) (w : Int) (hr : s.small) (hc : s.check.2.2 = 0) (hn : s.allOk.map setL = []) : PureA Tryd.prog 7 [storeA s, u8A w] (boolA true):=by
  have hd:=doubtTop_c s hr
  have hl:=listsTop_c s hr
  have hv:=valid_c s hr
  have aw:=Awake_c
  unfold Store.doubtR doubtA at hd
  unfold Store.listsR listsA at hl
  rw [if_neg (fun h=>h hc), hn] at hd hl
  simp only at hd hl
  rw [decide_eq_true hc] at hv
  refine pureA_codeB tabOk { l:=0, f:=7 } mixed call_7 Tryd.func7 (by kernel_rfl) ?_
  conv=>whnf
  repeat (any_goals (first|exact falseI|((first|refine bd ?_ ?_|refine bn ?_ ?_)<;>intro _<;>first|(exfalso;omega)|conv=>whnf)|((first|refine callP_a hd ?_|refine callP_a hv ?_|refine callP_a hl ?_|refine ⟨.bool false, neqBr _ _ (by decide), ?_⟩|refine callP_a aw ?_|refine dI ?_|refine okI ?_|refine bt ?_|refine bi (fun _=>?_) (fun _=>?_)|refine bndI ?_|intro _)<;>conv=>whnf)))
  (refine ⟨⟨?_⟩, trivial⟩;rfl)
theorem must0_c (s : Store) (w : Int) (hr : s.small) (hc : s.check.2.2 = 0) (l0 : List Int) (all : List (List Int)) (hn : s.allOk.map setL = l0 :: all) (h0 : s.heads.length = 0) : PureA Tryd.prog 7 [storeA s, u8A w] (boolA true):=by
  have hd:=doubtTop_c s hr
  have hl:=listsTop_c s hr
  have hv:=valid_c s hr
  have aw:=Awake_c
  have h6:=(Store.good hc).len
  unfold Store.doubtR doubtA at hd
  unfold Store.listsR listsA at hl
  rw [if_neg (fun h=>h hc), hn] at hd hl
  simp only at hd hl
  rw [decide_eq_true hc] at hv
  have e : s.heads.length = (s.heads.map headA).length:=(List.length_map ..).symm
  have a1:=asc_pick (fun n=>decide ((eachN (l0 :: all) n : Int) = (l0 :: all).length)) h6
  have a2:=asc_pick (fun n=>decide (0 < (someN ((l0 :: all).headD []).length (l0 :: all) n : Int))) h6
  change PureA _ _ [intsA (mustL s.heads.length (l0 :: all)), _] _ at a1
  change PureA _ _ [intsA (mayL s.heads.length (l0 :: all)), _] _ at a2
  generalize mustL s.heads.length (l0 :: all) = M at *
  generalize mayL s.heads.length (l0 :: all) = Y at *
  rw [e] at h0 a1 a2
  have hal : ((l0 :: all).map intsA).length = all.length + 1:=by simp
  refine pureA_codeB tabOk { l:=0, f:=7 } mixed call_7 Tryd.func7 (by kernel_rfl) ?_
  conv=>whnf
  repeat (any_goals (first|exact falseI|((first|refine bd ?_ ?_|refine bn ?_ ?_)<;>intro _<;>first|(exfalso;omega)|conv=>whnf)|((first|refine callP_a hd ?_|refine callP_a hv ?_|refine callP_a hl ?_|refine callP_a a1 ?_|refine callP_a a2 ?_|refine ⟨.bool false, neqBr _ _ (by rw [decide_eq_false (by decide), decide_eq_false (by omega)];rfl), ?_⟩|refine callP_a aw ?_|refine dI ?_|refine okI ?_|refine bt ?_|refine bi (fun _=>?_) (fun _=>?_)|refine bndI ?_|intro _)<;>conv=>whnf)))
  (refine ⟨⟨?_⟩, trivial⟩;rfl)
set_option maxHeartbeats 4000000 in
theorem mustT_c (s : Store) (w : Int) (hr : s.small) (hw : u8 w) (hc : s.check.2.2 = 0) (l0 : List Int) (all : List (List Int)) (hn : s.allOk.map setL = l0 :: all) (h0 : 0 < s.heads.length) : PureA Tryd.prog 7 [storeA s, u8A w] (boolA true):=by
  have hd:=doubtTop_c s hr
  have hl:=listsTop_c s hr
  have hv:=valid_c s hr
  have aw:=Awake_c
  have h6:=(Store.good hc).len
  have e : s.heads.length = (s.heads.map headA).length:=(List.length_map ..).symm
  have hw1 : 0 ≤ w∧w ≤ 255:=hw
  obtain ⟨n, hnw, hnl⟩ : ∃ n : Nat, w.tmod ((s.heads.map headA).length : Int) = n∧n < s.heads.length:=by
    have a:=Int.tmod_nonneg ((s.heads.map headA).length : Int) hw.1
    have b:=Int.tmod_lt_of_pos w (show (0 : Int) < ((s.heads.map headA).length : Int) by omega)
    exact ⟨(w.tmod ((s.heads.map headA).length : Int)).toNat, by omega, by omega⟩
  obtain ⟨y, hy, _⟩:=drop_cons (l:=s.heads) (i:=n) hnl
  have hkc:=keeping_c s _ n y hnw hy h6
  have hkp:=pourTop_c (s.keep n y) (keep_small hy hr)
  unfold Store.pourR pourA at hkp
  rw [keep_check hy, if_neg (fun h=>h hc)] at hkp
  have hkf:=keep_find h6 hy
  have hpair:=all_pair h6
  have hlen:=all_len h6
  have hsix:=@all_six s
  unfold Store.doubtR doubtA at hd
  unfold Store.listsR listsA at hl
  rw [if_neg (fun h=>h hc), hn] at hd hl
  simp only at hd hl
  rw [hn] at hkf hpair hlen hsix
  rw [decide_eq_true hc] at hv
  have a1:=asc_pick (fun n=>decide ((eachN (l0 :: all) n : Int) = (l0 :: all).length)) h6
  have a2:=asc_pick (fun n=>decide (0 < (someN ((l0 :: all).headD []).length (l0 :: all) n : Int))) h6
  change PureA _ _ [intsA (mustL s.heads.length (l0 :: all)), _] _ at a1
  change PureA _ _ [intsA (mayL s.heads.length (l0 :: all)), _] _ at a2
  have b1:=hasI_c (mustL s.heads.length (l0 :: all)) n (by have:=pickTo_len (fun n=>decide ((eachN (l0 :: all) n : Int) = (l0 :: all).length)) s.heads.length;unfold mustL;omega)
  have b2:=hasI_c (mayL s.heads.length (l0 :: all)) n (by have:=pickTo_len (fun n=>decide (0 < (someN ((l0 :: all).headD []).length (l0 :: all) n : Int))) s.heads.length;unfold mayL;omega)
  rw [must_has hnl] at b1
  rw [may_has hnl, List.headD_cons] at b2
  have hhas : ∀ l ∈ l0 :: all, PureA Tryd.prog 37 [intsA l, intA (w.tmod ((s.heads.map headA).length : Int))] (boolA (hasL n l)):=by
    intro l hl
    rw [hnw]
    have:=hasI_c l n (by have:=hsix l hl;omega)
    rw [hasL_eq] at this
    exact this
  have hfew : ∀ (i : Nat) a b, (l0 :: all)[i]? = some a→(l0 :: all)[i + 1]? = some b→PureA Tryd.prog 29 [intsA a, intsA b] (boolA true):=by
    intro i a b ha hb
    have:=fewer_c a b (by have:=hsix a (List.mem_of_getElem? ha);omega) (by have:=hsix b (List.mem_of_getElem? hb);omega)
    rw [hpair i a b ha hb] at this
    exact this
  have hpk : ∃ (l : List Int) (a : Amt), PureA Tryd.prog 24 [storeA (s.keep n y)] (.tuple [intsA l, amtA a, intA (if (l0 :: all).all (hasL n) = true then 9 else 0)]):=by
    simp only [hasL_eq] at hkf
    rw [← List.all_eq_true] at hkf
    cases hF : (s.keep n y).sorted.find? ((s.keep n y).okAt 0) with
    | none =>
      rw [hF] at hkp
      rw [if_pos (hkf.1 hF)]
      exact ⟨_, _, hkp⟩
    | some m =>
      rw [hF] at hkp
      rw [if_neg (fun h=>by have:=hkf.2 h;rw [hF] at this;cases this)]
      exact ⟨_, _, hkp⟩
  obtain ⟨kl, ⟨k1, k2, k3⟩, hpk⟩:=hpk
  have hF0 : ((l0 :: all).take 0).any (fun l=>hasL n l && decide ((l.length : Int) = l0.length)) = false:=rfl
  have hFs:=fun i x (hx : (l0 :: all)[i]? = some x)=>any_take (fun l=>hasL n l && decide ((l.length : Int) = l0.length)) hx
  have hFe : (l0 :: all).any (fun l=>hasL n l && decide ((l.length : Int) = l0.length)) = ((l0 :: all).take (l0 :: all).length).any (fun l=>hasL n l && decide ((l.length : Int) = l0.length)):=by rw [List.take_length]
  rw [hFe] at b2
  obtain ⟨F, hF⟩ : ∃ F : Nat→Bool, F = fun i=>((l0 :: all).take i).any (fun l=>hasL n l && decide ((l.length : Int) = l0.length)):=⟨_, rfl⟩
  have hFj : ∀ i, ((l0 :: all).take i).any (fun l=>hasL n l && decide ((l.length : Int) = l0.length)) = F i:=fun i=>by rw [hF]
  simp only [hFj] at hF0 hFs b2
  clear hF hFj hFe hkf hkp hpair hn
  generalize (l0 :: all).all (hasL n) = B at *
  rw [← hnw] at b1 b2
  generalize s.keep n y = S2 at *
  generalize mustL s.heads.length (l0 :: all) = M at *
  generalize mayL s.heads.length (l0 :: all) = Y at *
  rw [e] at a1 a2
  have hal : ((l0 :: all).map intsA).length = (l0 :: all).length:=List.length_map ..
  have hl0 : (l0 :: all)[0]? = some l0:=rfl
  have hp0 : 0 < (l0 :: all).length:=by simp
  generalize hA : l0 :: all = A at *
  clear hA
  have hl0m : (l0.map intA).length = l0.length:=List.length_map ..
  have hz : A.map intsA ≠ []:=by intro h;rw [List.map_eq_nil_iff] at h;subst h;simp at hp0
  refine pureA_codeB tabOk { l:=0, f:=7 } mixed call_7 Tryd.func7 (by kernel_rfl) ?_
  conv=>whnf
  repeat (any_goals (first|exact falseI|((first|refine bd ?_ ?_|refine bn ?_ ?_)<;>intro _<;>first|(exfalso;omega)|conv=>whnf)|((first|refine callP_a hd ?_|refine callP_a hv ?_|refine callP_a hl ?_|refine callP_a a1 ?_|refine callP_a a2 ?_|refine ⟨.bool false, neqBr _ _ (by rw [decide_eq_false (by decide), decide_eq_false (by omega)];rfl), ?_⟩|refine callP_a hkc ?_|refine callP_a hpk ?_|refine dI ?_|refine okI ?_|refine bt ?_|refine bi (fun _=>?_) (fun _=>?_)|refine bndI ?_|intro _)<;>conv=>whnf)))
  refine loopK tabOk { l:=0, f:=7 } mixed (fun i : Nat=>[(15, intA i), (14, boolA (F i))]) (fun _=>[]) (fun _=>[]) (fun i=>i ≤ A.length) (fun i=>A.length - i) 0 (by kernel_rfl)
    (Nat.zero_le _) ?_
  conv=>whnf
  refine ⟨⟨slotsLe_cons rfl (slotsLe_cons (by rw [hF0];rfl) trivial), trivial, trivial⟩, ?_⟩
  intro i hi
  by_cases hlt : i < A.length
  · obtain ⟨x, hx, _⟩:=drop_cons (l:=A) (i:=i) hlt
    have hFi:=hFs i x hx
    have hh:=hhas x (List.mem_of_getElem? hx)
    have hxl : (x.map intA).length = x.length:=List.length_map ..
    have hx6:=hsix x (List.mem_of_getElem? hx)
    have h06:=hsix l0 (List.mem_of_getElem? hl0)
    have hfw : ∀ z, 0 < i→A[i - 1]? = some z→PureA Tryd.prog 29 [intsA z, intsA x] (boolA true):=fun z h1 hz=>hfew (i - 1) z x hz (by rw [show i - 1 + 1 = i by omega];exact hx)
    clear hFs hhas hfew b1 b2 a1 a2 hd hl hkc hpk
    have hgoal : F (i + 1) = (F i || (hasL n x && decide (x.length = l0.length))):=by
      rw [hFi]
      congr 2
      rw [Bool.eq_iff_iff]
      simp
      omega
    clear hFi
    generalize F i = Fi at *
    generalize hasL n x = hx' at *
    by_cases h0 : i = 0
    · subst h0
      obtain rfl : x = l0:=by rw [hl0] at hx;cases hx;rfl
      rw [decide_eq_true rfl] at hgoal
      cases Fi<;>cases hx'
      all_goals simp only [Bool.false_or, Bool.true_or, Bool.and_true, Bool.true_and, Bool.and_false, Bool.false_and] at hgoal
      all_goals conv=>whnf
      all_goals repeat (any_goals (first|exact falseI|((first|refine bd ?_ ?_|refine bn ?_ ?_)<;>intro _<;>first|(exfalso;omega)|conv=>whnf)|((first|refine optP_map hx rfl ?_|refine optP_map hl0 rfl ?_|refine callP_a hh ?_|refine dI ?_|refine okI ?_|refine bt ?_|refine bi (fun _=>?_) (fun _=>?_)|refine bndI ?_|intro _)<;>conv=>whnf)))
      all_goals ((refine ⟨1, (by omega), (by omega), ?_⟩;(conv=>whnf);refine ⟨?_, ?_, ?_⟩<;>repeat (first|exact trivial|refine sc rfl ?_|refine kn ?_|refine kc rfl ?_|refine sc (by first|rfl|(rw [hgoal];rfl)) ?_|refine kc (by first|rfl|(rw [hgoal];rfl)) ?_)))
    · obtain ⟨z, hz, _⟩:=drop_cons (l:=A) (i:=i - 1) (by omega)
      have hfw:=hfw z (by omega) hz
      cases Fi<;>cases hx'<;>by_cases hq : x.length = l0.length
      all_goals (first|rw [decide_eq_true hq] at hgoal|rw [decide_eq_false hq] at hgoal)
      all_goals simp only [Bool.false_or, Bool.true_or, Bool.and_true, Bool.true_and, Bool.and_false, Bool.false_and] at hgoal
      all_goals conv=>whnf
      all_goals repeat (any_goals (first|exact falseI|((first|refine bd ?_ ?_|refine bn ?_ ?_)<;>intro _<;>first|(exfalso;omega)|conv=>whnf)|((first|refine optP_map hx rfl ?_|refine optP_map hl0 rfl ?_|refine optP_map hz (by omega) ?_|refine callP_a hfw ?_|refine callP_a hh ?_|refine dI ?_|refine okI ?_|refine bt ?_|refine bi (fun _=>?_) (fun _=>?_)|refine bndI ?_|intro _)<;>conv=>whnf)))
      all_goals ((refine ⟨i + 1, (by omega), (by omega), ?_⟩;(conv=>whnf);refine ⟨?_, ?_, ?_⟩<;>repeat (first|exact trivial|refine sc rfl ?_|refine kn ?_|refine kc rfl ?_|refine sc (by first|rfl|(rw [hgoal];rfl)) ?_|refine kc (by first|rfl|(rw [hgoal];rfl)) ?_)))
  · have : i = A.length:=by omega
    subst this
    clear hFs hhas hfew
    generalize F A.length = Fe at *
    cases B<;>cases Fe
    all_goals simp only [if_true, Bool.false_eq_true, if_false] at hpk
    all_goals conv=>whnf
    all_goals repeat (any_goals (first|exact falseI|((first|refine bd ?_ ?_|refine bn ?_ ?_)<;>intro _<;>first|(exfalso;omega)|conv=>whnf)|((first|refine callP_a b1 ?_|refine callP_a b2 ?_|refine ⟨.bool true, eqBr _ _ (by decide), ?_⟩|refine callP_a aw ?_|refine dI ?_|refine okI ?_|refine bt ?_|refine bi (fun _=>?_) (fun _=>?_)|refine bndI ?_|intro _)<;>conv=>whnf)))
    all_goals (refine ⟨⟨?_⟩, trivial⟩;rfl)
theorem WaxMust_c (s : Store) (w : Int) (hr : s.small) (hw : u8 w) : PureA Tryd.prog 7 [storeA s, u8A w] (boolA true):=by
  by_cases hc : s.check.2.2 = 0
  · cases hn : s.allOk.map setL with
    | nil=>exact mustN_c s w hr hc hn
    | cons l0 all =>
      by_cases h0 : s.heads.length = 0
      · exact must0_c s w hr hc l0 all hn h0
      · exact mustT_c s w hr hw hc l0 all hn (by omega)
  · exact mustE_c s w hr hc
end Go.Proofs.YtbpiibdcncfphaaDoor
