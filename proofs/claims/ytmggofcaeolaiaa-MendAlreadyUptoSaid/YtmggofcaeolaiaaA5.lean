/- Part 5 of the texts that the last one stands on. -/
import Derived.Test.YtmggofcaeolaiaaA4
set_option linter.unusedVariables false
set_option linter.unusedSimpArgs false
namespace Go.Proofs.Ytmggofcaeolaiaa
open Go.Am Go.Proofs Go
def kClone : Key := ⟨0, 65, 7⟩
theorem clone65_c (f : Fig) (l : List Fig) (h : (f :: l).length ≤ 1048576) : BoxA Try.prog (.fn 65) [] [figsA (f :: l)] (.own kClone 1 4 (l.length + 1) 0) [(kClone, 1, 4, (f :: l).map figA)] := by
  simp only [List.length_cons] at h
  refine boxA_codeB tabOk { l := 0, f := 65, ow := [7] } mixed call_65 Try.func65 (by kernel_rfl) ?_
  conv => whnf
  repeat (any_goals (first | exact falseI | (refine brP_dec (fun _ => ?_) (fun _ => ?_) <;> first | (exfalso; omega) | conv => whnf) | (refine brP_ndec (fun _ => ?_) (fun _ => ?_) <;> first | (exfalso; omega) | conv => whnf) | ((first | refine And.intro (DrawOk.mk (by kernel_rfl)) ?_ | refine okI ?_ | refine brP_true (Nat.beq_refl _) ?_ | refine brP_intro (fun _ => ?_) (fun _ => ?_) | refine bndI ?_ | intro _) <;> conv => whnf)))
  refine And.intro ?_ ?_
  · conv => whnf
    refine ⟨⟨?_⟩, trivial⟩
    (simp [oneOf, kClone])
  · repeat (first | exact trivial | refine And.intro rfl ?_ | refine And.intro (by skip) ?_)
theorem clone65e_c : PureA Try.prog 65 [figsA []] (figsA []) := by
  refine PureA.empty (pre := []) (post := []) ?_ (fun b o c hc => ?_)
  · refine PureA.wk (res := nilS) ?_ (Wk.nil 4)
    refine pureA_codeB tabOk { l := 0, f := 65 } mixed call_65 Try.func65 (by kernel_rfl) ?_
    conv => whnf
    repeat (any_goals (first | exact falseI | (refine brP_dec (fun _ => ?_) (fun _ => ?_) <;> first | (exfalso; omega) | conv => whnf) | (refine brP_ndec (fun _ => ?_) (fun _ => ?_) <;> first | (exfalso; omega) | conv => whnf) | ((first | refine And.intro (DrawOk.mk (by kernel_rfl)) ?_ | refine okI ?_ | refine brP_true (Nat.beq_refl _) ?_ | refine brP_intro (fun _ => ?_) (fun _ => ?_) | refine bndI ?_ | intro _) <;> conv => whnf)))
    (refine ⟨⟨?_⟩, trivial⟩; rfl)
  · unfold maxLen at hc
    refine pureA_codeB tabOk { l := 0, f := 65 } mixed call_65 Try.func65 (by kernel_rfl) ?_
    conv => whnf
    repeat (any_goals (first | exact falseI | (refine brP_dec (fun _ => ?_) (fun _ => ?_) <;> first | (exfalso; omega) | conv => whnf) | (refine brP_ndec (fun _ => ?_) (fun _ => ?_) <;> first | (exfalso; omega) | conv => whnf) | ((first | refine And.intro (DrawOk.mk (by kernel_rfl)) ?_ | refine okI ?_ | refine brP_true (Nat.beq_refl _) ?_ | refine brP_intro (fun _ => ?_) (fun _ => ?_) | refine bndI ?_ | intro _) <;> conv => whnf)))
    (refine ⟨⟨?_⟩, trivial⟩; rfl)
theorem clone66_c (l : List Stp) (h : l.length ≤ 1048576) : PureA Try.prog 66 [stpsA l] (stpsA l) := by
  cases l with
  | nil =>
    refine PureA.empty (pre := []) (post := []) ?_ (fun b o c hc => ?_)
    · refine PureA.wk (res := nilS) ?_ (Wk.nil 2)
      refine pureA_codeB tabOk { l := 0, f := 66 } mixed call_66 Try.func66 (by kernel_rfl) ?_
      conv => whnf
      repeat (any_goals (first | exact falseI | (refine brP_dec (fun _ => ?_) (fun _ => ?_) <;> first | (exfalso; omega) | conv => whnf) | (refine brP_ndec (fun _ => ?_) (fun _ => ?_) <;> first | (exfalso; omega) | conv => whnf) | ((first | refine And.intro (DrawOk.mk (by kernel_rfl)) ?_ | refine okI ?_ | refine brP_true (Nat.beq_refl _) ?_ | refine brP_intro (fun _ => ?_) (fun _ => ?_) | refine bndI ?_ | intro _) <;> conv => whnf)))
      (refine ⟨⟨?_⟩, trivial⟩; rfl)
    · unfold maxLen at hc
      refine pureA_codeB tabOk { l := 0, f := 66 } mixed call_66 Try.func66 (by kernel_rfl) ?_
      conv => whnf
      repeat (any_goals (first | exact falseI | (refine brP_dec (fun _ => ?_) (fun _ => ?_) <;> first | (exfalso; omega) | conv => whnf) | (refine brP_ndec (fun _ => ?_) (fun _ => ?_) <;> first | (exfalso; omega) | conv => whnf) | ((first | refine And.intro (DrawOk.mk (by kernel_rfl)) ?_ | refine okI ?_ | refine brP_true (Nat.beq_refl _) ?_ | refine brP_intro (fun _ => ?_) (fun _ => ?_) | refine bndI ?_ | intro _) <;> conv => whnf)))
      (refine ⟨⟨?_⟩, trivial⟩; rfl)
  | cons s l =>
    simp only [List.length_cons] at h
    refine pureA_codeB tabOk { l := 0, f := 66 } mixed call_66 Try.func66 (by kernel_rfl) ?_
    conv => whnf
    repeat (any_goals (first | exact falseI | (refine brP_dec (fun _ => ?_) (fun _ => ?_) <;> first | (exfalso; omega) | conv => whnf) | (refine brP_ndec (fun _ => ?_) (fun _ => ?_) <;> first | (exfalso; omega) | conv => whnf) | ((first | refine And.intro (DrawOk.mk (by kernel_rfl)) ?_ | refine okI ?_ | refine brP_true (Nat.beq_refl _) ?_ | refine brP_intro (fun _ => ?_) (fun _ => ?_) | refine bndI ?_ | intro _) <;> conv => whnf)))
    (refine ⟨⟨?_⟩, trivial⟩; rfl)
end Go.Proofs.Ytmggofcaeolaiaa
namespace Go.Proofs.Ytmggofcaeolaiaa
open Go.Am Go.Proofs Go
def orL : List Int → Int
  | [] => 0
  | x :: l => if x = 0 then orL l else x
theorem or_c (l : List Int) (hl : l.length ≤ 1048576) : PureA Try.prog 99 [intsA l] (intA (orL l)) := by
  obtain ⟨R, hR⟩ : ∃ R, R = orL l := ⟨_, rfl⟩
  rw [← hR]
  refine pureA_codeB tabOk { l := 0, f := 99 } mixed call_99 Try.func99 (by kernel_rfl) ?_
  conv => whnf
  refine loopK tabOk { l := 0, f := 99 } mixed (fun i : Nat => [(8, intA i)]) (fun _ => []) (fun _ => []) (fun i => i ≤ l.length ∧ R = orL (l.drop i)) (fun i => l.length - i) 0 (by kernel_rfl)
    ⟨Nat.zero_le _, hR⟩ ?_
  conv => whnf
  refine ⟨⟨slotsLe_cons rfl trivial, trivial, trivial⟩, ?_⟩
  intro i ⟨hi, H⟩
  conv => whnf
  refine brP_dec (fun h1 => ?_) (fun h1 => ?_)
  · simp only [List.length_map] at h1
    obtain ⟨x, hx, hd⟩ := drop_cons (l := l) (i := i) (by omega)
    rw [hd] at H
    simp only [orL] at H
    conv => whnf
    repeat (any_goals (first | exact falseI | (refine brP_dec (fun _ => ?_) (fun _ => ?_) <;> first | (exfalso; omega) | conv => whnf) | (refine brP_ndec (fun _ => ?_) (fun _ => ?_) <;> first | (exfalso; omega) | conv => whnf) | ((first | refine optP_map hx rfl ?_ | refine And.intro (DrawOk.mk (by kernel_rfl)) ?_ | refine okI ?_ | refine brP_true (Nat.beq_refl _) ?_ | refine brP_intro (fun _ => ?_) (fun _ => ?_) | refine bndI ?_ | intro _) <;> conv => whnf)))
    · rename_i h2
      rw [if_pos h2] at H
      (refine ⟨i + 1, ⟨by omega, H⟩, (by omega), ?_⟩; (conv => whnf); refine ⟨?_, ?_, ?_⟩ <;> repeat (first | exact trivial | refine slotsLe_cons rfl ?_ | refine keysLe_none ?_ | refine keysLe_cons rfl ?_))
    · rename_i h2
      rw [if_neg h2] at H
      (refine ⟨⟨?_⟩, trivial⟩; rw [H]; rfl)
  · conv => whnf
    simp only [List.length_map] at h1
    have : i = l.length := by omega
    subst this
    simp only [List.drop_length, orL] at H
    (refine ⟨⟨?_⟩, trivial⟩; rw [H]; rfl)
def cmpS (s t : Stp) : Int := orL [s.a - t.a, s.b - t.b]
def Stp.ok (s : Stp) : Prop := 0 ≤ s.a ∧ s.a < 5 ∧ 0 ≤ s.b ∧ s.b < 5
theorem cmp_c (s t : Stp) (hs : s.ok) (ht : t.ok) : PureA Try.prog 98 [stpA s, stpA t] (intA (cmpS s t)) := by
  have hc := or_c [s.a - t.a, s.b - t.b] (by simp)
  obtain ⟨h1, h2, h3, h4⟩ := hs
  obtain ⟨k1, k2, k3, k4⟩ := ht
  unfold cmpS
  generalize hv : orL [s.a - t.a, s.b - t.b] = v at *
  refine pureA_codeB tabOk { l := 0, f := 98 } mixed call_98 Try.func98 (by kernel_rfl) ?_
  conv => whnf
  repeat (any_goals (first | exact falseI | (refine brP_dec (fun _ => ?_) (fun _ => ?_) <;> first | (exfalso; omega) | conv => whnf) | (refine brP_ndec (fun _ => ?_) (fun _ => ?_) <;> first | (exfalso; omega) | conv => whnf) | ((first | refine callP_a hc ?_ | refine And.intro (DrawOk.mk (by kernel_rfl)) ?_ | refine okI ?_ | refine brP_true (Nat.beq_refl _) ?_ | refine brP_intro (fun _ => ?_) (fun _ => ?_) | refine bndI ?_ | intro _) <;> conv => whnf)))
  (refine ⟨⟨?_⟩, trivial⟩; rfl)
def bub : Nat → List Stp → List Stp
  | 0, L => L
  | j + 1, L => match L[j + 1]?, L[j]? with
    | some x, some y => if cmpS x y < 0 then bub j ((L.set (j + 1) y).set j x) else L
    | _, _ => L
def srtI : Nat → Nat → List Stp → List Stp
  | 0, _, L => L
  | k + 1, i, L => srtI k (i + 1) (bub i L)
def srt (n : Nat) (L : List Stp) : List Stp := srtI (n - 1) 1 L
theorem bub_len : ∀ (j : Nat) (L : List Stp), (bub j L).length = L.length
  | 0, L => rfl
  | j + 1, L => by
    unfold bub
    split
    · split
      · rw [bub_len j]; simp
      · rfl
    · rfl
theorem bub_ok : ∀ (j : Nat) (L : List Stp), (∀ s ∈ L, s.ok) → ∀ s ∈ bub j L, s.ok
  | 0, L, h => h
  | j + 1, L, h => by
    unfold bub
    split
    · rename_i x y hx hy
      split
      · refine bub_ok j _ fun s hs => ?_
        rcases List.mem_or_eq_of_mem_set hs with hs | rfl
        · rcases List.mem_or_eq_of_mem_set hs with hs | rfl
          · exact h s hs
          · exact h _ (List.mem_of_getElem? hy)
        · exact h _ (List.mem_of_getElem? hx)
      · exact h
    · exact h
theorem ok_set {l : List Stp} {n : Nat} {x : Stp} (h : ∀ s ∈ l, s.ok) (hx : x.ok) : ∀ s ∈ l.set n x, s.ok := fun s hs => by
  rcases List.mem_or_eq_of_mem_set hs with hs | rfl
  · exact h s hs
  · exact hx
theorem set_stps (l : List Stp) (a : Int) (n : Nat) (x : AV) (f : Stp) (ha : a = n) (hx : x = stpA f) : (l.map stpA).set a.toNat x = (l.set n f).map stpA := by
  subst ha hx
  simp [List.map_set]
def kAll : Key := ⟨0, 96, 19⟩
def cmpF : AV := .func (.func 98) [] []
theorem ins_c (g n : Nat) (X : List Stp) (hn : n ≤ X.length) (hX : ∀ s ∈ X, s.ok) (h12 : n ≤ 12) :
    BoxA Try.prog (.fn 102) [(kAll, g, 2, X.map stpA)] [.own kAll g 2 n 0, intA 0, intA n, cmpF] (.tuple []) [(kAll, g, 2, (srt n X).map stpA)] := by
  obtain ⟨R, hR⟩ : ∃ R, R = srt n X := ⟨_, rfl⟩
  rw [← hR]
  refine boxA_codeB tabOk { l := 0, f := 102 } mixed call_102 Try.func102 (by kernel_rfl) ?_
  conv => whnf
  repeat (any_goals (first | exact falseI | (refine brP_dec (fun _ => ?_) (fun _ => ?_) <;> first | (exfalso; omega) | conv => whnf) | (refine brP_ndec (fun _ => ?_) (fun _ => ?_) <;> first | (exfalso; omega) | conv => whnf) | ((first | refine And.intro (DrawOk.mk (by kernel_rfl)) ?_ | refine okI ?_ | refine brP_true (Nat.beq_refl _) ?_ | refine brP_intro (fun _ => ?_) (fun _ => ?_) | refine bndI ?_ | intro _) <;> conv => whnf)))
  refine loopK tabOk { l := 0, f := 102 } mixed (fun a : Nat × List Stp => [(8, intA a.1)]) (fun a => [(kAll, some (g, some (2, a.2.map stpA)))]) (fun _ => []) (fun a => 1 ≤ a.1 ∧ n ≤ a.2.length ∧ (∀ s ∈ a.2, s.ok) ∧ R = srtI (n - a.1) a.1 a.2) (fun a => n - a.1) (1, X) (by kernel_rfl)
    ⟨Nat.le_refl _, hn, hX, hR⟩ ?_
  conv => whnf
  refine ⟨⟨slotsLe_cons rfl trivial, keysLe_cons rfl trivial, trivial⟩, ?_⟩
  intro ⟨i, L⟩ ⟨hi, hL, hok, H⟩
  simp only at hi hL hok H
  conv => whnf
  refine brP_dec (fun h1 => ?_) (fun h1 => ?_)
  · have hin : i < n := by omega
    rw [show n - i = (n - (i + 1)) + 1 by omega] at H
    simp only [srtI] at H
    clear hR
    conv => whnf
    have hb0 := bub_len i L
    have hb1 := bub_ok i L hok
    generalize hB : bub i L = B at *
    refine loopK tabOk { l := 0, f := 102 } mixed (fun a : Nat × List Stp => [(9, intA a.1)]) (fun a => [(kAll, some (g, some (2, a.2.map stpA)))]) (fun _ => []) (fun a => a.1 ≤ i ∧ n ≤ a.2.length ∧ (∀ s ∈ a.2, s.ok) ∧ B = bub a.1 a.2) (fun a => a.1) (i, L) (by kernel_rfl)
      ⟨Nat.le_refl _, hL, hok, hB.symm⟩ ?_
    conv => whnf
    refine ⟨⟨slotsLe_cons rfl trivial, keysLe_cons rfl trivial, trivial⟩, ?_⟩
    intro ⟨j, M⟩ ⟨hj, hM, hok', H'⟩
    simp only at hj hM hok' H'
    conv => whnf
    cases hd : decide ((0 : Int) < ((j, M).fst : Nat)) with
    | false =>
      have hj0 : j = 0 := by have := of_decide_eq_false hd; simp only at this; omega
      subst hj0
      conv => whnf
      repeat (any_goals (first | exact falseI | (refine brP_dec (fun _ => ?_) (fun _ => ?_) <;> first | (exfalso; omega) | conv => whnf) | (refine brP_ndec (fun _ => ?_) (fun _ => ?_) <;> first | (exfalso; omega) | conv => whnf) | ((first | refine And.intro (DrawOk.mk (by kernel_rfl)) ?_ | refine okI ?_ | refine brP_true (Nat.beq_refl _) ?_ | refine brP_intro (fun _ => ?_) (fun _ => ?_) | refine bndI ?_ | intro _) <;> conv => whnf)))
      simp only [bub] at H'
      subst H'
      (refine ⟨(i + 1, B), ⟨by omega, by simp only; omega, hok', by simp only; rw [H]⟩, (by simp only; omega), ?_⟩; (conv => whnf); refine ⟨?_, ?_, ?_⟩ <;> repeat (first | exact trivial | refine slotsLe_cons rfl ?_ | refine keysLe_none ?_ | refine keysLe_cons rfl ?_))
    | true =>
      have hj0 : 0 < j := by have := of_decide_eq_true hd; simp only at this; omega
      obtain ⟨x, hx, _⟩ := drop_cons (l := M) (i := j) (by omega)
      obtain ⟨y, hy, _⟩ := drop_cons (l := M) (i := j - 1) (by omega)
      have hc := cmp_c x y (hok' x (List.mem_of_getElem? hx)) (hok' y (List.mem_of_getElem? hy))
      have hjs : j = (j - 1) + 1 := by omega
      rw [hjs, bub, ← hjs, hx, hy] at H'
      simp only at H'
      have hc2 : -5 ≤ cmpS x y ∧ cmpS x y ≤ 5 := by
        have h1 := hok' x (List.mem_of_getElem? hx)
        have h2 := hok' y (List.mem_of_getElem? hy)
        unfold Stp.ok at h1 h2
        unfold cmpS orL orL orL
        split <;> (try split) <;> omega
      generalize cmpS x y = v at *
      have hjn : ((j : Int) - 1) = ((j - 1 : Nat) : Int) := by omega
      have hs1 := set_stps M j j (stpA y) y rfl rfl
      have hs2 := set_stps (M.set j y) (j - 1) (j - 1) (stpA x) x hjn rfl
      have hx2 : (M.set j y)[j - 1]? = some y := by rw [List.getElem?_set_ne (by omega), hy]
      conv => whnf
      repeat (any_goals (first | exact falseI | (refine brP_dec (fun _ => ?_) (fun _ => ?_) <;> first | (exfalso; omega) | conv => whnf) | (refine brP_ndec (fun _ => ?_) (fun _ => ?_) <;> first | (exfalso; omega) | conv => whnf) | ((first | refine optP_map hx rfl ?_ | refine optP_map hy hjn ?_ | refine optP_map hx2 hjn ?_ | refine callP_a hc ?_ | refine forceL_to hs1 ?_ | refine forceL_to hs2 ?_ | refine And.intro (DrawOk.mk (by kernel_rfl)) ?_ | refine okI ?_ | refine brP_true (Nat.beq_refl _) ?_ | refine brP_intro (fun _ => ?_) (fun _ => ?_) | refine bndI ?_ | intro _) <;> conv => whnf)))
      · rename_i hv
        rw [if_pos hv] at H'
        (refine ⟨(j - 1, (M.set j y).set (j - 1) x), ⟨by simp only; omega, by simp; omega, ok_set (ok_set hok' (hok' y (List.mem_of_getElem? hy))) (hok' x (List.mem_of_getElem? hx)), H'⟩, (by simp only; omega), ?_⟩; (conv => whnf); refine ⟨?_, ?_, ?_⟩ <;> repeat (first | exact trivial | refine slotsLe_cons rfl ?_ | refine keysLe_none ?_ | refine keysLe_cons rfl ?_ | refine slotsLe_cons (by (simp only [hjn]; rfl)) ?_ | refine keysLe_cons (by (simp only [hjn]; rfl)) ?_))
      · rename_i hv
        rw [if_neg hv] at H'
        subst H'
        (refine ⟨(i + 1, B), ⟨by simp only; omega, hM, hok', by simp only; rw [H]⟩, (by simp only; omega), ?_⟩; (conv => whnf); refine ⟨?_, ?_, ?_⟩ <;> repeat (first | exact trivial | refine slotsLe_cons rfl ?_ | refine keysLe_none ?_ | refine keysLe_cons rfl ?_))
  · conv => whnf
    rw [show n - i = 0 by omega] at H
    simp only [srtI] at H
    subst H
    refine And.intro ?_ ?_
    · conv => whnf
      refine ⟨⟨?_⟩, trivial⟩
      rfl
    · repeat (first | exact trivial | refine And.intro rfl ?_ | refine And.intro (by skip) ?_)
def bitsLen : Nat → Int
  | 0 => 0 | 1 => 1 | 2 => 2 | 3 => 2 | 4 => 3 | 5 => 3 | 6 => 3 | 7 => 3 | _ => 4
theorem len64_c (n : Nat) (h : n ≤ 12) : PureA Try.prog 111 [.v (.int .u64 n)] (intA (bitsLen n)) := by
  have : n = 0 ∨ n = 1 ∨ n = 2 ∨ n = 3 ∨ n = 4 ∨ n = 5 ∨ n = 6 ∨ n = 7 ∨ n = 8 ∨ n = 9 ∨ n = 10 ∨ n = 11 ∨ n = 12 := by omega
  rcases this with rfl | rfl | rfl | rfl | rfl | rfl | rfl | rfl | rfl | rfl | rfl | rfl | rfl
  all_goals
    refine pureA_codeB tabOk { l := 0, f := 111 } mixed call_111 Try.func111 (by kernel_rfl) ?_
    conv => whnf
    repeat (refine And.intro (by decide +kernel) ?_; conv => whnf)
    (refine ⟨⟨?_⟩, trivial⟩; kernel_rfl)
theorem len_c (n : Nat) (h : n ≤ 12) : PureA Try.prog 101 [.v (.int .u64 n)] (intA (bitsLen n)) := by
  have hl := len64_c n h
  refine pureA_codeB tabOk { l := 0, f := 101 } mixed call_101 Try.func101 (by kernel_rfl) ?_
  conv => whnf
  repeat (any_goals (first | exact falseI | (refine brP_dec (fun _ => ?_) (fun _ => ?_) <;> first | (exfalso; omega) | conv => whnf) | (refine brP_ndec (fun _ => ?_) (fun _ => ?_) <;> first | (exfalso; omega) | conv => whnf) | ((first | refine callP_a hl ?_ | refine And.intro (DrawOk.mk (by kernel_rfl)) ?_ | refine okI ?_ | refine brP_true (Nat.beq_refl _) ?_ | refine brP_intro (fun _ => ?_) (fun _ => ?_) | refine bndI ?_ | intro _) <;> conv => whnf)))
  (refine ⟨⟨?_⟩, trivial⟩; rfl)
theorem tkL_map {α : Type} {f : α → AV} {g : AV → Option AV} (h : ∀ a, g (f a) = some (f a)) : ∀ l : List α, tkL g (l.map f) = some (l.map f)
  | [] => rfl
  | x :: xs => by simp only [List.map_cons, tkL, h, tkL_map h xs]
theorem tk_stps (ks : List Key) (l : List Stp) : tkL (tk2 ks) (l.map stpA) = some (l.map stpA) := tkL_map (f := stpA) (g := tk2 ks) (fun _ => rfl) l
theorem pdq_c (g n lim : Nat) (X : List Stp) (hn : n ≤ X.length) (hX : ∀ s ∈ X, s.ok) (h12 : n ≤ 12) :
    BoxA Try.prog (.fn 100) [(kAll, g, 2, X.map stpA)] [.own kAll g 2 n 0, intA 0, intA n, intA lim, cmpF] (.tuple []) [(kAll, g, 2, (srt n X).map stpA)] := by
  have hi := ins_c g n X hn hX h12
  generalize srt n X = R at *
  refine boxA_codeB tabOk { l := 0, f := 100, mat := [102] } mixed call_100 Try.func100 (by kernel_rfl) ?_
  conv => whnf
  repeat (any_goals (first | exact falseI | (refine brP_dec (fun _ => ?_) (fun _ => ?_) <;> first | (exfalso; omega) | conv => whnf) | (refine brP_ndec (fun _ => ?_) (fun _ => ?_) <;> first | (exfalso; omega) | conv => whnf) | ((first | refine And.intro (DrawOk.mk (by kernel_rfl)) ?_ | refine okI ?_ | refine brP_true (Nat.beq_refl _) ?_ | refine brP_intro (fun _ => ?_) (fun _ => ?_) | refine bndI ?_ | intro _) <;> conv => whnf)))
  refine loopK tabOk { l := 0, f := 100, mat := [102] } mixed (fun _ : Unit => [(1, intA 0), (2, intA n)]) (fun _ => [(kAll, some (g, some (2, X.map stpA)))]) (fun _ => []) (fun _ => True) (fun _ => 0) () (by kernel_rfl)
    trivial ?_
  conv => whnf
  refine ⟨⟨slotsLe_cons rfl (slotsLe_cons rfl trivial), keysLe_cons rfl trivial, trivial⟩, ?_⟩
  intro _ _
  conv => whnf
  repeat (any_goals (first | exact falseI | (refine brP_dec (fun _ => ?_) (fun _ => ?_) <;> first | (exfalso; omega) | conv => whnf) | (refine brP_ndec (fun _ => ?_) (fun _ => ?_) <;> first | (exfalso; omega) | conv => whnf) | ((first | refine And.intro (DrawOk.mk (by kernel_rfl)) ?_ | refine okI ?_ | refine brP_true (Nat.beq_refl _) ?_ | refine brP_intro (fun _ => ?_) (fun _ => ?_) | refine bndI ?_ | intro _) <;> conv => whnf)))
  refine ⟨[kAll], ?_⟩
  conv => whnf
  refine optP_intro (tk_stps _ X) ?_
  conv => whnf
  refine ⟨_, _, hi, ?_⟩
  conv => whnf
  refine optP_intro (tk_stps _ R) ?_
  conv => whnf
  refine And.intro ?_ ?_
  · conv => whnf
    refine ⟨⟨?_⟩, trivial⟩
    rfl
  · repeat (first | exact trivial | refine And.intro rfl ?_ | refine And.intro (by skip) ?_)
theorem sort_c (g n : Nat) (X : List Stp) (hn : n ≤ X.length) (hX : ∀ s ∈ X, s.ok) (h12 : n ≤ 12) :
    BoxA Try.prog (.fn 97) [(kAll, g, 2, X.map stpA)] [.own kAll g 2 n 0, cmpF] (.tuple []) [(kAll, g, 2, (srt n X).map stpA)] := by
  have hl := len_c n h12
  obtain ⟨lim, hlim⟩ : ∃ lim : Nat, bitsLen n = lim := by
    have : n = 0 ∨ n = 1 ∨ n = 2 ∨ n = 3 ∨ n = 4 ∨ n = 5 ∨ n = 6 ∨ n = 7 ∨ n = 8 ∨ n = 9 ∨ n = 10 ∨ n = 11 ∨ n = 12 := by omega
    rcases this with rfl | rfl | rfl | rfl | rfl | rfl | rfl | rfl | rfl | rfl | rfl | rfl | rfl <;> exact ⟨_, rfl⟩
  rw [hlim] at hl
  have hw : IntKind.u64.wrap (n : Int) = n := by
    have : n = 0 ∨ n = 1 ∨ n = 2 ∨ n = 3 ∨ n = 4 ∨ n = 5 ∨ n = 6 ∨ n = 7 ∨ n = 8 ∨ n = 9 ∨ n = 10 ∨ n = 11 ∨ n = 12 := by omega
    rcases this with rfl | rfl | rfl | rfl | rfl | rfl | rfl | rfl | rfl | rfl | rfl | rfl | rfl <;> rfl
  have hl : PureA Try.prog 101 [.v (.int .u64 (IntKind.u64.wrap n))] (intA lim) := by rw [hw]; exact hl
  have hi := pdq_c g n lim X hn hX h12
  generalize srt n X = R at *
  refine boxA_codeB tabOk { l := 0, f := 97, mat := [100] } mixed call_97 Try.func97 (by kernel_rfl) ?_
  conv => whnf
  repeat (any_goals (first | exact falseI | (refine brP_dec (fun _ => ?_) (fun _ => ?_) <;> first | (exfalso; omega) | conv => whnf) | (refine brP_ndec (fun _ => ?_) (fun _ => ?_) <;> first | (exfalso; omega) | conv => whnf) | ((first | refine callP_a hl ?_ | refine And.intro (DrawOk.mk (by kernel_rfl)) ?_ | refine okI ?_ | refine brP_true (Nat.beq_refl _) ?_ | refine brP_intro (fun _ => ?_) (fun _ => ?_) | refine bndI ?_ | intro _) <;> conv => whnf)))
  refine ⟨[kAll], ?_⟩
  conv => whnf
  refine optP_intro (tk_stps _ X) ?_
  conv => whnf
  refine ⟨_, _, hi, ?_⟩
  conv => whnf
  refine optP_intro (tk_stps _ R) ?_
  conv => whnf
  refine And.intro ?_ ?_
  · conv => whnf
    refine ⟨⟨?_⟩, trivial⟩
    rfl
  · repeat (first | exact trivial | refine And.intro rfl ?_ | refine And.intro (by skip) ?_)
end Go.Proofs.Ytmggofcaeolaiaa
namespace Go.Proofs.Ytmggofcaeolaiaa
open Go.Am Go.Proofs Go
theorem bit_eq : ∀ m : Fin 32, ∀ i : Fin 5, (IntKind.i64.wrap (((BitVec.ofInt 64 ((m.val : Int).fdiv (2 ^ min (i.val : Int).toNat 64)) &&& BitVec.ofInt 64 1).toNat : Nat)) : Int) = if m.val.testBit i.val = true then 1 else 0 := by decide +kernel
theorem or_eq : ∀ m : Fin 32, ∀ i : Fin 5, (IntKind.i64.wrap (((BitVec.ofInt 64 (m.val : Int) ||| BitVec.ofInt 64 (IntKind.i64.wrap (1 * 2 ^ min (i.val : Int).toNat 64))).toNat : Nat)) : Int) = ((m.val ||| 2 ^ i.val : Nat) : Int) := by decide +kernel
def unset (m : Nat) : Nat := (List.range 5).countP fun j => !m.testBit j
theorem unset_or : ∀ m : Fin 32, ∀ i : Fin 5, m.val.testBit i.val = false → unset (m.val ||| 2 ^ i.val) < unset m.val ∧ m.val ||| 2 ^ i.val < 32 := by decide +kernel
def idxF (w : Int) : List Fig → Option Nat
  | [] => none
  | f :: l => if f.has = w then some 0 else (idxF w l).map (· + 1)
def entsFrom : Nat → List Fig → List AV
  | _, [] => []
  | n, f :: l => .tuple [intA f.has, intA n] :: entsFrom (n + 1) l
theorem entsFrom_find (w : Int) : ∀ (l : List Fig) (n m : Nat), mapFind (.one (.int .i64)) (entsFrom n l) (.int .i64 w) m = some ((idxF w l).map fun j => (m + j, intA ((n + j : Nat) : Int)))
  | [], n, m => rfl
  | f :: l, n, m => by
    have ht : toVal (intA f.has) = some (.int .i64 f.has) := rfl
    have ht2 : (KK.one (.int .i64)).typed (.int .i64 f.has) = true := rfl
    simp only [entsFrom, mapFind, ht, ht2, if_true, idxF]
    by_cases e : f.has = w
    · rw [if_pos (by simp [eqV, eqC, e]), if_pos e]
      rfl
    · rw [if_neg (by simp [eqV, eqC]; exact fun h => e h.symm), if_neg e, entsFrom_find w l (n + 1) (m + 1)]
      cases idxF w l with
      | none => rfl
      | some j => simp only [Option.map_some]; rw [show m + 1 + j = m + (j + 1) by omega, show n + 1 + j = n + (j + 1) by omega]
theorem entsFrom_snoc (f : Fig) : ∀ (l : List Fig) (n : Nat), entsFrom n (l ++ [f]) = entsFrom n l ++ [.tuple [intA f.has, intA ((n + l.length : Nat) : Int)]]
  | [], n => rfl
  | x :: l, n => by
    simp only [List.cons_append, entsFrom, entsFrom_snoc f l (n + 1), List.length_cons]
    rw [show n + 1 + l.length = n + (l.length + 1) by omega]
theorem idxF_lt {w : Int} : ∀ {l : List Fig} {j : Nat}, idxF w l = some j → j < l.length
  | [], j, h => by simp [idxF] at h
  | f :: l, j, h => by
    simp only [idxF] at h
    split at h
    · simp at h; subst h; simp
    · cases hi : idxF w l with
      | none => simp [hi] at h
      | some k => simp [hi] at h; subst h; have := idxF_lt hi; simp; omega
def follow (nx : Nat → Nat) : Nat → Nat → Nat → List Nat × Nat
  | 0, m, _ => ([], m)
  | n + 1, m, i => if m.testBit i = true then ([], m) else (i :: (follow nx n (m ||| 2 ^ i) (nx i)).1, (follow nx n (m ||| 2 ^ i) (nx i)).2)
def Row.nxt (r : Row) (i : Nat) : Nat := match r.figs[i]? with
  | some f => (idxF f.wants r.figs).getD 0
  | none => 0
def k17 : Key := ⟨0, 34, 17⟩
def k18 : Key := ⟨0, 34, 18⟩
def k7 : Key := ⟨0, 34, 7⟩
def k1 : Key := ⟨0, 34, 1⟩
def kO : Key := ⟨0, 34, 33⟩
def followF : AV := .func (.func 75) [] [.ptr k17 1 1 0 0, .ptr k18 1 1 0 0, .ptr k7 1 1 0 0, .ptr k1 1 3 0 0]
def preL (r : Row) (m : Nat) : List BoxE := [(k17, 1, 1, [intA m]), (k18, 1, 1, [followF]), (k7, 1, 1, [.mp kO 1]), (kO, 1, 0, .v (.int .i64 0) :: entsFrom 0 r.figs), (k1, 1, 3, [rowA r])]
def natsL (l : List Nat) : List AV := l.map fun i : Nat => intA (i : Int)
def followA (l : List Nat) : AV := match l with
  | [] => .slice 0 [] .tight
  | x :: l => .slice 1 (natsL (x :: l)) (.own ⟨0, 75, 28⟩ 1)
theorem follow_len (nx : Nat → Nat) : ∀ (n m i : Nat), (follow nx n m i).1.length ≤ n
  | 0, m, i => Nat.le_refl _
  | n + 1, m, i => by
    unfold follow
    split
    · simp
    · have := follow_len nx n (m ||| 2 ^ i) (nx i)
      simp only [List.length_cons]; omega
theorem follow_c (r : Row) (h5 : r.figs.length ≤ 5) (hw : ∀ (i : Nat) (f : Fig), r.figs[i]? = some f → ∃ j, idxF f.wants r.figs = some j) :
    ∀ (n m i : Nat), n ≤ 100 → unset m < n → m < 32 → i < r.figs.length →
      BoxA Try.prog (.fn 75) (preL r m) [intA i, .ptr k17 1 1 0 0, .ptr k18 1 1 0 0, .ptr k7 1 1 0 0, .ptr k1 1 3 0 0] (followA (follow r.nxt n m i).1) (preL r (follow r.nxt n m i).2)
  | 0, m, i, _, h, _, _ => absurd h (by omega)
  | n + 1, m, i, h100, hu, hm, hi => by
    have hbit := bit_eq ⟨m, hm⟩ ⟨i, by omega⟩
    have hor := or_eq ⟨m, hm⟩ ⟨i, by omega⟩
    have hun := unset_or ⟨m, hm⟩ ⟨i, by omega⟩
    simp only at hbit hor hun
    unfold follow
    by_cases hb : m.testBit i = true
    · rw [if_pos hb] at hbit ⊢
      refine boxA_codeB tabOk { l := 0, f := 75, mat := [75] } mixed call_75 Try.func75 (by kernel_rfl) ?_
      conv => whnf
      repeat (any_goals (first | exact falseI | (refine brP_dec (fun _ => ?_) (fun _ => ?_) <;> first | (exfalso; omega) | conv => whnf) | (refine brP_ndec (fun _ => ?_) (fun _ => ?_) <;> first | (exfalso; omega) | conv => whnf) | ((first | refine And.intro (DrawOk.mk (by kernel_rfl)) ?_ | refine okI ?_ | refine brP_true (Nat.beq_refl _) ?_ | refine brP_intro (fun _ => ?_) (fun _ => ?_) | refine bndI ?_ | intro _) <;> conv => whnf)))
      · refine And.intro ?_ ?_
        · conv => whnf
          refine ⟨⟨?_⟩, trivial⟩
          rfl
        · repeat (first | exact trivial | refine And.intro rfl ?_ | refine And.intro (by skip) ?_)
      · rename_i h; exact absurd hbit h
    · rw [if_neg hb] at hbit ⊢
      obtain ⟨hu2, hm2⟩ := hun (Bool.eq_false_iff.2 hb)
      obtain ⟨f, hf, _⟩ := drop_cons (l := r.figs) (i := i) hi
      obtain ⟨j, hj⟩ := hw i f hf
      have hn : r.nxt i = j := by simp [Row.nxt, hf, hj]
      have hfind := entsFrom_find f.wants r.figs 0 0
      rw [hj] at hfind
      simp only [Option.map_some, Nat.zero_add] at hfind
      have ih := follow_c r h5 hw n (m ||| 2 ^ i) j (by omega) (by omega) hm2 (idxF_lt hj)
      have hlen := follow_len r.nxt n (m ||| 2 ^ i) j
      rw [hn]
      generalize follow r.nxt n (m ||| 2 ^ i) j = F at *
      obtain ⟨l', m'⟩ := F
      simp only at ih hlen ⊢
      have ih : BoxA Try.prog (.fn 75) [(k17, 1, 1, [.v (.int .i64 (IntKind.i64.wrap (((BitVec.ofInt 64 (m : Int) ||| BitVec.ofInt 64 (IntKind.i64.wrap (1 * 2 ^ min (i : Int).toNat 64))).toNat : Nat))))]), (k18, 1, 1, [followF]), (k7, 1, 1, [.mp kO 1]), (kO, 1, 0, .v (.int .i64 0) :: entsFrom 0 r.figs), (k1, 1, 3, [rowA r])]
          [intA j, .ptr k17 1 1 0 0, .ptr k18 1 1 0 0, .ptr k7 1 1 0 0, .ptr k1 1 3 0 0] (followA l') (preL r m') := by rw [hor]; exact ih
      cases l' with
      | nil =>
        refine boxA_codeB tabOk { l := 0, f := 75, mat := [75] } mixed call_75 Try.func75 (by kernel_rfl) ?_
        conv => whnf
        repeat (any_goals (first | exact falseI | (refine brP_dec (fun _ => ?_) (fun _ => ?_) <;> first | (exfalso; omega) | conv => whnf) | (refine brP_ndec (fun _ => ?_) (fun _ => ?_) <;> first | (exfalso; omega) | conv => whnf) | ((first | refine optP_map hf rfl ?_ | rw [hfind] | refine And.intro (DrawOk.mk (by kernel_rfl)) ?_ | refine okI ?_ | refine brP_true (Nat.beq_refl _) ?_ | refine brP_intro (fun _ => ?_) (fun _ => ?_) | refine bndI ?_ | intro _) <;> conv => whnf)))
        · rename_i h; exact absurd (hbit.symm.trans h) (by decide)
        · refine ⟨[k17, k18, k7, kO, k1], ?_⟩
          conv => whnf
          refine ⟨_, _, ih, ?_⟩
          conv => whnf
          repeat (any_goals (first | exact falseI | (refine brP_dec (fun _ => ?_) (fun _ => ?_) <;> first | (exfalso; omega) | conv => whnf) | (refine brP_ndec (fun _ => ?_) (fun _ => ?_) <;> first | (exfalso; omega) | conv => whnf) | ((first | refine And.intro (DrawOk.mk (by kernel_rfl)) ?_ | refine okI ?_ | refine brP_true (Nat.beq_refl _) ?_ | refine brP_intro (fun _ => ?_) (fun _ => ?_) | refine bndI ?_ | intro _) <;> conv => whnf)))
          refine And.intro ?_ ?_
          · conv => whnf
            refine ⟨⟨?_⟩, trivial⟩
            rfl
          · repeat (first | exact trivial | refine And.intro rfl ?_ | refine And.intro (by skip) ?_)
      | cons x l'' =>
        simp only [List.length_cons] at hlen
        have hlen2 : (natsL (x :: l'')).length ≤ 101 := by simp [natsL]; omega
        refine boxA_codeB tabOk { l := 0, f := 75, mat := [75] } mixed call_75 Try.func75 (by kernel_rfl) ?_
        conv => whnf
        repeat (any_goals (first | exact falseI | (refine brP_dec (fun _ => ?_) (fun _ => ?_) <;> first | (exfalso; omega) | conv => whnf) | (refine brP_ndec (fun _ => ?_) (fun _ => ?_) <;> first | (exfalso; omega) | conv => whnf) | ((first | refine optP_map hf rfl ?_ | rw [hfind] | refine And.intro (DrawOk.mk (by kernel_rfl)) ?_ | refine okI ?_ | refine brP_true (Nat.beq_refl _) ?_ | refine brP_intro (fun _ => ?_) (fun _ => ?_) | refine bndI ?_ | intro _) <;> conv => whnf)))
        · rename_i h; exact absurd (hbit.symm.trans h) (by decide)
        · refine ⟨[k17, k18, k7, kO, k1], ?_⟩
          conv => whnf
          refine ⟨_, _, ih, ?_⟩
          conv => whnf
          repeat (any_goals (first | exact falseI | (refine brP_dec (fun _ => ?_) (fun _ => ?_) <;> first | (exfalso; omega) | conv => whnf) | (refine brP_ndec (fun _ => ?_) (fun _ => ?_) <;> first | (exfalso; omega) | conv => whnf) | ((first | refine And.intro (DrawOk.mk (by kernel_rfl)) ?_ | refine okI ?_ | refine brP_true (Nat.beq_refl _) ?_ | refine brP_intro (fun _ => ?_) (fun _ => ?_) | refine bndI ?_ | intro _) <;> conv => whnf)))
          refine And.intro ?_ ?_
          · conv => whnf
            refine ⟨⟨?_⟩, trivial⟩
            rfl
          · repeat (first | exact trivial | refine And.intro rfl ?_ | refine And.intro (by skip) ?_)
end Go.Proofs.Ytmggofcaeolaiaa
namespace Go.Proofs.Ytmggofcaeolaiaa
open Go.Am Go.Proofs Go
def lookR (r : Row) (p : List Part) : AV := .cptr (rowX r p).cells
theorem lookP_c (r : Row) (hr : r.small) (hc : r.check.2.2 = 0) : PureA Try.prog 62 [rowA r] (.tuple [lookR r r.parts, intA 0]) := by
  have h5 := check_len hc
  have hk := check_c r hr
  unfold triA at hk
  rw [hc] at hk
  refine pureA_codeB tabOk { l := 0, f := 62 } mixed call_62 Try.func62 (by kernel_rfl) ?_
  conv => whnf
  repeat (any_goals (first | exact falseI | (refine brP_dec (fun _ => ?_) (fun _ => ?_) <;> first | (exfalso; omega) | conv => whnf) | (refine brP_ndec (fun _ => ?_) (fun _ => ?_) <;> first | (exfalso; omega) | conv => whnf) | ((first | refine callP_a hk ?_ | refine And.intro (DrawOk.mk (by kernel_rfl)) ?_ | refine okI ?_ | refine brP_true (Nat.beq_refl _) ?_ | refine brP_intro (fun _ => ?_) (fun _ => ?_) | refine bndI ?_ | intro _) <;> conv => whnf)))
  refine loopK tabOk { l := 0, f := 62 } mixed (fun i : Nat => [(25, intA i)]) (fun i => [(kRow, some (1, some (13, [rowX r (partsTo r.figs i)])))]) (fun _ => []) (fun i => i ≤ r.figs.length) (fun i => r.figs.length - i) 0 (by kernel_rfl)
    (Nat.zero_le _) ?_
  conv => whnf
  refine ⟨⟨slotsLe_cons rfl trivial, keysLe_cons rfl trivial, trivial⟩, ?_⟩
  intro i hi
  conv => whnf
  refine brP_dec (fun h1 => ?_) (fun h1 => ?_)
  · simp only [List.length_map] at h1
    obtain ⟨x, hx, hd⟩ := drop_cons (l := r.figs) (i := i) (by omega)
    conv => whnf
    have hp := partsTo_len r.figs i hi h5
    have hs := partsTo_succ r.figs i x hx h5
    generalize partsTo r.figs i = p at *
    obtain ⟨p0, p1, p2, p3, p4, rfl⟩ := list5 hp
    clear hd hp hk hc hr
    rcases lt5 (by omega : i < 5) with rfl | rfl | rfl | rfl | rfl
    · repeat (any_goals (first | exact falseI | (refine brP_dec (fun _ => ?_) (fun _ => ?_) <;> first | (exfalso; omega) | conv => whnf) | (refine brP_ndec (fun _ => ?_) (fun _ => ?_) <;> first | (exfalso; omega) | conv => whnf) | ((first | refine optP_map hx rfl ?_ | refine And.intro (DrawOk.mk (by kernel_rfl)) ?_ | refine okI ?_ | refine brP_true (Nat.beq_refl _) ?_ | refine brP_intro (fun _ => ?_) (fun _ => ?_) | refine bndI ?_ | intro _) <;> conv => whnf)))
      (refine ⟨1, (by omega), by omega, ?_⟩; (conv => whnf); refine ⟨?_, ?_, ?_⟩ <;> repeat (first | exact trivial | refine slotsLe_cons rfl ?_ | refine keysLe_none ?_ | refine keysLe_cons rfl ?_ | refine slotsLe_cons (by (rw [← hs]; rfl)) ?_ | refine keysLe_cons (by (rw [← hs]; rfl)) ?_))
    · repeat (any_goals (first | exact falseI | (refine brP_dec (fun _ => ?_) (fun _ => ?_) <;> first | (exfalso; omega) | conv => whnf) | (refine brP_ndec (fun _ => ?_) (fun _ => ?_) <;> first | (exfalso; omega) | conv => whnf) | ((first | refine optP_map hx rfl ?_ | refine And.intro (DrawOk.mk (by kernel_rfl)) ?_ | refine okI ?_ | refine brP_true (Nat.beq_refl _) ?_ | refine brP_intro (fun _ => ?_) (fun _ => ?_) | refine bndI ?_ | intro _) <;> conv => whnf)))
      (refine ⟨2, (by omega), by omega, ?_⟩; (conv => whnf); refine ⟨?_, ?_, ?_⟩ <;> repeat (first | exact trivial | refine slotsLe_cons rfl ?_ | refine keysLe_none ?_ | refine keysLe_cons rfl ?_ | refine slotsLe_cons (by (rw [← hs]; rfl)) ?_ | refine keysLe_cons (by (rw [← hs]; rfl)) ?_))
    · repeat (any_goals (first | exact falseI | (refine brP_dec (fun _ => ?_) (fun _ => ?_) <;> first | (exfalso; omega) | conv => whnf) | (refine brP_ndec (fun _ => ?_) (fun _ => ?_) <;> first | (exfalso; omega) | conv => whnf) | ((first | refine optP_map hx rfl ?_ | refine And.intro (DrawOk.mk (by kernel_rfl)) ?_ | refine okI ?_ | refine brP_true (Nat.beq_refl _) ?_ | refine brP_intro (fun _ => ?_) (fun _ => ?_) | refine bndI ?_ | intro _) <;> conv => whnf)))
      (refine ⟨3, (by omega), by omega, ?_⟩; (conv => whnf); refine ⟨?_, ?_, ?_⟩ <;> repeat (first | exact trivial | refine slotsLe_cons rfl ?_ | refine keysLe_none ?_ | refine keysLe_cons rfl ?_ | refine slotsLe_cons (by (rw [← hs]; rfl)) ?_ | refine keysLe_cons (by (rw [← hs]; rfl)) ?_))
    · repeat (any_goals (first | exact falseI | (refine brP_dec (fun _ => ?_) (fun _ => ?_) <;> first | (exfalso; omega) | conv => whnf) | (refine brP_ndec (fun _ => ?_) (fun _ => ?_) <;> first | (exfalso; omega) | conv => whnf) | ((first | refine optP_map hx rfl ?_ | refine And.intro (DrawOk.mk (by kernel_rfl)) ?_ | refine okI ?_ | refine brP_true (Nat.beq_refl _) ?_ | refine brP_intro (fun _ => ?_) (fun _ => ?_) | refine bndI ?_ | intro _) <;> conv => whnf)))
      (refine ⟨4, (by omega), by omega, ?_⟩; (conv => whnf); refine ⟨?_, ?_, ?_⟩ <;> repeat (first | exact trivial | refine slotsLe_cons rfl ?_ | refine keysLe_none ?_ | refine keysLe_cons rfl ?_ | refine slotsLe_cons (by (rw [← hs]; rfl)) ?_ | refine keysLe_cons (by (rw [← hs]; rfl)) ?_))
    · repeat (any_goals (first | exact falseI | (refine brP_dec (fun _ => ?_) (fun _ => ?_) <;> first | (exfalso; omega) | conv => whnf) | (refine brP_ndec (fun _ => ?_) (fun _ => ?_) <;> first | (exfalso; omega) | conv => whnf) | ((first | refine optP_map hx rfl ?_ | refine And.intro (DrawOk.mk (by kernel_rfl)) ?_ | refine okI ?_ | refine brP_true (Nat.beq_refl _) ?_ | refine brP_intro (fun _ => ?_) (fun _ => ?_) | refine bndI ?_ | intro _) <;> conv => whnf)))
      (refine ⟨5, (by omega), by omega, ?_⟩; (conv => whnf); refine ⟨?_, ?_, ?_⟩ <;> repeat (first | exact trivial | refine slotsLe_cons rfl ?_ | refine keysLe_none ?_ | refine keysLe_cons rfl ?_ | refine slotsLe_cons (by (rw [← hs]; rfl)) ?_ | refine keysLe_cons (by (rw [← hs]; rfl)) ?_))
  · conv => whnf
    simp only [List.length_map] at h1
    have : i = r.figs.length := by omega
    subst this
    have hp := partsTo_len r.figs _ hi h5
    have e : partsTo r.figs r.figs.length = r.parts := rfl
    rw [e] at hp ⊢
    generalize r.parts = p at *
    obtain ⟨p0, p1, p2, p3, p4, rfl⟩ := list5 hp
    (refine ⟨⟨?_⟩, trivial⟩; rfl)
theorem lookN_c (r : Row) (hr : r.small) (hc : r.check.2.2 ≠ 0) : PureA Try.prog 62 [rowA r] (.tuple [nilPtr, intA r.check.2.2]) := by
  have hk := check_c r hr
  unfold triA at hk
  generalize r.check = c at *
  obtain ⟨c1, c2, c3⟩ := c
  refine pureA_codeB tabOk { l := 0, f := 62 } mixed call_62 Try.func62 (by kernel_rfl) ?_
  conv => whnf
  repeat (any_goals (first | exact falseI | (refine brP_dec (fun _ => ?_) (fun _ => ?_) <;> first | (exfalso; omega) | conv => whnf) | (refine brP_ndec (fun _ => ?_) (fun _ => ?_) <;> first | (exfalso; omega) | conv => whnf) | ((first | refine callP_a hk ?_ | refine And.intro (DrawOk.mk (by kernel_rfl)) ?_ | refine okI ?_ | refine brP_true (Nat.beq_refl _) ?_ | refine brP_intro (fun _ => ?_) (fun _ => ?_) | refine bndI ?_ | intro _) <;> conv => whnf)))
  (refine ⟨⟨?_⟩, trivial⟩; rfl)
theorem wrongP_c (r : Row) (p p' : List Part) (hp : p.length = 5) (hp' : p'.length = 5) (h5 : r.figs.length ≤ 5) : PureA Try.prog 63 [lookR r p', partsA p] (intsA (r.wrong p)) := by
  have hlen := selFrom_len (fun i f => isWrong f (p.getD i zeroP)) 0 r.figs
  have hR : r.wrong p = selFrom (fun i f => isWrong f (p.getD i zeroP)) 0 r.figs := rfl
  rw [← hR] at hlen
  generalize r.wrong p = R at *
  obtain ⟨p0, p1, p2, p3, p4, hpe⟩ := list5 hp
  subst hpe
  obtain ⟨q0, q1, q2, q3, q4, hpe⟩ := list5 hp'
  subst hpe
  refine pureA_codeB tabOk { l := 0, f := 63 } mixed call_63 Try.func63 (by kernel_rfl) ?_
  conv => whnf
  repeat (any_goals (first | exact falseI | (refine brP_dec (fun _ => ?_) (fun _ => ?_) <;> first | (exfalso; omega) | conv => whnf) | (refine brP_ndec (fun _ => ?_) (fun _ => ?_) <;> first | (exfalso; omega) | conv => whnf) | ((first | refine And.intro (DrawOk.mk (by kernel_rfl)) ?_ | refine okI ?_ | refine brP_true (Nat.beq_refl _) ?_ | refine brP_intro (fun _ => ?_) (fun _ => ?_) | refine bndI ?_ | intro _) <;> conv => whnf)))
  refine loopTok 4 1 ⟨0, 63, 33⟩ ?_
  conv => whnf
  repeat (any_goals (first | exact falseI | (refine brP_dec (fun _ => ?_) (fun _ => ?_) <;> first | (exfalso; omega) | conv => whnf) | (refine brP_ndec (fun _ => ?_) (fun _ => ?_) <;> first | (exfalso; omega) | conv => whnf) | ((first | refine And.intro (DrawOk.mk (by kernel_rfl)) ?_ | refine okI ?_ | refine brP_true (Nat.beq_refl _) ?_ | refine brP_intro (fun _ => ?_) (fun _ => ?_) | refine bndI ?_ | intro _) <;> conv => whnf)))
  refine loopK tabOk { l := 0, f := 63 } mixed (fun a : Nat × List Int => [(13, intA a.1), (4, .slice 1 (a.2.map intA) (.own ⟨0, 63, 33⟩ 1))]) (fun _ => []) (fun a => [(⟨0, 63, 33⟩, some (1, a.2.length))]) (fun a => a.1 ≤ r.figs.length ∧ R = a.2 ++ selFrom (fun i f => isWrong f ([p0, p1, p2, p3, p4].getD i zeroP)) a.1 (r.figs.drop a.1)) (fun a => r.figs.length - a.1) (0, []) (by kernel_rfl)
    ⟨Nat.zero_le _, hR⟩ ?_
  conv => whnf
  refine ⟨⟨slotsLe_cons rfl (slotsLe_cons rfl trivial), trivial, keysLe_cons rfl trivial⟩, ?_⟩
  intro ⟨i, acc⟩ ⟨hi, H⟩
  simp only at hi H
  conv => whnf
  refine brP_dec (fun h1 => ?_) (fun h1 => ?_)
  · simp only [List.length_map] at h1
    obtain ⟨x, hx, hd⟩ := drop_cons (l := r.figs) (i := i) (by omega)
    rw [hd] at H
    simp only [selFrom] at H
    have hl : acc.length ≤ 1048576 := by have := congrArg List.length H; simp at this; omega
    obtain ⟨q, hq⟩ : ∃ q, [p0, p1, p2, p3, p4][i]? = some q := ⟨[p0, p1, p2, p3, p4][i]'(by simp; omega), by simp⟩
    have hq' : [p0, p1, p2, p3, p4].getD i zeroP = q := by simp only [List.getD, hq]; rfl
    simp only [hq'] at H
    have hg : List.take 2 (List.drop (0 + (i : Int).toNat * 2) (partsC [p0, p1, p2, p3, p4])) = partC q := by simpa using partsC_get _ i q hq
    have hb : Nat.ble (0 + (i : Int).toNat * 2 + 2) 10 = true := by simp; omega
    conv => whnf
    repeat (any_goals (first | exact falseI | (refine brP_dec (fun _ => ?_) (fun _ => ?_) <;> first | (exfalso; omega) | conv => whnf) | (refine brP_ndec (fun _ => ?_) (fun _ => ?_) <;> first | (exfalso; omega) | conv => whnf) | ((first | refine optP_map hx rfl ?_ | refine okP_intro hb ?_ | refine forceL_to hg ?_ | refine And.intro (DrawOk.mk (by kernel_rfl)) ?_ | refine okI ?_ | refine brP_true (Nat.beq_refl _) ?_ | refine brP_intro (fun _ => ?_) (fun _ => ?_) | refine bndI ?_ | intro _) <;> conv => whnf)))
    · rename_i h2
      have hw : isWrong x q = false := by simp [isWrong, h2]
      simp only [hw, Bool.false_eq_true, if_false] at H
      (refine ⟨(i + 1, acc), ⟨by simp only; omega, by simpa using H⟩, (by simp only; omega), ?_⟩; (conv => whnf); refine ⟨?_, ?_, ?_⟩ <;> repeat (first | exact trivial | refine slotsLe_cons rfl ?_ | refine keysLe_none ?_ | refine keysLe_cons rfl ?_))
    · rename_i h2 h3 _
      have hw : isWrong x q = true := by simp only [isWrong, h2, h3, decide_false, Bool.not_false, Bool.and_self]
      simp only [hw, if_true] at H
      (refine ⟨(i + 1, acc ++ [(i : Int)]), ⟨by simp only; omega, by simpa using H⟩, (by simp only; omega), ?_⟩; (conv => whnf); refine ⟨?_, ?_, ?_⟩ <;> repeat (first | exact trivial | refine slotsLe_cons rfl ?_ | refine keysLe_none ?_ | refine keysLe_cons rfl ?_ | refine slotsLe_cons (by first | (simp only [List.map_append]; rfl) | ((conv => lhs; whnf); simp; done) | ((conv => lhs; whnf); simp; omega)) ?_ | refine keysLe_cons (by first | (simp only [List.map_append]; rfl) | ((conv => lhs; whnf); simp; done) | ((conv => lhs; whnf); simp; omega)) ?_))
    · rename_i h2 h3
      have hw : isWrong x q = false := by simp only [isWrong, h2, h3, decide_false, Bool.and_false]
      simp only [hw, Bool.false_eq_true, if_false] at H
      (refine ⟨(i + 1, acc), ⟨by simp only; omega, by simpa using H⟩, (by simp only; omega), ?_⟩; (conv => whnf); refine ⟨?_, ?_, ?_⟩ <;> repeat (first | exact trivial | refine slotsLe_cons rfl ?_ | refine keysLe_none ?_ | refine keysLe_cons rfl ?_))
  · conv => whnf
    simp only [List.length_map] at h1
    have : i = r.figs.length := by omega
    subst this
    simp only [List.drop_length, selFrom, List.append_nil] at H
    (refine ⟨⟨?_⟩, trivial⟩; rw [H]; rfl)
end Go.Proofs.Ytmggofcaeolaiaa
namespace Go.Proofs.Ytmggofcaeolaiaa
open Go.Am Go.Proofs Go
structure Found where
  parts : List Part
  last : Stp
  behind : Int
  many : Nat
def foundA (f : Found) : AV := .agg (partsC f.parts ++ [intA f.last.a, intA f.last.b, intA f.behind, intA f.many])
def entA (f : Found) : AV := .tuple [partsA f.parts, intA 1]
def kF : Key := ⟨0, 71, 18⟩
def kM : Key := ⟨0, 71, 21⟩
def kL : Key := ({ l := 0, f := 71 } : Cx).loopKey #[62]
structure Sea where
  r : Row
  p0 : List Part
  kx : Key
  dF : AV
  E : List BoxE
  gl : Nat
  aC : Code
  bC : Code
  l : List AV
  most : Int
  i : Int
  own : Found
  g7 : Nat
  g8 : Nat
def Sea.pre (s : Sea) (all : List Found) : List BoxE :=
  (kL, s.gl, 0, [.lp .ready none #[62] s.aC s.bC s.l]) :: (s.kx, 1, 3, [.agg [.own kF all.length 14 all.length 0, intA s.most, s.dF]]) :: (kF, all.length, 14, all.map foundA) ::
    (kM, 1, 0, .v (.int .i64 0) :: all.map entA) :: (⟨0, 71, 2⟩, 1, 1, [.ptr s.kx 1 3 0 0]) :: (⟨0, 71, 5⟩, 1, 1, [.mp kM 1]) :: (⟨0, 71, 6⟩, 1, 1, [.func (.func 64) [lookR s.r s.p0] []]) ::
    (⟨0, 71, 7⟩, s.g7, 1, [intA s.i]) :: (⟨0, 71, 8⟩, s.g8, 14, [foundA s.own]) :: s.E
def Sea.keys (s : Sea) : List Key := keysE (s.pre [])
structure Sea.Ok (s : Sea) : Prop where
  at_ : (s.kx = ⟨0, 68, 4⟩ ∧ s.dF = .func (.func 89) [] [.ptr ⟨0, 68, 1⟩ 1 1 0 0] ∧ s.E = [(⟨0, 68, 1⟩, 1, 1, [lookR s.r s.p0])]) ∨
    (s.kx = ⟨0, 28, 6⟩ ∧ s.dF = .func (.func 70) [] [] ∧ s.E = []) ∨ (s.kx = ⟨0, 30, 8⟩ ∧ s.dF = .func (.func 72) [] [] ∧ s.E = [])
  l : tkJs s.keys s.l = s.l
  own : s.own.parts.length = 5
  p0 : s.p0.length = 5
def zeroS : Stp := ⟨0, 0⟩
def Row.sorted (r : Row) : List Stp :=
  if r.bench = -1 then (srt r.beside.length (r.beside ++ [zeroS])).take r.beside.length else srt (r.beside.length + 1) (r.beside ++ [⟨r.bench, r.bench⟩])
theorem partsC_tk (ks : List Key) : ∀ (p : List Part) (c l : List AV), tkL (tk1 ks) c = some l → tkL (tk1 ks) (partsC p ++ c) = some (partsC p ++ l)
  | [], c, l, h => h
  | q :: p, c, l, h => by
    have := partsC_tk ks p c l h
    simp only [partsC, List.cons_append, tkL, this]
    rfl
theorem tk_found (ks : List Key) (l : List Found) : tkL (tk2 ks) (l.map foundA) = some (l.map foundA) :=
  tkL_map (f := foundA) (g := tk2 ks) (fun f => by
    have := partsC_tk ks f.parts [intA f.last.a, intA f.last.b, intA f.behind, intA f.many] _ rfl
    unfold foundA
    show (match tkL (tk1 ks) _ with | some a => some (AV.agg a) | none => none) = _
    rw [this]
    rfl) l
theorem srtI_len : ∀ (k i : Nat) (L : List Stp), (srtI k i L).length = L.length
  | 0, i, L => rfl
  | k + 1, i, L => by rw [srtI, srtI_len k, bub_len]
set_option maxHeartbeats 2000000 in
theorem iter_c (S : Sea) (hS : S.Ok) (hg : S.r.Good) (h10 : S.r.beside.length ≤ 10) (ok : List Found → Prop) (nx : List Found → Stp → List Found)
    (hy : ∀ all s, ok all → s ∈ S.r.sorted → BoxA Try.prog (.yld kL S.gl) (S.pre all) [stpA s] (boolA true) (S.pre (nx all s)) ∧ ok (nx all s)) (all0 : List Found) (h0 : ok all0) :
    BoxA Try.prog (.fn 96) (S.pre all0) [.yld kL S.gl, .cptr [lookR S.r S.p0]] (.tuple []) (S.pre (S.r.sorted.foldl nx all0)) := by
  obtain ⟨r, p0, kx, dF, E, gl, aC, bC, l, most, i, own, g7, g8⟩ := S
  obtain ⟨hat, hl, hown, hp0⟩ := hS
  obtain ⟨oP, oL, oB, oM⟩ := own
  simp only at *
  obtain ⟨p1, p2, p3, p4, p5, rfl⟩ := list5 hp0
  obtain ⟨o1, o2, o3, o4, o5, rfl⟩ := list5 hown
  have hb := hg.benchB
  have hlen := hg.len
  rcases hat with ⟨rfl, rfl, rfl⟩ | ⟨rfl, rfl, rfl⟩ | ⟨rfl, rfl, rfl⟩
  · by_cases hbe : r.bench = -1
    · simp only [Row.sorted, if_pos hbe] at hy ⊢
      have hX : ((r.beside.map stpA).take (min (r.beside.map stpA).length (r.beside.map stpA).length) ++ (List.replicate ((r.beside.map stpA).length + 1) (AV.agg [intA 0, intA 0])).drop (min (r.beside.map stpA).length (r.beside.map stpA).length)) = (r.beside ++ [zeroS]).map stpA := by
        simp only [Nat.min_self, List.take_length, List.map_append]
        rw [List.drop_replicate, Nat.add_sub_cancel_left]
        rfl
      have hso : BoxA Try.prog (.fn 97) [(kAll, 1, 2, (r.beside ++ [zeroS]).map stpA)] [.own kAll 1 2 (r.beside.map stpA).length 0, cmpF] (.tuple []) [(kAll, 1, 2, (srt r.beside.length (r.beside ++ [zeroS])).map stpA)] := by
        rw [List.length_map]
        exact sort_c 1 r.beside.length (r.beside ++ [zeroS]) (by simp) (by
          intro s hs
          rcases List.mem_append.1 hs with hs | hs
          · have := hg.bound s hs
            unfold Stp.ok; omega
          · simp at hs; subst hs; exact ⟨by decide, by decide, by decide, by decide⟩) (by omega)
      have hL : (srt r.beside.length (r.beside ++ [zeroS])).length = r.beside.length + 1 := by unfold srt; rw [srtI_len]; simp
      generalize srt r.beside.length (r.beside ++ [zeroS]) = L at *
      have hml : (r.beside.map stpA).length = r.beside.length := List.length_map ..
      generalize hR : (L.take r.beside.length).foldl nx all0 = R
      refine boxA_codeB tabOk { l := 0, f := 96, mat := [97] } mixed call_96 Try.func96 (by kernel_rfl) ?_
      conv => whnf
      repeat (any_goals (first | exact falseI | (refine brP_dec (fun _ => ?_) (fun _ => ?_) <;> first | (exfalso; omega) | conv => whnf) | (refine brP_ndec (fun _ => ?_) (fun _ => ?_) <;> first | (exfalso; omega) | conv => whnf) | ((first | refine And.intro (DrawOk.mk (by kernel_rfl)) ?_ | refine okI ?_ | refine brP_true (Nat.beq_refl _) ?_ | refine brP_intro (fun _ => ?_) (fun _ => ?_) | refine bndI ?_ | intro _) <;> conv => whnf)))
      refine ⟨[kAll], ?_⟩
      conv => whnf
      refine optP_intro (x := (r.beside ++ [zeroS]).map stpA) ((congrArg (tkL (tk2 _)) hX).trans (tk_stps _ _)) ?_
      conv => whnf
      refine ⟨_, _, hso, ?_⟩
      conv => whnf
      refine optP_intro (tk_stps _ L) ?_
      conv => whnf
      refine loopK tabOk { l := 0, f := 96, mat := [97] } mixed (fun a : Nat × List Found => [(51, intA a.1)]) (fun a => preK (Sea.pre ⟨r, [p1, p2, p3, p4, p5], ⟨0, 68, 4⟩, .func (.func 89) [] [.ptr ⟨0, 68, 1⟩ 1 1 0 0], [(⟨0, 68, 1⟩, 1, 1, [lookR r [p1, p2, p3, p4, p5]])], gl, aC, bC, l, most, i, ⟨[o1, o2, o3, o4, o5], oL, oB, oM⟩, g7, g8⟩ a.2)) (fun _ => []) (fun a => a.1 ≤ r.beside.length ∧ ok a.2 ∧ ((L.take r.beside.length).drop a.1).foldl nx a.2 = R) (fun a => r.beside.length - a.1) (0, all0) (by kernel_rfl)
        ⟨Nat.zero_le _, h0, hR⟩ ?_
      conv => whnf
      refine ⟨⟨?_, ?_, trivial⟩, ?_⟩
      · repeat (first | exact trivial | refine slotsLe_cons rfl ?_)
      · repeat (first | exact trivial | refine keysLe_cons rfl ?_)
      intro ⟨k, all⟩ ⟨hk, hok, H⟩
      simp only at hk hok H
      have ht : (L.take r.beside.length).length = r.beside.length := by rw [List.length_take, hL]; omega
      conv => whnf
      refine brP_dec (fun h1 => ?_) (fun h1 => ?_)
      · simp only at h1
        obtain ⟨s, hs, hd⟩ := drop_cons (l := L.take r.beside.length) (i := k) (by omega)
        have hsL : L[k]? = some s := by rw [List.getElem?_take] at hs; rw [if_pos (by omega)] at hs; exact hs
        rw [hd, List.foldl_cons] at H
        obtain ⟨hy1, hy2⟩ := hy all s hok (List.mem_of_getElem? hs)
        have hy3 : BoxA Try.prog (Tgt.yld kL gl) (Sea.pre { (⟨r, [p1, p2, p3, p4, p5], ⟨0, 68, 4⟩, .func (.func 89) [] [.ptr ⟨0, 68, 1⟩ 1 1 0 0], [(⟨0, 68, 1⟩, 1, 1, [lookR r [p1, p2, p3, p4, p5]])], gl, aC, bC, l, most, i, ⟨[o1, o2, o3, o4, o5], oL, oB, oM⟩, g7, g8⟩ : Sea) with l := tkJs (Sea.keys ⟨r, [p1, p2, p3, p4, p5], ⟨0, 68, 4⟩, .func (.func 89) [] [.ptr ⟨0, 68, 1⟩ 1 1 0 0], [(⟨0, 68, 1⟩, 1, 1, [lookR r [p1, p2, p3, p4, p5]])], gl, aC, bC, l, most, i, ⟨[o1, o2, o3, o4, o5], oL, oB, oM⟩, g7, g8⟩) l } all) [stpA s] (boolA true) (Sea.pre ⟨r, [p1, p2, p3, p4, p5], ⟨0, 68, 4⟩, .func (.func 89) [] [.ptr ⟨0, 68, 1⟩ 1 1 0 0], [(⟨0, 68, 1⟩, 1, 1, [lookR r [p1, p2, p3, p4, p5]])], gl, aC, bC, l, most, i, ⟨[o1, o2, o3, o4, o5], oL, oB, oM⟩, g7, g8⟩ (nx all s)) := by rw [hl]; exact hy1
        conv => whnf
        repeat (any_goals (first | exact falseI | (refine brP_dec (fun _ => ?_) (fun _ => ?_) <;> first | (exfalso; omega) | conv => whnf) | (refine brP_ndec (fun _ => ?_) (fun _ => ?_) <;> first | (exfalso; omega) | conv => whnf) | ((first | refine optP_map hsL rfl ?_ | refine And.intro (DrawOk.mk (by kernel_rfl)) ?_ | refine okI ?_ | refine brP_true (Nat.beq_refl _) ?_ | refine brP_intro (fun _ => ?_) (fun _ => ?_) | refine bndI ?_ | intro _) <;> conv => whnf)))
        refine ⟨Sea.keys ⟨r, [p1, p2, p3, p4, p5], ⟨0, 68, 4⟩, .func (.func 89) [] [.ptr ⟨0, 68, 1⟩ 1 1 0 0], [(⟨0, 68, 1⟩, 1, 1, [lookR r [p1, p2, p3, p4, p5]])], gl, aC, bC, l, most, i, ⟨[o1, o2, o3, o4, o5], oL, oB, oM⟩, g7, g8⟩, ?_⟩
        conv => whnf
        refine optP_intro (tk_found _ _) ?_
        conv => whnf
        refine ⟨_, _, hy3, ?_⟩
        conv => whnf
        refine optP_intro (tk_found _ _) ?_
        conv => whnf
        repeat (any_goals (first | exact falseI | (refine brP_dec (fun _ => ?_) (fun _ => ?_) <;> first | (exfalso; omega) | conv => whnf) | (refine brP_ndec (fun _ => ?_) (fun _ => ?_) <;> first | (exfalso; omega) | conv => whnf) | ((first | refine And.intro (DrawOk.mk (by kernel_rfl)) ?_ | refine okI ?_ | refine brP_true (Nat.beq_refl _) ?_ | refine brP_intro (fun _ => ?_) (fun _ => ?_) | refine bndI ?_ | intro _) <;> conv => whnf)))
        (refine ⟨(k + 1, nx all s), ⟨by simp only; omega, hy2, H⟩, (by simp only; omega), ?_⟩; (conv => whnf); refine ⟨?_, ?_, ?_⟩ <;> repeat (first | exact trivial | refine slotsLe_cons rfl ?_ | refine keysLe_none ?_ | refine keysLe_cons rfl ?_ | refine slotsLe_cons (by exact congrArg (fun z => some (some (gl, some (0, [AV.lp .ready none #[62] aC bC z])))) hl) ?_ | refine keysLe_cons (by exact congrArg (fun z => some (some (gl, some (0, [AV.lp .ready none #[62] aC bC z])))) hl) ?_))
      · have : k = r.beside.length := by simp only at h1; omega
        subst this
        rw [List.drop_of_length_le (by omega), List.foldl_nil] at H
        subst H
        conv => whnf
        refine And.intro ?_ ?_
        · conv => whnf
          refine ⟨⟨?_⟩, trivial⟩
          rfl
        · repeat (first | exact trivial | refine And.intro rfl ?_ | refine And.intro (by skip) ?_)
    · simp only [Row.sorted, if_neg hbe] at hy ⊢
      have hX : (((r.beside.map stpA).take (min (r.beside.map stpA).length (r.beside.map stpA).length) ++ (List.replicate ((r.beside.map stpA).length + 1) (AV.agg [intA 0, intA 0])).drop (min (r.beside.map stpA).length (r.beside.map stpA).length)).take (r.beside.map stpA).length ++ [stpA ⟨r.bench, r.bench⟩]) = (r.beside ++ [(⟨r.bench, r.bench⟩ : Stp)]).map stpA := by
        simp only [Nat.min_self, List.take_length, List.map_append]
        rw [List.take_left' rfl]
        rfl
      have hso : BoxA Try.prog (.fn 97) [(kAll, 2, 2, (r.beside ++ [(⟨r.bench, r.bench⟩ : Stp)]).map stpA)] [.own kAll 2 2 ((r.beside.map stpA).length + 1) 0, cmpF] (.tuple []) [(kAll, 2, 2, (srt (r.beside.length + 1) (r.beside ++ [⟨r.bench, r.bench⟩])).map stpA)] := by
        rw [List.length_map]
        exact sort_c 2 (r.beside.length + 1) (r.beside ++ [⟨r.bench, r.bench⟩]) (by simp) (by
          intro s hs
          rcases List.mem_append.1 hs with hs | hs
          · have := hg.bound s hs
            unfold Stp.ok; omega
          · simp at hs; subst hs; unfold Stp.ok; simp only; omega) (by omega)
      have hL : (srt (r.beside.length + 1) (r.beside ++ [⟨r.bench, r.bench⟩])).length = r.beside.length + 1 := by unfold srt; rw [srtI_len]; simp
      generalize srt (r.beside.length + 1) (r.beside ++ [⟨r.bench, r.bench⟩]) = L at *
      have hml : (r.beside.map stpA).length = r.beside.length := List.length_map ..
      generalize hR : L.foldl nx all0 = R
      have hlu : ((r.beside.map stpA).take (min (r.beside.map stpA).length (r.beside.map stpA).length) ++ (List.replicate ((r.beside.map stpA).length + 1) (AV.agg [intA 0, intA 0])).drop (min (r.beside.map stpA).length (r.beside.map stpA).length)).length = (r.beside.map stpA).length + 1 := by
        simp
      refine boxA_codeB tabOk { l := 0, f := 96, mat := [97], ow := [46] } mixed call_96 Try.func96 (by kernel_rfl) ?_
      conv => whnf
      repeat (any_goals (first | exact falseI | (refine brP_dec (fun _ => ?_) (fun _ => ?_) <;> first | (exfalso; omega) | conv => whnf) | (refine brP_ndec (fun _ => ?_) (fun _ => ?_) <;> first | (exfalso; omega) | conv => whnf) | ((first | refine And.intro (DrawOk.mk (by kernel_rfl)) ?_ | refine okI ?_ | refine brP_true (Nat.beq_refl _) ?_ | refine brP_intro (fun _ => ?_) (fun _ => ?_) | refine bndI ?_ | intro _) <;> conv => whnf)))
      refine ⟨[kAll], ?_⟩
      conv => whnf
      refine optP_intro (x := (r.beside ++ [(⟨r.bench, r.bench⟩ : Stp)]).map stpA) ((congrArg (tkL (tk2 _)) hX).trans (tk_stps _ _)) ?_
      conv => whnf
      refine ⟨_, _, hso, ?_⟩
      conv => whnf
      refine optP_intro (tk_stps _ L) ?_
      conv => whnf
      refine loopK tabOk { l := 0, f := 96, mat := [97], ow := [46] } mixed (fun a : Nat × List Found => [(51, intA a.1)]) (fun a => preK (Sea.pre ⟨r, [p1, p2, p3, p4, p5], ⟨0, 68, 4⟩, .func (.func 89) [] [.ptr ⟨0, 68, 1⟩ 1 1 0 0], [(⟨0, 68, 1⟩, 1, 1, [lookR r [p1, p2, p3, p4, p5]])], gl, aC, bC, l, most, i, ⟨[o1, o2, o3, o4, o5], oL, oB, oM⟩, g7, g8⟩ a.2)) (fun _ => []) (fun a => a.1 ≤ r.beside.length + 1 ∧ ok a.2 ∧ (L.drop a.1).foldl nx a.2 = R) (fun a => r.beside.length + 1 - a.1) (0, all0) (by kernel_rfl)
        ⟨Nat.zero_le _, h0, hR⟩ ?_
      conv => whnf
      refine ⟨⟨?_, ?_, trivial⟩, ?_⟩
      · repeat (first | exact trivial | refine slotsLe_cons rfl ?_)
      · repeat (first | exact trivial | refine keysLe_cons rfl ?_)
      intro ⟨k, all⟩ ⟨hk, hok, H⟩
      simp only at hk hok H
      conv => whnf
      refine brP_dec (fun h1 => ?_) (fun h1 => ?_)
      · have h1 : k < r.beside.length + 1 := by
          have h2 : (k : Int) < ((r.beside.map stpA).length + 1 : Nat) := h1
          rw [hml] at h2; omega
        obtain ⟨s, hs, hd⟩ := drop_cons (l := L) (i := k) (by omega)
        rw [hd, List.foldl_cons] at H
        obtain ⟨hy1, hy2⟩ := hy all s hok (List.mem_of_getElem? hs)
        have hy3 : BoxA Try.prog (Tgt.yld kL gl) (Sea.pre { (⟨r, [p1, p2, p3, p4, p5], ⟨0, 68, 4⟩, .func (.func 89) [] [.ptr ⟨0, 68, 1⟩ 1 1 0 0], [(⟨0, 68, 1⟩, 1, 1, [lookR r [p1, p2, p3, p4, p5]])], gl, aC, bC, l, most, i, ⟨[o1, o2, o3, o4, o5], oL, oB, oM⟩, g7, g8⟩ : Sea) with l := tkJs (Sea.keys ⟨r, [p1, p2, p3, p4, p5], ⟨0, 68, 4⟩, .func (.func 89) [] [.ptr ⟨0, 68, 1⟩ 1 1 0 0], [(⟨0, 68, 1⟩, 1, 1, [lookR r [p1, p2, p3, p4, p5]])], gl, aC, bC, l, most, i, ⟨[o1, o2, o3, o4, o5], oL, oB, oM⟩, g7, g8⟩) l } all) [stpA s] (boolA true) (Sea.pre ⟨r, [p1, p2, p3, p4, p5], ⟨0, 68, 4⟩, .func (.func 89) [] [.ptr ⟨0, 68, 1⟩ 1 1 0 0], [(⟨0, 68, 1⟩, 1, 1, [lookR r [p1, p2, p3, p4, p5]])], gl, aC, bC, l, most, i, ⟨[o1, o2, o3, o4, o5], oL, oB, oM⟩, g7, g8⟩ (nx all s)) := by rw [hl]; exact hy1
        conv => whnf
        repeat (any_goals (first | exact falseI | (refine brP_dec (fun _ => ?_) (fun _ => ?_) <;> first | (exfalso; omega) | conv => whnf) | (refine brP_ndec (fun _ => ?_) (fun _ => ?_) <;> first | (exfalso; omega) | conv => whnf) | ((first | refine optP_map hs rfl ?_ | refine And.intro (DrawOk.mk (by kernel_rfl)) ?_ | refine okI ?_ | refine brP_true (Nat.beq_refl _) ?_ | refine brP_intro (fun _ => ?_) (fun _ => ?_) | refine bndI ?_ | intro _) <;> conv => whnf)))
        refine ⟨Sea.keys ⟨r, [p1, p2, p3, p4, p5], ⟨0, 68, 4⟩, .func (.func 89) [] [.ptr ⟨0, 68, 1⟩ 1 1 0 0], [(⟨0, 68, 1⟩, 1, 1, [lookR r [p1, p2, p3, p4, p5]])], gl, aC, bC, l, most, i, ⟨[o1, o2, o3, o4, o5], oL, oB, oM⟩, g7, g8⟩, ?_⟩
        conv => whnf
        refine optP_intro (tk_found _ _) ?_
        conv => whnf
        refine ⟨_, _, hy3, ?_⟩
        conv => whnf
        refine optP_intro (tk_found _ _) ?_
        conv => whnf
        repeat (any_goals (first | exact falseI | (refine brP_dec (fun _ => ?_) (fun _ => ?_) <;> first | (exfalso; omega) | conv => whnf) | (refine brP_ndec (fun _ => ?_) (fun _ => ?_) <;> first | (exfalso; omega) | conv => whnf) | ((first | refine And.intro (DrawOk.mk (by kernel_rfl)) ?_ | refine okI ?_ | refine brP_true (Nat.beq_refl _) ?_ | refine brP_intro (fun _ => ?_) (fun _ => ?_) | refine bndI ?_ | intro _) <;> conv => whnf)))
        (refine ⟨(k + 1, nx all s), ⟨by simp only; omega, hy2, H⟩, (by simp only; omega), ?_⟩; (conv => whnf); refine ⟨?_, ?_, ?_⟩ <;> repeat (first | exact trivial | refine slotsLe_cons rfl ?_ | refine keysLe_none ?_ | refine keysLe_cons rfl ?_ | refine slotsLe_cons (by exact congrArg (fun z => some (some (gl, some (0, [AV.lp .ready none #[62] aC bC z])))) hl) ?_ | refine keysLe_cons (by exact congrArg (fun z => some (some (gl, some (0, [AV.lp .ready none #[62] aC bC z])))) hl) ?_))
      · have : k = r.beside.length + 1 := by
          have h2 : ¬ (k : Int) < ((r.beside.map stpA).length + 1 : Nat) := h1
          rw [hml] at h2; omega
        subst this
        rw [List.drop_of_length_le (by omega), List.foldl_nil] at H
        subst H
        conv => whnf
        refine And.intro ?_ ?_
        · conv => whnf
          refine ⟨⟨?_⟩, trivial⟩
          rfl
        · repeat (first | exact trivial | refine And.intro rfl ?_ | refine And.intro (by skip) ?_)
  · by_cases hbe : r.bench = -1
    · simp only [Row.sorted, if_pos hbe] at hy ⊢
      have hX : ((r.beside.map stpA).take (min (r.beside.map stpA).length (r.beside.map stpA).length) ++ (List.replicate ((r.beside.map stpA).length + 1) (AV.agg [intA 0, intA 0])).drop (min (r.beside.map stpA).length (r.beside.map stpA).length)) = (r.beside ++ [zeroS]).map stpA := by
        simp only [Nat.min_self, List.take_length, List.map_append]
        rw [List.drop_replicate, Nat.add_sub_cancel_left]
        rfl
      have hso : BoxA Try.prog (.fn 97) [(kAll, 1, 2, (r.beside ++ [zeroS]).map stpA)] [.own kAll 1 2 (r.beside.map stpA).length 0, cmpF] (.tuple []) [(kAll, 1, 2, (srt r.beside.length (r.beside ++ [zeroS])).map stpA)] := by
        rw [List.length_map]
        exact sort_c 1 r.beside.length (r.beside ++ [zeroS]) (by simp) (by
          intro s hs
          rcases List.mem_append.1 hs with hs | hs
          · have := hg.bound s hs
            unfold Stp.ok; omega
          · simp at hs; subst hs; exact ⟨by decide, by decide, by decide, by decide⟩) (by omega)
      have hL : (srt r.beside.length (r.beside ++ [zeroS])).length = r.beside.length + 1 := by unfold srt; rw [srtI_len]; simp
      generalize srt r.beside.length (r.beside ++ [zeroS]) = L at *
      have hml : (r.beside.map stpA).length = r.beside.length := List.length_map ..
      generalize hR : (L.take r.beside.length).foldl nx all0 = R
      refine boxA_codeB tabOk { l := 0, f := 96, mat := [97] } mixed call_96 Try.func96 (by kernel_rfl) ?_
      conv => whnf
      repeat (any_goals (first | exact falseI | (refine brP_dec (fun _ => ?_) (fun _ => ?_) <;> first | (exfalso; omega) | conv => whnf) | (refine brP_ndec (fun _ => ?_) (fun _ => ?_) <;> first | (exfalso; omega) | conv => whnf) | ((first | refine And.intro (DrawOk.mk (by kernel_rfl)) ?_ | refine okI ?_ | refine brP_true (Nat.beq_refl _) ?_ | refine brP_intro (fun _ => ?_) (fun _ => ?_) | refine bndI ?_ | intro _) <;> conv => whnf)))
      refine ⟨[kAll], ?_⟩
      conv => whnf
      refine optP_intro (x := (r.beside ++ [zeroS]).map stpA) ((congrArg (tkL (tk2 _)) hX).trans (tk_stps _ _)) ?_
      conv => whnf
      refine ⟨_, _, hso, ?_⟩
      conv => whnf
      refine optP_intro (tk_stps _ L) ?_
      conv => whnf
      refine loopK tabOk { l := 0, f := 96, mat := [97] } mixed (fun a : Nat × List Found => [(51, intA a.1)]) (fun a => preK (Sea.pre ⟨r, [p1, p2, p3, p4, p5], ⟨0, 28, 6⟩, .func (.func 70) [] [], [], gl, aC, bC, l, most, i, ⟨[o1, o2, o3, o4, o5], oL, oB, oM⟩, g7, g8⟩ a.2)) (fun _ => []) (fun a => a.1 ≤ r.beside.length ∧ ok a.2 ∧ ((L.take r.beside.length).drop a.1).foldl nx a.2 = R) (fun a => r.beside.length - a.1) (0, all0) (by kernel_rfl)
        ⟨Nat.zero_le _, h0, hR⟩ ?_
      conv => whnf
      refine ⟨⟨?_, ?_, trivial⟩, ?_⟩
      · repeat (first | exact trivial | refine slotsLe_cons rfl ?_)
      · repeat (first | exact trivial | refine keysLe_cons rfl ?_)
      intro ⟨k, all⟩ ⟨hk, hok, H⟩
      simp only at hk hok H
      have ht : (L.take r.beside.length).length = r.beside.length := by rw [List.length_take, hL]; omega
      conv => whnf
      refine brP_dec (fun h1 => ?_) (fun h1 => ?_)
      · simp only at h1
        obtain ⟨s, hs, hd⟩ := drop_cons (l := L.take r.beside.length) (i := k) (by omega)
        have hsL : L[k]? = some s := by rw [List.getElem?_take] at hs; rw [if_pos (by omega)] at hs; exact hs
        rw [hd, List.foldl_cons] at H
        obtain ⟨hy1, hy2⟩ := hy all s hok (List.mem_of_getElem? hs)
        have hy3 : BoxA Try.prog (Tgt.yld kL gl) (Sea.pre { (⟨r, [p1, p2, p3, p4, p5], ⟨0, 28, 6⟩, .func (.func 70) [] [], [], gl, aC, bC, l, most, i, ⟨[o1, o2, o3, o4, o5], oL, oB, oM⟩, g7, g8⟩ : Sea) with l := tkJs (Sea.keys ⟨r, [p1, p2, p3, p4, p5], ⟨0, 28, 6⟩, .func (.func 70) [] [], [], gl, aC, bC, l, most, i, ⟨[o1, o2, o3, o4, o5], oL, oB, oM⟩, g7, g8⟩) l } all) [stpA s] (boolA true) (Sea.pre ⟨r, [p1, p2, p3, p4, p5], ⟨0, 28, 6⟩, .func (.func 70) [] [], [], gl, aC, bC, l, most, i, ⟨[o1, o2, o3, o4, o5], oL, oB, oM⟩, g7, g8⟩ (nx all s)) := by rw [hl]; exact hy1
        conv => whnf
        repeat (any_goals (first | exact falseI | (refine brP_dec (fun _ => ?_) (fun _ => ?_) <;> first | (exfalso; omega) | conv => whnf) | (refine brP_ndec (fun _ => ?_) (fun _ => ?_) <;> first | (exfalso; omega) | conv => whnf) | ((first | refine optP_map hsL rfl ?_ | refine And.intro (DrawOk.mk (by kernel_rfl)) ?_ | refine okI ?_ | refine brP_true (Nat.beq_refl _) ?_ | refine brP_intro (fun _ => ?_) (fun _ => ?_) | refine bndI ?_ | intro _) <;> conv => whnf)))
        refine ⟨Sea.keys ⟨r, [p1, p2, p3, p4, p5], ⟨0, 28, 6⟩, .func (.func 70) [] [], [], gl, aC, bC, l, most, i, ⟨[o1, o2, o3, o4, o5], oL, oB, oM⟩, g7, g8⟩, ?_⟩
        conv => whnf
        refine optP_intro (tk_found _ _) ?_
        conv => whnf
        refine ⟨_, _, hy3, ?_⟩
        conv => whnf
        refine optP_intro (tk_found _ _) ?_
        conv => whnf
        repeat (any_goals (first | exact falseI | (refine brP_dec (fun _ => ?_) (fun _ => ?_) <;> first | (exfalso; omega) | conv => whnf) | (refine brP_ndec (fun _ => ?_) (fun _ => ?_) <;> first | (exfalso; omega) | conv => whnf) | ((first | refine And.intro (DrawOk.mk (by kernel_rfl)) ?_ | refine okI ?_ | refine brP_true (Nat.beq_refl _) ?_ | refine brP_intro (fun _ => ?_) (fun _ => ?_) | refine bndI ?_ | intro _) <;> conv => whnf)))
        (refine ⟨(k + 1, nx all s), ⟨by simp only; omega, hy2, H⟩, (by simp only; omega), ?_⟩; (conv => whnf); refine ⟨?_, ?_, ?_⟩ <;> repeat (first | exact trivial | refine slotsLe_cons rfl ?_ | refine keysLe_none ?_ | refine keysLe_cons rfl ?_ | refine slotsLe_cons (by exact congrArg (fun z => some (some (gl, some (0, [AV.lp .ready none #[62] aC bC z])))) hl) ?_ | refine keysLe_cons (by exact congrArg (fun z => some (some (gl, some (0, [AV.lp .ready none #[62] aC bC z])))) hl) ?_))
      · have : k = r.beside.length := by simp only at h1; omega
        subst this
        rw [List.drop_of_length_le (by omega), List.foldl_nil] at H
        subst H
        conv => whnf
        refine And.intro ?_ ?_
        · conv => whnf
          refine ⟨⟨?_⟩, trivial⟩
          rfl
        · repeat (first | exact trivial | refine And.intro rfl ?_ | refine And.intro (by skip) ?_)
    · simp only [Row.sorted, if_neg hbe] at hy ⊢
      have hX : (((r.beside.map stpA).take (min (r.beside.map stpA).length (r.beside.map stpA).length) ++ (List.replicate ((r.beside.map stpA).length + 1) (AV.agg [intA 0, intA 0])).drop (min (r.beside.map stpA).length (r.beside.map stpA).length)).take (r.beside.map stpA).length ++ [stpA ⟨r.bench, r.bench⟩]) = (r.beside ++ [(⟨r.bench, r.bench⟩ : Stp)]).map stpA := by
        simp only [Nat.min_self, List.take_length, List.map_append]
        rw [List.take_left' rfl]
        rfl
      have hso : BoxA Try.prog (.fn 97) [(kAll, 2, 2, (r.beside ++ [(⟨r.bench, r.bench⟩ : Stp)]).map stpA)] [.own kAll 2 2 ((r.beside.map stpA).length + 1) 0, cmpF] (.tuple []) [(kAll, 2, 2, (srt (r.beside.length + 1) (r.beside ++ [⟨r.bench, r.bench⟩])).map stpA)] := by
        rw [List.length_map]
        exact sort_c 2 (r.beside.length + 1) (r.beside ++ [⟨r.bench, r.bench⟩]) (by simp) (by
          intro s hs
          rcases List.mem_append.1 hs with hs | hs
          · have := hg.bound s hs
            unfold Stp.ok; omega
          · simp at hs; subst hs; unfold Stp.ok; simp only; omega) (by omega)
      have hL : (srt (r.beside.length + 1) (r.beside ++ [⟨r.bench, r.bench⟩])).length = r.beside.length + 1 := by unfold srt; rw [srtI_len]; simp
      generalize srt (r.beside.length + 1) (r.beside ++ [⟨r.bench, r.bench⟩]) = L at *
      have hml : (r.beside.map stpA).length = r.beside.length := List.length_map ..
      generalize hR : L.foldl nx all0 = R
      have hlu : ((r.beside.map stpA).take (min (r.beside.map stpA).length (r.beside.map stpA).length) ++ (List.replicate ((r.beside.map stpA).length + 1) (AV.agg [intA 0, intA 0])).drop (min (r.beside.map stpA).length (r.beside.map stpA).length)).length = (r.beside.map stpA).length + 1 := by
        simp
      refine boxA_codeB tabOk { l := 0, f := 96, mat := [97], ow := [46] } mixed call_96 Try.func96 (by kernel_rfl) ?_
      conv => whnf
      repeat (any_goals (first | exact falseI | (refine brP_dec (fun _ => ?_) (fun _ => ?_) <;> first | (exfalso; omega) | conv => whnf) | (refine brP_ndec (fun _ => ?_) (fun _ => ?_) <;> first | (exfalso; omega) | conv => whnf) | ((first | refine And.intro (DrawOk.mk (by kernel_rfl)) ?_ | refine okI ?_ | refine brP_true (Nat.beq_refl _) ?_ | refine brP_intro (fun _ => ?_) (fun _ => ?_) | refine bndI ?_ | intro _) <;> conv => whnf)))
      refine ⟨[kAll], ?_⟩
      conv => whnf
      refine optP_intro (x := (r.beside ++ [(⟨r.bench, r.bench⟩ : Stp)]).map stpA) ((congrArg (tkL (tk2 _)) hX).trans (tk_stps _ _)) ?_
      conv => whnf
      refine ⟨_, _, hso, ?_⟩
      conv => whnf
      refine optP_intro (tk_stps _ L) ?_
      conv => whnf
      refine loopK tabOk { l := 0, f := 96, mat := [97], ow := [46] } mixed (fun a : Nat × List Found => [(51, intA a.1)]) (fun a => preK (Sea.pre ⟨r, [p1, p2, p3, p4, p5], ⟨0, 28, 6⟩, .func (.func 70) [] [], [], gl, aC, bC, l, most, i, ⟨[o1, o2, o3, o4, o5], oL, oB, oM⟩, g7, g8⟩ a.2)) (fun _ => []) (fun a => a.1 ≤ r.beside.length + 1 ∧ ok a.2 ∧ (L.drop a.1).foldl nx a.2 = R) (fun a => r.beside.length + 1 - a.1) (0, all0) (by kernel_rfl)
        ⟨Nat.zero_le _, h0, hR⟩ ?_
      conv => whnf
      refine ⟨⟨?_, ?_, trivial⟩, ?_⟩
      · repeat (first | exact trivial | refine slotsLe_cons rfl ?_)
      · repeat (first | exact trivial | refine keysLe_cons rfl ?_)
      intro ⟨k, all⟩ ⟨hk, hok, H⟩
      simp only at hk hok H
      conv => whnf
      refine brP_dec (fun h1 => ?_) (fun h1 => ?_)
      · have h1 : k < r.beside.length + 1 := by
          have h2 : (k : Int) < ((r.beside.map stpA).length + 1 : Nat) := h1
          rw [hml] at h2; omega
        obtain ⟨s, hs, hd⟩ := drop_cons (l := L) (i := k) (by omega)
        rw [hd, List.foldl_cons] at H
        obtain ⟨hy1, hy2⟩ := hy all s hok (List.mem_of_getElem? hs)
        have hy3 : BoxA Try.prog (Tgt.yld kL gl) (Sea.pre { (⟨r, [p1, p2, p3, p4, p5], ⟨0, 28, 6⟩, .func (.func 70) [] [], [], gl, aC, bC, l, most, i, ⟨[o1, o2, o3, o4, o5], oL, oB, oM⟩, g7, g8⟩ : Sea) with l := tkJs (Sea.keys ⟨r, [p1, p2, p3, p4, p5], ⟨0, 28, 6⟩, .func (.func 70) [] [], [], gl, aC, bC, l, most, i, ⟨[o1, o2, o3, o4, o5], oL, oB, oM⟩, g7, g8⟩) l } all) [stpA s] (boolA true) (Sea.pre ⟨r, [p1, p2, p3, p4, p5], ⟨0, 28, 6⟩, .func (.func 70) [] [], [], gl, aC, bC, l, most, i, ⟨[o1, o2, o3, o4, o5], oL, oB, oM⟩, g7, g8⟩ (nx all s)) := by rw [hl]; exact hy1
        conv => whnf
        repeat (any_goals (first | exact falseI | (refine brP_dec (fun _ => ?_) (fun _ => ?_) <;> first | (exfalso; omega) | conv => whnf) | (refine brP_ndec (fun _ => ?_) (fun _ => ?_) <;> first | (exfalso; omega) | conv => whnf) | ((first | refine optP_map hs rfl ?_ | refine And.intro (DrawOk.mk (by kernel_rfl)) ?_ | refine okI ?_ | refine brP_true (Nat.beq_refl _) ?_ | refine brP_intro (fun _ => ?_) (fun _ => ?_) | refine bndI ?_ | intro _) <;> conv => whnf)))
        refine ⟨Sea.keys ⟨r, [p1, p2, p3, p4, p5], ⟨0, 28, 6⟩, .func (.func 70) [] [], [], gl, aC, bC, l, most, i, ⟨[o1, o2, o3, o4, o5], oL, oB, oM⟩, g7, g8⟩, ?_⟩
        conv => whnf
        refine optP_intro (tk_found _ _) ?_
        conv => whnf
        refine ⟨_, _, hy3, ?_⟩
        conv => whnf
        refine optP_intro (tk_found _ _) ?_
        conv => whnf
        repeat (any_goals (first | exact falseI | (refine brP_dec (fun _ => ?_) (fun _ => ?_) <;> first | (exfalso; omega) | conv => whnf) | (refine brP_ndec (fun _ => ?_) (fun _ => ?_) <;> first | (exfalso; omega) | conv => whnf) | ((first | refine And.intro (DrawOk.mk (by kernel_rfl)) ?_ | refine okI ?_ | refine brP_true (Nat.beq_refl _) ?_ | refine brP_intro (fun _ => ?_) (fun _ => ?_) | refine bndI ?_ | intro _) <;> conv => whnf)))
        (refine ⟨(k + 1, nx all s), ⟨by simp only; omega, hy2, H⟩, (by simp only; omega), ?_⟩; (conv => whnf); refine ⟨?_, ?_, ?_⟩ <;> repeat (first | exact trivial | refine slotsLe_cons rfl ?_ | refine keysLe_none ?_ | refine keysLe_cons rfl ?_ | refine slotsLe_cons (by exact congrArg (fun z => some (some (gl, some (0, [AV.lp .ready none #[62] aC bC z])))) hl) ?_ | refine keysLe_cons (by exact congrArg (fun z => some (some (gl, some (0, [AV.lp .ready none #[62] aC bC z])))) hl) ?_))
      · have : k = r.beside.length + 1 := by
          have h2 : ¬ (k : Int) < ((r.beside.map stpA).length + 1 : Nat) := h1
          rw [hml] at h2; omega
        subst this
        rw [List.drop_of_length_le (by omega), List.foldl_nil] at H
        subst H
        conv => whnf
        refine And.intro ?_ ?_
        · conv => whnf
          refine ⟨⟨?_⟩, trivial⟩
          rfl
        · repeat (first | exact trivial | refine And.intro rfl ?_ | refine And.intro (by skip) ?_)
  · by_cases hbe : r.bench = -1
    · simp only [Row.sorted, if_pos hbe] at hy ⊢
      have hX : ((r.beside.map stpA).take (min (r.beside.map stpA).length (r.beside.map stpA).length) ++ (List.replicate ((r.beside.map stpA).length + 1) (AV.agg [intA 0, intA 0])).drop (min (r.beside.map stpA).length (r.beside.map stpA).length)) = (r.beside ++ [zeroS]).map stpA := by
        simp only [Nat.min_self, List.take_length, List.map_append]
        rw [List.drop_replicate, Nat.add_sub_cancel_left]
        rfl
      have hso : BoxA Try.prog (.fn 97) [(kAll, 1, 2, (r.beside ++ [zeroS]).map stpA)] [.own kAll 1 2 (r.beside.map stpA).length 0, cmpF] (.tuple []) [(kAll, 1, 2, (srt r.beside.length (r.beside ++ [zeroS])).map stpA)] := by
        rw [List.length_map]
        exact sort_c 1 r.beside.length (r.beside ++ [zeroS]) (by simp) (by
          intro s hs
          rcases List.mem_append.1 hs with hs | hs
          · have := hg.bound s hs
            unfold Stp.ok; omega
          · simp at hs; subst hs; exact ⟨by decide, by decide, by decide, by decide⟩) (by omega)
      have hL : (srt r.beside.length (r.beside ++ [zeroS])).length = r.beside.length + 1 := by unfold srt; rw [srtI_len]; simp
      generalize srt r.beside.length (r.beside ++ [zeroS]) = L at *
      have hml : (r.beside.map stpA).length = r.beside.length := List.length_map ..
      generalize hR : (L.take r.beside.length).foldl nx all0 = R
      refine boxA_codeB tabOk { l := 0, f := 96, mat := [97] } mixed call_96 Try.func96 (by kernel_rfl) ?_
      conv => whnf
      repeat (any_goals (first | exact falseI | (refine brP_dec (fun _ => ?_) (fun _ => ?_) <;> first | (exfalso; omega) | conv => whnf) | (refine brP_ndec (fun _ => ?_) (fun _ => ?_) <;> first | (exfalso; omega) | conv => whnf) | ((first | refine And.intro (DrawOk.mk (by kernel_rfl)) ?_ | refine okI ?_ | refine brP_true (Nat.beq_refl _) ?_ | refine brP_intro (fun _ => ?_) (fun _ => ?_) | refine bndI ?_ | intro _) <;> conv => whnf)))
      refine ⟨[kAll], ?_⟩
      conv => whnf
      refine optP_intro (x := (r.beside ++ [zeroS]).map stpA) ((congrArg (tkL (tk2 _)) hX).trans (tk_stps _ _)) ?_
      conv => whnf
      refine ⟨_, _, hso, ?_⟩
      conv => whnf
      refine optP_intro (tk_stps _ L) ?_
      conv => whnf
      refine loopK tabOk { l := 0, f := 96, mat := [97] } mixed (fun a : Nat × List Found => [(51, intA a.1)]) (fun a => preK (Sea.pre ⟨r, [p1, p2, p3, p4, p5], ⟨0, 30, 8⟩, .func (.func 72) [] [], [], gl, aC, bC, l, most, i, ⟨[o1, o2, o3, o4, o5], oL, oB, oM⟩, g7, g8⟩ a.2)) (fun _ => []) (fun a => a.1 ≤ r.beside.length ∧ ok a.2 ∧ ((L.take r.beside.length).drop a.1).foldl nx a.2 = R) (fun a => r.beside.length - a.1) (0, all0) (by kernel_rfl)
        ⟨Nat.zero_le _, h0, hR⟩ ?_
      conv => whnf
      refine ⟨⟨?_, ?_, trivial⟩, ?_⟩
      · repeat (first | exact trivial | refine slotsLe_cons rfl ?_)
      · repeat (first | exact trivial | refine keysLe_cons rfl ?_)
      intro ⟨k, all⟩ ⟨hk, hok, H⟩
      simp only at hk hok H
      have ht : (L.take r.beside.length).length = r.beside.length := by rw [List.length_take, hL]; omega
      conv => whnf
      refine brP_dec (fun h1 => ?_) (fun h1 => ?_)
      · simp only at h1
        obtain ⟨s, hs, hd⟩ := drop_cons (l := L.take r.beside.length) (i := k) (by omega)
        have hsL : L[k]? = some s := by rw [List.getElem?_take] at hs; rw [if_pos (by omega)] at hs; exact hs
        rw [hd, List.foldl_cons] at H
        obtain ⟨hy1, hy2⟩ := hy all s hok (List.mem_of_getElem? hs)
        have hy3 : BoxA Try.prog (Tgt.yld kL gl) (Sea.pre { (⟨r, [p1, p2, p3, p4, p5], ⟨0, 30, 8⟩, .func (.func 72) [] [], [], gl, aC, bC, l, most, i, ⟨[o1, o2, o3, o4, o5], oL, oB, oM⟩, g7, g8⟩ : Sea) with l := tkJs (Sea.keys ⟨r, [p1, p2, p3, p4, p5], ⟨0, 30, 8⟩, .func (.func 72) [] [], [], gl, aC, bC, l, most, i, ⟨[o1, o2, o3, o4, o5], oL, oB, oM⟩, g7, g8⟩) l } all) [stpA s] (boolA true) (Sea.pre ⟨r, [p1, p2, p3, p4, p5], ⟨0, 30, 8⟩, .func (.func 72) [] [], [], gl, aC, bC, l, most, i, ⟨[o1, o2, o3, o4, o5], oL, oB, oM⟩, g7, g8⟩ (nx all s)) := by rw [hl]; exact hy1
        conv => whnf
        repeat (any_goals (first | exact falseI | (refine brP_dec (fun _ => ?_) (fun _ => ?_) <;> first | (exfalso; omega) | conv => whnf) | (refine brP_ndec (fun _ => ?_) (fun _ => ?_) <;> first | (exfalso; omega) | conv => whnf) | ((first | refine optP_map hsL rfl ?_ | refine And.intro (DrawOk.mk (by kernel_rfl)) ?_ | refine okI ?_ | refine brP_true (Nat.beq_refl _) ?_ | refine brP_intro (fun _ => ?_) (fun _ => ?_) | refine bndI ?_ | intro _) <;> conv => whnf)))
        refine ⟨Sea.keys ⟨r, [p1, p2, p3, p4, p5], ⟨0, 30, 8⟩, .func (.func 72) [] [], [], gl, aC, bC, l, most, i, ⟨[o1, o2, o3, o4, o5], oL, oB, oM⟩, g7, g8⟩, ?_⟩
        conv => whnf
        refine optP_intro (tk_found _ _) ?_
        conv => whnf
        refine ⟨_, _, hy3, ?_⟩
        conv => whnf
        refine optP_intro (tk_found _ _) ?_
        conv => whnf
        repeat (any_goals (first | exact falseI | (refine brP_dec (fun _ => ?_) (fun _ => ?_) <;> first | (exfalso; omega) | conv => whnf) | (refine brP_ndec (fun _ => ?_) (fun _ => ?_) <;> first | (exfalso; omega) | conv => whnf) | ((first | refine And.intro (DrawOk.mk (by kernel_rfl)) ?_ | refine okI ?_ | refine brP_true (Nat.beq_refl _) ?_ | refine brP_intro (fun _ => ?_) (fun _ => ?_) | refine bndI ?_ | intro _) <;> conv => whnf)))
        (refine ⟨(k + 1, nx all s), ⟨by simp only; omega, hy2, H⟩, (by simp only; omega), ?_⟩; (conv => whnf); refine ⟨?_, ?_, ?_⟩ <;> repeat (first | exact trivial | refine slotsLe_cons rfl ?_ | refine keysLe_none ?_ | refine keysLe_cons rfl ?_ | refine slotsLe_cons (by exact congrArg (fun z => some (some (gl, some (0, [AV.lp .ready none #[62] aC bC z])))) hl) ?_ | refine keysLe_cons (by exact congrArg (fun z => some (some (gl, some (0, [AV.lp .ready none #[62] aC bC z])))) hl) ?_))
      · have : k = r.beside.length := by simp only at h1; omega
        subst this
        rw [List.drop_of_length_le (by omega), List.foldl_nil] at H
        subst H
        conv => whnf
        refine And.intro ?_ ?_
        · conv => whnf
          refine ⟨⟨?_⟩, trivial⟩
          rfl
        · repeat (first | exact trivial | refine And.intro rfl ?_ | refine And.intro (by skip) ?_)
    · simp only [Row.sorted, if_neg hbe] at hy ⊢
      have hX : (((r.beside.map stpA).take (min (r.beside.map stpA).length (r.beside.map stpA).length) ++ (List.replicate ((r.beside.map stpA).length + 1) (AV.agg [intA 0, intA 0])).drop (min (r.beside.map stpA).length (r.beside.map stpA).length)).take (r.beside.map stpA).length ++ [stpA ⟨r.bench, r.bench⟩]) = (r.beside ++ [(⟨r.bench, r.bench⟩ : Stp)]).map stpA := by
        simp only [Nat.min_self, List.take_length, List.map_append]
        rw [List.take_left' rfl]
        rfl
      have hso : BoxA Try.prog (.fn 97) [(kAll, 2, 2, (r.beside ++ [(⟨r.bench, r.bench⟩ : Stp)]).map stpA)] [.own kAll 2 2 ((r.beside.map stpA).length + 1) 0, cmpF] (.tuple []) [(kAll, 2, 2, (srt (r.beside.length + 1) (r.beside ++ [⟨r.bench, r.bench⟩])).map stpA)] := by
        rw [List.length_map]
        exact sort_c 2 (r.beside.length + 1) (r.beside ++ [⟨r.bench, r.bench⟩]) (by simp) (by
          intro s hs
          rcases List.mem_append.1 hs with hs | hs
          · have := hg.bound s hs
            unfold Stp.ok; omega
          · simp at hs; subst hs; unfold Stp.ok; simp only; omega) (by omega)
      have hL : (srt (r.beside.length + 1) (r.beside ++ [⟨r.bench, r.bench⟩])).length = r.beside.length + 1 := by unfold srt; rw [srtI_len]; simp
      generalize srt (r.beside.length + 1) (r.beside ++ [⟨r.bench, r.bench⟩]) = L at *
      have hml : (r.beside.map stpA).length = r.beside.length := List.length_map ..
      generalize hR : L.foldl nx all0 = R
      have hlu : ((r.beside.map stpA).take (min (r.beside.map stpA).length (r.beside.map stpA).length) ++ (List.replicate ((r.beside.map stpA).length + 1) (AV.agg [intA 0, intA 0])).drop (min (r.beside.map stpA).length (r.beside.map stpA).length)).length = (r.beside.map stpA).length + 1 := by
        simp
      refine boxA_codeB tabOk { l := 0, f := 96, mat := [97], ow := [46] } mixed call_96 Try.func96 (by kernel_rfl) ?_
      conv => whnf
      repeat (any_goals (first | exact falseI | (refine brP_dec (fun _ => ?_) (fun _ => ?_) <;> first | (exfalso; omega) | conv => whnf) | (refine brP_ndec (fun _ => ?_) (fun _ => ?_) <;> first | (exfalso; omega) | conv => whnf) | ((first | refine And.intro (DrawOk.mk (by kernel_rfl)) ?_ | refine okI ?_ | refine brP_true (Nat.beq_refl _) ?_ | refine brP_intro (fun _ => ?_) (fun _ => ?_) | refine bndI ?_ | intro _) <;> conv => whnf)))
      refine ⟨[kAll], ?_⟩
      conv => whnf
      refine optP_intro (x := (r.beside ++ [(⟨r.bench, r.bench⟩ : Stp)]).map stpA) ((congrArg (tkL (tk2 _)) hX).trans (tk_stps _ _)) ?_
      conv => whnf
      refine ⟨_, _, hso, ?_⟩
      conv => whnf
      refine optP_intro (tk_stps _ L) ?_
      conv => whnf
      refine loopK tabOk { l := 0, f := 96, mat := [97], ow := [46] } mixed (fun a : Nat × List Found => [(51, intA a.1)]) (fun a => preK (Sea.pre ⟨r, [p1, p2, p3, p4, p5], ⟨0, 30, 8⟩, .func (.func 72) [] [], [], gl, aC, bC, l, most, i, ⟨[o1, o2, o3, o4, o5], oL, oB, oM⟩, g7, g8⟩ a.2)) (fun _ => []) (fun a => a.1 ≤ r.beside.length + 1 ∧ ok a.2 ∧ (L.drop a.1).foldl nx a.2 = R) (fun a => r.beside.length + 1 - a.1) (0, all0) (by kernel_rfl)
        ⟨Nat.zero_le _, h0, hR⟩ ?_
      conv => whnf
      refine ⟨⟨?_, ?_, trivial⟩, ?_⟩
      · repeat (first | exact trivial | refine slotsLe_cons rfl ?_)
      · repeat (first | exact trivial | refine keysLe_cons rfl ?_)
      intro ⟨k, all⟩ ⟨hk, hok, H⟩
      simp only at hk hok H
      conv => whnf
      refine brP_dec (fun h1 => ?_) (fun h1 => ?_)
      · have h1 : k < r.beside.length + 1 := by
          have h2 : (k : Int) < ((r.beside.map stpA).length + 1 : Nat) := h1
          rw [hml] at h2; omega
        obtain ⟨s, hs, hd⟩ := drop_cons (l := L) (i := k) (by omega)
        rw [hd, List.foldl_cons] at H
        obtain ⟨hy1, hy2⟩ := hy all s hok (List.mem_of_getElem? hs)
        have hy3 : BoxA Try.prog (Tgt.yld kL gl) (Sea.pre { (⟨r, [p1, p2, p3, p4, p5], ⟨0, 30, 8⟩, .func (.func 72) [] [], [], gl, aC, bC, l, most, i, ⟨[o1, o2, o3, o4, o5], oL, oB, oM⟩, g7, g8⟩ : Sea) with l := tkJs (Sea.keys ⟨r, [p1, p2, p3, p4, p5], ⟨0, 30, 8⟩, .func (.func 72) [] [], [], gl, aC, bC, l, most, i, ⟨[o1, o2, o3, o4, o5], oL, oB, oM⟩, g7, g8⟩) l } all) [stpA s] (boolA true) (Sea.pre ⟨r, [p1, p2, p3, p4, p5], ⟨0, 30, 8⟩, .func (.func 72) [] [], [], gl, aC, bC, l, most, i, ⟨[o1, o2, o3, o4, o5], oL, oB, oM⟩, g7, g8⟩ (nx all s)) := by rw [hl]; exact hy1
        conv => whnf
        repeat (any_goals (first | exact falseI | (refine brP_dec (fun _ => ?_) (fun _ => ?_) <;> first | (exfalso; omega) | conv => whnf) | (refine brP_ndec (fun _ => ?_) (fun _ => ?_) <;> first | (exfalso; omega) | conv => whnf) | ((first | refine optP_map hs rfl ?_ | refine And.intro (DrawOk.mk (by kernel_rfl)) ?_ | refine okI ?_ | refine brP_true (Nat.beq_refl _) ?_ | refine brP_intro (fun _ => ?_) (fun _ => ?_) | refine bndI ?_ | intro _) <;> conv => whnf)))
        refine ⟨Sea.keys ⟨r, [p1, p2, p3, p4, p5], ⟨0, 30, 8⟩, .func (.func 72) [] [], [], gl, aC, bC, l, most, i, ⟨[o1, o2, o3, o4, o5], oL, oB, oM⟩, g7, g8⟩, ?_⟩
        conv => whnf
        refine optP_intro (tk_found _ _) ?_
        conv => whnf
        refine ⟨_, _, hy3, ?_⟩
        conv => whnf
        refine optP_intro (tk_found _ _) ?_
        conv => whnf
        repeat (any_goals (first | exact falseI | (refine brP_dec (fun _ => ?_) (fun _ => ?_) <;> first | (exfalso; omega) | conv => whnf) | (refine brP_ndec (fun _ => ?_) (fun _ => ?_) <;> first | (exfalso; omega) | conv => whnf) | ((first | refine And.intro (DrawOk.mk (by kernel_rfl)) ?_ | refine okI ?_ | refine brP_true (Nat.beq_refl _) ?_ | refine brP_intro (fun _ => ?_) (fun _ => ?_) | refine bndI ?_ | intro _) <;> conv => whnf)))
        (refine ⟨(k + 1, nx all s), ⟨by simp only; omega, hy2, H⟩, (by simp only; omega), ?_⟩; (conv => whnf); refine ⟨?_, ?_, ?_⟩ <;> repeat (first | exact trivial | refine slotsLe_cons rfl ?_ | refine keysLe_none ?_ | refine keysLe_cons rfl ?_ | refine slotsLe_cons (by exact congrArg (fun z => some (some (gl, some (0, [AV.lp .ready none #[62] aC bC z])))) hl) ?_ | refine keysLe_cons (by exact congrArg (fun z => some (some (gl, some (0, [AV.lp .ready none #[62] aC bC z])))) hl) ?_))
      · have : k = r.beside.length + 1 := by
          have h2 : ¬ (k : Int) < ((r.beside.map stpA).length + 1 : Nat) := h1
          rw [hml] at h2; omega
        subst this
        rw [List.drop_of_length_le (by omega), List.foldl_nil] at H
        subst H
        conv => whnf
        refine And.intro ?_ ?_
        · conv => whnf
          refine ⟨⟨?_⟩, trivial⟩
          rfl
        · repeat (first | exact trivial | refine And.intro rfl ?_ | refine And.intro (by skip) ?_)
end Go.Proofs.Ytmggofcaeolaiaa
namespace Go.Proofs.Ytmggofcaeolaiaa
open Go.Am Go.Proofs Go
theorem stepsF_c (r : Row) (p : List Part) (hp : p.length = 5) : PureA Try.prog 92 [lookR r p] (.func (.func 96) [] [.cptr [lookR r p]]) := by
  obtain ⟨p0, p1, p2, p3, p4, rfl⟩ := list5 hp
  refine pureA_codeB tabOk { l := 0, f := 92 } mixed call_92 Try.func92 (by kernel_rfl) ?_
  conv => whnf
  repeat (any_goals (first | exact falseI | (refine brP_dec (fun _ => ?_) (fun _ => ?_) <;> first | (exfalso; omega) | conv => whnf) | (refine brP_ndec (fun _ => ?_) (fun _ => ?_) <;> first | (exfalso; omega) | conv => whnf) | ((first | refine And.intro (DrawOk.mk (by kernel_rfl)) ?_ | refine okI ?_ | refine brP_true (Nat.beq_refl _) ?_ | refine brP_intro (fun _ => ?_) (fun _ => ?_) | refine bndI ?_ | intro _) <;> conv => whnf)))
  (refine ⟨⟨?_⟩, trivial⟩; rfl)
theorem never70_c (p : List Part) (hp : p.length = 5) : PureA Try.prog 70 [partsA p] (boolA false) := by
  obtain ⟨p0, p1, p2, p3, p4, rfl⟩ := list5 hp
  refine pureA_codeB tabOk { l := 0, f := 70 } mixed call_70 Try.func70 (by kernel_rfl) ?_
  conv => whnf
  repeat (any_goals (first | exact falseI | (refine brP_dec (fun _ => ?_) (fun _ => ?_) <;> first | (exfalso; omega) | conv => whnf) | (refine brP_ndec (fun _ => ?_) (fun _ => ?_) <;> first | (exfalso; omega) | conv => whnf) | ((first | refine And.intro (DrawOk.mk (by kernel_rfl)) ?_ | refine okI ?_ | refine brP_true (Nat.beq_refl _) ?_ | refine brP_intro (fun _ => ?_) (fun _ => ?_) | refine bndI ?_ | intro _) <;> conv => whnf)))
  (refine ⟨⟨?_⟩, trivial⟩; rfl)
theorem never72_c (p : List Part) (hp : p.length = 5) : PureA Try.prog 72 [partsA p] (boolA false) := by
  obtain ⟨p0, p1, p2, p3, p4, rfl⟩ := list5 hp
  refine pureA_codeB tabOk { l := 0, f := 72 } mixed call_72 Try.func72 (by kernel_rfl) ?_
  conv => whnf
  repeat (any_goals (first | exact falseI | (refine brP_dec (fun _ => ?_) (fun _ => ?_) <;> first | (exfalso; omega) | conv => whnf) | (refine brP_ndec (fun _ => ?_) (fun _ => ?_) <;> first | (exfalso; omega) | conv => whnf) | ((first | refine And.intro (DrawOk.mk (by kernel_rfl)) ?_ | refine okI ?_ | refine brP_true (Nat.beq_refl _) ?_ | refine brP_intro (fun _ => ?_) (fun _ => ?_) | refine bndI ?_ | intro _) <;> conv => whnf)))
  (refine ⟨⟨?_⟩, trivial⟩; rfl)
theorem right89_c (r : Row) (p0 p : List Part) (hp0 : p0.length = 5) (hp : p.length = 5) (h5 : r.figs.length ≤ 5) : PureA Try.prog 89 [partsA p, .cptr [lookR r p0]] (boolA (decide ((r.wrong p).length = 0))) := by
  have hw := wrongP_c r p p0 hp hp0 h5
  generalize r.wrong p = w at *
  obtain ⟨p1, p2, p3, p4, p5, rfl⟩ := list5 hp
  refine pureA_codeB tabOk { l := 0, f := 89 } mixed call_89 Try.func89 (by kernel_rfl) ?_
  conv => whnf
  repeat (any_goals (first | exact falseI | (refine brP_dec (fun _ => ?_) (fun _ => ?_) <;> first | (exfalso; omega) | conv => whnf) | (refine brP_ndec (fun _ => ?_) (fun _ => ?_) <;> first | (exfalso; omega) | conv => whnf) | ((first | refine callP_a hw ?_ | refine And.intro (DrawOk.mk (by kernel_rfl)) ?_ | refine okI ?_ | refine brP_true (Nat.beq_refl _) ?_ | refine brP_intro (fun _ => ?_) (fun _ => ?_) | refine bndI ?_ | intro _) <;> conv => whnf)))
  (refine ⟨⟨?_⟩, trivial⟩; simp [oneOf, boolA])
theorem nodup_bound : ∀ (n : Nat) (l : List Nat), l.Nodup → (∀ x ∈ l, x < n) → l.length ≤ n
  | 0, l, _, h => by
    cases l with
    | nil => exact Nat.le_refl _
    | cons x l => exact absurd (h x (List.mem_cons_self ..)) (by omega)
  | n + 1, l, hn, h => by
    by_cases hm : n ∈ l
    · have h1 := nodup_bound n (l.erase n) (hn.erase n) fun x hx => by
        have h2 := h x (List.mem_of_mem_erase hx)
        have h3 : x ≠ n := fun e => by
          subst e
          exact hn.not_mem_erase hx
        omega
      rw [List.length_erase_of_mem hm] at h1
      omega
    · have := nodup_bound n l hn fun x hx => by
        have h2 := h x hx
        have h3 : x ≠ n := fun e => hm (e ▸ hx)
        omega
      omega
def Part.ok (q : Part) : Prop := 0 ≤ q.kind ∧ q.kind ≤ 5
def Part.num (q : Part) : Nat := 2 * q.kind.toNat + (if q.broken = true then 1 else 0)
theorem Part.num_lt {q : Part} (h : q.ok) : q.num < 12 := by
  unfold Part.ok at h; unfold Part.num; split <;> omega
theorem Part.num_inj {q q' : Part} (h : q.ok) (h' : q'.ok) (e : q.num = q'.num) : q = q' := by
  obtain ⟨k, b⟩ := q
  obtain ⟨k', b'⟩ := q'
  unfold Part.ok at h h'
  unfold Part.num at e
  simp only at h h' e
  cases b <;> cases b' <;> simp at e <;> simp <;> omega
def partsNum : List Part → Nat
  | [] => 0
  | q :: p => q.num + 12 * partsNum p
theorem partsNum_lt : ∀ {p : List Part}, (∀ q ∈ p, q.ok) → partsNum p < 12 ^ p.length
  | [], _ => by simp [partsNum]
  | q :: p, h => by
    have h1 := Part.num_lt (h q (List.mem_cons_self ..))
    have h2 := partsNum_lt (p := p) fun x hx => h x (List.mem_cons_of_mem _ hx)
    simp only [partsNum, List.length_cons, Nat.pow_succ]
    omega
theorem partsNum_inj : ∀ {p p' : List Part}, p.length = p'.length → (∀ q ∈ p, q.ok) → (∀ q ∈ p', q.ok) → partsNum p = partsNum p' → p = p'
  | [], [], _, _, _, _ => rfl
  | [], _ :: _, h, _, _, _ => by simp at h
  | _ :: _, [], h, _, _, _ => by simp at h
  | q :: p, q' :: p', hl, h, h', e => by
    have h1 := Part.num_lt (h q (List.mem_cons_self ..))
    have h1' := Part.num_lt (h' q' (List.mem_cons_self ..))
    simp only [partsNum] at e
    have e1 : q.num = q'.num := by omega
    have e2 : partsNum p = partsNum p' := by omega
    rw [Part.num_inj (h q (List.mem_cons_self ..)) (h' q' (List.mem_cons_self ..)) e1,
      partsNum_inj (by simpa using hl) (fun x hx => h x (List.mem_cons_of_mem _ hx)) (fun x hx => h' x (List.mem_cons_of_mem _ hx)) e2]
def okP5 (p : List Part) : Prop := p.length = 5 ∧ ∀ q ∈ p, q.ok
structure FoundOk (all : List Found) : Prop where
  one : ∀ f ∈ all, okP5 f.parts
  nodup : (all.map Found.parts).Nodup
  many : ∀ f ∈ all, f.many < all.length
  back : ∀ (j : Nat) (f : Found), all[j]? = some f → -1 ≤ f.behind ∧ f.behind < j
theorem nodup_map {α β : Type} {f : α → β} : ∀ {l : List α}, l.Nodup → (∀ a ∈ l, ∀ b ∈ l, f a = f b → a = b) → (l.map f).Nodup
  | [], _, _ => List.nodup_nil
  | x :: l, h, hf => by
    obtain ⟨h1, h2⟩ := List.nodup_cons.1 h
    rw [List.map_cons, List.nodup_cons]
    refine ⟨fun hm => ?_, nodup_map h2 fun a ha b hb => hf a (List.mem_cons_of_mem _ ha) b (List.mem_cons_of_mem _ hb)⟩
    obtain ⟨y, hy, e⟩ := List.mem_map.1 hm
    have := hf y (List.mem_cons_of_mem _ hy) x (List.mem_cons_self ..) e
    exact h1 (this ▸ hy)
theorem FoundOk.bound {all : List Found} (h : FoundOk all) : all.length ≤ 248832 := by
  have hp : ∀ p ∈ all.map Found.parts, okP5 p := fun p hp => by
    obtain ⟨f, hf, rfl⟩ := List.mem_map.1 hp
    exact h.one f hf
  have := nodup_bound 248832 ((all.map Found.parts).map partsNum) (nodup_map h.nodup fun a ha b hb e => partsNum_inj (by rw [(hp a ha).1, (hp b hb).1]) (hp a ha).2 (hp b hb).2 e) fun x hx => by
    obtain ⟨p, hp', rfl⟩ := List.mem_map.1 hx
    have := partsNum_lt (hp p hp').2
    rw [(hp p hp').1] at this
    exact this
  simpa using this
def Row.next (r : Row) (i : Nat) (own : Found) (all : List Found) (s : Stp) : List Found :=
  if (r.stepP own.parts s).2 = 0 ∧ (all.any fun f => decide (f.parts = (r.stepP own.parts s).1)) = false then all ++ [⟨(r.stepP own.parts s).1, s, i, own.many + 1⟩] else all
def Row.seek (r : Row) (most : Int) (d : List Part → Bool) : Nat → Nat → List Found → Int × List Found
  | 0, _, all => (-1, all)
  | n + 1, i, all => match all[i]? with
    | none => (-1, all)
    | some own => if d own.parts = true then (i, all) else if (own.many : Int) = most then r.seek most d n (i + 1) all else r.seek most d n (i + 1) (r.sorted.foldl (r.next i own) all)
def firstF (p : List Part) : Found := ⟨p, zeroS, -1, 0⟩
theorem stepP_len' (r : Row) (p : List Part) (s : Stp) : (r.stepP p s).1.length = p.length := by
  unfold Row.stepP
  split
  · split <;> simp
  · split <;> simp
theorem stepP_ok {r : Row} {p : List Part} (h : okP5 p) (s : Stp) : okP5 (r.stepP p s).1 := by
  have hz : zeroP.ok := ⟨by decide, by decide⟩
  have hd : ∀ i, (p.getD i zeroP).ok := fun i => by
    rw [List.getD_eq_getElem?_getD]
    cases hi : p[i]? with
    | none => exact hz
    | some q => exact h.2 q (List.mem_of_getElem? hi)
  refine ⟨by rw [stepP_len']; exact h.1, ?_⟩
  unfold Row.stepP
  split
  · split
    · intro q hq
      rcases List.mem_or_eq_of_mem_set hq with hq | rfl
      · exact h.2 q hq
      · exact hd _
    · exact h.2
  · split
    · intro q hq
      rcases List.mem_or_eq_of_mem_set hq with hq | rfl
      · rcases List.mem_or_eq_of_mem_set hq with hq | rfl
        · exact h.2 q hq
        · exact hd _
      · exact hd _
    · exact h.2
theorem FoundOk.next {r : Row} {i : Nat} {own : Found} {all : List Found} (h : FoundOk all) (ho : own ∈ all) (hi : i < all.length) (s : Stp) : FoundOk (r.next i own all s) ∧ own ∈ r.next i own all s ∧ i < (r.next i own all s).length := by
  unfold Row.next
  split
  · rename_i hc
    have hp := stepP_ok (r := r) (h.one own ho) s
    have hm := h.many own ho
    refine ⟨⟨fun f hf => ?_, ?_, fun f hf => ?_, fun j f hj => ?_⟩, List.mem_append_left _ ho, by simp; omega⟩
    · rcases List.mem_append.1 hf with hf | hf
      · exact h.one f hf
      · simp at hf; subst hf; exact hp
    · rw [List.map_append, List.nodup_append]
      refine ⟨h.nodup, by simp, fun a ha b hb e => ?_⟩
      simp at hb
      subst hb
      subst e
      obtain ⟨f, hf, he⟩ := List.mem_map.1 ha
      have := List.any_eq_false.1 hc.2 f hf
      simp at this
      exact this he
    · rcases List.mem_append.1 hf with hf | hf
      · have := h.many f hf; simp; omega
      · simp at hf; subst hf; simp; omega
    · by_cases hl : j < all.length
      · rw [List.getElem?_append_left hl] at hj
        exact h.back j f hj
      · rw [List.getElem?_append_right (by omega)] at hj
        have : j - all.length = 0 := by
          have := (List.getElem?_eq_some_iff.1 hj).1
          simp at this; omega
        rw [this] at hj
        simp at hj; subst hj; simp only; omega
  · exact ⟨h, ho, hi⟩
theorem next_len (r : Row) (i : Nat) (own : Found) (all : List Found) (s : Stp) : all.length ≤ (r.next i own all s).length := by
  unfold Row.next
  split
  · simp
  · exact Nat.le_refl _
theorem fold_len (r : Row) (i : Nat) (own : Found) : ∀ (l : List Stp) (all : List Found), all.length ≤ (l.foldl (r.next i own) all).length
  | [], all => Nat.le_refl _
  | s :: l, all => Nat.le_trans (next_len r i own all s) (fold_len r i own l _)
theorem fold_ok (r : Row) (i : Nat) (own : Found) : ∀ (l : List Stp) (all : List Found), FoundOk all → own ∈ all → i < all.length → FoundOk (l.foldl (r.next i own) all)
  | [], all, h, _, _ => h
  | s :: l, all, h, ho, hi => fold_ok r i own l _ (h.next ho hi s).1 (h.next ho hi s).2.1 (h.next ho hi s).2.2
end Go.Proofs.Ytmggofcaeolaiaa
namespace Go.Proofs.Ytmggofcaeolaiaa
open Go.Am Go.Proofs Go
theorem tkL_idem {f : AV → Option AV} (hf : ∀ {x y : AV}, f x = some y → f y = some y) : ∀ {xs l : List AV}, tkL f xs = some l → tkL f l = some l
  | [], l, h => by simp only [tkL, Option.some.injEq] at h; subst h; rfl
  | x :: xs, l, h => by
    simp only [tkL] at h
    split at h
    · rename_i y ys h1 h2
      simp only [Option.some.injEq] at h; subst h
      simp only [tkL, hf h1, tkL_idem hf h2]
    · simp at h
theorem tk0_idem {ks : List Key} {x y : AV} (h : tk0 ks x = some y) : tk0 ks y = some y := by
  cases x <;> simp only [tk0] at h <;> try (simp at h; done)
  all_goals first
    | (have e := Option.some.inj h; subst e; rfl)
    | (have h' := h; unfold keyd at h'; split at h'
       · have e := Option.some.inj h'; subst e; exact h
       · simp at h')
theorem tk1_idem {ks : List Key} {x y : AV} (h : tk1 ks x = some y) : tk1 ks y = some y := by
  have one : ∀ {x y}, tk0 ks x = some y → tk1 ks y = some y := by
    intro x y h
    have := tk0_idem h
    cases y <;> first | exact this | (simp [tk0] at this)
  cases x with
  | func fn fs cs =>
    simp only [tk1] at h
    split at h
    · rename_i a b h1 h2
      simp only [Option.some.injEq] at h; subst h
      simp only [tk1, tkL_idem tk0_idem h1, tkL_idem tk0_idem h2]
    · simp at h
  | _ => exact one (by simpa only [tk1] using h)
theorem tk2_idem {ks : List Key} {x y : AV} (h : tk2 ks x = some y) : tk2 ks y = some y := by
  have one : ∀ {x y}, tk1 ks x = some y → tk2 ks y = some y := by
    intro x y h
    have := tk1_idem h
    cases y <;> first | exact this | (simp [tk1, tk0] at this)
  cases x with
  | agg cs =>
    simp only [tk2] at h
    split at h
    · rename_i a h1
      simp only [Option.some.injEq] at h; subst h
      simp only [tk2, tkL_idem tk1_idem h1]
    · simp at h
  | _ => exact one (by simpa only [tk2] using h)
theorem tkJs_idem (ks : List Key) : ∀ l : List AV, tkJs ks (tkJs ks l) = tkJs ks l
  | [] => rfl
  | x :: l => by
    simp only [tkJs, tkJs_idem ks l]
    congr 1
    cases h : tk2 ks x with
    | none => rfl
    | some y => simp only [tk2_idem h]
def partsV : List Part → List Value
  | [] => []
  | q :: p => .int .i64 q.kind :: .bool q.broken :: partsV p
def valP (p : List Part) : Value := .agg (partsV p).toArray
def kkP : KK := .agg [.int .i64, .bool, .int .i64, .bool, .int .i64, .bool, .int .i64, .bool, .int .i64, .bool]
theorem toVal_parts (p : List Part) : toVal (partsA p) = some (valP p) := by
  have : ∀ p, toVals (partsC p) = some (partsV p) := by
    intro p
    induction p with
    | nil => rfl
    | cons q p ih => simp only [partsC, toVals, ih]; rfl
  unfold partsA valP
  simp only [toVal, this, Option.map_some]
theorem typed_parts {p : List Part} (h : p.length = 5) : kkP.typed (valP p) = true := by
  obtain ⟨a, b, c, d, e, rfl⟩ := list5 h
  rfl
theorem eqV_parts (p q : List Part) : eqV (valP p) (valP q) = decide (p = q) := by
  have : ∀ p q, eqL (partsV p) (partsV q) = decide (p = q) := by
    intro p
    induction p with
    | nil => intro q; cases q <;> simp [partsV, eqL]
    | cons a p ih =>
      intro q
      cases q with
      | nil => simp [partsV, eqL]
      | cons b q =>
        simp only [partsV, eqL, eqC, ih]
        obtain ⟨a1, a2⟩ := a
        obtain ⟨b1, b2⟩ := b
        rw [Bool.eq_iff_iff]
        simp
        constructor
        · rintro ⟨rfl, rfl, rfl⟩; exact ⟨⟨rfl, rfl⟩, rfl⟩
        · rintro ⟨⟨rfl, rfl⟩, rfl⟩; exact ⟨rfl, rfl, rfl⟩
  unfold valP
  simp only [eqV]
  exact this p q
theorem find_met : ∀ (l : List Found) (p : List Part) (n : Nat), (∀ f ∈ l, f.parts.length = 5) → (l.any fun f => decide (f.parts = p)) = true → ∃ i, mapFind kkP (l.map entA) (valP p) n = some (some (i, intA 1))
  | [], p, n, _, h => by simp at h
  | f :: l, p, n, hl, h => by
    simp only [List.map_cons, entA, mapFind, toVal_parts, typed_parts (hl f (List.mem_cons_self ..)), if_true, eqV_parts]
    by_cases e : f.parts = p
    · exact ⟨n, by simp [e]⟩
    · rw [if_neg (by simp only [decide_eq_true_eq]; exact fun h => e h.symm)]
      exact find_met l p (n + 1) (fun f hf => hl f (List.mem_cons_of_mem _ hf)) (by simpa [e] using h)
theorem find_new : ∀ (l : List Found) (p : List Part) (n : Nat), (∀ f ∈ l, f.parts.length = 5) → (l.any fun f => decide (f.parts = p)) = false → mapFind kkP (l.map entA) (valP p) n = some none
  | [], p, n, _, h => rfl
  | f :: l, p, n, hl, h => by
    simp only [List.map_cons, entA, mapFind, toVal_parts, typed_parts (hl f (List.mem_cons_self ..)), if_true, eqV_parts]
    by_cases e : f.parts = p
    · simp [e] at h
    · rw [if_neg (by simp only [decide_eq_true_eq]; exact fun h => e h.symm)]
      exact find_new l p (n + 1) (fun f hf => hl f (List.mem_cons_of_mem _ hf)) (by simpa [e] using h)
theorem setVal_last (a b v : AV) : ∀ l : List AV, setVal (l ++ [.tuple [a, b]]) l.length v = some (l ++ [.tuple [a, v]])
  | [] => rfl
  | x :: l => by simp only [List.cons_append, List.length_cons, setVal, setVal_last a b v l]
theorem firstF_ok {p : List Part} (h : okP5 p) : FoundOk [firstF p] := by
  refine ⟨fun f hf => ?_, by simp, fun f hf => ?_, fun j f hj => ?_⟩
  · simp at hf; subst hf; exact h
  · simp at hf; subst hf; simp [firstF]
  · cases j with
    | zero => simp at hj; subst hj; simp [firstF]
    | succ j => simp at hj
theorem Sea.pre_app (s : Sea) (all : List Found) (f : Found) : s.pre (all ++ [f]) =
    (kL, s.gl, 0, [.lp .ready none #[62] s.aC s.bC s.l]) :: (s.kx, 1, 3, [.agg [.own kF (all.length + 1) 14 (all.length + 1) 0, intA s.most, s.dF]]) :: (kF, all.length + 1, 14, (all.map foundA).take all.length ++ [foundA f]) ::
    (kM, 1, 0, .v (.int .i64 0) :: (all.map entA ++ [entA f])) :: (⟨0, 71, 2⟩, 1, 1, [.ptr s.kx 1 3 0 0]) :: (⟨0, 71, 5⟩, 1, 1, [.mp kM 1]) :: (⟨0, 71, 6⟩, 1, 1, [.func (.func 64) [lookR s.r s.p0] []]) ::
    (⟨0, 71, 7⟩, s.g7, 1, [intA s.i]) :: (⟨0, 71, 8⟩, s.g8, 14, [foundA s.own]) :: s.E := by
  have h1 : (all ++ [f]).length = all.length + 1 := by simp
  have h2 : (all ++ [f]).map foundA = (all.map foundA).take all.length ++ [foundA f] := by
    rw [List.take_of_length_le (by simp)]; simp
  have h3 : (all ++ [f]).map entA = all.map entA ++ [entA f] := by simp
  unfold Sea.pre
  rw [h1, h2, h3]
set_option maxHeartbeats 2000000 in
theorem run89_c (r : Row) (hg : r.Good) (h10 : r.beside.length ≤ 10) (p0 : List Part) (hp0 : okP5 p0) (most : Int) (hm : inI most) (d : List Part → Bool)
    (hd : ∀ p, p.length = 5 → PureA Try.prog 89 [partsA p, .cptr [lookR r p0]] (boolA (d p))) :
    BoxA Try.prog (.fn 71) (((⟨0, 68, 4⟩ : Key), 1, 3, [.agg [.slice 0 [] .no, intA most, (.func (.func 89) [] [.ptr ⟨0, 68, 1⟩ 1 1 0 0])]]) :: [(⟨0, 68, 1⟩, 1, 1, [lookR r p0])]) [.ptr (⟨0, 68, 4⟩ : Key) 1 3 0 0, lookR r p0]
      (intA (r.seek most d 248833 0 [firstF p0]).1)
      (((⟨0, 68, 4⟩ : Key), 1, 3, [.agg [.own kF (r.seek most d 248833 0 [firstF p0]).2.length 14 (r.seek most d 248833 0 [firstF p0]).2.length 0, intA most, (.func (.func 89) [] [.ptr ⟨0, 68, 1⟩ 1 1 0 0])]]) ::
        ([(⟨0, 68, 1⟩, 1, 1, [lookR r p0])] ++ [(kF, (r.seek most d 248833 0 [firstF p0]).2.length, 14, (r.seek most d 248833 0 [firstF p0]).2.map foundA)])) := by
  have hst := stepsF_c r p0 hp0.1
  obtain ⟨p1, p2, p3, p4, p5, hpe⟩ := list5 hp0.1
  have hstep := fun p hp s => step_c r hg p p0 hp hp0.1 s
  generalize hR : r.seek most d 248833 0 [firstF p0] = R at *
  subst hpe
  refine boxA_codeB tabOk { l := 0, f := 71, mat := [96], ow := [18, 98] } mixed call_71 Try.func71 (by kernel_rfl) ?_
  conv => whnf
  repeat (any_goals (first | exact falseI | (refine brP_dec (fun _ => ?_) (fun _ => ?_) <;> first | (exfalso; omega) | conv => whnf) | (refine brP_ndec (fun _ => ?_) (fun _ => ?_) <;> first | (exfalso; omega) | conv => whnf) | ((first | refine And.intro (DrawOk.mk (by kernel_rfl)) ?_ | refine okI ?_ | refine brP_true (Nat.beq_refl _) ?_ | refine brP_intro (fun _ => ?_) (fun _ => ?_) | refine bndI ?_ | intro _) <;> conv => whnf)))
  refine loopK tabOk { l := 0, f := 71, mat := [96], ow := [18, 98] } mixed (fun a : Nat × List Found => [(7, .ptr ⟨0, 71, 7⟩ (a.1 + 1) 1 0 0)]) (fun a => [((⟨0, 68, 4⟩ : Key), some (1, some (3, [.agg [.own kF a.2.length 14 a.2.length 0, intA most, (.func (.func 89) [] [.ptr ⟨0, 68, 1⟩ 1 1 0 0])]]))), (kF, some (a.2.length, some (14, a.2.map foundA))), (kM, some (1, some (0, .v (.int .i64 0) :: a.2.map entA))), (⟨0, 71, 7⟩, some (a.1 + 1, some (1, [intA a.1])))]) (fun _ => []) (fun a => a.1 ≤ a.2.length ∧ FoundOk a.2 ∧ r.seek most d (248833 - a.1) a.1 a.2 = R) (fun a => 248833 - a.1) (0, [firstF [p1, p2, p3, p4, p5]]) (by kernel_rfl)
    ⟨Nat.zero_le _, firstF_ok hp0, hR⟩ ?_
  conv => whnf
  refine ⟨⟨?_, ?_, trivial⟩, ?_⟩
  · repeat (first | exact trivial | refine slotsLe_cons rfl ?_)
  · repeat (first | exact trivial | refine keysLe_cons rfl ?_)
  intro ⟨i, all⟩ ⟨hi, hok, H⟩
  simp only at hi hok H
  have hbd := hok.bound
  conv => whnf
  repeat (any_goals (first | exact falseI | (refine brP_dec (fun _ => ?_) (fun _ => ?_) <;> first | (exfalso; omega) | conv => whnf) | (refine brP_ndec (fun _ => ?_) (fun _ => ?_) <;> first | (exfalso; omega) | conv => whnf) | ((first | refine And.intro (DrawOk.mk (by kernel_rfl)) ?_ | refine okI ?_ | refine brP_true (Nat.beq_refl _) ?_ | refine brP_intro (fun _ => ?_) (fun _ => ?_) | refine bndI ?_ | intro _) <;> conv => whnf)))
  · rename_i h1
    have h1 : i < all.length := by simp only at h1; omega
    obtain ⟨k, hk⟩ : ∃ k, 248833 - i = k + 1 := ⟨248832 - i, by omega⟩
    rw [hk] at H
    obtain ⟨own, ho, _⟩ := drop_cons (l := all) (i := i) (by omega)
    have hmem := List.mem_of_getElem? ho
    have ho5 := (hok.one own hmem).1
    simp only [Row.seek, ho] at H
    have hdo := hd own.parts ho5
    have hmany := hok.many own hmem
    generalize d own.parts = b at *
    obtain ⟨oP, oL, oB, oM⟩ := own
    simp only at ho5 hdo H hmany
    obtain ⟨o1, o2, o3, o4, o5, rfl⟩ := list5 ho5
    refine optP_map ho rfl ?_
    conv => whnf
    have hk1 : 248833 - (i + 1) = k := by omega
    cases b
    · simp only [Bool.false_eq_true, if_false] at H
      repeat (any_goals (first | exact falseI | (refine brP_dec (fun _ => ?_) (fun _ => ?_) <;> first | (exfalso; omega) | conv => whnf) | (refine brP_ndec (fun _ => ?_) (fun _ => ?_) <;> first | (exfalso; omega) | conv => whnf) | ((first | refine callP_b hdo rfl ?_ | refine callP_a hst ?_ | refine And.intro (DrawOk.mk (by kernel_rfl)) ?_ | refine okI ?_ | refine brP_true (Nat.beq_refl _) ?_ | refine brP_intro (fun _ => ?_) (fun _ => ?_) | refine bndI ?_ | intro _) <;> conv => whnf)))
      · rename_i hmo
        rw [if_pos hmo] at H
        (refine ⟨(i + 1, all), ⟨by simp only; omega, hok, by simp only; rw [hk1]; exact H⟩, (by simp only; omega), ?_⟩; (conv => whnf); refine ⟨?_, ?_, ?_⟩ <;> repeat (first | exact trivial | refine slotsLe_cons rfl ?_ | refine keysLe_none ?_ | refine keysLe_cons rfl ?_ | refine slotsLe_cons (by rfl) ?_ | refine keysLe_cons (by rfl) ?_))
      · rename_i hmo gL
        rw [if_neg hmo] at H
        refine ⟨Sea.keys ⟨r, [p1, p2, p3, p4, p5], (⟨0, 68, 4⟩ : Key), (.func (.func 89) [] [.ptr ⟨0, 68, 1⟩ 1 1 0 0]), [(⟨0, 68, 1⟩, 1, 1, [lookR r [p1, p2, p3, p4, p5]])], 0, .skip, .skip, [], 0, 0, ⟨[], zeroS, 0, 0⟩, 0, 0⟩, ?_⟩
        conv => whnf
        refine optP_intro (tk_found _ _) ?_
        conv => whnf
        refine ⟨_, _, iter_c ⟨r, [p1, p2, p3, p4, p5], (⟨0, 68, 4⟩ : Key), (.func (.func 89) [] [.ptr ⟨0, 68, 1⟩ 1 1 0 0]), [(⟨0, 68, 1⟩, 1, 1, [lookR r [p1, p2, p3, p4, p5]])], _, _, _, _, most, _, ⟨[o1, o2, o3, o4, o5], oL, oB, oM⟩, _, _⟩ ?_ hg h10 (fun l => FoundOk l ∧ (⟨[o1, o2, o3, o4, o5], oL, oB, oM⟩ : Found) ∈ l ∧ i < l.length) (r.next i ⟨[o1, o2, o3, o4, o5], oL, oB, oM⟩) ?_ all ⟨hok, hmem, h1⟩, ?_⟩
        · refine ⟨by simp, ?_, rfl, rfl⟩
          first | exact tkJs_idem _ _ | rfl
        · intro all' s ⟨hok', hmem', hi'⟩ hs
          refine ⟨?_, hok'.next hmem' hi' s⟩
          have hy1 := hstep [o1, o2, o3, o4, o5] rfl s
          have hy2 := stepP_len' r [o1, o2, o3, o4, o5] s
          have hl5 : ∀ f ∈ all', f.parts.length = 5 := fun f hf => (hok'.one f hf).1
          have hb' := hok'.bound
          have hfm := fun p => find_met all' p 0 hl5
          have hfn := fun p => find_new all' p 0 hl5
          unfold stepA at hy1
          unfold Row.next
          simp only
          generalize r.stepP [o1, o2, o3, o4, o5] s = y at *
          obtain ⟨y, e⟩ := y
          simp only at hy1 hy2 ⊢
          obtain ⟨y1, y2, y3, y4, y5, rfl⟩ := list5 hy2
          by_cases he : e = 0
          · subst he
            by_cases hm2 : (all'.any fun f => decide (f.parts = [y1, y2, y3, y4, y5])) = true
            · rw [if_neg (by rw [hm2]; simp)]
              obtain ⟨j, hj⟩ := hfm _ hm2
              have hj : mapFind (.agg [.int .i64, .bool, .int .i64, .bool, .int .i64, .bool, .int .i64, .bool, .int .i64, .bool]) (all'.map entA) (.agg #[.int .i64 y1.kind, .bool y1.broken, .int .i64 y2.kind, .bool y2.broken, .int .i64 y3.kind, .bool y3.broken, .int .i64 y4.kind, .bool y4.broken, .int .i64 y5.kind, .bool y5.broken]) 0 = some (some (j, intA 1)) := hj
              refine boxA_yieldB tabOk { l := 0, f := 71, ow := [18, 98], rd := true } mixed rfl rfl rfl (by kernel_rfl) ?_
              conv => whnf
              refine And.intro rfl ?_
              conv => whnf
              repeat (any_goals (first | exact falseI | (refine brP_dec (fun _ => ?_) (fun _ => ?_) <;> first | (exfalso; omega) | conv => whnf) | (refine brP_ndec (fun _ => ?_) (fun _ => ?_) <;> first | (exfalso; omega) | conv => whnf) | ((first | refine callP_a hy1 ?_ | rw [hj] | refine And.intro (DrawOk.mk (by kernel_rfl)) ?_ | refine okI ?_ | refine brP_true (Nat.beq_refl _) ?_ | refine brP_intro (fun _ => ?_) (fun _ => ?_) | refine bndI ?_ | intro _) <;> conv => whnf)))
              skip
              repeat (first | exact trivial | refine And.intro rfl ?_ | refine keysLe_cons rfl ?_)
            · have hm2 := Bool.eq_false_iff.2 hm2
              rw [if_pos ⟨rfl, hm2⟩]
              have hj : mapFind (.agg [.int .i64, .bool, .int .i64, .bool, .int .i64, .bool, .int .i64, .bool, .int .i64, .bool]) (all'.map entA) (.agg #[.int .i64 y1.kind, .bool y1.broken, .int .i64 y2.kind, .bool y2.broken, .int .i64 y3.kind, .bool y3.broken, .int .i64 y4.kind, .bool y4.broken, .int .i64 y5.kind, .bool y5.broken]) 0 = some none := hfn _ hm2
              have hsv : setVal (all'.map entA ++ [.tuple [partsA [y1, y2, y3, y4, y5], .v (.int .i64 0)]]) ((0 + ((all'.map entA).length : Int) - 0).toNat) (.v (.int .i64 (0 + 1))) = some (all'.map entA ++ [entA ⟨[y1, y2, y3, y4, y5], s, i, oM + 1⟩]) := by
                rw [show ((0 + ((all'.map entA).length : Int) - 0).toNat) = (all'.map entA).length by omega, setVal_last]
                rfl
              rw [Sea.pre_app]
              refine boxA_yieldB tabOk { l := 0, f := 71, ow := [18, 98], rd := true } mixed rfl rfl rfl (by kernel_rfl) ?_
              conv => whnf
              refine And.intro rfl ?_
              conv => whnf
              repeat (any_goals (first | exact falseI | (refine brP_dec (fun _ => ?_) (fun _ => ?_) <;> first | (exfalso; omega) | conv => whnf) | (refine brP_ndec (fun _ => ?_) (fun _ => ?_) <;> first | (exfalso; omega) | conv => whnf) | ((first | refine callP_a hy1 ?_ | rw [hj] | refine optP_intro hsv ?_ | refine And.intro (DrawOk.mk (by kernel_rfl)) ?_ | refine okI ?_ | refine brP_true (Nat.beq_refl _) ?_ | refine brP_intro (fun _ => ?_) (fun _ => ?_) | refine bndI ?_ | intro _) <;> conv => whnf)))
              skip
              repeat (first | exact trivial | refine And.intro rfl ?_ | refine keysLe_cons rfl ?_)
          · rw [if_neg (fun h => he h.1)]
            refine boxA_yieldB tabOk { l := 0, f := 71, ow := [18, 98], rd := true } mixed rfl rfl rfl (by kernel_rfl) ?_
            conv => whnf
            refine And.intro rfl ?_
            conv => whnf
            repeat (any_goals (first | exact falseI | (refine brP_dec (fun _ => ?_) (fun _ => ?_) <;> first | (exfalso; omega) | conv => whnf) | (refine brP_ndec (fun _ => ?_) (fun _ => ?_) <;> first | (exfalso; omega) | conv => whnf) | ((first | refine callP_a hy1 ?_ | refine And.intro (DrawOk.mk (by kernel_rfl)) ?_ | refine okI ?_ | refine brP_true (Nat.beq_refl _) ?_ | refine brP_intro (fun _ => ?_) (fun _ => ?_) | refine bndI ?_ | intro _) <;> conv => whnf)))
            skip
            repeat (first | exact trivial | refine And.intro rfl ?_ | refine keysLe_cons rfl ?_)
        · conv => whnf
          refine optP_intro (tk_found _ _) ?_
          conv => whnf
          repeat (any_goals (first | exact falseI | (refine brP_dec (fun _ => ?_) (fun _ => ?_) <;> first | (exfalso; omega) | conv => whnf) | (refine brP_ndec (fun _ => ?_) (fun _ => ?_) <;> first | (exfalso; omega) | conv => whnf) | ((first | refine And.intro (DrawOk.mk (by kernel_rfl)) ?_ | refine okI ?_ | refine brP_true (Nat.beq_refl _) ?_ | refine brP_intro (fun _ => ?_) (fun _ => ?_) | refine bndI ?_ | intro _) <;> conv => whnf)))
          refine And.intro (by show inI ((i : Int) + 1); simp [inI]; omega) ?_
          conv => whnf
          repeat (any_goals (first | exact falseI | (refine brP_dec (fun _ => ?_) (fun _ => ?_) <;> first | (exfalso; omega) | conv => whnf) | (refine brP_ndec (fun _ => ?_) (fun _ => ?_) <;> first | (exfalso; omega) | conv => whnf) | ((first | refine And.intro (DrawOk.mk (by kernel_rfl)) ?_ | refine okI ?_ | refine brP_true (Nat.beq_refl _) ?_ | refine brP_intro (fun _ => ?_) (fun _ => ?_) | refine bndI ?_ | intro _) <;> conv => whnf)))
          have hfl := fold_len r i ⟨[o1, o2, o3, o4, o5], oL, oB, oM⟩ r.sorted all
          have hfo := fold_ok r i ⟨[o1, o2, o3, o4, o5], oL, oB, oM⟩ r.sorted all hok hmem h1
          (refine ⟨(i + 1, r.sorted.foldl (r.next i ⟨[o1, o2, o3, o4, o5], oL, oB, oM⟩) all), ⟨by simp only; omega, hfo, by simp only; rw [hk1]; exact H⟩, (by simp only; omega), ?_⟩; (conv => whnf); refine ⟨?_, ?_, ?_⟩ <;> repeat (first | exact trivial | refine slotsLe_cons rfl ?_ | refine keysLe_none ?_ | refine keysLe_cons rfl ?_ | refine slotsLe_cons (by rfl) ?_ | refine keysLe_cons (by rfl) ?_))
    · simp only [if_true] at H
      subst H
      repeat (any_goals (first | exact falseI | (refine brP_dec (fun _ => ?_) (fun _ => ?_) <;> first | (exfalso; omega) | conv => whnf) | (refine brP_ndec (fun _ => ?_) (fun _ => ?_) <;> first | (exfalso; omega) | conv => whnf) | ((first | refine callP_b hdo rfl ?_ | refine And.intro (DrawOk.mk (by kernel_rfl)) ?_ | refine okI ?_ | refine brP_true (Nat.beq_refl _) ?_ | refine brP_intro (fun _ => ?_) (fun _ => ?_) | refine bndI ?_ | intro _) <;> conv => whnf)))
      refine And.intro ?_ ?_
      · conv => whnf
        refine ⟨⟨?_⟩, trivial⟩
        rfl
      · repeat (first | exact trivial | refine And.intro rfl ?_ | refine And.intro (by skip) ?_)
  · rename_i h1
    have : all[i]? = none := by simp only at h1; exact List.getElem?_eq_none (by omega)
    obtain ⟨k, hk⟩ : ∃ k, 248833 - i = k + 1 := ⟨248832 - i, by omega⟩
    rw [hk] at H
    simp only [Row.seek, this] at H
    subst H
    refine And.intro ?_ ?_
    · conv => whnf
      refine ⟨⟨?_⟩, trivial⟩
      rfl
    · repeat (first | exact trivial | refine And.intro rfl ?_ | refine And.intro (by skip) ?_)
set_option maxHeartbeats 2000000 in
theorem run70_c (r : Row) (hg : r.Good) (h10 : r.beside.length ≤ 10) (p0 : List Part) (hp0 : okP5 p0) (most : Int) (hm : inI most) (d : List Part → Bool)
    (hd : ∀ p, p.length = 5 → PureA Try.prog 70 [partsA p] (boolA (d p))) :
    BoxA Try.prog (.fn 71) (((⟨0, 28, 6⟩ : Key), 1, 3, [.agg [.slice 0 [] .no, intA most, (.func (.func 70) [] [])]]) :: []) [.ptr (⟨0, 28, 6⟩ : Key) 1 3 0 0, lookR r p0]
      (intA (r.seek most d 248833 0 [firstF p0]).1)
      (((⟨0, 28, 6⟩ : Key), 1, 3, [.agg [.own kF (r.seek most d 248833 0 [firstF p0]).2.length 14 (r.seek most d 248833 0 [firstF p0]).2.length 0, intA most, (.func (.func 70) [] [])]]) ::
        ([] ++ [(kF, (r.seek most d 248833 0 [firstF p0]).2.length, 14, (r.seek most d 248833 0 [firstF p0]).2.map foundA)])) := by
  have hst := stepsF_c r p0 hp0.1
  obtain ⟨p1, p2, p3, p4, p5, hpe⟩ := list5 hp0.1
  have hstep := fun p hp s => step_c r hg p p0 hp hp0.1 s
  generalize hR : r.seek most d 248833 0 [firstF p0] = R at *
  subst hpe
  refine boxA_codeB tabOk { l := 0, f := 71, mat := [96], ow := [18, 98] } mixed call_71 Try.func71 (by kernel_rfl) ?_
  conv => whnf
  repeat (any_goals (first | exact falseI | (refine brP_dec (fun _ => ?_) (fun _ => ?_) <;> first | (exfalso; omega) | conv => whnf) | (refine brP_ndec (fun _ => ?_) (fun _ => ?_) <;> first | (exfalso; omega) | conv => whnf) | ((first | refine And.intro (DrawOk.mk (by kernel_rfl)) ?_ | refine okI ?_ | refine brP_true (Nat.beq_refl _) ?_ | refine brP_intro (fun _ => ?_) (fun _ => ?_) | refine bndI ?_ | intro _) <;> conv => whnf)))
  refine loopK tabOk { l := 0, f := 71, mat := [96], ow := [18, 98] } mixed (fun a : Nat × List Found => [(7, .ptr ⟨0, 71, 7⟩ (a.1 + 1) 1 0 0)]) (fun a => [((⟨0, 28, 6⟩ : Key), some (1, some (3, [.agg [.own kF a.2.length 14 a.2.length 0, intA most, (.func (.func 70) [] [])]]))), (kF, some (a.2.length, some (14, a.2.map foundA))), (kM, some (1, some (0, .v (.int .i64 0) :: a.2.map entA))), (⟨0, 71, 7⟩, some (a.1 + 1, some (1, [intA a.1])))]) (fun _ => []) (fun a => a.1 ≤ a.2.length ∧ FoundOk a.2 ∧ r.seek most d (248833 - a.1) a.1 a.2 = R) (fun a => 248833 - a.1) (0, [firstF [p1, p2, p3, p4, p5]]) (by kernel_rfl)
    ⟨Nat.zero_le _, firstF_ok hp0, hR⟩ ?_
  conv => whnf
  refine ⟨⟨?_, ?_, trivial⟩, ?_⟩
  · repeat (first | exact trivial | refine slotsLe_cons rfl ?_)
  · repeat (first | exact trivial | refine keysLe_cons rfl ?_)
  intro ⟨i, all⟩ ⟨hi, hok, H⟩
  simp only at hi hok H
  have hbd := hok.bound
  conv => whnf
  repeat (any_goals (first | exact falseI | (refine brP_dec (fun _ => ?_) (fun _ => ?_) <;> first | (exfalso; omega) | conv => whnf) | (refine brP_ndec (fun _ => ?_) (fun _ => ?_) <;> first | (exfalso; omega) | conv => whnf) | ((first | refine And.intro (DrawOk.mk (by kernel_rfl)) ?_ | refine okI ?_ | refine brP_true (Nat.beq_refl _) ?_ | refine brP_intro (fun _ => ?_) (fun _ => ?_) | refine bndI ?_ | intro _) <;> conv => whnf)))
  · rename_i h1
    have h1 : i < all.length := by simp only at h1; omega
    obtain ⟨k, hk⟩ : ∃ k, 248833 - i = k + 1 := ⟨248832 - i, by omega⟩
    rw [hk] at H
    obtain ⟨own, ho, _⟩ := drop_cons (l := all) (i := i) (by omega)
    have hmem := List.mem_of_getElem? ho
    have ho5 := (hok.one own hmem).1
    simp only [Row.seek, ho] at H
    have hdo := hd own.parts ho5
    have hmany := hok.many own hmem
    generalize d own.parts = b at *
    obtain ⟨oP, oL, oB, oM⟩ := own
    simp only at ho5 hdo H hmany
    obtain ⟨o1, o2, o3, o4, o5, rfl⟩ := list5 ho5
    refine optP_map ho rfl ?_
    conv => whnf
    have hk1 : 248833 - (i + 1) = k := by omega
    cases b
    · simp only [Bool.false_eq_true, if_false] at H
      repeat (any_goals (first | exact falseI | (refine brP_dec (fun _ => ?_) (fun _ => ?_) <;> first | (exfalso; omega) | conv => whnf) | (refine brP_ndec (fun _ => ?_) (fun _ => ?_) <;> first | (exfalso; omega) | conv => whnf) | ((first | refine callP_a hdo ?_ | refine callP_a hst ?_ | refine And.intro (DrawOk.mk (by kernel_rfl)) ?_ | refine okI ?_ | refine brP_true (Nat.beq_refl _) ?_ | refine brP_intro (fun _ => ?_) (fun _ => ?_) | refine bndI ?_ | intro _) <;> conv => whnf)))
      · rename_i hmo
        rw [if_pos hmo] at H
        (refine ⟨(i + 1, all), ⟨by simp only; omega, hok, by simp only; rw [hk1]; exact H⟩, (by simp only; omega), ?_⟩; (conv => whnf); refine ⟨?_, ?_, ?_⟩ <;> repeat (first | exact trivial | refine slotsLe_cons rfl ?_ | refine keysLe_none ?_ | refine keysLe_cons rfl ?_ | refine slotsLe_cons (by rfl) ?_ | refine keysLe_cons (by rfl) ?_))
      · rename_i hmo gL
        rw [if_neg hmo] at H
        refine ⟨Sea.keys ⟨r, [p1, p2, p3, p4, p5], (⟨0, 28, 6⟩ : Key), (.func (.func 70) [] []), [], 0, .skip, .skip, [], 0, 0, ⟨[], zeroS, 0, 0⟩, 0, 0⟩, ?_⟩
        conv => whnf
        refine optP_intro (tk_found _ _) ?_
        conv => whnf
        refine ⟨_, _, iter_c ⟨r, [p1, p2, p3, p4, p5], (⟨0, 28, 6⟩ : Key), (.func (.func 70) [] []), [], _, _, _, _, most, _, ⟨[o1, o2, o3, o4, o5], oL, oB, oM⟩, _, _⟩ ?_ hg h10 (fun l => FoundOk l ∧ (⟨[o1, o2, o3, o4, o5], oL, oB, oM⟩ : Found) ∈ l ∧ i < l.length) (r.next i ⟨[o1, o2, o3, o4, o5], oL, oB, oM⟩) ?_ all ⟨hok, hmem, h1⟩, ?_⟩
        · refine ⟨by simp, ?_, rfl, rfl⟩
          first | exact tkJs_idem _ _ | rfl
        · intro all' s ⟨hok', hmem', hi'⟩ hs
          refine ⟨?_, hok'.next hmem' hi' s⟩
          have hy1 := hstep [o1, o2, o3, o4, o5] rfl s
          have hy2 := stepP_len' r [o1, o2, o3, o4, o5] s
          have hl5 : ∀ f ∈ all', f.parts.length = 5 := fun f hf => (hok'.one f hf).1
          have hb' := hok'.bound
          have hfm := fun p => find_met all' p 0 hl5
          have hfn := fun p => find_new all' p 0 hl5
          unfold stepA at hy1
          unfold Row.next
          simp only
          generalize r.stepP [o1, o2, o3, o4, o5] s = y at *
          obtain ⟨y, e⟩ := y
          simp only at hy1 hy2 ⊢
          obtain ⟨y1, y2, y3, y4, y5, rfl⟩ := list5 hy2
          by_cases he : e = 0
          · subst he
            by_cases hm2 : (all'.any fun f => decide (f.parts = [y1, y2, y3, y4, y5])) = true
            · rw [if_neg (by rw [hm2]; simp)]
              obtain ⟨j, hj⟩ := hfm _ hm2
              have hj : mapFind (.agg [.int .i64, .bool, .int .i64, .bool, .int .i64, .bool, .int .i64, .bool, .int .i64, .bool]) (all'.map entA) (.agg #[.int .i64 y1.kind, .bool y1.broken, .int .i64 y2.kind, .bool y2.broken, .int .i64 y3.kind, .bool y3.broken, .int .i64 y4.kind, .bool y4.broken, .int .i64 y5.kind, .bool y5.broken]) 0 = some (some (j, intA 1)) := hj
              refine boxA_yieldB tabOk { l := 0, f := 71, ow := [18, 98], rd := true } mixed rfl rfl rfl (by kernel_rfl) ?_
              conv => whnf
              refine And.intro rfl ?_
              conv => whnf
              repeat (any_goals (first | exact falseI | (refine brP_dec (fun _ => ?_) (fun _ => ?_) <;> first | (exfalso; omega) | conv => whnf) | (refine brP_ndec (fun _ => ?_) (fun _ => ?_) <;> first | (exfalso; omega) | conv => whnf) | ((first | refine callP_a hy1 ?_ | rw [hj] | refine And.intro (DrawOk.mk (by kernel_rfl)) ?_ | refine okI ?_ | refine brP_true (Nat.beq_refl _) ?_ | refine brP_intro (fun _ => ?_) (fun _ => ?_) | refine bndI ?_ | intro _) <;> conv => whnf)))
              skip
              repeat (first | exact trivial | refine And.intro rfl ?_ | refine keysLe_cons rfl ?_)
            · have hm2 := Bool.eq_false_iff.2 hm2
              rw [if_pos ⟨rfl, hm2⟩]
              have hj : mapFind (.agg [.int .i64, .bool, .int .i64, .bool, .int .i64, .bool, .int .i64, .bool, .int .i64, .bool]) (all'.map entA) (.agg #[.int .i64 y1.kind, .bool y1.broken, .int .i64 y2.kind, .bool y2.broken, .int .i64 y3.kind, .bool y3.broken, .int .i64 y4.kind, .bool y4.broken, .int .i64 y5.kind, .bool y5.broken]) 0 = some none := hfn _ hm2
              have hsv : setVal (all'.map entA ++ [.tuple [partsA [y1, y2, y3, y4, y5], .v (.int .i64 0)]]) ((0 + ((all'.map entA).length : Int) - 0).toNat) (.v (.int .i64 (0 + 1))) = some (all'.map entA ++ [entA ⟨[y1, y2, y3, y4, y5], s, i, oM + 1⟩]) := by
                rw [show ((0 + ((all'.map entA).length : Int) - 0).toNat) = (all'.map entA).length by omega, setVal_last]
                rfl
              rw [Sea.pre_app]
              refine boxA_yieldB tabOk { l := 0, f := 71, ow := [18, 98], rd := true } mixed rfl rfl rfl (by kernel_rfl) ?_
              conv => whnf
              refine And.intro rfl ?_
              conv => whnf
              repeat (any_goals (first | exact falseI | (refine brP_dec (fun _ => ?_) (fun _ => ?_) <;> first | (exfalso; omega) | conv => whnf) | (refine brP_ndec (fun _ => ?_) (fun _ => ?_) <;> first | (exfalso; omega) | conv => whnf) | ((first | refine callP_a hy1 ?_ | rw [hj] | refine optP_intro hsv ?_ | refine And.intro (DrawOk.mk (by kernel_rfl)) ?_ | refine okI ?_ | refine brP_true (Nat.beq_refl _) ?_ | refine brP_intro (fun _ => ?_) (fun _ => ?_) | refine bndI ?_ | intro _) <;> conv => whnf)))
              skip
              repeat (first | exact trivial | refine And.intro rfl ?_ | refine keysLe_cons rfl ?_)
          · rw [if_neg (fun h => he h.1)]
            refine boxA_yieldB tabOk { l := 0, f := 71, ow := [18, 98], rd := true } mixed rfl rfl rfl (by kernel_rfl) ?_
            conv => whnf
            refine And.intro rfl ?_
            conv => whnf
            repeat (any_goals (first | exact falseI | (refine brP_dec (fun _ => ?_) (fun _ => ?_) <;> first | (exfalso; omega) | conv => whnf) | (refine brP_ndec (fun _ => ?_) (fun _ => ?_) <;> first | (exfalso; omega) | conv => whnf) | ((first | refine callP_a hy1 ?_ | refine And.intro (DrawOk.mk (by kernel_rfl)) ?_ | refine okI ?_ | refine brP_true (Nat.beq_refl _) ?_ | refine brP_intro (fun _ => ?_) (fun _ => ?_) | refine bndI ?_ | intro _) <;> conv => whnf)))
            skip
            repeat (first | exact trivial | refine And.intro rfl ?_ | refine keysLe_cons rfl ?_)
        · conv => whnf
          refine optP_intro (tk_found _ _) ?_
          conv => whnf
          repeat (any_goals (first | exact falseI | (refine brP_dec (fun _ => ?_) (fun _ => ?_) <;> first | (exfalso; omega) | conv => whnf) | (refine brP_ndec (fun _ => ?_) (fun _ => ?_) <;> first | (exfalso; omega) | conv => whnf) | ((first | refine And.intro (DrawOk.mk (by kernel_rfl)) ?_ | refine okI ?_ | refine brP_true (Nat.beq_refl _) ?_ | refine brP_intro (fun _ => ?_) (fun _ => ?_) | refine bndI ?_ | intro _) <;> conv => whnf)))
          refine And.intro (by show inI ((i : Int) + 1); simp [inI]; omega) ?_
          conv => whnf
          repeat (any_goals (first | exact falseI | (refine brP_dec (fun _ => ?_) (fun _ => ?_) <;> first | (exfalso; omega) | conv => whnf) | (refine brP_ndec (fun _ => ?_) (fun _ => ?_) <;> first | (exfalso; omega) | conv => whnf) | ((first | refine And.intro (DrawOk.mk (by kernel_rfl)) ?_ | refine okI ?_ | refine brP_true (Nat.beq_refl _) ?_ | refine brP_intro (fun _ => ?_) (fun _ => ?_) | refine bndI ?_ | intro _) <;> conv => whnf)))
          have hfl := fold_len r i ⟨[o1, o2, o3, o4, o5], oL, oB, oM⟩ r.sorted all
          have hfo := fold_ok r i ⟨[o1, o2, o3, o4, o5], oL, oB, oM⟩ r.sorted all hok hmem h1
          (refine ⟨(i + 1, r.sorted.foldl (r.next i ⟨[o1, o2, o3, o4, o5], oL, oB, oM⟩) all), ⟨by simp only; omega, hfo, by simp only; rw [hk1]; exact H⟩, (by simp only; omega), ?_⟩; (conv => whnf); refine ⟨?_, ?_, ?_⟩ <;> repeat (first | exact trivial | refine slotsLe_cons rfl ?_ | refine keysLe_none ?_ | refine keysLe_cons rfl ?_ | refine slotsLe_cons (by rfl) ?_ | refine keysLe_cons (by rfl) ?_))
    · simp only [if_true] at H
      subst H
      repeat (any_goals (first | exact falseI | (refine brP_dec (fun _ => ?_) (fun _ => ?_) <;> first | (exfalso; omega) | conv => whnf) | (refine brP_ndec (fun _ => ?_) (fun _ => ?_) <;> first | (exfalso; omega) | conv => whnf) | ((first | refine callP_a hdo ?_ | refine And.intro (DrawOk.mk (by kernel_rfl)) ?_ | refine okI ?_ | refine brP_true (Nat.beq_refl _) ?_ | refine brP_intro (fun _ => ?_) (fun _ => ?_) | refine bndI ?_ | intro _) <;> conv => whnf)))
      refine And.intro ?_ ?_
      · conv => whnf
        refine ⟨⟨?_⟩, trivial⟩
        rfl
      · repeat (first | exact trivial | refine And.intro rfl ?_ | refine And.intro (by skip) ?_)
  · rename_i h1
    have : all[i]? = none := by simp only at h1; exact List.getElem?_eq_none (by omega)
    obtain ⟨k, hk⟩ : ∃ k, 248833 - i = k + 1 := ⟨248832 - i, by omega⟩
    rw [hk] at H
    simp only [Row.seek, this] at H
    subst H
    refine And.intro ?_ ?_
    · conv => whnf
      refine ⟨⟨?_⟩, trivial⟩
      rfl
    · repeat (first | exact trivial | refine And.intro rfl ?_ | refine And.intro (by skip) ?_)
set_option maxHeartbeats 2000000 in
theorem run72_c (r : Row) (hg : r.Good) (h10 : r.beside.length ≤ 10) (p0 : List Part) (hp0 : okP5 p0) (most : Int) (hm : inI most) (d : List Part → Bool)
    (hd : ∀ p, p.length = 5 → PureA Try.prog 72 [partsA p] (boolA (d p))) :
    BoxA Try.prog (.fn 71) (((⟨0, 30, 8⟩ : Key), 1, 3, [.agg [.slice 0 [] .no, intA most, (.func (.func 72) [] [])]]) :: []) [.ptr (⟨0, 30, 8⟩ : Key) 1 3 0 0, lookR r p0]
      (intA (r.seek most d 248833 0 [firstF p0]).1)
      (((⟨0, 30, 8⟩ : Key), 1, 3, [.agg [.own kF (r.seek most d 248833 0 [firstF p0]).2.length 14 (r.seek most d 248833 0 [firstF p0]).2.length 0, intA most, (.func (.func 72) [] [])]]) ::
        ([] ++ [(kF, (r.seek most d 248833 0 [firstF p0]).2.length, 14, (r.seek most d 248833 0 [firstF p0]).2.map foundA)])) := by
  have hst := stepsF_c r p0 hp0.1
  obtain ⟨p1, p2, p3, p4, p5, hpe⟩ := list5 hp0.1
  have hstep := fun p hp s => step_c r hg p p0 hp hp0.1 s
  generalize hR : r.seek most d 248833 0 [firstF p0] = R at *
  subst hpe
  refine boxA_codeB tabOk { l := 0, f := 71, mat := [96], ow := [18, 98] } mixed call_71 Try.func71 (by kernel_rfl) ?_
  conv => whnf
  repeat (any_goals (first | exact falseI | (refine brP_dec (fun _ => ?_) (fun _ => ?_) <;> first | (exfalso; omega) | conv => whnf) | (refine brP_ndec (fun _ => ?_) (fun _ => ?_) <;> first | (exfalso; omega) | conv => whnf) | ((first | refine And.intro (DrawOk.mk (by kernel_rfl)) ?_ | refine okI ?_ | refine brP_true (Nat.beq_refl _) ?_ | refine brP_intro (fun _ => ?_) (fun _ => ?_) | refine bndI ?_ | intro _) <;> conv => whnf)))
  refine loopK tabOk { l := 0, f := 71, mat := [96], ow := [18, 98] } mixed (fun a : Nat × List Found => [(7, .ptr ⟨0, 71, 7⟩ (a.1 + 1) 1 0 0)]) (fun a => [((⟨0, 30, 8⟩ : Key), some (1, some (3, [.agg [.own kF a.2.length 14 a.2.length 0, intA most, (.func (.func 72) [] [])]]))), (kF, some (a.2.length, some (14, a.2.map foundA))), (kM, some (1, some (0, .v (.int .i64 0) :: a.2.map entA))), (⟨0, 71, 7⟩, some (a.1 + 1, some (1, [intA a.1])))]) (fun _ => []) (fun a => a.1 ≤ a.2.length ∧ FoundOk a.2 ∧ r.seek most d (248833 - a.1) a.1 a.2 = R) (fun a => 248833 - a.1) (0, [firstF [p1, p2, p3, p4, p5]]) (by kernel_rfl)
    ⟨Nat.zero_le _, firstF_ok hp0, hR⟩ ?_
  conv => whnf
  refine ⟨⟨?_, ?_, trivial⟩, ?_⟩
  · repeat (first | exact trivial | refine slotsLe_cons rfl ?_)
  · repeat (first | exact trivial | refine keysLe_cons rfl ?_)
  intro ⟨i, all⟩ ⟨hi, hok, H⟩
  simp only at hi hok H
  have hbd := hok.bound
  conv => whnf
  repeat (any_goals (first | exact falseI | (refine brP_dec (fun _ => ?_) (fun _ => ?_) <;> first | (exfalso; omega) | conv => whnf) | (refine brP_ndec (fun _ => ?_) (fun _ => ?_) <;> first | (exfalso; omega) | conv => whnf) | ((first | refine And.intro (DrawOk.mk (by kernel_rfl)) ?_ | refine okI ?_ | refine brP_true (Nat.beq_refl _) ?_ | refine brP_intro (fun _ => ?_) (fun _ => ?_) | refine bndI ?_ | intro _) <;> conv => whnf)))
  · rename_i h1
    have h1 : i < all.length := by simp only at h1; omega
    obtain ⟨k, hk⟩ : ∃ k, 248833 - i = k + 1 := ⟨248832 - i, by omega⟩
    rw [hk] at H
    obtain ⟨own, ho, _⟩ := drop_cons (l := all) (i := i) (by omega)
    have hmem := List.mem_of_getElem? ho
    have ho5 := (hok.one own hmem).1
    simp only [Row.seek, ho] at H
    have hdo := hd own.parts ho5
    have hmany := hok.many own hmem
    generalize d own.parts = b at *
    obtain ⟨oP, oL, oB, oM⟩ := own
    simp only at ho5 hdo H hmany
    obtain ⟨o1, o2, o3, o4, o5, rfl⟩ := list5 ho5
    refine optP_map ho rfl ?_
    conv => whnf
    have hk1 : 248833 - (i + 1) = k := by omega
    cases b
    · simp only [Bool.false_eq_true, if_false] at H
      repeat (any_goals (first | exact falseI | (refine brP_dec (fun _ => ?_) (fun _ => ?_) <;> first | (exfalso; omega) | conv => whnf) | (refine brP_ndec (fun _ => ?_) (fun _ => ?_) <;> first | (exfalso; omega) | conv => whnf) | ((first | refine callP_a hdo ?_ | refine callP_a hst ?_ | refine And.intro (DrawOk.mk (by kernel_rfl)) ?_ | refine okI ?_ | refine brP_true (Nat.beq_refl _) ?_ | refine brP_intro (fun _ => ?_) (fun _ => ?_) | refine bndI ?_ | intro _) <;> conv => whnf)))
      · rename_i hmo
        rw [if_pos hmo] at H
        (refine ⟨(i + 1, all), ⟨by simp only; omega, hok, by simp only; rw [hk1]; exact H⟩, (by simp only; omega), ?_⟩; (conv => whnf); refine ⟨?_, ?_, ?_⟩ <;> repeat (first | exact trivial | refine slotsLe_cons rfl ?_ | refine keysLe_none ?_ | refine keysLe_cons rfl ?_ | refine slotsLe_cons (by rfl) ?_ | refine keysLe_cons (by rfl) ?_))
      · rename_i hmo gL
        rw [if_neg hmo] at H
        refine ⟨Sea.keys ⟨r, [p1, p2, p3, p4, p5], (⟨0, 30, 8⟩ : Key), (.func (.func 72) [] []), [], 0, .skip, .skip, [], 0, 0, ⟨[], zeroS, 0, 0⟩, 0, 0⟩, ?_⟩
        conv => whnf
        refine optP_intro (tk_found _ _) ?_
        conv => whnf
        refine ⟨_, _, iter_c ⟨r, [p1, p2, p3, p4, p5], (⟨0, 30, 8⟩ : Key), (.func (.func 72) [] []), [], _, _, _, _, most, _, ⟨[o1, o2, o3, o4, o5], oL, oB, oM⟩, _, _⟩ ?_ hg h10 (fun l => FoundOk l ∧ (⟨[o1, o2, o3, o4, o5], oL, oB, oM⟩ : Found) ∈ l ∧ i < l.length) (r.next i ⟨[o1, o2, o3, o4, o5], oL, oB, oM⟩) ?_ all ⟨hok, hmem, h1⟩, ?_⟩
        · refine ⟨by simp, ?_, rfl, rfl⟩
          first | exact tkJs_idem _ _ | rfl
        · intro all' s ⟨hok', hmem', hi'⟩ hs
          refine ⟨?_, hok'.next hmem' hi' s⟩
          have hy1 := hstep [o1, o2, o3, o4, o5] rfl s
          have hy2 := stepP_len' r [o1, o2, o3, o4, o5] s
          have hl5 : ∀ f ∈ all', f.parts.length = 5 := fun f hf => (hok'.one f hf).1
          have hb' := hok'.bound
          have hfm := fun p => find_met all' p 0 hl5
          have hfn := fun p => find_new all' p 0 hl5
          unfold stepA at hy1
          unfold Row.next
          simp only
          generalize r.stepP [o1, o2, o3, o4, o5] s = y at *
          obtain ⟨y, e⟩ := y
          simp only at hy1 hy2 ⊢
          obtain ⟨y1, y2, y3, y4, y5, rfl⟩ := list5 hy2
          by_cases he : e = 0
          · subst he
            by_cases hm2 : (all'.any fun f => decide (f.parts = [y1, y2, y3, y4, y5])) = true
            · rw [if_neg (by rw [hm2]; simp)]
              obtain ⟨j, hj⟩ := hfm _ hm2
              have hj : mapFind (.agg [.int .i64, .bool, .int .i64, .bool, .int .i64, .bool, .int .i64, .bool, .int .i64, .bool]) (all'.map entA) (.agg #[.int .i64 y1.kind, .bool y1.broken, .int .i64 y2.kind, .bool y2.broken, .int .i64 y3.kind, .bool y3.broken, .int .i64 y4.kind, .bool y4.broken, .int .i64 y5.kind, .bool y5.broken]) 0 = some (some (j, intA 1)) := hj
              refine boxA_yieldB tabOk { l := 0, f := 71, ow := [18, 98], rd := true } mixed rfl rfl rfl (by kernel_rfl) ?_
              conv => whnf
              refine And.intro rfl ?_
              conv => whnf
              repeat (any_goals (first | exact falseI | (refine brP_dec (fun _ => ?_) (fun _ => ?_) <;> first | (exfalso; omega) | conv => whnf) | (refine brP_ndec (fun _ => ?_) (fun _ => ?_) <;> first | (exfalso; omega) | conv => whnf) | ((first | refine callP_a hy1 ?_ | rw [hj] | refine And.intro (DrawOk.mk (by kernel_rfl)) ?_ | refine okI ?_ | refine brP_true (Nat.beq_refl _) ?_ | refine brP_intro (fun _ => ?_) (fun _ => ?_) | refine bndI ?_ | intro _) <;> conv => whnf)))
              skip
              repeat (first | exact trivial | refine And.intro rfl ?_ | refine keysLe_cons rfl ?_)
            · have hm2 := Bool.eq_false_iff.2 hm2
              rw [if_pos ⟨rfl, hm2⟩]
              have hj : mapFind (.agg [.int .i64, .bool, .int .i64, .bool, .int .i64, .bool, .int .i64, .bool, .int .i64, .bool]) (all'.map entA) (.agg #[.int .i64 y1.kind, .bool y1.broken, .int .i64 y2.kind, .bool y2.broken, .int .i64 y3.kind, .bool y3.broken, .int .i64 y4.kind, .bool y4.broken, .int .i64 y5.kind, .bool y5.broken]) 0 = some none := hfn _ hm2
              have hsv : setVal (all'.map entA ++ [.tuple [partsA [y1, y2, y3, y4, y5], .v (.int .i64 0)]]) ((0 + ((all'.map entA).length : Int) - 0).toNat) (.v (.int .i64 (0 + 1))) = some (all'.map entA ++ [entA ⟨[y1, y2, y3, y4, y5], s, i, oM + 1⟩]) := by
                rw [show ((0 + ((all'.map entA).length : Int) - 0).toNat) = (all'.map entA).length by omega, setVal_last]
                rfl
              rw [Sea.pre_app]
              refine boxA_yieldB tabOk { l := 0, f := 71, ow := [18, 98], rd := true } mixed rfl rfl rfl (by kernel_rfl) ?_
              conv => whnf
              refine And.intro rfl ?_
              conv => whnf
              repeat (any_goals (first | exact falseI | (refine brP_dec (fun _ => ?_) (fun _ => ?_) <;> first | (exfalso; omega) | conv => whnf) | (refine brP_ndec (fun _ => ?_) (fun _ => ?_) <;> first | (exfalso; omega) | conv => whnf) | ((first | refine callP_a hy1 ?_ | rw [hj] | refine optP_intro hsv ?_ | refine And.intro (DrawOk.mk (by kernel_rfl)) ?_ | refine okI ?_ | refine brP_true (Nat.beq_refl _) ?_ | refine brP_intro (fun _ => ?_) (fun _ => ?_) | refine bndI ?_ | intro _) <;> conv => whnf)))
              skip
              repeat (first | exact trivial | refine And.intro rfl ?_ | refine keysLe_cons rfl ?_)
          · rw [if_neg (fun h => he h.1)]
            refine boxA_yieldB tabOk { l := 0, f := 71, ow := [18, 98], rd := true } mixed rfl rfl rfl (by kernel_rfl) ?_
            conv => whnf
            refine And.intro rfl ?_
            conv => whnf
            repeat (any_goals (first | exact falseI | (refine brP_dec (fun _ => ?_) (fun _ => ?_) <;> first | (exfalso; omega) | conv => whnf) | (refine brP_ndec (fun _ => ?_) (fun _ => ?_) <;> first | (exfalso; omega) | conv => whnf) | ((first | refine callP_a hy1 ?_ | refine And.intro (DrawOk.mk (by kernel_rfl)) ?_ | refine okI ?_ | refine brP_true (Nat.beq_refl _) ?_ | refine brP_intro (fun _ => ?_) (fun _ => ?_) | refine bndI ?_ | intro _) <;> conv => whnf)))
            skip
            repeat (first | exact trivial | refine And.intro rfl ?_ | refine keysLe_cons rfl ?_)
        · conv => whnf
          refine optP_intro (tk_found _ _) ?_
          conv => whnf
          repeat (any_goals (first | exact falseI | (refine brP_dec (fun _ => ?_) (fun _ => ?_) <;> first | (exfalso; omega) | conv => whnf) | (refine brP_ndec (fun _ => ?_) (fun _ => ?_) <;> first | (exfalso; omega) | conv => whnf) | ((first | refine And.intro (DrawOk.mk (by kernel_rfl)) ?_ | refine okI ?_ | refine brP_true (Nat.beq_refl _) ?_ | refine brP_intro (fun _ => ?_) (fun _ => ?_) | refine bndI ?_ | intro _) <;> conv => whnf)))
          refine And.intro (by show inI ((i : Int) + 1); simp [inI]; omega) ?_
          conv => whnf
          repeat (any_goals (first | exact falseI | (refine brP_dec (fun _ => ?_) (fun _ => ?_) <;> first | (exfalso; omega) | conv => whnf) | (refine brP_ndec (fun _ => ?_) (fun _ => ?_) <;> first | (exfalso; omega) | conv => whnf) | ((first | refine And.intro (DrawOk.mk (by kernel_rfl)) ?_ | refine okI ?_ | refine brP_true (Nat.beq_refl _) ?_ | refine brP_intro (fun _ => ?_) (fun _ => ?_) | refine bndI ?_ | intro _) <;> conv => whnf)))
          have hfl := fold_len r i ⟨[o1, o2, o3, o4, o5], oL, oB, oM⟩ r.sorted all
          have hfo := fold_ok r i ⟨[o1, o2, o3, o4, o5], oL, oB, oM⟩ r.sorted all hok hmem h1
          (refine ⟨(i + 1, r.sorted.foldl (r.next i ⟨[o1, o2, o3, o4, o5], oL, oB, oM⟩) all), ⟨by simp only; omega, hfo, by simp only; rw [hk1]; exact H⟩, (by simp only; omega), ?_⟩; (conv => whnf); refine ⟨?_, ?_, ?_⟩ <;> repeat (first | exact trivial | refine slotsLe_cons rfl ?_ | refine keysLe_none ?_ | refine keysLe_cons rfl ?_ | refine slotsLe_cons (by rfl) ?_ | refine keysLe_cons (by rfl) ?_))
    · simp only [if_true] at H
      subst H
      repeat (any_goals (first | exact falseI | (refine brP_dec (fun _ => ?_) (fun _ => ?_) <;> first | (exfalso; omega) | conv => whnf) | (refine brP_ndec (fun _ => ?_) (fun _ => ?_) <;> first | (exfalso; omega) | conv => whnf) | ((first | refine callP_a hdo ?_ | refine And.intro (DrawOk.mk (by kernel_rfl)) ?_ | refine okI ?_ | refine brP_true (Nat.beq_refl _) ?_ | refine brP_intro (fun _ => ?_) (fun _ => ?_) | refine bndI ?_ | intro _) <;> conv => whnf)))
      refine And.intro ?_ ?_
      · conv => whnf
        refine ⟨⟨?_⟩, trivial⟩
        rfl
      · repeat (first | exact trivial | refine And.intro rfl ?_ | refine And.intro (by skip) ?_)
  · rename_i h1
    have : all[i]? = none := by simp only at h1; exact List.getElem?_eq_none (by omega)
    obtain ⟨k, hk⟩ : ∃ k, 248833 - i = k + 1 := ⟨248832 - i, by omega⟩
    rw [hk] at H
    simp only [Row.seek, this] at H
    subst H
    refine And.intro ?_ ?_
    · conv => whnf
      refine ⟨⟨?_⟩, trivial⟩
      rfl
    · repeat (first | exact trivial | refine And.intro rfl ?_ | refine And.intro (by skip) ?_)
end Go.Proofs.Ytmggofcaeolaiaa
namespace Go.Proofs.Ytmggofcaeolaiaa
open Go.Am Go.Proofs Go
def kP : Key := ⟨0, 90, 24⟩
theorem rev_c (g : Nat) (L : List Stp) (hl : L.length ≤ 1048576) : BoxA Try.prog (.fn 95) [(kP, g, 2, L.map stpA)] [.own kP g 2 L.length 0] (.tuple []) [(kP, g, 2, L.reverse.map stpA)] := by
  obtain ⟨n, hn⟩ : ∃ n, n = L.length := ⟨_, rfl⟩
  rw [← hn] at hl ⊢
  refine boxA_codeB tabOk { l := 0, f := 95 } mixed call_95 Try.func95 (by kernel_rfl) ?_
  conv => whnf
  repeat (any_goals (first | exact falseI | (refine brP_dec (fun _ => ?_) (fun _ => ?_) <;> first | (exfalso; omega) | conv => whnf) | (refine brP_ndec (fun _ => ?_) (fun _ => ?_) <;> first | (exfalso; omega) | conv => whnf) | ((first | refine And.intro (DrawOk.mk (by kernel_rfl)) ?_ | refine okI ?_ | refine brP_true (Nat.beq_refl _) ?_ | refine brP_intro (fun _ => ?_) (fun _ => ?_) | refine bndI ?_ | intro _) <;> conv => whnf)))
  refine loopK tabOk { l := 0, f := 95 } mixed (fun a : Nat × List Stp => [(2, intA a.1), (3, intA ((n : Int) - 1 - a.1))]) (fun a => [(kP, some (g, some (2, a.2.map stpA)))]) (fun _ => []) (fun a => a.1 ≤ n ∧ 2 * a.1 ≤ n + 1 ∧ a.2.length = n ∧ ∀ k, k < n → a.2[k]? = if k < a.1 ∨ n < k + a.1 + 1 then L[n - 1 - k]? else L[k]?) (fun a => n - a.1) (0, L) (by kernel_rfl)
    ⟨Nat.zero_le _, by omega, hn.symm, fun k hk => by rw [if_neg (by omega)]⟩ ?_
  conv => whnf
  refine ⟨⟨slotsLe_cons rfl (slotsLe_cons (by simp; rfl) trivial), keysLe_cons rfl trivial, trivial⟩, ?_⟩
  intro ⟨i, X⟩ ⟨hi, hi2, hX, H⟩
  simp only at hi hi2 hX H
  conv => whnf
  refine brP_dec (fun h1 => ?_) (fun h1 => ?_)
  · simp only at h1
    obtain ⟨j, hj⟩ : ∃ j, j = n - 1 - i := ⟨_, rfl⟩
    have hjn : (n : Int) - 1 - i = (j : Nat) := by omega
    obtain ⟨x, hx, _⟩ := drop_cons (l := X) (i := i) (by omega)
    obtain ⟨y, hy, _⟩ := drop_cons (l := X) (i := j) (by omega)
    have hs1 := set_stps X i i (stpA y) y rfl rfl
    have hs2 := set_stps (X.set i y) ((n : Int) - 1 - i) j (stpA x) x hjn rfl
    have hy2 : (X.set i y)[j]? = some y := by rw [List.getElem?_set_ne (by omega), hy]
    have hLx : L[i]? = some x := by rw [← hx, H i (by omega), if_neg (by omega)]
    have hLy : L[j]? = some y := by rw [← hy, H j (by omega), if_neg (by omega)]
    conv => whnf
    repeat (any_goals (first | exact falseI | (refine brP_dec (fun _ => ?_) (fun _ => ?_) <;> first | (exfalso; omega) | conv => whnf) | (refine brP_ndec (fun _ => ?_) (fun _ => ?_) <;> first | (exfalso; omega) | conv => whnf) | ((first | refine optP_map hx rfl ?_ | refine optP_map hy hjn ?_ | refine optP_map hy2 hjn ?_ | refine forceL_to hs1 ?_ | refine forceL_to hs2 ?_ | refine And.intro (DrawOk.mk (by kernel_rfl)) ?_ | refine okI ?_ | refine brP_true (Nat.beq_refl _) ?_ | refine brP_intro (fun _ => ?_) (fun _ => ?_) | refine bndI ?_ | intro _) <;> conv => whnf)))
    have hH : ∀ k, k < n → ((X.set i y).set j x)[k]? = if k < i + 1 ∨ n < k + (i + 1) + 1 then L[n - 1 - k]? else L[k]? := by
      intro k hk
      by_cases e1 : k = j
      · subst e1
        rw [List.getElem?_set_self (by simp; omega), if_pos (by omega), show n - 1 - k = i by omega, hLx]
      · rw [List.getElem?_set_ne (Ne.symm e1)]
        by_cases e2 : k = i
        · subst e2
          rw [List.getElem?_set_self (by omega), if_pos (by omega), ← hj, hLy]
        · rw [List.getElem?_set_ne (Ne.symm e2), H k hk]
          by_cases e3 : k < i ∨ n < k + i + 1
          · rw [if_pos e3, if_pos (by omega)]
          · rw [if_neg e3, if_neg (by omega)]
    (refine ⟨(i + 1, (X.set i y).set j x), ⟨by simp only; omega, by simp only; omega, by simp [hX], hH⟩, (by simp only; omega), ?_⟩; (conv => whnf); refine ⟨?_, ?_, ?_⟩ <;> repeat (first | exact trivial | refine slotsLe_cons rfl ?_ | refine keysLe_none ?_ | refine keysLe_cons rfl ?_ | refine slotsLe_cons (by (simp only [show (n : Int) - 1 - ((i + 1 : Nat) : Int) = (n : Int) - 1 - i - 1 by omega]; rfl)) ?_ | refine keysLe_cons (by (simp only [show (n : Int) - 1 - ((i + 1 : Nat) : Int) = (n : Int) - 1 - i - 1 by omega]; rfl)) ?_))
  · have hfin : X = L.reverse := by
      simp only at h1
      refine List.ext_getElem? fun k => ?_
      by_cases hk : k < n
      · rw [H k hk, List.getElem?_reverse (by omega), ← hn]
        split
        · rfl
        · rw [show n - 1 - k = k by omega]
      · rw [List.getElem?_eq_none (by omega), List.getElem?_eq_none (by simp; omega)]
    subst hfin
    conv => whnf
    refine And.intro ?_ ?_
    · conv => whnf
      refine ⟨⟨?_⟩, trivial⟩
      rfl
    · repeat (first | exact trivial | refine And.intro rfl ?_ | refine And.intro (by skip) ?_)
theorem rev0_c : BoxA Try.prog (.fn 95) [] [.slice 0 [] .no] (.tuple []) [] := by
  refine boxA_codeB tabOk { l := 0, f := 95 } mixed call_95 Try.func95 (by kernel_rfl) ?_
  conv => whnf
  repeat (any_goals (first | exact falseI | (refine brP_dec (fun _ => ?_) (fun _ => ?_) <;> first | (exfalso; omega) | conv => whnf) | (refine brP_ndec (fun _ => ?_) (fun _ => ?_) <;> first | (exfalso; omega) | conv => whnf) | ((first | refine And.intro (DrawOk.mk (by kernel_rfl)) ?_ | refine okI ?_ | refine brP_true (Nat.beq_refl _) ?_ | refine brP_intro (fun _ => ?_) (fun _ => ?_) | refine bndI ?_ | intro _) <;> conv => whnf)))
  refine loopK tabOk { l := 0, f := 95 } mixed (fun _ : Unit => [(2, intA 0), (3, intA (-1))]) (fun _ => []) (fun _ => []) (fun _ => True) (fun _ => 0) () (by kernel_rfl)
    trivial ?_
  conv => whnf
  refine ⟨⟨slotsLe_cons rfl (slotsLe_cons rfl trivial), trivial, trivial⟩, ?_⟩
  intro _ _
  conv => whnf
  repeat (any_goals (first | exact falseI | (refine brP_dec (fun _ => ?_) (fun _ => ?_) <;> first | (exfalso; omega) | conv => whnf) | (refine brP_ndec (fun _ => ?_) (fun _ => ?_) <;> first | (exfalso; omega) | conv => whnf) | ((first | refine And.intro (DrawOk.mk (by kernel_rfl)) ?_ | refine okI ?_ | refine brP_true (Nat.beq_refl _) ?_ | refine brP_intro (fun _ => ?_) (fun _ => ?_) | refine bndI ?_ | intro _) <;> conv => whnf)))
  refine And.intro ?_ ?_
  · conv => whnf
    refine ⟨⟨?_⟩, trivial⟩
    rfl
  · repeat (first | exact trivial | refine And.intro rfl ?_ | refine And.intro (by skip) ?_)
end Go.Proofs.Ytmggofcaeolaiaa
namespace Go.Proofs.Ytmggofcaeolaiaa
open Go.Am Go.Proofs Go
def pathF (all : List Found) : Nat → Nat → List Stp
  | 0, _ => []
  | n + 1, i => match all[i]? with
    | some f => if 0 ≤ f.behind then f.last :: pathF all n f.behind.toNat else []
    | none => []
theorem pathF_fuel {all : List Found} (h : FoundOk all) : ∀ (n m i : Nat), i < n → i < m → pathF all n i = pathF all m i
  | 0, m, i, hn, _ => absurd hn (by omega)
  | n + 1, 0, i, _, hm => absurd hm (by omega)
  | n + 1, m + 1, i, hn, hm => by
    unfold pathF
    cases hf : all[i]? with
    | none => rfl
    | some f =>
      simp only
      have := h.back i f hf
      split
      · rw [pathF_fuel h n m f.behind.toNat (by omega) (by omega)]
      · rfl
theorem pathF_len {all : List Found} : ∀ (n i : Nat), (pathF all n i).length ≤ n
  | 0, i => Nat.le_refl _
  | n + 1, i => by
    unfold pathF
    split
    · split
      · have := pathF_len (all := all) n
        simp only [List.length_cons]
        exact Nat.succ_le_succ (this _)
      · simp
    · simp
def pathTo (all : List Found) (i : Nat) : List Stp := (pathF all (i + 1) i).reverse
def accA (l : List Stp) : AV := match l with
  | [] => .slice 0 [] .tight
  | _ :: l' => .own kP (l'.length + 1) 2 (l'.length + 1) 0
def accB (l : List Stp) : Nat × Option (Nat × List AV) := match l with
  | [] => (0, none)
  | x :: l' => (l'.length + 1, some (2, (x :: l').map stpA))
theorem accA_snoc (l : List Stp) (s : Stp) : accA (l ++ [s]) = .own kP (l.length + 1) 2 (l.length + 1) 0 := by
  cases l <;> simp [accA]
theorem accB_snoc (l : List Stp) (s : Stp) : accB (l ++ [s]) = (l.length + 1, some (2, (l.map stpA).take l.length ++ [stpA s])) := by
  have : (l.map stpA).take l.length ++ [stpA s] = (l ++ [s]).map stpA := by rw [List.take_of_length_le (by simp)]; simp
  rw [this]
  cases l <;> simp [accB]
def kX : Key := ⟨0, 68, 4⟩
def kR : Key := ⟨0, 68, 1⟩
def d89 : AV := .func (.func 89) [] [.ptr kR 1 1 0 0]
def seaX (n : Nat) (most : Int) : List AV := [.agg [.own kF n 14 n 0, intA most, d89]]
theorem path_c (r : Row) (p0 : List Part) (most : Int) (all : List Found) (hok : FoundOk all) (i0 : Nat) (h0 : i0 < all.length) (hne : pathF all (i0 + 1) i0 ≠ []) :
    BoxA Try.prog (.fn 90) [(kX, 1, 3, seaX all.length most), (kR, 1, 1, [lookR r p0]), (kF, all.length, 14, all.map foundA)] [.ptr kX 1 3 0 0, intA i0]
      (.own kP (pathTo all i0).length 2 (pathTo all i0).length 0) [(kX, 1, 3, seaX all.length most), (kR, 1, 1, [lookR r p0]), (kF, all.length, 14, all.map foundA), (kP, (pathTo all i0).length, 2, (pathTo all i0).map stpA)] := by
  have hbd := hok.bound
  have hlen : (pathTo all i0).length = (pathF all (i0 + 1) i0).length := by simp [pathTo]
  rw [hlen]
  unfold pathTo
  have hfl := pathF_len (all := all) (i0 + 1) i0
  generalize hP : pathF all (i0 + 1) i0 = P at *
  clear hlen
  refine boxA_codeB tabOk { l := 0, f := 90, mat := [95], ow := [24] } mixed call_90 Try.func90 (by kernel_rfl) ?_
  conv => whnf
  repeat (any_goals (first | exact falseI | (refine brP_dec (fun _ => ?_) (fun _ => ?_) <;> first | (exfalso; omega) | conv => whnf) | (refine brP_ndec (fun _ => ?_) (fun _ => ?_) <;> first | (exfalso; omega) | conv => whnf) | ((first | refine And.intro (DrawOk.mk (by kernel_rfl)) ?_ | refine okI ?_ | refine brP_true (Nat.beq_refl _) ?_ | refine brP_intro (fun _ => ?_) (fun _ => ?_) | refine bndI ?_ | intro _) <;> conv => whnf)))
  refine loopK tabOk { l := 0, f := 90, mat := [95], ow := [24] } mixed (fun a : Nat × List Stp => [(1, intA a.1), (4, accA a.2)]) (fun a => [(kP, some (accB a.2))]) (fun _ => []) (fun a => a.1 < all.length ∧ a.2.length + a.1 ≤ i0 ∧ a.2 ++ pathF all (a.1 + 1) a.1 = P) (fun a => a.1) (i0, []) (by kernel_rfl)
    ⟨h0, by simp, by simpa using hP⟩ ?_
  conv => whnf
  refine ⟨⟨slotsLe_cons rfl (slotsLe_cons rfl trivial), keysLe_new rfl trivial, trivial⟩, ?_⟩
  intro ⟨i, acc⟩ ⟨hi, hal, H⟩
  simp only at hi hal H
  obtain ⟨f, hf, _⟩ := drop_cons (l := all) (i := i) hi
  have hb := hok.back i f hf
  have h5 := (hok.one f (List.mem_of_getElem? hf)).1
  simp only [pathF, hf] at H
  obtain ⟨fp, fl, fb, fm⟩ := f
  simp only at hb h5 H
  obtain ⟨f1, f2, f3, f4, f5, rfl⟩ := list5 h5
  by_cases hbe : 0 ≤ fb
  · obtain ⟨b, rfl⟩ : ∃ b : Nat, fb = b := ⟨fb.toNat, by omega⟩
    rw [if_pos hbe, Int.toNat_natCast, pathF_fuel hok i (b + 1) b (by omega) (by omega)] at H
    have H2 : (acc ++ [fl]) ++ pathF all (b + 1) b = P := by simpa using H
    clear hne
    cases acc with
    | nil =>
      conv => whnf
      repeat (any_goals (first | exact falseI | (refine brP_dec (fun _ => ?_) (fun _ => ?_) <;> first | (exfalso; omega) | conv => whnf) | (refine brP_ndec (fun _ => ?_) (fun _ => ?_) <;> first | (exfalso; omega) | conv => whnf) | ((first | refine optP_map hf rfl ?_ | refine And.intro (DrawOk.mk (by kernel_rfl)) ?_ | refine okI ?_ | refine brP_true (Nat.beq_refl _) ?_ | refine brP_intro (fun _ => ?_) (fun _ => ?_) | refine bndI ?_ | intro _) <;> conv => whnf)))
      (refine ⟨(b, [fl]), ⟨by simp only; omega, by simp at hal ⊢; omega, H2⟩, (by simp only; omega), ?_⟩; (conv => whnf); refine ⟨?_, ?_, ?_⟩ <;> repeat (first | exact trivial | refine slotsLe_cons rfl ?_ | refine keysLe_none ?_ | refine keysLe_cons rfl ?_ | refine slotsLe_cons (by rfl) ?_ | refine keysLe_cons (by rfl) ?_))
    | cons s acc' =>
      conv => whnf
      repeat (any_goals (first | exact falseI | (refine brP_dec (fun _ => ?_) (fun _ => ?_) <;> first | (exfalso; omega) | conv => whnf) | (refine brP_ndec (fun _ => ?_) (fun _ => ?_) <;> first | (exfalso; omega) | conv => whnf) | ((first | refine optP_map hf rfl ?_ | refine And.intro (DrawOk.mk (by kernel_rfl)) ?_ | refine okI ?_ | refine brP_true (Nat.beq_refl _) ?_ | refine brP_intro (fun _ => ?_) (fun _ => ?_) | refine bndI ?_ | intro _) <;> conv => whnf)))
      (refine ⟨(b, (s :: acc') ++ [fl]), ⟨by simp only; omega, by simp at hal ⊢; omega, H2⟩, (by simp only; omega), ?_⟩; (conv => whnf); refine ⟨?_, ?_, ?_⟩ <;> repeat (first | exact trivial | refine slotsLe_cons rfl ?_ | refine keysLe_none ?_ | refine keysLe_cons rfl ?_ | refine slotsLe_cons (by first | rfl | (show _ = some (accA ((s :: acc') ++ [fl])); rw [accA_snoc]; rfl) | (show _ = some (some (accB ((s :: acc') ++ [fl]))); rw [accB_snoc]; rfl)) ?_ | refine keysLe_cons (by first | rfl | (show _ = some (accA ((s :: acc') ++ [fl])); rw [accA_snoc]; rfl) | (show _ = some (some (accB ((s :: acc') ++ [fl]))); rw [accB_snoc]; rfl)) ?_))
  · rw [if_neg hbe, List.append_nil] at H
    subst H
    cases acc with
    | nil => exact absurd rfl hne
    | cons s acc' =>
      have hrv := rev_c (acc'.length + 1) (s :: acc') (by simp at hal ⊢; omega)
      conv => whnf
      repeat (any_goals (first | exact falseI | (refine brP_dec (fun _ => ?_) (fun _ => ?_) <;> first | (exfalso; omega) | conv => whnf) | (refine brP_ndec (fun _ => ?_) (fun _ => ?_) <;> first | (exfalso; omega) | conv => whnf) | ((first | refine optP_map hf rfl ?_ | refine And.intro (DrawOk.mk (by kernel_rfl)) ?_ | refine okI ?_ | refine brP_true (Nat.beq_refl _) ?_ | refine brP_intro (fun _ => ?_) (fun _ => ?_) | refine bndI ?_ | intro _) <;> conv => whnf)))
      · rename_i h
        exact absurd h hbe
      · refine ⟨[kP], ?_⟩
        conv => whnf
        refine optP_intro (tk_stps _ (s :: acc')) ?_
        conv => whnf
        refine ⟨_, _, hrv, ?_⟩
        conv => whnf
        refine optP_intro (tk_stps _ _) ?_
        conv => whnf
        repeat (any_goals (first | exact falseI | (refine brP_dec (fun _ => ?_) (fun _ => ?_) <;> first | (exfalso; omega) | conv => whnf) | (refine brP_ndec (fun _ => ?_) (fun _ => ?_) <;> first | (exfalso; omega) | conv => whnf) | ((first | refine And.intro (DrawOk.mk (by kernel_rfl)) ?_ | refine okI ?_ | refine brP_true (Nat.beq_refl _) ?_ | refine brP_intro (fun _ => ?_) (fun _ => ?_) | refine bndI ?_ | intro _) <;> conv => whnf)))
        refine And.intro ?_ ?_
        · conv => whnf
          refine ⟨⟨?_⟩, trivial⟩
          rfl
        · repeat (first | exact trivial | refine And.intro rfl ?_ | refine And.intro (by skip) ?_)
theorem path0_c (r : Row) (p0 : List Part) (most : Int) (all : List Found) (hok : FoundOk all) (i0 : Nat) (h0 : i0 < all.length) (hne : pathF all (i0 + 1) i0 = []) :
    BoxA Try.prog (.fn 90) [(kX, 1, 3, seaX all.length most), (kR, 1, 1, [lookR r p0]), (kF, all.length, 14, all.map foundA)] [.ptr kX 1 3 0 0, intA i0]
      (.slice 0 [] .tight) [(kX, 1, 3, seaX all.length most), (kR, 1, 1, [lookR r p0]), (kF, all.length, 14, all.map foundA)] := by
  have hbd := hok.bound
  obtain ⟨f, hf, _⟩ := drop_cons (l := all) (i := i0) h0
  have h5 := (hok.one f (List.mem_of_getElem? hf)).1
  simp only [pathF, hf] at hne
  have hbe : ¬ 0 ≤ f.behind := by
    intro h
    rw [if_pos h] at hne
    simp at hne
  clear hne
  obtain ⟨fp, fl, fb, fm⟩ := f
  simp only at hbe h5
  obtain ⟨f1, f2, f3, f4, f5, rfl⟩ := list5 h5
  refine boxA_codeB tabOk { l := 0, f := 90, mat := [95] } mixed call_90 Try.func90 (by kernel_rfl) ?_
  conv => whnf
  repeat (any_goals (first | exact falseI | (refine brP_dec (fun _ => ?_) (fun _ => ?_) <;> first | (exfalso; omega) | conv => whnf) | (refine brP_ndec (fun _ => ?_) (fun _ => ?_) <;> first | (exfalso; omega) | conv => whnf) | ((first | refine And.intro (DrawOk.mk (by kernel_rfl)) ?_ | refine okI ?_ | refine brP_true (Nat.beq_refl _) ?_ | refine brP_intro (fun _ => ?_) (fun _ => ?_) | refine bndI ?_ | intro _) <;> conv => whnf)))
  refine loopK tabOk { l := 0, f := 90, mat := [95] } mixed (fun _ : Unit => [(1, intA i0), (4, .slice 0 [] .tight)]) (fun _ => []) (fun _ => []) (fun _ => True) (fun _ => 0) () (by kernel_rfl)
    trivial ?_
  conv => whnf
  refine ⟨⟨slotsLe_cons rfl (slotsLe_cons rfl trivial), trivial, trivial⟩, ?_⟩
  intro _ _
  conv => whnf
  repeat (any_goals (first | exact falseI | (refine brP_dec (fun _ => ?_) (fun _ => ?_) <;> first | (exfalso; omega) | conv => whnf) | (refine brP_ndec (fun _ => ?_) (fun _ => ?_) <;> first | (exfalso; omega) | conv => whnf) | ((first | refine optP_map hf rfl ?_ | refine And.intro (DrawOk.mk (by kernel_rfl)) ?_ | refine okI ?_ | refine brP_true (Nat.beq_refl _) ?_ | refine brP_intro (fun _ => ?_) (fun _ => ?_) | refine bndI ?_ | intro _) <;> conv => whnf)))
  · exact absurd (by assumption) hbe
  · refine ⟨[], ?_⟩
    conv => whnf
    refine ⟨_, _, rev0_c, ?_⟩
    conv => whnf
    repeat (any_goals (first | exact falseI | (refine brP_dec (fun _ => ?_) (fun _ => ?_) <;> first | (exfalso; omega) | conv => whnf) | (refine brP_ndec (fun _ => ?_) (fun _ => ?_) <;> first | (exfalso; omega) | conv => whnf) | ((first | refine And.intro (DrawOk.mk (by kernel_rfl)) ?_ | refine okI ?_ | refine brP_true (Nat.beq_refl _) ?_ | refine brP_intro (fun _ => ?_) (fun _ => ?_) | refine bndI ?_ | intro _) <;> conv => whnf)))
    refine And.intro ?_ ?_
    · conv => whnf
      refine ⟨⟨?_⟩, trivial⟩
      rfl
    · repeat (first | exact trivial | refine And.intro rfl ?_ | refine And.intro (by skip) ?_)
theorem seek_ok (r : Row) (most : Int) (d : List Part → Bool) : ∀ (n i : Nat) (all : List Found), FoundOk all → FoundOk (r.seek most d n i all).2 ∧ ((r.seek most d n i all).1 = -1 ∨ ∃ j : Nat, (r.seek most d n i all).1 = j ∧ j < (r.seek most d n i all).2.length)
  | 0, i, all, h => ⟨h, .inl rfl⟩
  | n + 1, i, all, h => by
    unfold Row.seek
    cases ho : all[i]? with
    | none => exact ⟨h, .inl rfl⟩
    | some own =>
      have hi := (List.getElem?_eq_some_iff.1 ho).1
      simp only
      split
      · exact ⟨h, .inr ⟨i, rfl, hi⟩⟩
      · split
        · exact seek_ok r most d n (i + 1) all h
        · exact seek_ok r most d n (i + 1) _ (fold_ok r i own r.sorted all h (List.mem_of_getElem? ho) hi)
def Row.found (r : Row) (p0 : List Part) : Int × List Found := r.seek (-1) (fun p => decide ((r.wrong p).length = 0)) 248833 0 [firstF p0]
def Row.fewP (r : Row) (p0 : List Part) : List Stp × Bool := if (r.found p0).1 < 0 then ([], false) else (pathTo (r.found p0).2 (r.found p0).1.toNat, true)
theorem fewest_c (r : Row) (hg : r.Good) (h10 : r.beside.length ≤ 10) (p0 : List Part) (hp0 : okP5 p0) : PureA Try.prog 68 [lookR r p0] (.tuple [stpsA (r.fewP p0).1, boolA (r.fewP p0).2]) := by
  have hrun := run89_c r hg h10 p0 hp0 (-1) (by decide) (fun p => decide ((r.wrong p).length = 0)) (fun p hp => right89_c r p0 p hp0.1 hp hg.len)
  have hs := seek_ok r (-1) (fun p => decide ((r.wrong p).length = 0)) 248833 0 [firstF p0] (firstF_ok hp0)
  unfold Row.fewP Row.found
  generalize r.seek (-1) (fun p => decide ((r.wrong p).length = 0)) 248833 0 [firstF p0] = R at *
  obtain ⟨R1, R2⟩ := R
  simp only at hrun hs ⊢
  obtain ⟨hok, hs⟩ := hs
  rcases hs with rfl | ⟨j, rfl, hj⟩
  · rw [if_pos (by decide)]
    refine PureA.wk (res := .tuple [nilS, boolA false]) ?_ (Wk.tuple (WkL.cons (Wk.nil 2) (WkL.refl _)))
    refine pureA_codeB tabOk { l := 0, f := 68, mat := [71, 90] } mixed call_68 Try.func68 (by kernel_rfl) ?_
    conv => whnf
    repeat (any_goals (first | exact falseI | (refine brP_dec (fun _ => ?_) (fun _ => ?_) <;> first | (exfalso; omega) | conv => whnf) | (refine brP_ndec (fun _ => ?_) (fun _ => ?_) <;> first | (exfalso; omega) | conv => whnf) | ((first | refine And.intro (DrawOk.mk (by kernel_rfl)) ?_ | refine okI ?_ | refine brP_true (Nat.beq_refl _) ?_ | refine brP_intro (fun _ => ?_) (fun _ => ?_) | refine bndI ?_ | intro _) <;> conv => whnf)))
    refine ⟨[⟨0, 68, 4⟩, ⟨0, 68, 1⟩], ?_⟩
    conv => whnf
    refine ⟨_, _, hrun, ?_⟩
    conv => whnf
    refine optP_intro (tk_found _ _) ?_
    conv => whnf
    repeat (any_goals (first | exact falseI | (refine brP_dec (fun _ => ?_) (fun _ => ?_) <;> first | (exfalso; omega) | conv => whnf) | (refine brP_ndec (fun _ => ?_) (fun _ => ?_) <;> first | (exfalso; omega) | conv => whnf) | ((first | refine And.intro (DrawOk.mk (by kernel_rfl)) ?_ | refine okI ?_ | refine brP_true (Nat.beq_refl _) ?_ | refine brP_intro (fun _ => ?_) (fun _ => ?_) | refine bndI ?_ | intro _) <;> conv => whnf)))
    (refine ⟨⟨?_⟩, trivial⟩; rfl)
  · rw [if_neg (by omega)]
    simp only [Int.toNat_natCast]
    by_cases hne : pathF R2 (j + 1) j = []
    · have hpa := path0_c r p0 (-1) R2 hok j hj hne
      have : pathTo R2 j = [] := by simp [pathTo, hne]
      rw [this]
      refine PureA.wk (res := .tuple [nilS, boolA true]) ?_ (Wk.tuple (WkL.cons (Wk.nil 2) (WkL.refl _)))
      refine pureA_codeB tabOk { l := 0, f := 68, mat := [71, 90] } mixed call_68 Try.func68 (by kernel_rfl) ?_
      conv => whnf
      repeat (any_goals (first | exact falseI | (refine brP_dec (fun _ => ?_) (fun _ => ?_) <;> first | (exfalso; omega) | conv => whnf) | (refine brP_ndec (fun _ => ?_) (fun _ => ?_) <;> first | (exfalso; omega) | conv => whnf) | ((first | refine And.intro (DrawOk.mk (by kernel_rfl)) ?_ | refine okI ?_ | refine brP_true (Nat.beq_refl _) ?_ | refine brP_intro (fun _ => ?_) (fun _ => ?_) | refine bndI ?_ | intro _) <;> conv => whnf)))
      refine ⟨[⟨0, 68, 4⟩, ⟨0, 68, 1⟩], ?_⟩
      conv => whnf
      refine ⟨_, _, hrun, ?_⟩
      conv => whnf
      refine optP_intro (tk_found _ _) ?_
      conv => whnf
      repeat (any_goals (first | exact falseI | (refine brP_dec (fun _ => ?_) (fun _ => ?_) <;> first | (exfalso; omega) | conv => whnf) | (refine brP_ndec (fun _ => ?_) (fun _ => ?_) <;> first | (exfalso; omega) | conv => whnf) | ((first | refine And.intro (DrawOk.mk (by kernel_rfl)) ?_ | refine okI ?_ | refine brP_true (Nat.beq_refl _) ?_ | refine brP_intro (fun _ => ?_) (fun _ => ?_) | refine bndI ?_ | intro _) <;> conv => whnf)))
      refine ⟨[kX, kR, kF], ?_⟩
      conv => whnf
      refine optP_intro (tk_found _ _) ?_
      conv => whnf
      refine ⟨_, _, hpa, ?_⟩
      conv => whnf
      refine optP_intro (tk_found _ _) ?_
      conv => whnf
      repeat (any_goals (first | exact falseI | (refine brP_dec (fun _ => ?_) (fun _ => ?_) <;> first | (exfalso; omega) | conv => whnf) | (refine brP_ndec (fun _ => ?_) (fun _ => ?_) <;> first | (exfalso; omega) | conv => whnf) | ((first | refine And.intro (DrawOk.mk (by kernel_rfl)) ?_ | refine okI ?_ | refine brP_true (Nat.beq_refl _) ?_ | refine brP_intro (fun _ => ?_) (fun _ => ?_) | refine bndI ?_ | intro _) <;> conv => whnf)))
      (refine ⟨⟨?_⟩, trivial⟩; rfl)
    · have hpa := path_c r p0 (-1) R2 hok j hj hne
      generalize pathTo R2 j = Q at *
      have hpq : pureEs ((Q.map stpA).take Q.length) = some (Q.map stpA) := by
        rw [List.take_of_length_le (by simp)]
        exact pureEs_map (f := stpA) (fun _ => rfl) Q
      refine pureA_codeB tabOk { l := 0, f := 68, mat := [71, 90] } mixed call_68 Try.func68 (by kernel_rfl) ?_
      conv => whnf
      repeat (any_goals (first | exact falseI | (refine brP_dec (fun _ => ?_) (fun _ => ?_) <;> first | (exfalso; omega) | conv => whnf) | (refine brP_ndec (fun _ => ?_) (fun _ => ?_) <;> first | (exfalso; omega) | conv => whnf) | ((first | refine And.intro (DrawOk.mk (by kernel_rfl)) ?_ | refine okI ?_ | refine brP_true (Nat.beq_refl _) ?_ | refine brP_intro (fun _ => ?_) (fun _ => ?_) | refine bndI ?_ | intro _) <;> conv => whnf)))
      refine ⟨[⟨0, 68, 4⟩, ⟨0, 68, 1⟩], ?_⟩
      conv => whnf
      refine ⟨_, _, hrun, ?_⟩
      conv => whnf
      refine optP_intro (tk_found _ _) ?_
      conv => whnf
      repeat (any_goals (first | exact falseI | (refine brP_dec (fun _ => ?_) (fun _ => ?_) <;> first | (exfalso; omega) | conv => whnf) | (refine brP_ndec (fun _ => ?_) (fun _ => ?_) <;> first | (exfalso; omega) | conv => whnf) | ((first | refine And.intro (DrawOk.mk (by kernel_rfl)) ?_ | refine okI ?_ | refine brP_true (Nat.beq_refl _) ?_ | refine brP_intro (fun _ => ?_) (fun _ => ?_) | refine bndI ?_ | intro _) <;> conv => whnf)))
      refine ⟨[kX, kR, kF], ?_⟩
      conv => whnf
      refine optP_intro (tk_found _ _) ?_
      conv => whnf
      refine ⟨_, _, hpa, ?_⟩
      conv => whnf
      refine optP_intro (tk_found _ _) ?_
      conv => whnf
      refine optP_intro (tk_stps _ _) ?_
      conv => whnf
      repeat (any_goals (first | exact falseI | (refine brP_dec (fun _ => ?_) (fun _ => ?_) <;> first | (exfalso; omega) | conv => whnf) | (refine brP_ndec (fun _ => ?_) (fun _ => ?_) <;> first | (exfalso; omega) | conv => whnf) | ((first | refine optP_intro hpq ?_ | refine And.intro (DrawOk.mk (by kernel_rfl)) ?_ | refine okI ?_ | refine brP_true (Nat.beq_refl _) ?_ | refine brP_intro (fun _ => ?_) (fun _ => ?_) | refine bndI ?_ | intro _) <;> conv => whnf)))
      (refine ⟨⟨?_⟩, trivial⟩; rfl)
end Go.Proofs.Ytmggofcaeolaiaa
namespace Go.Proofs.Ytmggofcaeolaiaa
open Go.Am Go.Proofs Go
theorem stpErr_zero {last : Int} {l : List Stp} {s : Stp} (h : stpErr last l s = 0) : s.a < s.b ∧ s ∉ l ∧ 0 ≤ s.a ∧ s.b ≤ last := by
  unfold stpErr at h
  split at h
  · simp at h
  · rename_i h1
    rw [Bool.not_eq_true, Bool.or_eq_false_iff, outside_false, outside_false] at h1
    split at h
    · simp at h
    · split at h
      · simp at h
      · rename_i h2 h3
        refine ⟨by omega, fun hm => h3 ?_, by omega, by omega⟩
        first
          | exact List.any_eq_true.2 ⟨s, hm, by simp⟩
          | simpa using hm
theorem nodup_take {α : Type} : ∀ (l : List α), (∀ (j : Nat) (x : α), l[j]? = some x → x ∉ l.take j) → l.Nodup := by
  intro l h
  refine List.pairwise_iff_getElem.2 fun i j hi hj hij e => ?_
  have hx : l[j]? = some l[j] := by simp [hj]
  refine h j l[j] hx ?_
  rw [← e]
  exact List.mem_of_getElem? (i := i) (by rw [List.getElem?_take, if_pos hij]; simp [hi])
theorem Row.Valid.nodup {r : Row} (h : r.Valid) : r.beside.Nodup := nodup_take _ fun j s hs => (stpErr_zero (h.stp j s hs)).2.1
theorem Row.Valid.ten {r : Row} (h : r.Valid) : r.beside.length ≤ 10 := by
  have hlen := h.len
  have hb : ∀ s ∈ r.beside, 0 ≤ s.a ∧ s.a < s.b ∧ s.b < 5 := fun s hs => by have := h.bound hs; omega
  let f : Stp → Nat := fun s => (s.b.toNat * (s.b.toNat - 1)) / 2 + s.a.toNat
  have hf : ∀ s ∈ r.beside, f s < 10 := fun s hs => by
    obtain ⟨h1, h2, h3⟩ := hb s hs
    obtain ⟨a, ha⟩ : ∃ a : Nat, s.a = a := ⟨s.a.toNat, by omega⟩
    obtain ⟨b, hb⟩ : ∃ b : Nat, s.b = b := ⟨s.b.toNat, by omega⟩
    have : b = 0 ∨ b = 1 ∨ b = 2 ∨ b = 3 ∨ b = 4 := by omega
    simp only [f, ha, hb, Int.toNat_natCast]
    rcases this with rfl | rfl | rfl | rfl | rfl <;> omega
  have hi : ∀ s ∈ r.beside, ∀ t ∈ r.beside, f s = f t → s = t := fun s hs t ht e => by
    obtain ⟨h1, h2, h3⟩ := hb s hs
    obtain ⟨k1, k2, k3⟩ := hb t ht
    obtain ⟨sa, sb⟩ := s
    obtain ⟨ta, tb⟩ := t
    simp only at h1 h2 h3 k1 k2 k3
    obtain ⟨a, rfl⟩ : ∃ a : Nat, sa = a := ⟨sa.toNat, by omega⟩
    obtain ⟨b, rfl⟩ : ∃ b : Nat, sb = b := ⟨sb.toNat, by omega⟩
    obtain ⟨c, rfl⟩ : ∃ c : Nat, ta = c := ⟨ta.toNat, by omega⟩
    obtain ⟨d, rfl⟩ : ∃ d : Nat, tb = d := ⟨tb.toNat, by omega⟩
    simp only [f, Int.toNat_natCast] at e
    have hb' : b = 0 ∨ b = 1 ∨ b = 2 ∨ b = 3 ∨ b = 4 := by omega
    have hd' : d = 0 ∨ d = 1 ∨ d = 2 ∨ d = 3 ∨ d = 4 := by omega
    have : a = c ∧ b = d := by
      rcases hb' with rfl | rfl | rfl | rfl | rfl <;> rcases hd' with rfl | rfl | rfl | rfl | rfl <;> simp at e <;> omega
    rw [this.1, this.2]
  have := nodup_bound 10 (r.beside.map f) (nodup_map h.nodup hi) fun x hx => by
    obtain ⟨s, hs, rfl⟩ := List.mem_map.1 hx
    exact hf s hs
  simpa using this
theorem figErr_zero {l : List Fig} {f : Fig} (h : figErr l f = 0) : 0 ≤ f.has ∧ f.has ≤ 5 ∧ -1 ≤ f.wants ∧ f.wants ≤ 5 := by
  unfold figErr at h
  split at h
  · simp at h
  · split at h
    · simp at h
    · split at h
      · simp at h
      · rename_i h1
        rw [Bool.not_eq_true, Bool.or_eq_false_iff, outside_false, outside_false] at h1
        omega
theorem Row.Valid.parts {r : Row} (h : r.Valid) : okP5 r.parts := by
  refine ⟨partsTo_len r.figs _ (Nat.le_refl _) h.len, fun q hq => ?_⟩
  unfold Row.parts partsTo at hq
  rw [List.take_length] at hq
  rcases List.mem_append.1 hq with hq | hq
  · obtain ⟨f, hf, rfl⟩ := List.mem_map.1 hq
    obtain ⟨j, hj⟩ := List.mem_iff_getElem?.1 hf
    have := figErr_zero (h.fig j f hj)
    exact ⟨this.1, this.2.1⟩
  · have := (List.mem_replicate.1 hq).2
    subst this; exact ⟨by decide, by decide⟩
def Row.few (r : Row) : List Stp × Int :=
  if r.check.2.2 = 0 then if (r.fewP r.parts).2 = true then ((r.fewP r.parts).1, 0) else ([], 9) else ([], r.check.2.2)
def stpsErrA (x : List Stp × Int) : AV := .tuple [stpsA x.1, intA x.2]
theorem Few_c (r : Row) (hr : r.small) : PureA Try.prog 25 [rowA r] (stpsErrA r.few) := by
  unfold Row.few
  by_cases hc : r.check.2.2 = 0
  · have hv := r.valid_iff hc
    have hl := lookP_c r hr hc
    have hf := fewest_c r (hv.good hr) hv.ten r.parts hv.parts
    rw [if_pos hc]
    generalize r.fewP r.parts = F at *
    obtain ⟨F1, F2⟩ := F
    simp only at hf ⊢
    cases F2
    · refine PureA.wk (res := .tuple [nilS, intA 9]) ?_ (Wk.tuple (WkL.cons (Wk.nil 2) (WkL.refl _)))
      refine pureA_codeB tabOk { l := 0, f := 25 } mixed call_25 Try.func25 (by kernel_rfl) ?_
      conv => whnf
      repeat (any_goals (first | exact falseI | (refine brP_dec (fun _ => ?_) (fun _ => ?_) <;> first | (exfalso; omega) | conv => whnf) | (refine brP_ndec (fun _ => ?_) (fun _ => ?_) <;> first | (exfalso; omega) | conv => whnf) | ((first | refine callP_a hl ?_ | refine callP_a hf ?_ | refine And.intro (DrawOk.mk (by kernel_rfl)) ?_ | refine okI ?_ | refine brP_true (Nat.beq_refl _) ?_ | refine brP_intro (fun _ => ?_) (fun _ => ?_) | refine bndI ?_ | intro _) <;> conv => whnf)))
      (refine ⟨⟨?_⟩, trivial⟩; rfl)
    · refine pureA_codeB tabOk { l := 0, f := 25 } mixed call_25 Try.func25 (by kernel_rfl) ?_
      conv => whnf
      repeat (any_goals (first | exact falseI | (refine brP_dec (fun _ => ?_) (fun _ => ?_) <;> first | (exfalso; omega) | conv => whnf) | (refine brP_ndec (fun _ => ?_) (fun _ => ?_) <;> first | (exfalso; omega) | conv => whnf) | ((first | refine callP_a hl ?_ | refine callP_a hf ?_ | refine And.intro (DrawOk.mk (by kernel_rfl)) ?_ | refine okI ?_ | refine brP_true (Nat.beq_refl _) ?_ | refine brP_intro (fun _ => ?_) (fun _ => ?_) | refine bndI ?_ | intro _) <;> conv => whnf)))
      (refine ⟨⟨?_⟩, trivial⟩; rfl)
  · have hl := lookN_c r hr hc
    rw [if_neg hc]
    generalize r.check = c at *
    obtain ⟨c1, c2, c3⟩ := c
    simp only at hl hc ⊢
    refine PureA.wk (res := .tuple [nilS, intA c3]) ?_ (Wk.tuple (WkL.cons (Wk.nil 2) (WkL.refl _)))
    refine pureA_codeB tabOk { l := 0, f := 25 } mixed call_25 Try.func25 (by kernel_rfl) ?_
    conv => whnf
    repeat (any_goals (first | exact falseI | (refine brP_dec (fun _ => ?_) (fun _ => ?_) <;> first | (exfalso; omega) | conv => whnf) | (refine brP_ndec (fun _ => ?_) (fun _ => ?_) <;> first | (exfalso; omega) | conv => whnf) | ((first | refine callP_a hl ?_ | refine And.intro (DrawOk.mk (by kernel_rfl)) ?_ | refine okI ?_ | refine brP_true (Nat.beq_refl _) ?_ | refine brP_intro (fun _ => ?_) (fun _ => ?_) | refine bndI ?_ | intro _) <;> conv => whnf)))
    (refine ⟨⟨?_⟩, trivial⟩; rfl)
def Row.reach (r : Row) (most : Int) : List Found := (r.seek most (fun _ => false) 248833 0 [firstF r.parts]).2
def Row.reachN (r : Row) (n : Int) : Int × Int :=
  if r.check.2.2 = 0 then if outside 0 20 n = true then (0, 7) else ((r.reach n).length, 0) else (0, r.check.2.2)
theorem Reach_c (r : Row) (hr : r.small) (n : Int) (hn : inI n) : PureA Try.prog 30 [rowA r, intA n] (.tuple [intA (r.reachN n).1, intA (r.reachN n).2]) := by
  unfold Row.reachN Row.reach
  by_cases hc : r.check.2.2 = 0
  · have hv := r.valid_iff hc
    have hl := lookP_c r hr hc
    have hb := beyond_c [n] 0 20 (by simp)
    have hrun := run72_c r (hv.good hr) hv.ten r.parts hv.parts n hn (fun _ => false) (fun p hp => never72_c p hp)
    rw [if_pos hc]
    simp only [List.any_cons, List.any_nil, Bool.or_false] at hb
    generalize outside 0 20 n = o at *
    cases o
    · simp only [Bool.false_eq_true, if_false]
      generalize r.seek n (fun _ => false) 248833 0 [firstF r.parts] = R at *
      obtain ⟨R1, R2⟩ := R
      simp only at hrun ⊢
      refine pureA_codeB tabOk { l := 0, f := 30, mat := [71] } mixed call_30 Try.func30 (by kernel_rfl) ?_
      conv => whnf
      repeat (any_goals (first | exact falseI | (refine brP_dec (fun _ => ?_) (fun _ => ?_) <;> first | (exfalso; omega) | conv => whnf) | (refine brP_ndec (fun _ => ?_) (fun _ => ?_) <;> first | (exfalso; omega) | conv => whnf) | ((first | refine callP_a hl ?_ | refine callP_a hb ?_ | refine And.intro (DrawOk.mk (by kernel_rfl)) ?_ | refine okI ?_ | refine brP_true (Nat.beq_refl _) ?_ | refine brP_intro (fun _ => ?_) (fun _ => ?_) | refine bndI ?_ | intro _) <;> conv => whnf)))
      refine ⟨[⟨0, 30, 8⟩], ?_⟩
      conv => whnf
      refine ⟨_, _, hrun, ?_⟩
      conv => whnf
      refine optP_intro (tk_found _ _) ?_
      conv => whnf
      repeat (any_goals (first | exact falseI | (refine brP_dec (fun _ => ?_) (fun _ => ?_) <;> first | (exfalso; omega) | conv => whnf) | (refine brP_ndec (fun _ => ?_) (fun _ => ?_) <;> first | (exfalso; omega) | conv => whnf) | ((first | refine And.intro (DrawOk.mk (by kernel_rfl)) ?_ | refine okI ?_ | refine brP_true (Nat.beq_refl _) ?_ | refine brP_intro (fun _ => ?_) (fun _ => ?_) | refine bndI ?_ | intro _) <;> conv => whnf)))
      (refine ⟨⟨?_⟩, trivial⟩; rfl)
    · simp only [if_true]
      refine pureA_codeB tabOk { l := 0, f := 30, mat := [71] } mixed call_30 Try.func30 (by kernel_rfl) ?_
      conv => whnf
      repeat (any_goals (first | exact falseI | (refine brP_dec (fun _ => ?_) (fun _ => ?_) <;> first | (exfalso; omega) | conv => whnf) | (refine brP_ndec (fun _ => ?_) (fun _ => ?_) <;> first | (exfalso; omega) | conv => whnf) | ((first | refine callP_a hl ?_ | refine callP_a hb ?_ | refine And.intro (DrawOk.mk (by kernel_rfl)) ?_ | refine okI ?_ | refine brP_true (Nat.beq_refl _) ?_ | refine brP_intro (fun _ => ?_) (fun _ => ?_) | refine bndI ?_ | intro _) <;> conv => whnf)))
      (refine ⟨⟨?_⟩, trivial⟩; rfl)
  · have hl := lookN_c r hr hc
    rw [if_neg hc]
    generalize r.check = c at *
    obtain ⟨c1, c2, c3⟩ := c
    simp only at hl hc ⊢
    refine pureA_codeB tabOk { l := 0, f := 30, mat := [71] } mixed call_30 Try.func30 (by kernel_rfl) ?_
    conv => whnf
    repeat (any_goals (first | exact falseI | (refine brP_dec (fun _ => ?_) (fun _ => ?_) <;> first | (exfalso; omega) | conv => whnf) | (refine brP_ndec (fun _ => ?_) (fun _ => ?_) <;> first | (exfalso; omega) | conv => whnf) | ((first | refine callP_a hl ?_ | refine And.intro (DrawOk.mk (by kernel_rfl)) ?_ | refine okI ?_ | refine brP_true (Nat.beq_refl _) ?_ | refine brP_intro (fun _ => ?_) (fun _ => ?_) | refine bndI ?_ | intro _) <;> conv => whnf)))
    (refine ⟨⟨?_⟩, trivial⟩; rfl)
end Go.Proofs.Ytmggofcaeolaiaa
namespace Go.Proofs.Ytmggofcaeolaiaa
open Go.Am Go.Proofs Go
def mostF (g : Found → Nat) : Nat → Int × Int → List Found → Int × Int
  | _, acc, [] => acc
  | i, acc, f :: l => mostF g (i + 1) (if i = 0 ∨ (g f : Int) < acc.1 then ((g f : Int), (f.many : Int)) else acc) l
def Row.most (r : Row) : Int × Int × Int :=
  if r.check.2.2 = 0 then ((mostF (fun f => (r.wrong f.parts).length) 0 (0, 0) (r.reach (-1))).1, (mostF (fun f => (r.wrong f.parts).length) 0 (0, 0) (r.reach (-1))).2, 0) else (0, 0, r.check.2.2)
theorem Most_c (r : Row) (hr : r.small) : PureA Try.prog 28 [rowA r] (triA r.most) := by
  unfold Row.most Row.reach triA
  by_cases hc : r.check.2.2 = 0
  · have hv := r.valid_iff hc
    have hg := hv.good hr
    have hl := lookP_c r hr hc
    have hrun := run70_c r hg hv.ten r.parts hv.parts (-1) (by decide) (fun _ => false) (fun p hp => never70_c p hp)
    have hok := (seek_ok r (-1) (fun _ => false) 248833 0 [firstF r.parts] (firstF_ok hv.parts)).1
    have hw := fun p hp => wrongP_c r p r.parts hp hv.parts.1 hg.len
    have hwl := fun p => selFrom_len (fun i f => isWrong f (List.getD p i zeroP)) 0 r.figs
    have hwl : ∀ p, (r.wrong p).length ≤ 5 := fun p => Nat.le_trans (hwl p) hg.len
    rw [if_pos hc]
    generalize r.seek (-1) (fun _ => false) 248833 0 [firstF r.parts] = R at *
    obtain ⟨R1, R2⟩ := R
    simp only at hrun hok ⊢
    have hbd := hok.bound
    generalize r.parts = pp at *
    obtain ⟨M, hM⟩ : ∃ M, M = mostF (fun f => (r.wrong f.parts).length) 0 (0, 0) R2 := ⟨_, rfl⟩
    rw [← hM]
    refine pureA_codeB tabOk { l := 0, f := 28, mat := [71] } mixed call_28 Try.func28 (by kernel_rfl) ?_
    conv => whnf
    repeat (any_goals (first | exact falseI | (refine brP_dec (fun _ => ?_) (fun _ => ?_) <;> first | (exfalso; omega) | conv => whnf) | (refine brP_ndec (fun _ => ?_) (fun _ => ?_) <;> first | (exfalso; omega) | conv => whnf) | ((first | refine callP_a hl ?_ | refine And.intro (DrawOk.mk (by kernel_rfl)) ?_ | refine okI ?_ | refine brP_true (Nat.beq_refl _) ?_ | refine brP_intro (fun _ => ?_) (fun _ => ?_) | refine bndI ?_ | intro _) <;> conv => whnf)))
    refine ⟨[⟨0, 28, 6⟩], ?_⟩
    conv => whnf
    refine ⟨_, _, hrun, ?_⟩
    conv => whnf
    refine optP_intro (tk_found _ _) ?_
    conv => whnf
    repeat (any_goals (first | exact falseI | (refine brP_dec (fun _ => ?_) (fun _ => ?_) <;> first | (exfalso; omega) | conv => whnf) | (refine brP_ndec (fun _ => ?_) (fun _ => ?_) <;> first | (exfalso; omega) | conv => whnf) | ((first | refine And.intro (DrawOk.mk (by kernel_rfl)) ?_ | refine okI ?_ | refine brP_true (Nat.beq_refl _) ?_ | refine brP_intro (fun _ => ?_) (fun _ => ?_) | refine bndI ?_ | intro _) <;> conv => whnf)))
    refine loopK tabOk { l := 0, f := 28, mat := [71] } mixed (fun a : Nat × Int × Int => [(24, intA a.1), (2, intA a.2.1), (3, intA a.2.2)]) (fun _ => []) (fun _ => []) (fun a => a.1 ≤ R2.length ∧ M = mostF (fun f => (r.wrong f.parts).length) a.1 a.2 (R2.drop a.1)) (fun a => R2.length - a.1) (0, 0, 0) (by kernel_rfl)
      ⟨Nat.zero_le _, hM⟩ ?_
    conv => whnf
    refine ⟨⟨slotsLe_cons rfl (slotsLe_cons rfl (slotsLe_cons rfl trivial)), trivial, trivial⟩, ?_⟩
    intro ⟨i, a, b⟩ ⟨hi, H⟩
    simp only at hi H
    conv => whnf
    refine brP_dec (fun h1 => ?_) (fun h1 => ?_)
    · simp only at h1
      obtain ⟨f, hf, hd⟩ := drop_cons (l := R2) (i := i) (by omega)
      rw [hd] at H
      simp only [mostF] at H
      have h5 := (hok.one f (List.mem_of_getElem? hf)).1
      have hwf := hw f.parts h5
      have hwl := hwl f.parts
      generalize r.wrong f.parts = W at *
      obtain ⟨fp, fl, fb, fm⟩ := f
      simp only at h5 hwf H
      obtain ⟨f1, f2, f3, f4, f5, rfl⟩ := list5 h5
      conv => whnf
      repeat (any_goals (first | exact falseI | (refine brP_dec (fun _ => ?_) (fun _ => ?_) <;> first | (exfalso; omega) | conv => whnf) | (refine brP_ndec (fun _ => ?_) (fun _ => ?_) <;> first | (exfalso; omega) | conv => whnf) | ((first | refine optP_map hf rfl ?_ | refine callP_a hwf ?_ | refine And.intro (DrawOk.mk (by kernel_rfl)) ?_ | refine okI ?_ | refine brP_true (Nat.beq_refl _) ?_ | refine brP_intro (fun _ => ?_) (fun _ => ?_) | refine bndI ?_ | intro _) <;> conv => whnf)))
      · have h0 : i = 0 := by have : ((i : Nat) : Int) = 0 := by assumption
                              omega
        rw [if_pos (.inl h0)] at H
        (refine ⟨(i + 1, (W.length : Int), (fm : Int)), ⟨by simp only; omega, H⟩, (by simp only; omega), ?_⟩; (conv => whnf); refine ⟨?_, ?_, ?_⟩ <;> repeat (first | exact trivial | refine slotsLe_cons rfl ?_ | refine keysLe_none ?_ | refine keysLe_cons rfl ?_ | refine slotsLe_cons (by first | rfl | (simp only [List.length_map]; rfl)) ?_ | refine keysLe_cons (by first | rfl | (simp only [List.length_map]; rfl)) ?_))
      · have h0 : (W.length : Int) < a := by
          rename_i h2
          simp only [List.length_map] at h2
          exact h2
        rw [if_pos (.inr h0)] at H
        (refine ⟨(i + 1, (W.length : Int), (fm : Int)), ⟨by simp only; omega, H⟩, (by simp only; omega), ?_⟩; (conv => whnf); refine ⟨?_, ?_, ?_⟩ <;> repeat (first | exact trivial | refine slotsLe_cons rfl ?_ | refine keysLe_none ?_ | refine keysLe_cons rfl ?_ | refine slotsLe_cons (by first | rfl | (simp only [List.length_map]; rfl)) ?_ | refine keysLe_cons (by first | rfl | (simp only [List.length_map]; rfl)) ?_))
      · rename_i h2 h3
        simp only [List.length_map] at h3
        have hno : ¬ (i = 0 ∨ (W.length : Int) < a) := by
          rintro (h | h)
          · exact h2 (by simp [h])
          · exact h3 h
        rw [if_neg hno] at H
        (refine ⟨(i + 1, a, b), ⟨by simp only; omega, H⟩, (by simp only; omega), ?_⟩; (conv => whnf); refine ⟨?_, ?_, ?_⟩ <;> repeat (first | exact trivial | refine slotsLe_cons rfl ?_ | refine keysLe_none ?_ | refine keysLe_cons rfl ?_ | refine slotsLe_cons (by rfl) ?_ | refine keysLe_cons (by rfl) ?_))
    · have : i = R2.length := by simp only at h1; omega
      subst this
      simp only [List.drop_length, mostF] at H
      subst H
      conv => whnf
      repeat (any_goals (first | exact falseI | (refine brP_dec (fun _ => ?_) (fun _ => ?_) <;> first | (exfalso; omega) | conv => whnf) | (refine brP_ndec (fun _ => ?_) (fun _ => ?_) <;> first | (exfalso; omega) | conv => whnf) | ((first | refine And.intro (DrawOk.mk (by kernel_rfl)) ?_ | refine okI ?_ | refine brP_true (Nat.beq_refl _) ?_ | refine brP_intro (fun _ => ?_) (fun _ => ?_) | refine bndI ?_ | intro _) <;> conv => whnf)))
      (refine ⟨⟨?_⟩, trivial⟩; rfl)
  · have hl := lookN_c r hr hc
    rw [if_neg hc]
    generalize r.check = c at *
    obtain ⟨c1, c2, c3⟩ := c
    simp only at hl hc ⊢
    refine pureA_codeB tabOk { l := 0, f := 28, mat := [71] } mixed call_28 Try.func28 (by kernel_rfl) ?_
    conv => whnf
    repeat (any_goals (first | exact falseI | (refine brP_dec (fun _ => ?_) (fun _ => ?_) <;> first | (exfalso; omega) | conv => whnf) | (refine brP_ndec (fun _ => ?_) (fun _ => ?_) <;> first | (exfalso; omega) | conv => whnf) | ((first | refine callP_a hl ?_ | refine And.intro (DrawOk.mk (by kernel_rfl)) ?_ | refine okI ?_ | refine brP_true (Nat.beq_refl _) ?_ | refine brP_intro (fun _ => ?_) (fun _ => ?_) | refine bndI ?_ | intro _) <;> conv => whnf)))
    (refine ⟨⟨?_⟩, trivial⟩; rfl)
end Go.Proofs.Ytmggofcaeolaiaa
namespace Go.Proofs.Ytmggofcaeolaiaa
open Go.Am Go.Proofs Go
theorem clip_c (l : List Stp) (hl : l.length ≤ 1048576) : PureA Try.prog 73 [stpsA l] (.slice 2 (l.map stpA) .tight) := by
  have ht : (l.map stpA).take (((l.map stpA).length : Int).toNat) = l.map stpA := by rw [List.take_of_length_le]; simp
  refine BoxA.pure (res := .slice 2 (l.map stpA) .tight) ?_ rfl
  cases l with
  | nil =>
    refine boxA_codeB tabOk { l := 0, f := 73 } mixed call_73 Try.func73 (by kernel_rfl) ?_
    conv => whnf
    repeat (any_goals (first | exact falseI | (refine brP_dec (fun _ => ?_) (fun _ => ?_) <;> first | (exfalso; omega) | conv => whnf) | (refine brP_ndec (fun _ => ?_) (fun _ => ?_) <;> first | (exfalso; omega) | conv => whnf) | ((first | refine And.intro (DrawOk.mk (by kernel_rfl)) ?_ | refine okI ?_ | refine brP_true (Nat.beq_refl _) ?_ | refine brP_intro (fun _ => ?_) (fun _ => ?_) | refine bndI ?_ | intro _) <;> conv => whnf)))
    refine And.intro ?_ ?_
    · conv => whnf
      refine ⟨⟨?_⟩, trivial⟩
      rfl
    · repeat (first | exact trivial | refine And.intro rfl ?_ | refine And.intro (by skip) ?_)
  | cons s l =>
    refine boxA_codeB tabOk { l := 0, f := 73 } mixed call_73 Try.func73 (by kernel_rfl) ?_
    conv => whnf
    repeat (any_goals (first | exact falseI | (refine brP_dec (fun _ => ?_) (fun _ => ?_) <;> first | (exfalso; omega) | conv => whnf) | (refine brP_ndec (fun _ => ?_) (fun _ => ?_) <;> first | (exfalso; omega) | conv => whnf) | ((first | refine And.intro (DrawOk.mk (by kernel_rfl)) ?_ | refine okI ?_ | refine brP_true (Nat.beq_refl _) ?_ | refine brP_intro (fun _ => ?_) (fun _ => ?_) | refine bndI ?_ | intro _) <;> conv => whnf)))
    refine And.intro ?_ ?_
    · conv => whnf
      refine ⟨⟨?_⟩, trivial⟩
      (rw [ht]; rfl)
    · repeat (first | exact trivial | refine And.intro rfl ?_ | refine And.intro (by skip) ?_)
theorem fewestF_c (r : Row) (hg : r.Good) (h10 : r.beside.length ≤ 10) (p0 : List Part) (hp0 : okP5 p0) : PureF Try.prog 68 [lookR r p0] (.tuple [stpsA (r.fewP p0).1, boolA (r.fewP p0).2]) := by
  have hrun := run89_c r hg h10 p0 hp0 (-1) (by decide) (fun p => decide ((r.wrong p).length = 0)) (fun p hp => right89_c r p0 p hp0.1 hp hg.len)
  have hs := seek_ok r (-1) (fun p => decide ((r.wrong p).length = 0)) 248833 0 [firstF p0] (firstF_ok hp0)
  unfold Row.fewP Row.found
  generalize r.seek (-1) (fun p => decide ((r.wrong p).length = 0)) 248833 0 [firstF p0] = R at *
  obtain ⟨R1, R2⟩ := R
  simp only at hrun hs ⊢
  obtain ⟨hok, hs⟩ := hs
  rcases hs with rfl | ⟨j, rfl, hj⟩
  · rw [if_pos (by decide)]
    refine PureF.wk (res := .tuple [nilS, boolA false]) ?_ (Wk.tuple (WkL.cons (Wk.nil 2) (WkL.refl _)))
    refine BoxA.fresh0 ?_
    refine boxA_codeB tabOk { l := 0, f := 68, mat := [71, 90] } mixed call_68 Try.func68 (by kernel_rfl) ?_
    conv => whnf
    repeat (any_goals (first | exact falseI | (refine brP_dec (fun _ => ?_) (fun _ => ?_) <;> first | (exfalso; omega) | conv => whnf) | (refine brP_ndec (fun _ => ?_) (fun _ => ?_) <;> first | (exfalso; omega) | conv => whnf) | ((first | refine And.intro (DrawOk.mk (by kernel_rfl)) ?_ | refine okI ?_ | refine brP_true (Nat.beq_refl _) ?_ | refine brP_intro (fun _ => ?_) (fun _ => ?_) | refine bndI ?_ | intro _) <;> conv => whnf)))
    refine ⟨[⟨0, 68, 4⟩, ⟨0, 68, 1⟩], ?_⟩
    conv => whnf
    refine ⟨_, _, hrun, ?_⟩
    conv => whnf
    refine optP_intro (tk_found _ _) ?_
    conv => whnf
    repeat (any_goals (first | exact falseI | (refine brP_dec (fun _ => ?_) (fun _ => ?_) <;> first | (exfalso; omega) | conv => whnf) | (refine brP_ndec (fun _ => ?_) (fun _ => ?_) <;> first | (exfalso; omega) | conv => whnf) | ((first | refine And.intro (DrawOk.mk (by kernel_rfl)) ?_ | refine okI ?_ | refine brP_true (Nat.beq_refl _) ?_ | refine brP_intro (fun _ => ?_) (fun _ => ?_) | refine bndI ?_ | intro _) <;> conv => whnf)))
    refine And.intro ?_ ?_
    · conv => whnf
      refine ⟨⟨?_⟩, trivial⟩
      rfl
    · repeat (first | exact trivial | refine And.intro rfl ?_ | refine And.intro (by skip) ?_)
  · rw [if_neg (by omega)]
    simp only [Int.toNat_natCast]
    by_cases hne : pathF R2 (j + 1) j = []
    · have hpa := path0_c r p0 (-1) R2 hok j hj hne
      have : pathTo R2 j = [] := by simp [pathTo, hne]
      rw [this]
      refine PureF.wk (res := .tuple [nilS, boolA true]) ?_ (Wk.tuple (WkL.cons (Wk.nil 2) (WkL.refl _)))
      refine BoxA.fresh1 ?_
      refine boxA_codeB tabOk { l := 0, f := 68, mat := [71, 90] } mixed call_68 Try.func68 (by kernel_rfl) ?_
      conv => whnf
      repeat (any_goals (first | exact falseI | (refine brP_dec (fun _ => ?_) (fun _ => ?_) <;> first | (exfalso; omega) | conv => whnf) | (refine brP_ndec (fun _ => ?_) (fun _ => ?_) <;> first | (exfalso; omega) | conv => whnf) | ((first | refine And.intro (DrawOk.mk (by kernel_rfl)) ?_ | refine okI ?_ | refine brP_true (Nat.beq_refl _) ?_ | refine brP_intro (fun _ => ?_) (fun _ => ?_) | refine bndI ?_ | intro _) <;> conv => whnf)))
      refine ⟨[⟨0, 68, 4⟩, ⟨0, 68, 1⟩], ?_⟩
      conv => whnf
      refine ⟨_, _, hrun, ?_⟩
      conv => whnf
      refine optP_intro (tk_found _ _) ?_
      conv => whnf
      repeat (any_goals (first | exact falseI | (refine brP_dec (fun _ => ?_) (fun _ => ?_) <;> first | (exfalso; omega) | conv => whnf) | (refine brP_ndec (fun _ => ?_) (fun _ => ?_) <;> first | (exfalso; omega) | conv => whnf) | ((first | refine And.intro (DrawOk.mk (by kernel_rfl)) ?_ | refine okI ?_ | refine brP_true (Nat.beq_refl _) ?_ | refine brP_intro (fun _ => ?_) (fun _ => ?_) | refine bndI ?_ | intro _) <;> conv => whnf)))
      refine ⟨[kX, kR, kF], ?_⟩
      conv => whnf
      refine optP_intro (tk_found _ _) ?_
      conv => whnf
      refine ⟨_, _, hpa, ?_⟩
      conv => whnf
      refine optP_intro (tk_found _ _) ?_
      conv => whnf
      repeat (any_goals (first | exact falseI | (refine brP_dec (fun _ => ?_) (fun _ => ?_) <;> first | (exfalso; omega) | conv => whnf) | (refine brP_ndec (fun _ => ?_) (fun _ => ?_) <;> first | (exfalso; omega) | conv => whnf) | ((first | refine And.intro (DrawOk.mk (by kernel_rfl)) ?_ | refine okI ?_ | refine brP_true (Nat.beq_refl _) ?_ | refine brP_intro (fun _ => ?_) (fun _ => ?_) | refine bndI ?_ | intro _) <;> conv => whnf)))
      refine And.intro ?_ ?_
      · conv => whnf
        refine ⟨⟨?_⟩, trivial⟩
        rfl
      · repeat (first | exact trivial | refine And.intro rfl ?_ | refine And.intro (by skip) ?_)
    · have hpa := path_c r p0 (-1) R2 hok j hj hne
      generalize pathTo R2 j = Q at *
      have hF : BoxA Try.prog (.fn 68) [] [lookR r p0] (.tuple [.own kP Q.length 2 (Q.map stpA).length 0, .v (.bool true)]) [(kP, Q.length, 2, Q.map stpA)] := by
        rw [List.length_map]
        refine boxA_codeB tabOk { l := 0, f := 68, mat := [71, 90] } mixed call_68 Try.func68 (by kernel_rfl) ?_
        conv => whnf
        repeat (any_goals (first | exact falseI | (refine brP_dec (fun _ => ?_) (fun _ => ?_) <;> first | (exfalso; omega) | conv => whnf) | (refine brP_ndec (fun _ => ?_) (fun _ => ?_) <;> first | (exfalso; omega) | conv => whnf) | ((first | refine And.intro (DrawOk.mk (by kernel_rfl)) ?_ | refine okI ?_ | refine brP_true (Nat.beq_refl _) ?_ | refine brP_intro (fun _ => ?_) (fun _ => ?_) | refine bndI ?_ | intro _) <;> conv => whnf)))
        refine ⟨[⟨0, 68, 4⟩, ⟨0, 68, 1⟩], ?_⟩
        conv => whnf
        refine ⟨_, _, hrun, ?_⟩
        conv => whnf
        refine optP_intro (tk_found _ _) ?_
        conv => whnf
        repeat (any_goals (first | exact falseI | (refine brP_dec (fun _ => ?_) (fun _ => ?_) <;> first | (exfalso; omega) | conv => whnf) | (refine brP_ndec (fun _ => ?_) (fun _ => ?_) <;> first | (exfalso; omega) | conv => whnf) | ((first | refine And.intro (DrawOk.mk (by kernel_rfl)) ?_ | refine okI ?_ | refine brP_true (Nat.beq_refl _) ?_ | refine brP_intro (fun _ => ?_) (fun _ => ?_) | refine bndI ?_ | intro _) <;> conv => whnf)))
        refine ⟨[kX, kR, kF], ?_⟩
        conv => whnf
        refine optP_intro (tk_found _ _) ?_
        conv => whnf
        refine ⟨_, _, hpa, ?_⟩
        conv => whnf
        refine optP_intro (tk_found _ _) ?_
        conv => whnf
        refine optP_intro (tk_stps _ _) ?_
        conv => whnf
        repeat (any_goals (first | exact falseI | (refine brP_dec (fun _ => ?_) (fun _ => ?_) <;> first | (exfalso; omega) | conv => whnf) | (refine brP_ndec (fun _ => ?_) (fun _ => ?_) <;> first | (exfalso; omega) | conv => whnf) | ((first | refine And.intro (DrawOk.mk (by kernel_rfl)) ?_ | refine okI ?_ | refine brP_true (Nat.beq_refl _) ?_ | refine brP_intro (fun _ => ?_) (fun _ => ?_) | refine bndI ?_ | intro _) <;> conv => whnf)))
        refine And.intro ?_ ?_
        · conv => whnf
          refine ⟨⟨?_⟩, trivial⟩
          rfl
        · repeat (first | exact trivial | refine And.intro rfl ?_ | refine And.intro (by skip) ?_)
      exact BoxA.fresh (by decide) (fun e he x hx => by
        obtain ⟨s, _, rfl⟩ := List.mem_map.1 he
        simp [stpA, AV.cells, intA] at hx
        rcases hx with rfl | rfl <;> exact ⟨_, rfl⟩) hF
theorem callP_n {P : Program} {f : FuncId} {args : List AV} {res : AV} {snap : Bool} {K : AV → Prop} (h : PureF P f args res) (k : K res) : callP P f args snap K := by
  cases snap
  · exact ⟨res, h.pureA, k⟩
  · exact ⟨res, h, k⟩
theorem ten_of {l : List Stp} (hn : l.Nodup) (hb : ∀ s ∈ l, 0 ≤ s.a ∧ s.a < s.b ∧ s.b < 5) : l.length ≤ 10 := by
  let f : Stp → Nat := fun s => (s.b.toNat * (s.b.toNat - 1)) / 2 + s.a.toNat
  have hf : ∀ s ∈ l, f s < 10 := fun s hs => by
    obtain ⟨h1, h2, h3⟩ := hb s hs
    obtain ⟨a, ha⟩ : ∃ a : Nat, s.a = a := ⟨s.a.toNat, by omega⟩
    obtain ⟨b, hb⟩ : ∃ b : Nat, s.b = b := ⟨s.b.toNat, by omega⟩
    have : b = 0 ∨ b = 1 ∨ b = 2 ∨ b = 3 ∨ b = 4 := by omega
    simp only [f, ha, hb, Int.toNat_natCast]
    rcases this with rfl | rfl | rfl | rfl | rfl <;> omega
  have hi : ∀ s ∈ l, ∀ t ∈ l, f s = f t → s = t := fun s hs t ht e => by
    obtain ⟨h1, h2, h3⟩ := hb s hs
    obtain ⟨k1, k2, k3⟩ := hb t ht
    obtain ⟨sa, sb⟩ := s
    obtain ⟨ta, tb⟩ := t
    simp only at h1 h2 h3 k1 k2 k3
    obtain ⟨a, rfl⟩ : ∃ a : Nat, sa = a := ⟨sa.toNat, by omega⟩
    obtain ⟨b, rfl⟩ : ∃ b : Nat, sb = b := ⟨sb.toNat, by omega⟩
    obtain ⟨c, rfl⟩ : ∃ c : Nat, ta = c := ⟨ta.toNat, by omega⟩
    obtain ⟨d, rfl⟩ : ∃ d : Nat, tb = d := ⟨tb.toNat, by omega⟩
    simp only [f, Int.toNat_natCast] at e
    have hb' : b = 0 ∨ b = 1 ∨ b = 2 ∨ b = 3 ∨ b = 4 := by omega
    have hd' : d = 0 ∨ d = 1 ∨ d = 2 ∨ d = 3 ∨ d = 4 := by omega
    have : a = c ∧ b = d := by
      rcases hb' with rfl | rfl | rfl | rfl | rfl <;> rcases hd' with rfl | rfl | rfl | rfl | rfl <;> simp at e <;> omega
    rw [this.1, this.2]
  have := nodup_bound 10 (l.map f) (nodup_map hn hi) fun x hx => by
    obtain ⟨s, hs, rfl⟩ := List.mem_map.1 hx
    exact hf s hs
  simpa using this
def Row.plus (r : Row) (s : Stp) : Row := if r.beside.any (s == ·) = true then r else { r with beside := r.beside ++ [s] }
theorem Row.plus_good {r : Row} (h : r.Valid) (hr : r.small) (s : Stp) (hs : 0 ≤ s.a ∧ s.a < s.b ∧ s.b < r.figs.length) : (r.plus s).Good ∧ (r.plus s).beside.length ≤ 10 := by
  have hg := h.good hr
  unfold Row.plus
  split
  · exact ⟨hg, h.ten⟩
  · rename_i hc
    have hb : ∀ t ∈ r.beside ++ [s], 0 ≤ t.a ∧ t.a < t.b ∧ t.b < r.figs.length := fun t ht => by
      rcases List.mem_append.1 ht with ht | ht
      · exact hg.bound t ht
      · simp at ht; subst ht; exact hs
    have h5 := hg.len
    have h10 : (r.beside ++ [s]).length ≤ 10 := ten_of (by
      rw [List.nodup_append]
      refine ⟨h.nodup, by simp, fun a ha b hb e => hc ?_⟩
      simp at hb
      subst hb; subst e
      exact List.any_eq_true.2 ⟨a, ha, by simp⟩) fun t ht => by have := hb t ht; omega
    exact ⟨⟨hg.len, hb, hg.benchB, by simp only; omega⟩, h10⟩
def Row.gain (r : Row) (a b : Int) : Int × Int :=
  if r.check.2.2 = 0 then if (outside 0 r.last a || outside 0 r.last b) = true then (0, 4) else if b ≤ a then (0, 2) else
    if (r.fewP r.parts).2 = true then (((r.fewP r.parts).1.length : Int) - ((r.plus ⟨a, b⟩).fewP r.parts).1.length, 0) else (0, 9)
  else (0, r.check.2.2)
theorem fewP_len (r : Row) (p : List Part) (h : okP5 p) : (r.fewP p).1.length ≤ 248833 := by
  unfold Row.fewP
  split
  · simp
  · have hs := seek_ok r (-1) (fun p => decide ((r.wrong p).length = 0)) 248833 0 [firstF p] (firstF_ok h)
    unfold Row.found
    have := pathF_len (all := (r.seek (-1) (fun p => decide ((r.wrong p).length = 0)) 248833 0 [firstF p]).2) ((r.seek (-1) (fun p => decide ((r.wrong p).length = 0)) 248833 0 [firstF p]).1.toNat + 1) (r.seek (-1) (fun p => decide ((r.wrong p).length = 0)) 248833 0 [firstF p]).1.toNat
    have hbd := hs.1.bound
    simp only [pathTo, List.length_reverse]
    have h2 := hs.2
    omega
theorem gain_ok_c (r : Row) (hr : r.small) (a b : Int) (hc : r.check.2.2 = 0) (hab : (outside 0 r.last a || outside 0 r.last b) = false) (hlt : ¬ b ≤ a) (hfew : (r.fewP r.parts).2 = true) :
    PureA Try.prog 32 [rowA r, intA a, intA b] (.tuple [intA (((r.fewP r.parts).1.length : Int) - ((r.plus ⟨a, b⟩).fewP r.parts).1.length), intA 0]) := by
  have hv := r.valid_iff hc
  have hg := hv.good hr
  have hl := lookOk_c r hr hc
  have hb := beyond_c [a, b] 0 r.last (by simp)
  have hab' := hab
  rw [Bool.or_eq_false_iff, outside_false, outside_false] at hab'
  have hlast : r.last = ((r.figs.map figA).length : Int) - 1 := by simp [Row.last]
  have hpg := Row.plus_good hv hr ⟨a, b⟩ (by simp only; unfold Row.last at hab'; omega)
  have hf := fewestF_c r hg hv.ten r.parts hv.parts
  have hf2 := fewestF_c (r.plus ⟨a, b⟩) hpg.1 hpg.2 r.parts hv.parts
  have hcn := contains_c r.beside ⟨a, b⟩ hg.blen
  have hk1 := fewP_len r r.parts hv.parts
  have hk2 := fewP_len (r.plus ⟨a, b⟩) r.parts hv.parts
  have hcl := clip_c r.beside hg.blen
  have hp5 := hv.parts.1
  have h10 := hv.ten
  simp only [List.any_cons, List.any_nil, Bool.or_false, hab] at hb
  rw [hlast] at hb
  have h5 := hg.len
  generalize hF1 : r.fewP r.parts = F at *
  generalize hF2 : (r.plus ⟨a, b⟩).fewP r.parts = F2 at *
  obtain ⟨F1, F1b⟩ := F
  obtain ⟨F2, F2b⟩ := F2
  simp only at hf hf2 hk1 hk2 hfew ⊢
  subst hfew
  clear hab hab' hlast hpg
  have hp := hv.parts.1
  generalize r.parts = p at *
  obtain ⟨p1, p2, p3, p4, p5, rfl⟩ := list5 hp
  unfold Row.plus at hf2 hF2
  by_cases hin : r.beside.any ((⟨a, b⟩ : Stp) == ·) = true
  · rw [if_pos hin] at hf2 hF2
    rw [hF1] at hF2
    simp only [Prod.mk.injEq] at hF2
    obtain ⟨rfl, rfl⟩ := hF2
    rw [hin] at hcn
    refine pureA_codeB tabOk { l := 0, f := 32, mat := [62] } mixed call_32 Try.func32 (by kernel_rfl) ?_
    conv => whnf
    repeat (any_goals (first | exact falseI | (refine brP_dec (fun _ => ?_) (fun _ => ?_) <;> first | (exfalso; omega) | conv => whnf) | (refine brP_ndec (fun _ => ?_) (fun _ => ?_) <;> first | (exfalso; omega) | conv => whnf) | ((first | refine And.intro (DrawOk.mk (by kernel_rfl)) ?_ | refine okI ?_ | refine brP_true (Nat.beq_refl _) ?_ | refine brP_intro (fun _ => ?_) (fun _ => ?_) | refine bndI ?_ | intro _) <;> conv => whnf)))
    refine ⟨[], ?_⟩
    conv => whnf
    refine ⟨_, _, hl, ?_⟩
    conv => whnf
    repeat (any_goals (first | exact falseI | (refine brP_dec (fun _ => ?_) (fun _ => ?_) <;> first | (exfalso; omega) | conv => whnf) | (refine brP_ndec (fun _ => ?_) (fun _ => ?_) <;> first | (exfalso; omega) | conv => whnf) | ((first | refine callP_a hb ?_ | refine callP_n hf ?_ | refine callP_a hcn ?_ | refine And.intro (DrawOk.mk (by kernel_rfl)) ?_ | refine okI ?_ | refine brP_true (Nat.beq_refl _) ?_ | refine brP_intro (fun _ => ?_) (fun _ => ?_) | refine bndI ?_ | intro _) <;> conv => whnf)))
    (refine ⟨⟨?_⟩, trivial⟩; simp [oneOf, intA])
  · rw [if_neg hin] at hf2
    clear hF1 hF2
    have hin := Bool.eq_false_iff.2 hin
    rw [hin] at hcn
    have e : stpsA (r.beside ++ [(⟨a, b⟩ : Stp)]) = .slice 2 (r.beside.map stpA ++ [stpA ⟨a, b⟩]) .no := by simp [stpsA]
    unfold lookR rowX at hf2
    simp only [e] at hf2
    refine pureA_codeB tabOk { l := 0, f := 32, mat := [62] } mixed call_32 Try.func32 (by kernel_rfl) ?_
    conv => whnf
    repeat (any_goals (first | exact falseI | (refine brP_dec (fun _ => ?_) (fun _ => ?_) <;> first | (exfalso; omega) | conv => whnf) | (refine brP_ndec (fun _ => ?_) (fun _ => ?_) <;> first | (exfalso; omega) | conv => whnf) | ((first | refine And.intro (DrawOk.mk (by kernel_rfl)) ?_ | refine okI ?_ | refine brP_true (Nat.beq_refl _) ?_ | refine brP_intro (fun _ => ?_) (fun _ => ?_) | refine bndI ?_ | intro _) <;> conv => whnf)))
    refine ⟨[], ?_⟩
    conv => whnf
    refine ⟨_, _, hl, ?_⟩
    conv => whnf
    repeat (any_goals (first | exact falseI | (refine brP_dec (fun _ => ?_) (fun _ => ?_) <;> first | (exfalso; omega) | conv => whnf) | (refine brP_ndec (fun _ => ?_) (fun _ => ?_) <;> first | (exfalso; omega) | conv => whnf) | ((first | refine callP_a hb ?_ | refine callP_n hf ?_ | refine callP_a hcn ?_ | refine callP_a hcl ?_ | refine callP_n hf2 ?_ | refine And.intro (DrawOk.mk (by kernel_rfl)) ?_ | refine okI ?_ | refine brP_true (Nat.beq_refl _) ?_ | refine brP_intro (fun _ => ?_) (fun _ => ?_) | refine bndI ?_ | intro _) <;> conv => whnf)))
    (refine ⟨⟨?_⟩, trivial⟩; simp [oneOf, intA])
theorem Gain_c (r : Row) (hr : r.small) (a b : Int) : PureA Try.prog 32 [rowA r, intA a, intA b] (.tuple [intA (r.gain a b).1, intA (r.gain a b).2]) := by
  unfold Row.gain
  by_cases hc : r.check.2.2 = 0
  · rw [if_pos hc]
    by_cases hab : (outside 0 r.last a || outside 0 r.last b) = false
    · rw [if_neg (by rw [hab]; simp)]
      by_cases hlt : b ≤ a
      · rw [if_pos hlt]
        have hl := lookP_c r hr hc
        have hb := beyond_c [a, b] 0 r.last (by simp)
        simp only [List.any_cons, List.any_nil, Bool.or_false, hab] at hb
        rw [show r.last = ((r.figs.map figA).length : Int) - 1 by simp [Row.last]] at hb
        have h5 := check_len hc
        have hp := (r.valid_iff hc).parts.1
        generalize r.parts = p at *
        obtain ⟨p1, p2, p3, p4, p5, rfl⟩ := list5 hp
        refine pureA_codeB tabOk { l := 0, f := 32 } mixed call_32 Try.func32 (by kernel_rfl) ?_
        conv => whnf
        repeat (any_goals (first | exact falseI | (refine brP_dec (fun _ => ?_) (fun _ => ?_) <;> first | (exfalso; omega) | conv => whnf) | (refine brP_ndec (fun _ => ?_) (fun _ => ?_) <;> first | (exfalso; omega) | conv => whnf) | ((first | refine callP_a hl ?_ | refine callP_a hb ?_ | refine And.intro (DrawOk.mk (by kernel_rfl)) ?_ | refine okI ?_ | refine brP_true (Nat.beq_refl _) ?_ | refine brP_intro (fun _ => ?_) (fun _ => ?_) | refine bndI ?_ | intro _) <;> conv => whnf)))
        all_goals first | ((refine ⟨⟨?_⟩, trivial⟩; rfl)) | skip
      · rw [if_neg hlt]
        by_cases hfew : (r.fewP r.parts).2 = true
        · rw [if_pos hfew]; exact gain_ok_c r hr a b hc hab hlt hfew
        · rw [if_neg hfew]
          have hv := r.valid_iff hc
          have hl := lookP_c r hr hc
          have hf := fewestF_c r (hv.good hr) hv.ten r.parts hv.parts
          have hb := beyond_c [a, b] 0 r.last (by simp)
          simp only [List.any_cons, List.any_nil, Bool.or_false, hab] at hb
          rw [show r.last = ((r.figs.map figA).length : Int) - 1 by simp [Row.last]] at hb
          have h5 := check_len hc
          have hfew := Bool.eq_false_iff.2 hfew
          generalize r.fewP r.parts = F at *
          obtain ⟨F1, F2⟩ := F
          simp only at hf hfew
          subst hfew
          have hp := hv.parts.1
          generalize r.parts = p at *
          obtain ⟨p1, p2, p3, p4, p5, rfl⟩ := list5 hp
          refine pureA_codeB tabOk { l := 0, f := 32 } mixed call_32 Try.func32 (by kernel_rfl) ?_
          conv => whnf
          repeat (any_goals (first | exact falseI | (refine brP_dec (fun _ => ?_) (fun _ => ?_) <;> first | (exfalso; omega) | conv => whnf) | (refine brP_ndec (fun _ => ?_) (fun _ => ?_) <;> first | (exfalso; omega) | conv => whnf) | ((first | refine callP_a hl ?_ | refine callP_a hb ?_ | refine callP_a hf.pureA ?_ | refine And.intro (DrawOk.mk (by kernel_rfl)) ?_ | refine okI ?_ | refine brP_true (Nat.beq_refl _) ?_ | refine brP_intro (fun _ => ?_) (fun _ => ?_) | refine bndI ?_ | intro _) <;> conv => whnf)))
          all_goals first | ((refine ⟨⟨?_⟩, trivial⟩; rfl)) | skip
    · have hab : (outside 0 r.last a || outside 0 r.last b) = true := by cases h : (outside 0 r.last a || outside 0 r.last b) with
        | false => exact absurd h hab
        | true => rfl
      rw [if_pos hab]
      have hl := lookP_c r hr hc
      have hb := beyond_c [a, b] 0 r.last (by simp)
      simp only [List.any_cons, List.any_nil, Bool.or_false, hab] at hb
      rw [show r.last = ((r.figs.map figA).length : Int) - 1 by simp [Row.last]] at hb
      have h5 := check_len hc
      refine pureA_codeB tabOk { l := 0, f := 32 } mixed call_32 Try.func32 (by kernel_rfl) ?_
      conv => whnf
      repeat (any_goals (first | exact falseI | (refine brP_dec (fun _ => ?_) (fun _ => ?_) <;> first | (exfalso; omega) | conv => whnf) | (refine brP_ndec (fun _ => ?_) (fun _ => ?_) <;> first | (exfalso; omega) | conv => whnf) | ((first | refine callP_a hl ?_ | refine callP_a hb ?_ | refine And.intro (DrawOk.mk (by kernel_rfl)) ?_ | refine okI ?_ | refine brP_true (Nat.beq_refl _) ?_ | refine brP_intro (fun _ => ?_) (fun _ => ?_) | refine bndI ?_ | intro _) <;> conv => whnf)))
      all_goals first | ((refine ⟨⟨?_⟩, trivial⟩; rfl)) | skip
  · have hl := lookN_c r hr hc
    rw [if_neg hc]
    generalize r.check = c at *
    obtain ⟨c1, c2, c3⟩ := c
    simp only at hl hc ⊢
    refine pureA_codeB tabOk { l := 0, f := 32 } mixed call_32 Try.func32 (by kernel_rfl) ?_
    conv => whnf
    repeat (any_goals (first | exact falseI | (refine brP_dec (fun _ => ?_) (fun _ => ?_) <;> first | (exfalso; omega) | conv => whnf) | (refine brP_ndec (fun _ => ?_) (fun _ => ?_) <;> first | (exfalso; omega) | conv => whnf) | ((first | refine callP_a hl ?_ | refine And.intro (DrawOk.mk (by kernel_rfl)) ?_ | refine okI ?_ | refine brP_true (Nat.beq_refl _) ?_ | refine brP_intro (fun _ => ?_) (fun _ => ?_) | refine bndI ?_ | intro _) <;> conv => whnf)))
    (refine ⟨⟨?_⟩, trivial⟩; rfl)
end Go.Proofs.Ytmggofcaeolaiaa
