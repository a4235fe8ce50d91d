/- Part 6 of the texts that the last one stands on. -/
import Derived.Test.YtmggofcaeolaiaaA5
set_option linter.unusedVariables false
set_option linter.unusedSimpArgs false
namespace Go.Proofs.Ytmggofcaeolaiaa
open Go.Am Go.Proofs Go
def Fig.off (f : Fig) : Bool := f.broken || decide (f.wants = -1)
theorem off_c (f : Fig) : PureA Try.prog 74 [figA f] (boolA f.off) := by
  obtain ⟨n, h, b, w⟩ := f
  unfold Fig.off
  cases b
  · refine pureA_codeB tabOk { l := 0, f := 74 } mixed call_74 Try.func74 (by kernel_rfl) ?_
    conv => whnf
    repeat (any_goals (first | exact falseI | (refine brP_dec (fun _ => ?_) (fun _ => ?_) <;> first | (exfalso; omega) | conv => whnf) | (refine brP_ndec (fun _ => ?_) (fun _ => ?_) <;> first | (exfalso; omega) | conv => whnf) | ((first | refine And.intro (DrawOk.mk (by kernel_rfl)) ?_ | refine okI ?_ | refine brP_true (Nat.beq_refl _) ?_ | refine brP_intro (fun _ => ?_) (fun _ => ?_) | refine bndI ?_ | intro _) <;> conv => whnf)))
    (refine ⟨⟨?_⟩, trivial⟩; simp [oneOf, boolA])
  · refine pureA_codeB tabOk { l := 0, f := 74 } mixed call_74 Try.func74 (by kernel_rfl) ?_
    conv => whnf
    repeat (any_goals (first | exact falseI | (refine brP_dec (fun _ => ?_) (fun _ => ?_) <;> first | (exfalso; omega) | conv => whnf) | (refine brP_ndec (fun _ => ?_) (fun _ => ?_) <;> first | (exfalso; omega) | conv => whnf) | ((first | refine And.intro (DrawOk.mk (by kernel_rfl)) ?_ | refine okI ?_ | refine brP_true (Nat.beq_refl _) ?_ | refine brP_intro (fun _ => ?_) (fun _ => ?_) | refine bndI ?_ | intro _) <;> conv => whnf)))
    (refine ⟨⟨?_⟩, trivial⟩; simp [oneOf, boolA])
theorem ioff_c (l : List Fig) (hl : l.length ≤ 1048576) : PureA Try.prog 83 [figsA l, .func (.func 74) [] []] (intA (idx Fig.off l)) := by
  refine pureA_codeB tabOk { l := 0, f := 83 } mixed call_83 Try.func83 (by kernel_rfl) ?_
  conv => whnf
  refine loopK tabOk { l := 0, f := 83 } mixed (fun i : Nat => [(8, intA i)]) (fun _ => []) (fun _ => []) (fun i => i ≤ l.length ∧ idx Fig.off l = idxFrom Fig.off i (l.drop i)) (fun i => l.length - i) 0 (by kernel_rfl)
    ⟨Nat.zero_le _, rfl⟩ ?_
  conv => whnf
  refine ⟨⟨slotsLe_cons rfl trivial, trivial, trivial⟩, ?_⟩
  intro i ⟨hi, H⟩
  conv => whnf
  refine brP_dec (fun h1 => ?_) (fun h1 => ?_)
  · simp only [List.length_map] at h1
    obtain ⟨x, hx, hd⟩ := drop_cons (l := l) (i := i) (by omega)
    have H' := idxFrom_cons hd H
    have hc := off_c x
    generalize x.off = b at *
    conv => whnf
    repeat (any_goals (first | exact falseI | (refine brP_dec (fun _ => ?_) (fun _ => ?_) <;> first | (exfalso; omega) | conv => whnf) | (refine brP_ndec (fun _ => ?_) (fun _ => ?_) <;> first | (exfalso; omega) | conv => whnf) | ((first | refine optP_map hx rfl ?_ | refine callP_a hc ?_ | refine And.intro (DrawOk.mk (by kernel_rfl)) ?_ | refine okI ?_ | refine brP_true (Nat.beq_refl _) ?_ | refine brP_intro (fun _ => ?_) (fun _ => ?_) | refine bndI ?_ | intro _) <;> conv => whnf)))
    · rename_i he
      simp only [he, if_true] at H'
      (refine ⟨⟨?_⟩, trivial⟩; simp [oneOf, intA, H'])
    · rename_i he
      simp only [he, Bool.false_eq_true, if_false] at H'
      (refine ⟨i + 1, ⟨by omega, H'⟩, by omega, ?_⟩; (conv => whnf); refine ⟨?_, ?_, ?_⟩ <;> repeat (first | exact trivial | refine slotsLe_cons rfl ?_ | refine keysLe_none ?_ | refine keysLe_cons rfl ?_))
  · conv => whnf
    simp only [List.length_map] at h1
    have : i = l.length := by omega
    subst this
    (refine ⟨⟨?_⟩, trivial⟩; simp [oneOf, intA, H, idxFrom])
theorem anyOff_c (l : List Fig) (hl : l.length ≤ 1048576) : PureA Try.prog 54 [figsA l, .func (.func 74) [] []] (boolA (l.any Fig.off)) := by
  refine pureA_codeB tabOk { l := 0, f := 54 } mixed call_54 Try.func54 (by kernel_rfl) ?_
  conv => whnf
  refine callP_a (ioff_c l hl) ?_
  conv => whnf
  (refine ⟨⟨?_⟩, trivial⟩; rw [← idx_any]; rfl)
def hasDup : List Fig → List Fig → Bool
  | _, [] => false
  | b, f :: l => if (idxF f.has b).isSome = true then true else hasDup (b ++ [f]) l
def wantBad (figs : List Fig) : List Fig → List Fig → Bool
  | _, [] => false
  | b, f :: l => if (idxF f.wants figs).isNone = true ∨ (b.any fun g => decide (g.wants = f.wants)) = true then true else wantBad figs (b ++ [f]) l
def loopsF (nx : Nat → Nat) : List Nat → Nat → List (List Nat) → List (List Nat)
  | [], _, acc => acc
  | i :: is, m, acc => loopsF nx is (follow nx 6 m i).2 (if 1 < (follow nx 6 m i).1.length then acc ++ [(follow nx 6 m i).1] else acc)
def Row.loopErr (r : Row) : Int :=
  if r.check.2.2 = 0 then if r.figs.any Fig.off = true then 8 else if hasDup [] r.figs = true then 5 else if wantBad r.figs [] r.figs = true then 9 else 0 else r.check.2.2
def Row.loops (r : Row) : List (List Nat) := loopsF r.nxt (List.range r.figs.length) 0 []
def listsN (l : List (List Nat)) : AV := .slice 1 (l.map fun x => .slice 1 (natsL x) .no) .no
def nilLists (e : Int) : AV := .tuple [nilS, intA e]
theorem loops1_c (r : Row) (hr : r.small) (hc : r.check.2.2 ≠ 0) : PureA Try.prog 34 [rowA r] (nilLists r.check.2.2) := by
  have hk := check_c r hr
  unfold triA at hk
  generalize r.check = c at *
  obtain ⟨c1, c2, c3⟩ := c
  simp only at hk hc ⊢
  refine pureA_codeB tabOk { l := 0, f := 34 } mixed call_34 Try.func34 (by kernel_rfl) ?_
  conv => whnf
  repeat (any_goals (first | exact falseI | (refine brP_dec (fun _ => ?_) (fun _ => ?_) <;> first | (exfalso; omega) | conv => whnf) | (refine brP_ndec (fun _ => ?_) (fun _ => ?_) <;> first | (exfalso; omega) | conv => whnf) | ((first | refine callP_a hk ?_ | refine And.intro (DrawOk.mk (by kernel_rfl)) ?_ | refine okI ?_ | refine brP_true (Nat.beq_refl _) ?_ | refine brP_intro (fun _ => ?_) (fun _ => ?_) | refine bndI ?_ | intro _) <;> conv => whnf)))
  (refine ⟨⟨?_⟩, trivial⟩; rfl)
theorem loops2_c (r : Row) (hr : r.small) (hc : r.check.2.2 = 0) (ho : r.figs.any Fig.off = true) : PureA Try.prog 34 [rowA r] (nilLists 8) := by
  have hk := check_c r hr
  have ha := anyOff_c r.figs hr.1
  rw [ho] at ha
  unfold triA at hk
  rw [hc] at hk
  refine pureA_codeB tabOk { l := 0, f := 34 } mixed call_34 Try.func34 (by kernel_rfl) ?_
  conv => whnf
  repeat (any_goals (first | exact falseI | (refine brP_dec (fun _ => ?_) (fun _ => ?_) <;> first | (exfalso; omega) | conv => whnf) | (refine brP_ndec (fun _ => ?_) (fun _ => ?_) <;> first | (exfalso; omega) | conv => whnf) | ((first | refine callP_a hk ?_ | refine callP_a ha ?_ | refine And.intro (DrawOk.mk (by kernel_rfl)) ?_ | refine okI ?_ | refine brP_true (Nat.beq_refl _) ?_ | refine brP_intro (fun _ => ?_) (fun _ => ?_) | refine bndI ?_ | intro _) <;> conv => whnf)))
  (refine ⟨⟨?_⟩, trivial⟩; rfl)
theorem ents_take {l : List Fig} {i : Nat} {x : Fig} (hx : l[i]? = some x) : entsFrom 0 (l.take (i + 1)) = entsFrom 0 (l.take i) ++ [.tuple [intA x.has, intA i]] := by
  have hi := (List.getElem?_eq_some_iff.1 hx).1
  rw [List.take_add_one, hx]
  simp only [Option.toList_some, entsFrom_snoc]
  rw [Nat.zero_add, List.length_take, Nat.min_eq_left (Nat.le_of_lt hi)]
theorem take_snoc {l : List Fig} {i : Nat} {x : Fig} (hx : l[i]? = some x) : l.take (i + 1) = l.take i ++ [x] := by
  rw [List.take_add_one, hx]; rfl
def entsW (l : List Fig) : List AV := l.map fun f => .tuple [intA f.wants, intA 1]
theorem entsW_new (w : Int) : ∀ (l : List Fig) (m : Nat), (l.any fun g => decide (g.wants = w)) = false → mapFind (.one (.int .i64)) (entsW l) (.int .i64 w) m = some none
  | [], m, _ => rfl
  | f :: l, m, h => by
    simp only [List.any_cons, Bool.or_eq_false_iff, decide_eq_false_iff_not] at h
    have ht : toVal (intA f.wants) = some (.int .i64 f.wants) := rfl
    have ht2 : (KK.one (.int .i64)).typed (.int .i64 f.wants) = true := rfl
    simp only [entsW, List.map_cons, mapFind, ht, ht2, if_true]
    rw [if_neg (by simp [eqV, eqC]; exact fun e => h.1 e.symm)]
    exact entsW_new w l (m + 1) h.2
theorem entsW_last (w : Int) (v : AV) : ∀ (l : List Fig) (m : Nat), (l.any fun g => decide (g.wants = w)) = false → mapFind (.one (.int .i64)) (entsW l ++ [.tuple [intA w, v]]) (.int .i64 w) m = some (some (m + l.length, v))
  | [], m, _ => by
    have ht : toVal (intA w) = some (.int .i64 w) := rfl
    have ht2 : (KK.one (.int .i64)).typed (.int .i64 w) = true := rfl
    simp only [entsW, List.map_nil, List.nil_append, mapFind, ht, ht2, if_true]
    rw [if_pos (by simp [eqV, eqC])]
    rfl
  | f :: l, m, h => by
    simp only [List.any_cons, Bool.or_eq_false_iff, decide_eq_false_iff_not] at h
    have ht : toVal (intA f.wants) = some (.int .i64 f.wants) := rfl
    have ht2 : (KK.one (.int .i64)).typed (.int .i64 f.wants) = true := rfl
    simp only [entsW, List.map_cons, List.cons_append, mapFind, ht, ht2, if_true]
    rw [if_neg (by simp [eqV, eqC]; exact fun e => h.1 e.symm)]
    have := entsW_last w v l (m + 1) h.2
    unfold entsW at this
    rw [this, List.length_cons, show m + 1 + l.length = m + (l.length + 1) by omega]
theorem entsW_dup (w : Int) (v : AV) : ∀ (l : List Fig) (m : Nat), (l.any fun g => decide (g.wants = w)) = true → ∃ j es, mapFind (.one (.int .i64)) (entsW l) (.int .i64 w) m = some (some (m + j, intA 1)) ∧ setVal (entsW l) j v = some es ∧ mapFind (.one (.int .i64)) es (.int .i64 w) m = some (some (m + j, v))
  | [], m, h => by simp at h
  | f :: l, m, h => by
    have ht : toVal (intA f.wants) = some (.int .i64 f.wants) := rfl
    have ht2 : (KK.one (.int .i64)).typed (.int .i64 f.wants) = true := rfl
    by_cases e : f.wants = w
    · refine ⟨0, .tuple [intA f.wants, v] :: entsW l, ?_, rfl, ?_⟩
      · simp only [entsW, List.map_cons, mapFind, ht, ht2, if_true]
        rw [if_pos (by simp [eqV, eqC, e])]; rfl
      · simp only [mapFind, ht, ht2, if_true]
        rw [if_pos (by simp [eqV, eqC, e])]; rfl
    · obtain ⟨j, es, h1, h2, h3⟩ := entsW_dup w v l (m + 1) (by simpa [e] using h)
      refine ⟨j + 1, .tuple [intA f.wants, intA 1] :: es, ?_, ?_, ?_⟩
      · simp only [entsW, List.map_cons, mapFind, ht, ht2, if_true]
        rw [if_neg (by simp [eqV, eqC]; exact fun h => e h.symm)]
        unfold entsW at h1
        rw [h1, show m + 1 + j = m + (j + 1) by omega]
      · unfold entsW at h2 ⊢
        simp only [List.map_cons, setVal, h2]
      · simp only [mapFind, ht, ht2, if_true]
        rw [if_neg (by simp [eqV, eqC]; exact fun h => e h.symm), h3, show m + 1 + j = m + (j + 1) by omega]
theorem loops3_c (r : Row) (hr : r.small) (hc : r.check.2.2 = 0) (ho : r.figs.any Fig.off = false) (hd : hasDup [] r.figs = true) : PureA Try.prog 34 [rowA r] (nilLists 5) := by
  have hk := check_c r hr
  have h5 := check_len hc
  have ha := anyOff_c r.figs hr.1
  rw [ho] at ha
  unfold triA at hk
  rw [hc] at hk
  refine pureA_codeB tabOk { l := 0, f := 34, mat := [75] } mixed call_34 Try.func34 (by kernel_rfl) ?_
  conv => whnf
  repeat (any_goals (first | exact falseI | (refine brP_dec (fun _ => ?_) (fun _ => ?_) <;> first | (exfalso; omega) | conv => whnf) | (refine brP_ndec (fun _ => ?_) (fun _ => ?_) <;> first | (exfalso; omega) | conv => whnf) | ((first | refine callP_a hk ?_ | refine callP_a ha ?_ | refine And.intro (DrawOk.mk (by kernel_rfl)) ?_ | refine okI ?_ | refine brP_true (Nat.beq_refl _) ?_ | refine brP_intro (fun _ => ?_) (fun _ => ?_) | refine bndI ?_ | intro _) <;> conv => whnf)))
  refine loopK tabOk { l := 0, f := 34, mat := [75] } mixed (fun i : Nat => [(37, intA i), (2, .slice 0 [] .tight)]) (fun i => [(kO, some (1, some (0, .v (.int .i64 0) :: entsFrom 0 (r.figs.take i))))]) (fun _ => []) (fun i => i ≤ r.figs.length ∧ hasDup [] r.figs = hasDup (r.figs.take i) (r.figs.drop i)) (fun i => r.figs.length - i) 0 (by kernel_rfl)
    ⟨Nat.zero_le _, rfl⟩ ?_
  conv => whnf
  refine ⟨⟨slotsLe_cons rfl (slotsLe_cons rfl trivial), keysLe_cons rfl trivial, trivial⟩, ?_⟩
  intro i ⟨hi, H⟩
  conv => whnf
  refine brP_dec (fun h1 => ?_) (fun h1 => ?_)
  · simp only [List.length_map] at h1
    obtain ⟨x, hx, hdr⟩ := drop_cons (l := r.figs) (i := i) (by omega)
    have hfind := entsFrom_find x.has (r.figs.take i) 0 0
    have hent := ents_take hx
    have htk := take_snoc hx
    rw [hdr] at H
    simp only [hasDup] at H
    cases hj : idxF x.has (r.figs.take i) with
    | some j =>
      rw [hj] at hfind H
      simp only [Option.map_some, Nat.zero_add] at hfind
      simp only [Option.isSome_some, if_true] at H
      conv => whnf
      repeat (any_goals (first | exact falseI | (refine brP_dec (fun _ => ?_) (fun _ => ?_) <;> first | (exfalso; omega) | conv => whnf) | (refine brP_ndec (fun _ => ?_) (fun _ => ?_) <;> first | (exfalso; omega) | conv => whnf) | ((first | refine optP_map hx rfl ?_ | rw [hfind] | refine And.intro (DrawOk.mk (by kernel_rfl)) ?_ | refine okI ?_ | refine brP_true (Nat.beq_refl _) ?_ | refine brP_intro (fun _ => ?_) (fun _ => ?_) | refine bndI ?_ | intro _) <;> conv => whnf)))
      (refine ⟨⟨?_⟩, trivial⟩; rfl)
    | none =>
      rw [hj] at hfind H
      simp only [Option.map_none, Option.isSome_none, Bool.false_eq_true, if_false] at hfind H
      rw [← htk] at H
      conv => whnf
      repeat (any_goals (first | exact falseI | (refine brP_dec (fun _ => ?_) (fun _ => ?_) <;> first | (exfalso; omega) | conv => whnf) | (refine brP_ndec (fun _ => ?_) (fun _ => ?_) <;> first | (exfalso; omega) | conv => whnf) | ((first | refine optP_map hx rfl ?_ | rw [hfind] | refine And.intro (DrawOk.mk (by kernel_rfl)) ?_ | refine okI ?_ | refine brP_true (Nat.beq_refl _) ?_ | refine brP_intro (fun _ => ?_) (fun _ => ?_) | refine bndI ?_ | intro _) <;> conv => whnf)))
      (refine ⟨i + 1, ⟨by omega, H⟩, (by omega), ?_⟩; (conv => whnf); refine ⟨?_, ?_, ?_⟩ <;> repeat (first | exact trivial | refine slotsLe_cons rfl ?_ | refine keysLe_none ?_ | refine keysLe_cons rfl ?_ | refine slotsLe_cons (by (rw [hent]; rfl)) ?_ | refine keysLe_cons (by (rw [hent]; rfl)) ?_))
  · simp only [List.length_map] at h1
    have : i = r.figs.length := by omega
    subst this
    rw [List.drop_length] at H
    simp only [hasDup] at H
    rw [hd] at H
    simp at H
theorem follow_lt (r : Row) (hw : ∀ (i : Nat) (f : Fig), r.figs[i]? = some f → ∃ j, idxF f.wants r.figs = some j) (h5 : r.figs.length ≤ 5) : ∀ (n m i : Nat), m < 32 → i < r.figs.length → (follow r.nxt n m i).2 < 32
  | 0, m, i, hm, _ => hm
  | n + 1, m, i, hm, hi => by
    unfold follow
    have hun := unset_or ⟨m, hm⟩ ⟨i, by omega⟩
    simp only at hun
    split
    · exact hm
    · rename_i hb
      obtain ⟨f, hf, _⟩ := drop_cons (l := r.figs) (i := i) hi
      obtain ⟨j, hj⟩ := hw i f hf
      have hn : r.nxt i = j := by simp [Row.nxt, hf, hj]
      exact follow_lt r hw h5 n _ _ (hun (Bool.eq_false_iff.2 hb)).2 (by rw [hn]; exact idxF_lt hj)
def kW : Key := ⟨0, 34, 55⟩
theorem loops4_c (r : Row) (hr : r.small) (hc : r.check.2.2 = 0) (ho : r.figs.any Fig.off = false) (hd : hasDup [] r.figs = false) (hwb : wantBad r.figs [] r.figs = true) : PureA Try.prog 34 [rowA r] (nilLists 9) := by
  have hk := check_c r hr
  have h5 := check_len hc
  have ha := anyOff_c r.figs hr.1
  rw [ho] at ha
  unfold triA at hk
  rw [hc] at hk
  refine pureA_codeB tabOk { l := 0, f := 34, mat := [75] } mixed call_34 Try.func34 (by kernel_rfl) ?_
  conv => whnf
  repeat (any_goals (first | exact falseI | (refine brP_dec (fun _ => ?_) (fun _ => ?_) <;> first | (exfalso; omega) | conv => whnf) | (refine brP_ndec (fun _ => ?_) (fun _ => ?_) <;> first | (exfalso; omega) | conv => whnf) | ((first | refine callP_a hk ?_ | refine callP_a ha ?_ | refine And.intro (DrawOk.mk (by kernel_rfl)) ?_ | refine okI ?_ | refine brP_true (Nat.beq_refl _) ?_ | refine brP_intro (fun _ => ?_) (fun _ => ?_) | refine bndI ?_ | intro _) <;> conv => whnf)))
  refine loopK tabOk { l := 0, f := 34, mat := [75] } mixed (fun i : Nat => [(37, intA i), (2, .slice 0 [] .tight)]) (fun i => [(kO, some (1, some (0, .v (.int .i64 0) :: entsFrom 0 (r.figs.take i))))]) (fun _ => []) (fun i => i ≤ r.figs.length ∧ hasDup [] r.figs = hasDup (r.figs.take i) (r.figs.drop i)) (fun i => r.figs.length - i) 0 (by kernel_rfl)
    ⟨Nat.zero_le _, rfl⟩ ?_
  conv => whnf
  refine ⟨⟨slotsLe_cons rfl (slotsLe_cons rfl trivial), keysLe_cons rfl trivial, trivial⟩, ?_⟩
  intro i ⟨hi, H⟩
  conv => whnf
  refine brP_dec (fun h1 => ?_) (fun h1 => ?_)
  · simp only [List.length_map] at h1
    obtain ⟨x, hx, hdr⟩ := drop_cons (l := r.figs) (i := i) (by omega)
    have hfind := entsFrom_find x.has (r.figs.take i) 0 0
    have hent := ents_take hx
    have htk := take_snoc hx
    rw [hdr] at H
    simp only [hasDup] at H
    cases hj : idxF x.has (r.figs.take i) with
    | some j =>
      rw [hj] at hfind H
      simp only [Option.map_some, Nat.zero_add] at hfind
      simp only [Option.isSome_some, if_true] at H
      rw [hd] at H
      simp at H
    | none =>
      rw [hj] at hfind H
      simp only [Option.map_none, Option.isSome_none, Bool.false_eq_true, if_false] at hfind H
      rw [← htk] at H
      conv => whnf
      repeat (any_goals (first | exact falseI | (refine brP_dec (fun _ => ?_) (fun _ => ?_) <;> first | (exfalso; omega) | conv => whnf) | (refine brP_ndec (fun _ => ?_) (fun _ => ?_) <;> first | (exfalso; omega) | conv => whnf) | ((first | refine optP_map hx rfl ?_ | rw [hfind] | refine And.intro (DrawOk.mk (by kernel_rfl)) ?_ | refine okI ?_ | refine brP_true (Nat.beq_refl _) ?_ | refine brP_intro (fun _ => ?_) (fun _ => ?_) | refine bndI ?_ | intro _) <;> conv => whnf)))
      (refine ⟨i + 1, ⟨by omega, H⟩, (by omega), ?_⟩; (conv => whnf); refine ⟨?_, ?_, ?_⟩ <;> repeat (first | exact trivial | refine slotsLe_cons rfl ?_ | refine keysLe_none ?_ | refine keysLe_cons rfl ?_ | refine slotsLe_cons (by (rw [hent]; rfl)) ?_ | refine keysLe_cons (by (rw [hent]; rfl)) ?_))
  · simp only [List.length_map] at h1
    have : i = r.figs.length := by omega
    subst this
    clear H
    simp only [List.take_length]
    conv => whnf
    repeat (any_goals (first | exact falseI | (refine brP_dec (fun _ => ?_) (fun _ => ?_) <;> first | (exfalso; omega) | conv => whnf) | (refine brP_ndec (fun _ => ?_) (fun _ => ?_) <;> first | (exfalso; omega) | conv => whnf) | ((first | refine And.intro (DrawOk.mk (by kernel_rfl)) ?_ | refine okI ?_ | refine brP_true (Nat.beq_refl _) ?_ | refine brP_intro (fun _ => ?_) (fun _ => ?_) | refine bndI ?_ | intro _) <;> conv => whnf)))
    refine loopK tabOk { l := 0, f := 34, mat := [75] } mixed (fun i : Nat => [(59, intA i), (2, .slice 0 [] .tight)]) (fun i => [(kW, some (1, some (0, .v (.int .i64 0) :: entsW (r.figs.take i))))]) (fun _ => []) (fun i => i ≤ r.figs.length ∧ wantBad r.figs [] r.figs = wantBad r.figs (r.figs.take i) (r.figs.drop i)) (fun i => r.figs.length - i) 0 (by kernel_rfl)
      ⟨Nat.zero_le _, rfl⟩ ?_
    conv => whnf
    refine ⟨⟨slotsLe_cons rfl (slotsLe_cons rfl trivial), keysLe_cons rfl trivial, trivial⟩, ?_⟩
    intro i ⟨hi, H⟩
    conv => whnf
    refine brP_dec (fun h1 => ?_) (fun h1 => ?_)
    · simp only [List.length_map] at h1
      obtain ⟨x, hx, hdr⟩ := drop_cons (l := r.figs) (i := i) (by omega)
      have hfind := entsFrom_find x.wants r.figs 0 0
      have htk := take_snoc hx
      have hwn := entsW_new x.wants (r.figs.take i) 0
      have hwl := entsW_last x.wants (.v (.int .i64 (0 + 1))) (r.figs.take i) 0
      have hwd := entsW_dup x.wants (.v (.int .i64 (1 + 1))) (r.figs.take i) 0
      have hwt : entsW (r.figs.take (i + 1)) = entsW (r.figs.take i) ++ [.tuple [intA x.wants, intA 1]] := by rw [htk]; simp [entsW]
      rw [hdr] at H
      simp only [wantBad] at H
      by_cases hok : (idxF x.wants r.figs).isNone = true ∨ ((r.figs.take i).any fun g => decide (g.wants = x.wants)) = true
      · cases hj : idxF x.wants r.figs with
        | none =>
          rw [hj] at hfind
          simp only [Option.map_none] at hfind
          conv => whnf
          repeat (any_goals (first | exact falseI | (refine brP_dec (fun _ => ?_) (fun _ => ?_) <;> first | (exfalso; omega) | conv => whnf) | (refine brP_ndec (fun _ => ?_) (fun _ => ?_) <;> first | (exfalso; omega) | conv => whnf) | ((first | refine optP_map hx rfl ?_ | rw [hfind] | refine And.intro (DrawOk.mk (by kernel_rfl)) ?_ | refine okI ?_ | refine brP_true (Nat.beq_refl _) ?_ | refine brP_intro (fun _ => ?_) (fun _ => ?_) | refine bndI ?_ | intro _) <;> conv => whnf)))
          (refine ⟨⟨?_⟩, trivial⟩; rfl)
        | some j =>
          have han : ((r.figs.take i).any fun g => decide (g.wants = x.wants)) = true := by
            rcases hok with h | h
            · rw [hj] at h; simp at h
            · exact h
          obtain ⟨j', es, e1, e2, e3⟩ := hwd han
          rw [hj] at hfind
          simp only [Option.map_some, Nat.zero_add] at hfind e1 e3
          conv => whnf
          repeat (any_goals (first | exact falseI | (refine brP_dec (fun _ => ?_) (fun _ => ?_) <;> first | (exfalso; omega) | conv => whnf) | (refine brP_ndec (fun _ => ?_) (fun _ => ?_) <;> first | (exfalso; omega) | conv => whnf) | ((first | refine optP_map hx rfl ?_ | rw [hfind] | rw [e1] | refine optP_intro e2 ?_ | rw [e3] | refine And.intro (DrawOk.mk (by kernel_rfl)) ?_ | refine okI ?_ | refine brP_true (Nat.beq_refl _) ?_ | refine brP_intro (fun _ => ?_) (fun _ => ?_) | refine bndI ?_ | intro _) <;> conv => whnf)))
          (refine ⟨⟨?_⟩, trivial⟩; rfl)
      · rw [if_neg hok] at H
        have hj : ∃ j, idxF x.wants r.figs = some j := by
          cases h : idxF x.wants r.figs with
          | none => exact absurd (.inl (by rw [h]; rfl)) hok
          | some j => exact ⟨j, rfl⟩
        obtain ⟨j, hj⟩ := hj
        have han : ((r.figs.take i).any fun g => decide (g.wants = x.wants)) = false := Bool.eq_false_iff.2 fun h => hok (.inr h)
        have hwn := hwn han
        have hwl : mapFind (.one (.int .i64)) (entsW (r.figs.take i) ++ [.tuple [.v (.int .i64 x.wants), .v (.int .i64 (0 + 1))]]) (.int .i64 x.wants) 0 = some (some (0 + (r.figs.take i).length, .v (.int .i64 (0 + 1)))) := hwl han
        rw [hj] at hfind
        simp only [Option.map_some, Nat.zero_add] at hfind
        rw [← htk] at H
        conv => whnf
        repeat (any_goals (first | exact falseI | (refine brP_dec (fun _ => ?_) (fun _ => ?_) <;> first | (exfalso; omega) | conv => whnf) | (refine brP_ndec (fun _ => ?_) (fun _ => ?_) <;> first | (exfalso; omega) | conv => whnf) | ((first | refine optP_map hx rfl ?_ | rw [hfind] | rw [hwn] | rw [hwl] | refine And.intro (DrawOk.mk (by kernel_rfl)) ?_ | refine okI ?_ | refine brP_true (Nat.beq_refl _) ?_ | refine brP_intro (fun _ => ?_) (fun _ => ?_) | refine bndI ?_ | intro _) <;> conv => whnf)))
        (refine ⟨i + 1, ⟨by omega, H⟩, (by omega), ?_⟩; (conv => whnf); refine ⟨?_, ?_, ?_⟩ <;> repeat (first | exact trivial | refine slotsLe_cons rfl ?_ | refine keysLe_none ?_ | refine keysLe_cons rfl ?_ | refine slotsLe_cons (by (rw [hwt]; rfl)) ?_ | refine keysLe_cons (by (rw [hwt]; rfl)) ?_))
    · simp only [List.length_map] at h1
      have : i = r.figs.length := by omega
      subst this
      rw [List.drop_length] at H
      simp only [wantBad] at H
      rw [hwb] at H
      simp at H
theorem loops5_c (r : Row) (hr : r.small) (hc : r.check.2.2 = 0) (ho : r.figs.any Fig.off = false) (hd : hasDup [] r.figs = false) (hwb : wantBad r.figs [] r.figs = false)
    (hw : ∀ (i : Nat) (f : Fig), r.figs[i]? = some f → ∃ j, idxF f.wants r.figs = some j) : PureA Try.prog 34 [rowA r] (.tuple [listsN r.loops, intA 0]) := by
  have hk := check_c r hr
  have h5 := check_len hc
  have ha := anyOff_c r.figs hr.1
  rw [ho] at ha
  unfold triA at hk
  rw [hc] at hk
  obtain ⟨R, hR⟩ : ∃ R, R = loopsF r.nxt (List.range' 0 r.figs.length) 0 [] := ⟨_, rfl⟩
  have hRl : r.loops = R := by rw [hR]; unfold Row.loops; rw [List.range_eq_range']
  rw [hRl]
  refine pureA_codeB tabOk { l := 0, f := 34, mat := [75] } mixed call_34 Try.func34 (by kernel_rfl) ?_
  conv => whnf
  repeat (any_goals (first | exact falseI | (refine brP_dec (fun _ => ?_) (fun _ => ?_) <;> first | (exfalso; omega) | conv => whnf) | (refine brP_ndec (fun _ => ?_) (fun _ => ?_) <;> first | (exfalso; omega) | conv => whnf) | ((first | refine callP_a hk ?_ | refine callP_a ha ?_ | refine And.intro (DrawOk.mk (by kernel_rfl)) ?_ | refine okI ?_ | refine brP_true (Nat.beq_refl _) ?_ | refine brP_intro (fun _ => ?_) (fun _ => ?_) | refine bndI ?_ | intro _) <;> conv => whnf)))
  refine loopK tabOk { l := 0, f := 34, mat := [75] } mixed (fun i : Nat => [(37, intA i), (2, .slice 0 [] .tight)]) (fun i => [(kO, some (1, some (0, .v (.int .i64 0) :: entsFrom 0 (r.figs.take i))))]) (fun _ => []) (fun i => i ≤ r.figs.length ∧ hasDup [] r.figs = hasDup (r.figs.take i) (r.figs.drop i)) (fun i => r.figs.length - i) 0 (by kernel_rfl)
    ⟨Nat.zero_le _, rfl⟩ ?_
  conv => whnf
  refine ⟨⟨slotsLe_cons rfl (slotsLe_cons rfl trivial), keysLe_cons rfl trivial, trivial⟩, ?_⟩
  intro i ⟨hi, H⟩
  conv => whnf
  refine brP_dec (fun h1 => ?_) (fun h1 => ?_)
  · simp only [List.length_map] at h1
    obtain ⟨x, hx, hdr⟩ := drop_cons (l := r.figs) (i := i) (by omega)
    have hfind := entsFrom_find x.has (r.figs.take i) 0 0
    have hent := ents_take hx
    have htk := take_snoc hx
    rw [hdr] at H
    simp only [hasDup] at H
    cases hj : idxF x.has (r.figs.take i) with
    | some j =>
      rw [hj] at hfind H
      simp only [Option.map_some, Nat.zero_add] at hfind
      simp only [Option.isSome_some, if_true] at H
      rw [hd] at H
      simp at H
    | none =>
      rw [hj] at hfind H
      simp only [Option.map_none, Option.isSome_none, Bool.false_eq_true, if_false] at hfind H
      rw [← htk] at H
      conv => whnf
      repeat (any_goals (first | exact falseI | (refine brP_dec (fun _ => ?_) (fun _ => ?_) <;> first | (exfalso; omega) | conv => whnf) | (refine brP_ndec (fun _ => ?_) (fun _ => ?_) <;> first | (exfalso; omega) | conv => whnf) | ((first | refine optP_map hx rfl ?_ | rw [hfind] | refine And.intro (DrawOk.mk (by kernel_rfl)) ?_ | refine okI ?_ | refine brP_true (Nat.beq_refl _) ?_ | refine brP_intro (fun _ => ?_) (fun _ => ?_) | refine bndI ?_ | intro _) <;> conv => whnf)))
      (refine ⟨i + 1, ⟨by omega, H⟩, (by omega), ?_⟩; (conv => whnf); refine ⟨?_, ?_, ?_⟩ <;> repeat (first | exact trivial | refine slotsLe_cons rfl ?_ | refine keysLe_none ?_ | refine keysLe_cons rfl ?_ | refine slotsLe_cons (by (rw [hent]; rfl)) ?_ | refine keysLe_cons (by (rw [hent]; rfl)) ?_))
  · simp only [List.length_map] at h1
    have : i = r.figs.length := by omega
    subst this
    clear H
    simp only [List.take_length]
    conv => whnf
    repeat (any_goals (first | exact falseI | (refine brP_dec (fun _ => ?_) (fun _ => ?_) <;> first | (exfalso; omega) | conv => whnf) | (refine brP_ndec (fun _ => ?_) (fun _ => ?_) <;> first | (exfalso; omega) | conv => whnf) | ((first | refine And.intro (DrawOk.mk (by kernel_rfl)) ?_ | refine okI ?_ | refine brP_true (Nat.beq_refl _) ?_ | refine brP_intro (fun _ => ?_) (fun _ => ?_) | refine bndI ?_ | intro _) <;> conv => whnf)))
    refine loopK tabOk { l := 0, f := 34, mat := [75] } mixed (fun i : Nat => [(59, intA i), (2, .slice 0 [] .tight)]) (fun i => [(kW, some (1, some (0, .v (.int .i64 0) :: entsW (r.figs.take i))))]) (fun _ => []) (fun i => i ≤ r.figs.length ∧ wantBad r.figs [] r.figs = wantBad r.figs (r.figs.take i) (r.figs.drop i)) (fun i => r.figs.length - i) 0 (by kernel_rfl)
      ⟨Nat.zero_le _, rfl⟩ ?_
    conv => whnf
    refine ⟨⟨slotsLe_cons rfl (slotsLe_cons rfl trivial), keysLe_cons rfl trivial, trivial⟩, ?_⟩
    intro i ⟨hi, H⟩
    conv => whnf
    refine brP_dec (fun h1 => ?_) (fun h1 => ?_)
    · simp only [List.length_map] at h1
      obtain ⟨x, hx, hdr⟩ := drop_cons (l := r.figs) (i := i) (by omega)
      have hfind := entsFrom_find x.wants r.figs 0 0
      have htk := take_snoc hx
      have hwn := entsW_new x.wants (r.figs.take i) 0
      have hwl := entsW_last x.wants (.v (.int .i64 (0 + 1))) (r.figs.take i) 0
      have hwd := entsW_dup x.wants (.v (.int .i64 (1 + 1))) (r.figs.take i) 0
      have hwt : entsW (r.figs.take (i + 1)) = entsW (r.figs.take i) ++ [.tuple [intA x.wants, intA 1]] := by rw [htk]; simp [entsW]
      rw [hdr] at H
      simp only [wantBad] at H
      have hok : ¬ ((idxF x.wants r.figs).isNone = true ∨ ((r.figs.take i).any fun g => decide (g.wants = x.wants)) = true) := by
        intro h
        rw [if_pos h, hwb] at H
        simp at H
      rw [if_neg hok] at H
      have hj : ∃ j, idxF x.wants r.figs = some j := by
        cases h : idxF x.wants r.figs with
        | none => exact absurd (.inl (by rw [h]; rfl)) hok
        | some j => exact ⟨j, rfl⟩
      obtain ⟨j, hj⟩ := hj
      have han : ((r.figs.take i).any fun g => decide (g.wants = x.wants)) = false := Bool.eq_false_iff.2 fun h => hok (.inr h)
      have hwn := hwn han
      have hwl : mapFind (.one (.int .i64)) (entsW (r.figs.take i) ++ [.tuple [.v (.int .i64 x.wants), .v (.int .i64 (0 + 1))]]) (.int .i64 x.wants) 0 = some (some (0 + (r.figs.take i).length, .v (.int .i64 (0 + 1)))) := hwl han
      rw [hj] at hfind
      simp only [Option.map_some, Nat.zero_add] at hfind
      rw [← htk] at H
      conv => whnf
      repeat (any_goals (first | exact falseI | (refine brP_dec (fun _ => ?_) (fun _ => ?_) <;> first | (exfalso; omega) | conv => whnf) | (refine brP_ndec (fun _ => ?_) (fun _ => ?_) <;> first | (exfalso; omega) | conv => whnf) | ((first | refine optP_map hx rfl ?_ | rw [hfind] | rw [hwn] | rw [hwl] | refine And.intro (DrawOk.mk (by kernel_rfl)) ?_ | refine okI ?_ | refine brP_true (Nat.beq_refl _) ?_ | refine brP_intro (fun _ => ?_) (fun _ => ?_) | refine bndI ?_ | intro _) <;> conv => whnf)))
      (refine ⟨i + 1, ⟨by omega, H⟩, (by omega), ?_⟩; (conv => whnf); refine ⟨?_, ?_, ?_⟩ <;> repeat (first | exact trivial | refine slotsLe_cons rfl ?_ | refine keysLe_none ?_ | refine keysLe_cons rfl ?_ | refine slotsLe_cons (by (rw [hwt]; rfl)) ?_ | refine keysLe_cons (by (rw [hwt]; rfl)) ?_))
    · simp only [List.length_map] at h1
      have : i = r.figs.length := by omega
      subst this
      clear H
      conv => whnf
      repeat (any_goals (first | exact falseI | (refine brP_dec (fun _ => ?_) (fun _ => ?_) <;> first | (exfalso; omega) | conv => whnf) | (refine brP_ndec (fun _ => ?_) (fun _ => ?_) <;> first | (exfalso; omega) | conv => whnf) | ((first | refine And.intro (DrawOk.mk (by kernel_rfl)) ?_ | refine okI ?_ | refine brP_true (Nat.beq_refl _) ?_ | refine brP_intro (fun _ => ?_) (fun _ => ?_) | refine bndI ?_ | intro _) <;> conv => whnf)))
      refine loopTok 2 1 ⟨0, 34, 99⟩ ?_
      conv => whnf
      refine loopK tabOk { l := 0, f := 34, mat := [75] } mixed (fun a : Nat × Nat × List (List Nat) => [(87, intA a.1), (2, .slice 1 (a.2.2.map fun x => .slice 1 (natsL x) .no) (.own ⟨0, 34, 99⟩ 1))]) (fun a => [(k17, some (1, some (1, [intA a.2.1])))]) (fun a => [(⟨0, 34, 99⟩, some (1, a.2.2.length))]) (fun a => a.1 ≤ r.figs.length ∧ a.2.1 < 32 ∧ a.2.2.length ≤ a.1 ∧ R = loopsF r.nxt (List.range' a.1 (r.figs.length - a.1)) a.2.1 a.2.2) (fun a => r.figs.length - a.1) (0, 0, []) (by kernel_rfl)
        ⟨Nat.zero_le _, by decide, Nat.le_refl _, hR⟩ ?_
      conv => whnf
      refine ⟨⟨slotsLe_cons rfl (slotsLe_cons rfl trivial), keysLe_cons rfl trivial, keysLe_cons rfl trivial⟩, ?_⟩
      intro ⟨i, m, acc⟩ ⟨hi, hm, hacc, H⟩
      simp only at hi hm hacc H
      conv => whnf
      refine brP_dec (fun h1 => ?_) (fun h1 => ?_)
      · simp only [List.length_map] at h1
        have hu : unset m < 6 := Nat.lt_of_le_of_lt List.countP_le_length (by decide)
        have hF := follow_c r h5 hw 6 m i (by decide) hu hm (by omega)
        have hfl := follow_len r.nxt 6 m i
        rw [show r.figs.length - i = (r.figs.length - (i + 1)) + 1 by omega, List.range'_succ] at H
        simp only [loopsF] at H
        have hm2 : (follow r.nxt 6 m i).2 < 32 := follow_lt r hw h5 6 m i hm (by omega)
        generalize follow r.nxt 6 m i = F at *
        obtain ⟨F1, F2⟩ := F
        simp only at hF hfl H hm2
        cases F1 with
        | nil =>
          simp only [List.length_nil, show ¬ 1 < 0 by omega, if_false] at H
          conv => whnf
          repeat (any_goals (first | exact falseI | (refine brP_dec (fun _ => ?_) (fun _ => ?_) <;> first | (exfalso; omega) | conv => whnf) | (refine brP_ndec (fun _ => ?_) (fun _ => ?_) <;> first | (exfalso; omega) | conv => whnf) | ((first | refine And.intro (DrawOk.mk (by kernel_rfl)) ?_ | refine okI ?_ | refine brP_true (Nat.beq_refl _) ?_ | refine brP_intro (fun _ => ?_) (fun _ => ?_) | refine bndI ?_ | intro _) <;> conv => whnf)))
          refine ⟨[k17, k18, k7, kO, k1], ?_⟩
          conv => whnf
          refine ⟨_, _, hF, ?_⟩
          conv => whnf
          repeat (any_goals (first | exact falseI | (refine brP_dec (fun _ => ?_) (fun _ => ?_) <;> first | (exfalso; omega) | conv => whnf) | (refine brP_ndec (fun _ => ?_) (fun _ => ?_) <;> first | (exfalso; omega) | conv => whnf) | ((first | refine And.intro (DrawOk.mk (by kernel_rfl)) ?_ | refine okI ?_ | refine brP_true (Nat.beq_refl _) ?_ | refine brP_intro (fun _ => ?_) (fun _ => ?_) | refine bndI ?_ | intro _) <;> conv => whnf)))
          (refine ⟨(i + 1, F2, acc), ⟨by simp only; omega, hm2, by simp only; omega, H⟩, (by simp only; omega), ?_⟩; (conv => whnf); refine ⟨?_, ?_, ?_⟩ <;> repeat (first | exact trivial | refine slotsLe_cons rfl ?_ | refine keysLe_none ?_ | refine keysLe_cons rfl ?_ | refine slotsLe_cons (by rfl) ?_ | refine keysLe_cons (by rfl) ?_))
        | cons x F1 =>
          have hnl : ((natsL (x :: F1)).length : Int) = F1.length + 1 := by simp [natsL]
          by_cases hlen : 1 < (x :: F1).length
          · rw [if_pos hlen] at H
            conv => whnf
            repeat (any_goals (first | exact falseI | (refine brP_dec (fun _ => ?_) (fun _ => ?_) <;> first | (exfalso; omega) | conv => whnf) | (refine brP_ndec (fun _ => ?_) (fun _ => ?_) <;> first | (exfalso; omega) | conv => whnf) | ((first | refine And.intro (DrawOk.mk (by kernel_rfl)) ?_ | refine okI ?_ | refine brP_true (Nat.beq_refl _) ?_ | refine brP_intro (fun _ => ?_) (fun _ => ?_) | refine bndI ?_ | intro _) <;> conv => whnf)))
            refine ⟨[k17, k18, k7, kO, k1], ?_⟩
            conv => whnf
            refine ⟨_, _, hF, ?_⟩
            conv => whnf
            repeat (any_goals (first | exact falseI | (refine brP_dec (fun _ => ?_) (fun _ => ?_) <;> first | (exfalso; omega) | conv => whnf) | (refine brP_ndec (fun _ => ?_) (fun _ => ?_) <;> first | (exfalso; omega) | conv => whnf) | ((first | refine And.intro (DrawOk.mk (by kernel_rfl)) ?_ | refine okI ?_ | refine brP_true (Nat.beq_refl _) ?_ | refine brP_intro (fun _ => ?_) (fun _ => ?_) | refine bndI ?_ | intro _) <;> conv => whnf)))
            · (refine ⟨(i + 1, F2, acc ++ [x :: F1]), ⟨by simp only; omega, hm2, by simp; omega, H⟩, (by simp only; omega), ?_⟩; (conv => whnf); refine ⟨?_, ?_, ?_⟩ <;> repeat (first | exact trivial | refine slotsLe_cons rfl ?_ | refine keysLe_none ?_ | refine keysLe_cons rfl ?_ | refine slotsLe_cons (by first | rfl | (simp only [List.map_append]; rfl) | ((conv => lhs; whnf); simp; done) | ((conv => lhs; whnf); simp; omega)) ?_ | refine keysLe_cons (by first | rfl | (simp only [List.map_append]; rfl) | ((conv => lhs; whnf); simp; done) | ((conv => lhs; whnf); simp; omega)) ?_))
            · rename_i h
              exfalso
              rw [hnl] at h
              simp only [List.length_cons] at hlen
              omega
          · rw [if_neg hlen] at H
            conv => whnf
            repeat (any_goals (first | exact falseI | (refine brP_dec (fun _ => ?_) (fun _ => ?_) <;> first | (exfalso; omega) | conv => whnf) | (refine brP_ndec (fun _ => ?_) (fun _ => ?_) <;> first | (exfalso; omega) | conv => whnf) | ((first | refine And.intro (DrawOk.mk (by kernel_rfl)) ?_ | refine okI ?_ | refine brP_true (Nat.beq_refl _) ?_ | refine brP_intro (fun _ => ?_) (fun _ => ?_) | refine bndI ?_ | intro _) <;> conv => whnf)))
            refine ⟨[k17, k18, k7, kO, k1], ?_⟩
            conv => whnf
            refine ⟨_, _, hF, ?_⟩
            conv => whnf
            repeat (any_goals (first | exact falseI | (refine brP_dec (fun _ => ?_) (fun _ => ?_) <;> first | (exfalso; omega) | conv => whnf) | (refine brP_ndec (fun _ => ?_) (fun _ => ?_) <;> first | (exfalso; omega) | conv => whnf) | ((first | refine And.intro (DrawOk.mk (by kernel_rfl)) ?_ | refine okI ?_ | refine brP_true (Nat.beq_refl _) ?_ | refine brP_intro (fun _ => ?_) (fun _ => ?_) | refine bndI ?_ | intro _) <;> conv => whnf)))
            · rename_i h _
              exfalso
              rw [hnl] at h
              simp only [List.length_cons] at hlen
              omega
            · (refine ⟨(i + 1, F2, acc), ⟨by simp only; omega, hm2, by simp only; omega, H⟩, (by simp only; omega), ?_⟩; (conv => whnf); refine ⟨?_, ?_, ?_⟩ <;> repeat (first | exact trivial | refine slotsLe_cons rfl ?_ | refine keysLe_none ?_ | refine keysLe_cons rfl ?_ | refine slotsLe_cons (by rfl) ?_ | refine keysLe_cons (by rfl) ?_))
      · have : i = r.figs.length := by simp only [List.length_map] at h1; omega
        subst this
        simp only [Nat.sub_self, List.range'_zero, loopsF] at H
        conv => whnf
        repeat (any_goals (first | exact falseI | (refine brP_dec (fun _ => ?_) (fun _ => ?_) <;> first | (exfalso; omega) | conv => whnf) | (refine brP_ndec (fun _ => ?_) (fun _ => ?_) <;> first | (exfalso; omega) | conv => whnf) | ((first | refine And.intro (DrawOk.mk (by kernel_rfl)) ?_ | refine okI ?_ | refine brP_true (Nat.beq_refl _) ?_ | refine brP_intro (fun _ => ?_) (fun _ => ?_) | refine bndI ?_ | intro _) <;> conv => whnf)))
        (refine ⟨⟨?_⟩, trivial⟩; rw [H]; rfl)
theorem wantBad_all {figs : List Fig} : ∀ {b l : List Fig}, wantBad figs b l = false → ∀ (i : Nat) (f : Fig), l[i]? = some f → ∃ j, idxF f.wants figs = some j
  | b, [], _, i, f, h => by simp at h
  | b, x :: l, hw, i, f, h => by
    simp only [wantBad] at hw
    split at hw
    · simp at hw
    · rename_i hn
      cases i with
      | zero =>
        simp at h; subst h
        cases hj : idxF x.wants figs with
        | none => exact absurd (.inl (by rw [hj]; rfl)) hn
        | some j => exact ⟨j, rfl⟩
      | succ i => exact wantBad_all hw i f (by simpa using h)
def loopsA (r : Row) : AV := .tuple [listsN (if r.loopErr = 0 then r.loops else []), intA r.loopErr]
theorem Loops_c (r : Row) (hr : r.small) : PureA Try.prog 34 [rowA r] (loopsA r) := by
  have nil : ∀ e, Wk (nilLists e) (.tuple [listsN [], intA e]) := fun e => Wk.tuple (WkL.cons (Wk.nil 1) (WkL.refl _))
  unfold loopsA Row.loopErr
  by_cases hc : r.check.2.2 = 0
  · rw [if_pos hc]
    by_cases ho : r.figs.any Fig.off = true
    · rw [if_pos ho, if_neg (by decide)]; exact (loops2_c r hr hc ho).wk (nil _)
    · rw [if_neg ho]
      have ho := Bool.eq_false_iff.2 ho
      by_cases hd : hasDup [] r.figs = true
      · rw [if_pos hd, if_neg (by decide)]; exact (loops3_c r hr hc ho hd).wk (nil _)
      · rw [if_neg hd]
        have hd := Bool.eq_false_iff.2 hd
        by_cases hw : wantBad r.figs [] r.figs = true
        · rw [if_pos hw, if_neg (by decide)]; exact (loops4_c r hr hc ho hd hw).wk (nil _)
        · rw [if_neg hw, if_pos rfl]
          have hw := Bool.eq_false_iff.2 hw
          exact loops5_c r hr hc ho hd hw (wantBad_all hw)
  · rw [if_neg hc, if_neg hc]; exact (loops1_c r hr hc).wk (nil _)
end Go.Proofs.Ytmggofcaeolaiaa
namespace Go.Proofs.Ytmggofcaeolaiaa
open Go.Am Go.Proofs Go
def pairs : List Int → List Stp
  | a :: b :: l => ⟨a, b⟩ :: pairs l
  | _ => []
theorem steps38_c (l : List Int) (hl : l.length ≤ 1048576) : PureA Try.prog 38 [intsA l] (stpsA (pairs l)) := by
  obtain ⟨R, hR⟩ : ∃ R, R = pairs l := ⟨_, rfl⟩
  rw [← hR]
  refine pureA_codeB tabOk { l := 0, f := 38 } mixed call_38 Try.func38 (by kernel_rfl) ?_
  conv => whnf
  refine loopTok 3 2 ⟨0, 38, 24⟩ ?_
  conv => whnf
  refine loopK tabOk { l := 0, f := 38 } mixed (fun a : Nat × List Stp => [(4, intA a.1), (3, .slice 2 (a.2.map stpA) (.own ⟨0, 38, 24⟩ 1))]) (fun _ => []) (fun a => [(⟨0, 38, 24⟩, some (1, a.2.length))]) (fun a => a.1 ≤ l.length ∧ a.2.length ≤ a.1 ∧ R = a.2 ++ pairs (l.drop a.1)) (fun a => l.length - a.1) (0, []) (by kernel_rfl)
    ⟨Nat.zero_le _, Nat.le_refl _, hR⟩ ?_
  conv => whnf
  refine ⟨⟨slotsLe_cons rfl (slotsLe_cons rfl trivial), trivial, keysLe_cons rfl trivial⟩, ?_⟩
  intro ⟨i, acc⟩ ⟨hi, hal, H⟩
  simp only at hi hal H
  conv => whnf
  refine And.intro (by simp [inI]; omega) ?_
  conv => whnf
  refine brP_dec (fun h1 => ?_) (fun h1 => ?_)
  · simp only [List.length_map] at h1
    obtain ⟨x, hx, hd⟩ := drop_cons (l := l) (i := i) (by omega)
    obtain ⟨y, hy, hd2⟩ := drop_cons (l := l) (i := i + 1) (by omega)
    rw [hd, hd2] at H
    simp only [pairs] at H
    conv => whnf
    repeat (any_goals (first | exact falseI | (refine brP_dec (fun _ => ?_) (fun _ => ?_) <;> first | (exfalso; omega) | conv => whnf) | (refine brP_ndec (fun _ => ?_) (fun _ => ?_) <;> first | (exfalso; omega) | conv => whnf) | ((first | refine optP_map hx rfl ?_ | refine optP_map (i := i + 1) hy (by simp) ?_ | refine And.intro (DrawOk.mk (by kernel_rfl)) ?_ | refine okI ?_ | refine brP_true (Nat.beq_refl _) ?_ | refine brP_intro (fun _ => ?_) (fun _ => ?_) | refine bndI ?_ | intro _) <;> conv => whnf)))
    (refine ⟨(i + 2, acc ++ [(⟨x, y⟩ : Stp)]), ⟨by simp only; omega, by simp; omega, by simpa using H⟩, (by simp only; omega), ?_⟩; (conv => whnf); refine ⟨?_, ?_, ?_⟩ <;> repeat (first | exact trivial | refine slotsLe_cons rfl ?_ | refine keysLe_none ?_ | refine keysLe_cons rfl ?_ | refine slotsLe_cons (by first | rfl | (simp only [List.map_append]; rfl) | ((conv => lhs; whnf); simp; done) | ((conv => lhs; whnf); simp; omega)) ?_ | refine keysLe_cons (by first | rfl | (simp only [List.map_append]; rfl) | ((conv => lhs; whnf); simp; done) | ((conv => lhs; whnf); simp; omega)) ?_))
  · conv => whnf
    simp only [List.length_map] at h1
    have : pairs (l.drop i) = [] := by
      have h2 : (l.drop i).length ≤ 1 := by rw [List.length_drop]; omega
      match l.drop i, h2 with
      | [], _ => rfl
      | [_], _ => rfl
    rw [this, List.append_nil] at H
    subst H
    (refine ⟨⟨?_⟩, trivial⟩; rfl)
def figs4 (a b c d w x y z : Int) : List Fig := [⟨⟨#[97]⟩, a, false, w⟩, ⟨⟨#[98]⟩, b, false, x⟩, ⟨⟨#[99]⟩, c, false, y⟩, ⟨⟨#[100]⟩, d, false, z⟩]
theorem figs78_c (a b c d w x y z : Int) : PureA Try.prog 78 [intsA [a, b, c, d], intsA [w, x, y, z]] (figsA (figs4 a b c d w x y z)) := by
  refine pureA_codeB tabOk { l := 0, f := 78 } mixed call_78 Try.func78 (by kernel_rfl) ?_
  conv => whnf
  refine loopTok 5 4 ⟨0, 78, 28⟩ ?_
  conv => whnf
  refine loopK tabOk { l := 0, f := 78 } mixed (fun i : Nat => [(6, intA i), (5, .slice 4 (((figs4 a b c d w x y z).take i).map figA) (.own ⟨0, 78, 28⟩ 1))]) (fun _ => []) (fun i => [(⟨0, 78, 28⟩, some (1, ((figs4 a b c d w x y z).take i).length))]) (fun i => i ≤ 4) (fun i => 4 - i) 0 (by kernel_rfl)
    (Nat.zero_le _) ?_
  conv => whnf
  refine ⟨⟨slotsLe_cons rfl (slotsLe_cons rfl trivial), trivial, keysLe_cons rfl trivial⟩, ?_⟩
  intro i hi
  rcases (by omega : i = 0 ∨ i = 1 ∨ i = 2 ∨ i = 3 ∨ i = 4) with rfl | rfl | rfl | rfl | rfl
  · conv => whnf
    repeat (any_goals (first | exact falseI | (refine brP_dec (fun _ => ?_) (fun _ => ?_) <;> first | (exfalso; omega) | conv => whnf) | (refine brP_ndec (fun _ => ?_) (fun _ => ?_) <;> first | (exfalso; omega) | conv => whnf) | ((first | refine And.intro (DrawOk.mk (by kernel_rfl)) ?_ | refine okI ?_ | refine brP_true (Nat.beq_refl _) ?_ | refine brP_intro (fun _ => ?_) (fun _ => ?_) | refine bndI ?_ | intro _) <;> conv => whnf)))
    (refine ⟨1, (by omega), (by omega), ?_⟩; (conv => whnf); refine ⟨?_, ?_, ?_⟩ <;> repeat (first | exact trivial | refine slotsLe_cons rfl ?_ | refine keysLe_none ?_ | refine keysLe_cons rfl ?_))
  · conv => whnf
    repeat (any_goals (first | exact falseI | (refine brP_dec (fun _ => ?_) (fun _ => ?_) <;> first | (exfalso; omega) | conv => whnf) | (refine brP_ndec (fun _ => ?_) (fun _ => ?_) <;> first | (exfalso; omega) | conv => whnf) | ((first | refine And.intro (DrawOk.mk (by kernel_rfl)) ?_ | refine okI ?_ | refine brP_true (Nat.beq_refl _) ?_ | refine brP_intro (fun _ => ?_) (fun _ => ?_) | refine bndI ?_ | intro _) <;> conv => whnf)))
    (refine ⟨2, (by omega), (by omega), ?_⟩; (conv => whnf); refine ⟨?_, ?_, ?_⟩ <;> repeat (first | exact trivial | refine slotsLe_cons rfl ?_ | refine keysLe_none ?_ | refine keysLe_cons rfl ?_))
  · conv => whnf
    repeat (any_goals (first | exact falseI | (refine brP_dec (fun _ => ?_) (fun _ => ?_) <;> first | (exfalso; omega) | conv => whnf) | (refine brP_ndec (fun _ => ?_) (fun _ => ?_) <;> first | (exfalso; omega) | conv => whnf) | ((first | refine And.intro (DrawOk.mk (by kernel_rfl)) ?_ | refine okI ?_ | refine brP_true (Nat.beq_refl _) ?_ | refine brP_intro (fun _ => ?_) (fun _ => ?_) | refine bndI ?_ | intro _) <;> conv => whnf)))
    (refine ⟨3, (by omega), (by omega), ?_⟩; (conv => whnf); refine ⟨?_, ?_, ?_⟩ <;> repeat (first | exact trivial | refine slotsLe_cons rfl ?_ | refine keysLe_none ?_ | refine keysLe_cons rfl ?_))
  · conv => whnf
    repeat (any_goals (first | exact falseI | (refine brP_dec (fun _ => ?_) (fun _ => ?_) <;> first | (exfalso; omega) | conv => whnf) | (refine brP_ndec (fun _ => ?_) (fun _ => ?_) <;> first | (exfalso; omega) | conv => whnf) | ((first | refine And.intro (DrawOk.mk (by kernel_rfl)) ?_ | refine okI ?_ | refine brP_true (Nat.beq_refl _) ?_ | refine brP_intro (fun _ => ?_) (fun _ => ?_) | refine bndI ?_ | intro _) <;> conv => whnf)))
    (refine ⟨4, (by omega), (by omega), ?_⟩; (conv => whnf); refine ⟨?_, ?_, ?_⟩ <;> repeat (first | exact trivial | refine slotsLe_cons rfl ?_ | refine keysLe_none ?_ | refine keysLe_cons rfl ?_))
  · conv => whnf
    repeat (any_goals (first | exact falseI | (refine brP_dec (fun _ => ?_) (fun _ => ?_) <;> first | (exfalso; omega) | conv => whnf) | (refine brP_ndec (fun _ => ?_) (fun _ => ?_) <;> first | (exfalso; omega) | conv => whnf) | ((first | refine And.intro (DrawOk.mk (by kernel_rfl)) ?_ | refine okI ?_ | refine brP_true (Nat.beq_refl _) ?_ | refine brP_intro (fun _ => ?_) (fun _ => ?_) | refine bndI ?_ | intro _) <;> conv => whnf)))
    (refine ⟨⟨?_⟩, trivial⟩; rfl)
def k78 : Key := ⟨0, 78, 28⟩
def own78 (i : Nat) : AV := match i with
  | 0 => .slice 0 [] .tight
  | i + 1 => .own k78 (i + 1) 4 (i + 1) 0
def box78 (l : List Fig) (i : Nat) : Nat × Option (Nat × List AV) := match i with
  | 0 => (0, none)
  | i + 1 => (i + 1, some (4, (l.take (i + 1)).map figA))
theorem figs78b_c (a b c d w x y z : Int) : BoxA Try.prog (.fn 78) [] [intsA [a, b, c, d], intsA [w, x, y, z]] (.own k78 4 4 4 0) [(k78, 4, 4, (figs4 a b c d w x y z).map figA)] := by
  refine boxA_codeB tabOk { l := 0, f := 78, ow := [28] } mixed call_78 Try.func78 (by kernel_rfl) ?_
  conv => whnf
  refine loopK tabOk { l := 0, f := 78, ow := [28] } mixed (fun i : Nat => [(6, intA i), (5, own78 i)]) (fun i => [(k78, some (box78 (figs4 a b c d w x y z) i))]) (fun _ => []) (fun i => i ≤ 4) (fun i => 4 - i) 0 (by kernel_rfl)
    (Nat.zero_le _) ?_
  conv => whnf
  refine ⟨⟨slotsLe_cons rfl (slotsLe_cons rfl trivial), keysLe_new rfl trivial, trivial⟩, ?_⟩
  intro i hi
  rcases (by omega : i = 0 ∨ i = 1 ∨ i = 2 ∨ i = 3 ∨ i = 4) with rfl | rfl | rfl | rfl | rfl
  · conv => whnf
    repeat (any_goals (first | exact falseI | (refine brP_dec (fun _ => ?_) (fun _ => ?_) <;> first | (exfalso; omega) | conv => whnf) | (refine brP_ndec (fun _ => ?_) (fun _ => ?_) <;> first | (exfalso; omega) | conv => whnf) | ((first | refine And.intro (DrawOk.mk (by kernel_rfl)) ?_ | refine okI ?_ | refine brP_true (Nat.beq_refl _) ?_ | refine brP_intro (fun _ => ?_) (fun _ => ?_) | refine bndI ?_ | intro _) <;> conv => whnf)))
    (refine ⟨1, (by omega), (by omega), ?_⟩; (conv => whnf); refine ⟨?_, ?_, ?_⟩ <;> repeat (first | exact trivial | refine slotsLe_cons rfl ?_ | refine keysLe_none ?_ | refine keysLe_cons rfl ?_))
  · conv => whnf
    repeat (any_goals (first | exact falseI | (refine brP_dec (fun _ => ?_) (fun _ => ?_) <;> first | (exfalso; omega) | conv => whnf) | (refine brP_ndec (fun _ => ?_) (fun _ => ?_) <;> first | (exfalso; omega) | conv => whnf) | ((first | refine And.intro (DrawOk.mk (by kernel_rfl)) ?_ | refine okI ?_ | refine brP_true (Nat.beq_refl _) ?_ | refine brP_intro (fun _ => ?_) (fun _ => ?_) | refine bndI ?_ | intro _) <;> conv => whnf)))
    refine And.intro (by simp [figs4, maxLen]) ?_
    conv => whnf
    repeat (any_goals (first | exact falseI | (refine brP_dec (fun _ => ?_) (fun _ => ?_) <;> first | (exfalso; omega) | conv => whnf) | (refine brP_ndec (fun _ => ?_) (fun _ => ?_) <;> first | (exfalso; omega) | conv => whnf) | ((first | refine And.intro (DrawOk.mk (by kernel_rfl)) ?_ | refine okI ?_ | refine brP_true (Nat.beq_refl _) ?_ | refine brP_intro (fun _ => ?_) (fun _ => ?_) | refine bndI ?_ | intro _) <;> conv => whnf)))
    (refine ⟨2, (by omega), (by omega), ?_⟩; (conv => whnf); refine ⟨?_, ?_, ?_⟩ <;> repeat (first | exact trivial | refine slotsLe_cons rfl ?_ | refine keysLe_none ?_ | refine keysLe_cons rfl ?_))
  · conv => whnf
    repeat (any_goals (first | exact falseI | (refine brP_dec (fun _ => ?_) (fun _ => ?_) <;> first | (exfalso; omega) | conv => whnf) | (refine brP_ndec (fun _ => ?_) (fun _ => ?_) <;> first | (exfalso; omega) | conv => whnf) | ((first | refine And.intro (DrawOk.mk (by kernel_rfl)) ?_ | refine okI ?_ | refine brP_true (Nat.beq_refl _) ?_ | refine brP_intro (fun _ => ?_) (fun _ => ?_) | refine bndI ?_ | intro _) <;> conv => whnf)))
    refine And.intro (by simp [figs4, maxLen]) ?_
    conv => whnf
    repeat (any_goals (first | exact falseI | (refine brP_dec (fun _ => ?_) (fun _ => ?_) <;> first | (exfalso; omega) | conv => whnf) | (refine brP_ndec (fun _ => ?_) (fun _ => ?_) <;> first | (exfalso; omega) | conv => whnf) | ((first | refine And.intro (DrawOk.mk (by kernel_rfl)) ?_ | refine okI ?_ | refine brP_true (Nat.beq_refl _) ?_ | refine brP_intro (fun _ => ?_) (fun _ => ?_) | refine bndI ?_ | intro _) <;> conv => whnf)))
    (refine ⟨3, (by omega), (by omega), ?_⟩; (conv => whnf); refine ⟨?_, ?_, ?_⟩ <;> repeat (first | exact trivial | refine slotsLe_cons rfl ?_ | refine keysLe_none ?_ | refine keysLe_cons rfl ?_))
  · conv => whnf
    repeat (any_goals (first | exact falseI | (refine brP_dec (fun _ => ?_) (fun _ => ?_) <;> first | (exfalso; omega) | conv => whnf) | (refine brP_ndec (fun _ => ?_) (fun _ => ?_) <;> first | (exfalso; omega) | conv => whnf) | ((first | refine And.intro (DrawOk.mk (by kernel_rfl)) ?_ | refine okI ?_ | refine brP_true (Nat.beq_refl _) ?_ | refine brP_intro (fun _ => ?_) (fun _ => ?_) | refine bndI ?_ | intro _) <;> conv => whnf)))
    refine And.intro (by simp [figs4, maxLen]) ?_
    conv => whnf
    repeat (any_goals (first | exact falseI | (refine brP_dec (fun _ => ?_) (fun _ => ?_) <;> first | (exfalso; omega) | conv => whnf) | (refine brP_ndec (fun _ => ?_) (fun _ => ?_) <;> first | (exfalso; omega) | conv => whnf) | ((first | refine And.intro (DrawOk.mk (by kernel_rfl)) ?_ | refine okI ?_ | refine brP_true (Nat.beq_refl _) ?_ | refine brP_intro (fun _ => ?_) (fun _ => ?_) | refine bndI ?_ | intro _) <;> conv => whnf)))
    (refine ⟨4, (by omega), (by omega), ?_⟩; (conv => whnf); refine ⟨?_, ?_, ?_⟩ <;> repeat (first | exact trivial | refine slotsLe_cons rfl ?_ | refine keysLe_none ?_ | refine keysLe_cons rfl ?_))
  · conv => whnf
    refine And.intro ?_ ?_
    · conv => whnf
      refine ⟨⟨?_⟩, trivial⟩
      rfl
    · repeat (first | exact trivial | refine And.intro rfl ?_ | refine And.intro (by skip) ?_)
def rowR (bench : Int) : Row := ⟨[⟨⟨#[97]⟩, 1, false, 0⟩, ⟨⟨#[98]⟩, 0, false, 1⟩, ⟨⟨#[99]⟩, 2, false, 3⟩, ⟨⟨#[100]⟩, 3, true, -1⟩], [⟨0, 1⟩, ⟨1, 2⟩, ⟨2, 3⟩], bench⟩
def rowQ : Row := ⟨figs4 1 2 0 3 0 1 2 3, [⟨0, 1⟩, ⟨0, 2⟩, ⟨0, 3⟩, ⟨1, 2⟩, ⟨1, 3⟩, ⟨2, 3⟩], -1⟩
def rowE : Row := ⟨figs4 3 1 2 0 0 1 2 3, [⟨0, 1⟩, ⟨1, 2⟩, ⟨2, 3⟩], -1⟩
theorem rowQ_c : PureA Try.prog 39 [] (rowA rowQ) := by
  have h1 := figs78_c 1 2 0 3 0 1 2 3
  have h2 := steps38_c [0, 1, 0, 2, 0, 3, 1, 2, 1, 3, 2, 3] (by decide)
  refine pureA_codeB tabOk { l := 0, f := 39 } mixed call_39 Try.func39 (by kernel_rfl) ?_
  conv => whnf
  repeat (any_goals (first | exact falseI | (refine brP_dec (fun _ => ?_) (fun _ => ?_) <;> first | (exfalso; omega) | conv => whnf) | (refine brP_ndec (fun _ => ?_) (fun _ => ?_) <;> first | (exfalso; omega) | conv => whnf) | ((first | refine callP_a h1 ?_ | refine callP_a h2 ?_ | refine And.intro (DrawOk.mk (by kernel_rfl)) ?_ | refine okI ?_ | refine brP_true (Nat.beq_refl _) ?_ | refine brP_intro (fun _ => ?_) (fun _ => ?_) | refine bndI ?_ | intro _) <;> conv => whnf)))
  (refine ⟨⟨?_⟩, trivial⟩; rfl)
theorem rowE_c : PureA Try.prog 40 [] (rowA rowE) := by
  have h1 := figs78_c 3 1 2 0 0 1 2 3
  have h2 := steps38_c [0, 1, 1, 2, 2, 3] (by decide)
  refine pureA_codeB tabOk { l := 0, f := 40 } mixed call_40 Try.func40 (by kernel_rfl) ?_
  conv => whnf
  repeat (any_goals (first | exact falseI | (refine brP_dec (fun _ => ?_) (fun _ => ?_) <;> first | (exfalso; omega) | conv => whnf) | (refine brP_ndec (fun _ => ?_) (fun _ => ?_) <;> first | (exfalso; omega) | conv => whnf) | ((first | refine callP_a h1 ?_ | refine callP_a h2 ?_ | refine And.intro (DrawOk.mk (by kernel_rfl)) ?_ | refine okI ?_ | refine brP_true (Nat.beq_refl _) ?_ | refine brP_intro (fun _ => ?_) (fun _ => ?_) | refine bndI ?_ | intro _) <;> conv => whnf)))
  (refine ⟨⟨?_⟩, trivial⟩; rfl)
theorem rowR_c (bench : Int) : PureA Try.prog 37 [intA bench] (rowA (rowR bench)) := by
  have h1 := figs78b_c 1 0 2 3 0 1 3 (-1)
  have h2 := steps38_c [0, 1, 1, 2, 2, 3] (by decide)
  refine pureA_codeB tabOk { l := 0, f := 37, mat := [78] } mixed call_37 Try.func37 (by kernel_rfl) ?_
  conv => whnf
  repeat (any_goals (first | exact falseI | (refine brP_dec (fun _ => ?_) (fun _ => ?_) <;> first | (exfalso; omega) | conv => whnf) | (refine brP_ndec (fun _ => ?_) (fun _ => ?_) <;> first | (exfalso; omega) | conv => whnf) | ((first | refine And.intro (DrawOk.mk (by kernel_rfl)) ?_ | refine okI ?_ | refine brP_true (Nat.beq_refl _) ?_ | refine brP_intro (fun _ => ?_) (fun _ => ?_) | refine bndI ?_ | intro _) <;> conv => whnf)))
  refine ⟨[], ?_⟩
  conv => whnf
  refine ⟨_, _, h1, ?_⟩
  conv => whnf
  repeat (any_goals (first | exact falseI | (refine brP_dec (fun _ => ?_) (fun _ => ?_) <;> first | (exfalso; omega) | conv => whnf) | (refine brP_ndec (fun _ => ?_) (fun _ => ?_) <;> first | (exfalso; omega) | conv => whnf) | ((first | refine callP_a h2 ?_ | refine And.intro (DrawOk.mk (by kernel_rfl)) ?_ | refine okI ?_ | refine brP_true (Nat.beq_refl _) ?_ | refine brP_intro (fun _ => ?_) (fun _ => ?_) | refine bndI ?_ | intro _) <;> conv => whnf)))
  (refine ⟨⟨?_⟩, trivial⟩; rfl)
end Go.Proofs.Ytmggofcaeolaiaa
namespace Go.Proofs.Ytmggofcaeolaiaa
open Go.Am Go.Proofs Go
def zipW : List Fig → List Part → List Fig
  | f :: l, q :: p => ⟨f.name, q.kind, q.broken, f.wants⟩ :: zipW l p
  | l, _ => l
theorem zipW_len : ∀ (l : List Fig) (p : List Part), (zipW l p).length = l.length
  | [], p => by cases p <;> rfl
  | f :: l, [] => rfl
  | f :: l, q :: p => by simp [zipW, zipW_len l p]
theorem zipW_get : ∀ (l : List Fig) (p : List Part) (i : Nat), (zipW l (p.take i))[i]? = l[i]?
  | [], p, i => by cases h : p.take i <;> simp [zipW]
  | f :: l, [], i => by simp [zipW]
  | f :: l, q :: p, 0 => by simp [zipW]
  | f :: l, q :: p, i + 1 => by simpa [zipW] using zipW_get l p i
theorem zipW_set : ∀ (l : List Fig) (p : List Part) (i : Nat) (f : Fig) (q : Part), l[i]? = some f → p[i]? = some q →
    (zipW l (p.take i)).set i ⟨f.name, q.kind, q.broken, f.wants⟩ = zipW l (p.take (i + 1))
  | [], p, i, f, q, h, _ => by simp at h
  | f :: l, [], i, _, q, _, h => by simp at h
  | f :: l, q :: p, 0, _, _, h, h' => by simp at h h'; subst h h'; simp [zipW]
  | f :: l, q :: p, i + 1, _, _, h, h' => by
    have := zipW_set l p i _ _ (by simpa using h) (by simpa using h')
    simp [zipW, this]
theorem zipW_parts : ∀ (l : List Fig) (p : List Part), zipW l (l.map Fig.part ++ p) = l
  | [], [] => rfl
  | [], _ :: _ => rfl
  | f :: l, p => by simp [zipW, zipW_parts l p, Fig.part]
def Row.with (r : Row) (p : List Part) : Row := { r with figs := zipW r.figs p }
theorem Row.with_parts (r : Row) : r.with r.parts = r := by
  unfold Row.with Row.parts partsTo
  rw [List.take_length, zipW_parts]
def Row.stepsP (r : Row) : List Part → List Stp → List Part × Int
  | p, [] => (p, 0)
  | p, s :: l => if (r.stepP p s).2 = 0 then r.stepsP (r.stepP p s).1 l else (p, (r.stepP p s).2)
def zeroR : Row := ⟨[], [], 0⟩
def Row.done (r : Row) (l : List Stp) : Row × Int :=
  if r.check.2.2 = 0 then if 20 < l.length then (zeroR, 3) else
    if (r.stepsP r.parts l).2 = 0 then (r.with (r.stepsP r.parts l).1, 0) else (zeroR, (r.stepsP r.parts l).2)
  else (zeroR, r.check.2.2)
theorem stepP_len (r : Row) (p : List Part) (s : Stp) : (r.stepP p s).1.length = p.length := by
  unfold Row.stepP
  split
  · split <;> simp
  · split <;> simp
theorem Wk.zeroR (e : Int) : Wk (.tuple [.agg [nilS, nilS, intA 0], intA e]) (rowErrA (zeroR, e)) :=
  Wk.tuple (WkL.cons (Wk.agg (WkL.cons (Wk.nil 4) (WkL.cons (Wk.nil 2) (WkL.refl _)))) (WkL.refl _))
theorem done1_c (r : Row) (hr : r.small) (l : List Stp) (hc : r.check.2.2 ≠ 0) : PureA Try.prog 21 [rowA r, stpsA l] (rowErrA (zeroR, r.check.2.2)) := by
  have hl := lookN_c r hr hc
  refine PureA.wk ?_ (Wk.zeroR _)
  generalize r.check = c at *
  obtain ⟨c1, c2, c3⟩ := c
  simp only at hl hc
  refine pureA_codeB tabOk { l := 0, f := 21 } mixed call_21 Try.func21 (by kernel_rfl) ?_
  conv => whnf
  repeat (any_goals (first | exact falseI | (refine brP_dec (fun _ => ?_) (fun _ => ?_) <;> first | (exfalso; omega) | conv => whnf) | (refine brP_ndec (fun _ => ?_) (fun _ => ?_) <;> first | (exfalso; omega) | conv => whnf) | ((first | refine callP_a hl ?_ | refine And.intro (DrawOk.mk (by kernel_rfl)) ?_ | refine okI ?_ | refine brP_true (Nat.beq_refl _) ?_ | refine brP_intro (fun _ => ?_) (fun _ => ?_) | refine bndI ?_ | intro _) <;> conv => whnf)))
  (refine ⟨⟨?_⟩, trivial⟩; rfl)
theorem done2_c (r : Row) (hr : r.small) (l : List Stp) (hc : r.check.2.2 = 0) (h20 : 20 < l.length) : PureA Try.prog 21 [rowA r, stpsA l] (rowErrA (zeroR, 3)) := by
  have hl := lookP_c r hr hc
  have hp : r.parts.length = 5 := partsTo_len r.figs _ (Nat.le_refl _) (check_len hc)
  generalize r.parts = p at *
  obtain ⟨p0, p1, p2, p3, p4, rfl⟩ := list5 hp
  refine PureA.wk ?_ (Wk.zeroR _)
  have h20 : (20 : Int) < ((l.map stpA).length : Nat) := by rw [List.length_map]; omega
  refine pureA_codeB tabOk { l := 0, f := 21 } mixed call_21 Try.func21 (by kernel_rfl) ?_
  conv => whnf
  repeat (any_goals (first | exact falseI | (refine brP_dec (fun _ => ?_) (fun _ => ?_) <;> first | (exfalso; omega) | conv => whnf) | (refine brP_ndec (fun _ => ?_) (fun _ => ?_) <;> first | (exfalso; omega) | conv => whnf) | ((first | refine callP_a hl ?_ | refine And.intro (DrawOk.mk (by kernel_rfl)) ?_ | refine okI ?_ | refine brP_true (Nat.beq_refl _) ?_ | refine brP_intro (fun _ => ?_) (fun _ => ?_) | refine bndI ?_ | intro _) <;> conv => whnf)))
  (refine ⟨⟨?_⟩, trivial⟩; rfl)
theorem done3_c (r : Row) (hr : r.small) (l : List Stp) (hc : r.check.2.2 = 0) (h20 : l.length ≤ 20) (he : (r.stepsP r.parts l).2 ≠ 0) : PureA Try.prog 21 [rowA r, stpsA l] (rowErrA (zeroR, (r.stepsP r.parts l).2)) := by
  have hl := lookP_c r hr hc
  have hg := (r.valid_iff hc).good hr
  have hp : r.parts.length = 5 := partsTo_len r.figs _ (Nat.le_refl _) (check_len hc)
  generalize r.parts = p0 at *
  refine PureA.wk ?_ (Wk.zeroR _)
  obtain ⟨q0, q1, q2, q3, q4, hq⟩ := list5 hp
  have hst := fun p hp s => step_c r hg p p0 hp (by rw [hq]; rfl) s
  generalize hR : r.stepsP p0 l = R at *
  simp only [hq] at hl hst
  have h20 : ¬ (20 : Int) < ((l.map stpA).length : Nat) := by rw [List.length_map]; omega
  refine pureA_codeB tabOk { l := 0, f := 21 } mixed call_21 Try.func21 (by kernel_rfl) ?_
  conv => whnf
  repeat (any_goals (first | exact falseI | (refine brP_dec (fun _ => ?_) (fun _ => ?_) <;> first | (exfalso; omega) | conv => whnf) | (refine brP_ndec (fun _ => ?_) (fun _ => ?_) <;> first | (exfalso; omega) | conv => whnf) | ((first | refine callP_a hl ?_ | refine And.intro (DrawOk.mk (by kernel_rfl)) ?_ | refine okI ?_ | refine brP_true (Nat.beq_refl _) ?_ | refine brP_intro (fun _ => ?_) (fun _ => ?_) | refine bndI ?_ | intro _) <;> conv => whnf)))
  refine loopK tabOk { l := 0, f := 21 } mixed (fun a : Nat × List Part => [(33, intA a.1)]) (fun a => [(⟨0, 21, 8⟩, some (1, some (10, [partsA a.2])))]) (fun _ => []) (fun a => a.1 ≤ l.length ∧ a.2.length = 5 ∧ r.stepsP a.2 (l.drop a.1) = R) (fun a => l.length - a.1) (0, p0) (by kernel_rfl)
    ⟨Nat.zero_le _, hp, hR⟩ ?_
  conv => whnf
  refine ⟨⟨slotsLe_cons rfl trivial, keysLe_cons (by rw [hq]; rfl) trivial, trivial⟩, ?_⟩
  intro ⟨i, x⟩ ⟨hi, hx5, H⟩
  simp only at hi hx5 H
  conv => whnf
  refine brP_dec (fun h1 => ?_) (fun h1 => ?_)
  · simp only [List.length_map] at h1
    obtain ⟨s, hs, hd⟩ := drop_cons (l := l) (i := i) (by omega)
    have h6 := stepP_len r x s
    have h7 := hst x hx5 s
    rw [hd] at H
    simp only [Row.stepsP] at H
    unfold stepA at h7
    generalize r.stepP x s = y at *
    obtain ⟨y1, y2⟩ := y
    simp only at h6 h7 H
    have hy5 : y1.length = 5 := by omega
    clear hR
    obtain ⟨x0, x1, x2, x3, x4, rfl⟩ := list5 hx5
    obtain ⟨y0, z1, z2, z3, z4, rfl⟩ := list5 hy5
    conv => whnf
    repeat (any_goals (first | exact falseI | (refine brP_dec (fun _ => ?_) (fun _ => ?_) <;> first | (exfalso; omega) | conv => whnf) | (refine brP_ndec (fun _ => ?_) (fun _ => ?_) <;> first | (exfalso; omega) | conv => whnf) | ((first | refine optP_map hs rfl ?_ | refine callP_a h7 ?_ | refine And.intro (DrawOk.mk (by kernel_rfl)) ?_ | refine okI ?_ | refine brP_true (Nat.beq_refl _) ?_ | refine brP_intro (fun _ => ?_) (fun _ => ?_) | refine bndI ?_ | intro _) <;> conv => whnf)))
    · rename_i hne
      rw [if_pos hne] at H
      (refine ⟨(i + 1, [y0, z1, z2, z3, z4]), ⟨by simp only; omega, rfl, H⟩, (by simp only; omega), ?_⟩; (conv => whnf); refine ⟨?_, ?_, ?_⟩ <;> repeat (first | exact trivial | refine slotsLe_cons rfl ?_ | refine keysLe_none ?_ | refine keysLe_cons rfl ?_))
    · rename_i hne
      rw [if_neg hne] at H
      subst H
      (refine ⟨⟨?_⟩, trivial⟩; rfl)
  · simp only [List.length_map] at h1
    have : i = l.length := by omega
    subst this
    simp only [List.drop_length, Row.stepsP] at H
    subst H
    exact absurd rfl he
theorem stepsP_none {r : Row} (hg : r.Good) (h0 : r.figs = []) : ∀ (l : List Stp) (p : List Part), (r.stepsP p l).2 = 0 → (r.stepsP p l).1 = p
  | [], p, _ => rfl
  | s :: l, p, h => by
    have hb : r.bench = -1 := by
      rcases hg.benchB with h | h
      · exact h
      · rw [h0] at h; simp at h; omega
    have hn : r.beside.any (s == ·) = false := by
      rw [Bool.eq_false_iff]
      intro h
      obtain ⟨x, hx, _⟩ := List.any_eq_true.1 h
      have := hg.bound x hx
      rw [h0] at this; simp at this; omega
    have h4 : (r.stepP p s).2 = 4 := by
      unfold Row.stepP
      rw [if_neg (by rw [hb]; simp), if_neg (by rw [hn]; simp)]
    unfold Row.stepsP at h ⊢
    rw [if_neg (by rw [h4]; decide)] at h
    simp only [h4] at h
    omega
theorem eqParts {p0 p1 p2 p3 p4 q0 q1 q2 q3 q4 : Part} (h : eqL [.int .i64 p0.kind, .bool p0.broken, .int .i64 p1.kind, .bool p1.broken, .int .i64 p2.kind, .bool p2.broken, .int .i64 p3.kind, .bool p3.broken, .int .i64 p4.kind, .bool p4.broken]
    [.int .i64 q0.kind, .bool q0.broken, .int .i64 q1.kind, .bool q1.broken, .int .i64 q2.kind, .bool q2.broken, .int .i64 q3.kind, .bool q3.broken, .int .i64 q4.kind, .bool q4.broken] = true) : [p0, p1, p2, p3, p4] = [q0, q1, q2, q3, q4] := by
  cases p0; cases p1; cases p2; cases p3; cases p4
  cases q0; cases q1; cases q2; cases q3; cases q4
  simp [eqL, eqC] at h
  simp [h]
theorem done4_c (r : Row) (hr : r.small) (l : List Stp) (hc : r.check.2.2 = 0) (h20 : l.length ≤ 20) (h0 : r.figs = []) (he : (r.stepsP r.parts l).2 = 0) : PureA Try.prog 21 [rowA r, stpsA l] (rowErrA (r, 0)) := by
  have hl := lookP_c r hr hc
  have hg := (r.valid_iff hc).good hr
  have hp : r.parts.length = 5 := partsTo_len r.figs _ (Nat.le_refl _) (check_len hc)
  have hcl := clone66_c r.beside hg.blen
  have hRp := stepsP_none hg h0 l r.parts he
  generalize r.parts = p0 at *
  obtain ⟨q0, q1, q2, q3, q4, hq⟩ := list5 hp
  have hst := fun p hp s => step_c r hg p p0 hp (by rw [hq]; rfl) s
  generalize hR : r.stepsP p0 l = R at *
  simp only [hq] at hl hst
  have h20 : ¬ (20 : Int) < ((l.map stpA).length : Nat) := by rw [List.length_map]; omega
  have hcf : PureA Try.prog 65 [figsA r.figs] (figsA r.figs) := by rw [h0]; exact clone65e_c
  refine pureA_codeB tabOk { l := 0, f := 21 } mixed call_21 Try.func21 (by kernel_rfl) ?_
  conv => whnf
  repeat (any_goals (first | exact falseI | (refine brP_dec (fun _ => ?_) (fun _ => ?_) <;> first | (exfalso; omega) | conv => whnf) | (refine brP_ndec (fun _ => ?_) (fun _ => ?_) <;> first | (exfalso; omega) | conv => whnf) | ((first | refine callP_a hl ?_ | refine And.intro (DrawOk.mk (by kernel_rfl)) ?_ | refine okI ?_ | refine brP_true (Nat.beq_refl _) ?_ | refine brP_intro (fun _ => ?_) (fun _ => ?_) | refine bndI ?_ | intro _) <;> conv => whnf)))
  refine loopK tabOk { l := 0, f := 21 } mixed (fun a : Nat × List Part => [(33, intA a.1)]) (fun a => [(⟨0, 21, 8⟩, some (1, some (10, [partsA a.2])))]) (fun _ => []) (fun a => a.1 ≤ l.length ∧ a.2.length = 5 ∧ r.stepsP a.2 (l.drop a.1) = R) (fun a => l.length - a.1) (0, p0) (by kernel_rfl)
    ⟨Nat.zero_le _, hp, hR⟩ ?_
  conv => whnf
  refine ⟨⟨slotsLe_cons rfl trivial, keysLe_cons (by rw [hq]; rfl) trivial, trivial⟩, ?_⟩
  intro ⟨i, x⟩ ⟨hi, hx5, H⟩
  simp only at hi hx5 H
  conv => whnf
  refine brP_dec (fun h1 => ?_) (fun h1 => ?_)
  · simp only [List.length_map] at h1
    obtain ⟨s, hs, hd⟩ := drop_cons (l := l) (i := i) (by omega)
    have h6 := stepP_len r x s
    have h7 := hst x hx5 s
    rw [hd] at H
    simp only [Row.stepsP] at H
    unfold stepA at h7
    generalize r.stepP x s = y at *
    obtain ⟨y1, y2⟩ := y
    simp only at h6 h7 H
    have hy5 : y1.length = 5 := by omega
    clear hR
    obtain ⟨x0, x1, x2, x3, x4, rfl⟩ := list5 hx5
    obtain ⟨y0, z1, z2, z3, z4, rfl⟩ := list5 hy5
    have hy2 : y2 = 0 := by
      apply Classical.byContradiction
      intro hne
      rw [if_neg hne] at H
      subst H
      exact hne he
    subst hy2
    rw [if_pos rfl] at H
    conv => whnf
    repeat (any_goals (first | exact falseI | (refine brP_dec (fun _ => ?_) (fun _ => ?_) <;> first | (exfalso; omega) | conv => whnf) | (refine brP_ndec (fun _ => ?_) (fun _ => ?_) <;> first | (exfalso; omega) | conv => whnf) | ((first | refine optP_map hs rfl ?_ | refine callP_a h7 ?_ | refine And.intro (DrawOk.mk (by kernel_rfl)) ?_ | refine okI ?_ | refine brP_true (Nat.beq_refl _) ?_ | refine brP_intro (fun _ => ?_) (fun _ => ?_) | refine bndI ?_ | intro _) <;> conv => whnf)))
    (refine ⟨(i + 1, [y0, z1, z2, z3, z4]), ⟨by simp only; omega, rfl, H⟩, (by simp only; omega), ?_⟩; (conv => whnf); refine ⟨?_, ?_, ?_⟩ <;> repeat (first | exact trivial | refine slotsLe_cons rfl ?_ | refine keysLe_none ?_ | refine keysLe_cons rfl ?_))
  · simp only [List.length_map] at h1
    have : i = l.length := by omega
    subst this
    simp only [List.drop_length, Row.stepsP] at H
    subst H
    simp only at hRp
    rw [hRp, hq]
    conv => whnf
    repeat (any_goals (first | exact falseI | (refine brP_dec (fun _ => ?_) (fun _ => ?_) <;> first | (exfalso; omega) | conv => whnf) | (refine brP_ndec (fun _ => ?_) (fun _ => ?_) <;> first | (exfalso; omega) | conv => whnf) | ((first | refine callP_a hcf ?_ | refine callP_a hcl ?_ | refine And.intro (DrawOk.mk (by kernel_rfl)) ?_ | refine okI ?_ | refine brP_true (Nat.beq_refl _) ?_ | refine brP_intro (fun _ => ?_) (fun _ => ?_) | refine bndI ?_ | intro _) <;> conv => whnf)))
    · (refine ⟨⟨?_⟩, trivial⟩; rfl)
    · rename_i h
      simp [eqL, eqC] at h
theorem zipW_take : ∀ (l : List Fig) (p : List Part), zipW l (p.take l.length) = zipW l p
  | [], p => by cases p <;> rfl
  | f :: l, [] => rfl
  | f :: l, q :: p => by simp [zipW, zipW_take l p]
theorem done5_c (r : Row) (hr : r.small) (l : List Stp) (hc : r.check.2.2 = 0) (h20 : l.length ≤ 20) (h0 : r.figs ≠ []) (he : (r.stepsP r.parts l).2 = 0) : PureA Try.prog 21 [rowA r, stpsA l] (rowErrA (r.with (r.stepsP r.parts l).1, 0)) := by
  have hl := lookP_c r hr hc
  have hg := (r.valid_iff hc).good hr
  have hp : r.parts.length = 5 := partsTo_len r.figs _ (Nat.le_refl _) (check_len hc)
  have hcl := clone66_c r.beside hg.blen
  have hwp := r.with_parts
  have h5 := hg.len
  generalize r.parts = p0 at *
  obtain ⟨q0, q1, q2, q3, q4, hq⟩ := list5 hp
  have hst := fun p hp s => step_c r hg p p0 hp (by rw [hq]; rfl) s
  generalize hR : r.stepsP p0 l = R at *
  simp only [hq] at hl hst
  have h20 : ¬ (20 : Int) < ((l.map stpA).length : Nat) := by rw [List.length_map]; omega
  have hcf : BoxA Try.prog (.fn 65) [] [figsA r.figs] (.own kClone 1 4 r.figs.length 0) [(kClone, 1, 4, r.figs.map figA)] := by
    cases hf : r.figs with
    | nil => exact absurd hf h0
    | cons f l' => exact clone65_c f l' (by rw [← hf]; omega)
  have hps := pureEs_figs r.figs r.figs.length rfl
  have htk : ∀ ks, tkL (tk2 ks) (r.figs.map figA) = some (r.figs.map figA) := fun ks => tkL_map (f := figA) (g := tk2 ks) (fun f => rfl) _
  refine pureA_codeB tabOk { l := 0, f := 21, mat := [65] } mixed call_21 Try.func21 (by kernel_rfl) ?_
  conv => whnf
  repeat (any_goals (first | exact falseI | (refine brP_dec (fun _ => ?_) (fun _ => ?_) <;> first | (exfalso; omega) | conv => whnf) | (refine brP_ndec (fun _ => ?_) (fun _ => ?_) <;> first | (exfalso; omega) | conv => whnf) | ((first | refine callP_a hl ?_ | refine And.intro (DrawOk.mk (by kernel_rfl)) ?_ | refine okI ?_ | refine brP_true (Nat.beq_refl _) ?_ | refine brP_intro (fun _ => ?_) (fun _ => ?_) | refine bndI ?_ | intro _) <;> conv => whnf)))
  refine loopK tabOk { l := 0, f := 21 } mixed (fun a : Nat × List Part => [(33, intA a.1)]) (fun a => [(⟨0, 21, 8⟩, some (1, some (10, [partsA a.2])))]) (fun _ => []) (fun a => a.1 ≤ l.length ∧ a.2.length = 5 ∧ r.stepsP a.2 (l.drop a.1) = R) (fun a => l.length - a.1) (0, p0) (by kernel_rfl)
    ⟨Nat.zero_le _, hp, hR⟩ ?_
  conv => whnf
  refine ⟨⟨slotsLe_cons rfl trivial, keysLe_cons (by rw [hq]; rfl) trivial, trivial⟩, ?_⟩
  intro ⟨i, x⟩ ⟨hi, hx5, H⟩
  simp only at hi hx5 H
  conv => whnf
  refine brP_dec (fun h1 => ?_) (fun h1 => ?_)
  · simp only [List.length_map] at h1
    obtain ⟨s, hs, hd⟩ := drop_cons (l := l) (i := i) (by omega)
    have h6 := stepP_len r x s
    have h7 := hst x hx5 s
    rw [hd] at H
    simp only [Row.stepsP] at H
    unfold stepA at h7
    generalize r.stepP x s = y at *
    obtain ⟨y1, y2⟩ := y
    simp only at h6 h7 H
    have hy5 : y1.length = 5 := by omega
    clear hR
    obtain ⟨x0, x1, x2, x3, x4, rfl⟩ := list5 hx5
    obtain ⟨y0, z1, z2, z3, z4, rfl⟩ := list5 hy5
    have hy2 : y2 = 0 := by
      apply Classical.byContradiction
      intro hne
      rw [if_neg hne] at H
      subst H
      exact hne he
    subst hy2
    rw [if_pos rfl] at H
    conv => whnf
    repeat (any_goals (first | exact falseI | (refine brP_dec (fun _ => ?_) (fun _ => ?_) <;> first | (exfalso; omega) | conv => whnf) | (refine brP_ndec (fun _ => ?_) (fun _ => ?_) <;> first | (exfalso; omega) | conv => whnf) | ((first | refine optP_map hs rfl ?_ | refine callP_a h7 ?_ | refine And.intro (DrawOk.mk (by kernel_rfl)) ?_ | refine okI ?_ | refine brP_true (Nat.beq_refl _) ?_ | refine brP_intro (fun _ => ?_) (fun _ => ?_) | refine bndI ?_ | intro _) <;> conv => whnf)))
    (refine ⟨(i + 1, [y0, z1, z2, z3, z4]), ⟨by simp only; omega, rfl, H⟩, (by simp only; omega), ?_⟩; (conv => whnf); refine ⟨?_, ?_, ?_⟩ <;> repeat (first | exact trivial | refine slotsLe_cons rfl ?_ | refine keysLe_none ?_ | refine keysLe_cons rfl ?_))
  · simp only [List.length_map] at h1
    have : i = l.length := by omega
    subst this
    simp only [List.drop_length, Row.stepsP] at H
    subst H
    simp only
    obtain ⟨x0, x1, x2, x3, x4, rfl⟩ := list5 hx5
    conv => whnf
    repeat (any_goals (first | exact falseI | (refine brP_dec (fun _ => ?_) (fun _ => ?_) <;> first | (exfalso; omega) | conv => whnf) | (refine brP_ndec (fun _ => ?_) (fun _ => ?_) <;> first | (exfalso; omega) | conv => whnf) | ((first | refine And.intro (DrawOk.mk (by kernel_rfl)) ?_ | refine okI ?_ | refine brP_true (Nat.beq_refl _) ?_ | refine brP_intro (fun _ => ?_) (fun _ => ?_) | refine bndI ?_ | intro _) <;> conv => whnf)))
    refine ⟨[], ?_⟩
    conv => whnf
    refine ⟨_, _, hcf, ?_⟩
    conv => whnf
    repeat (any_goals (first | exact falseI | (refine brP_dec (fun _ => ?_) (fun _ => ?_) <;> first | (exfalso; omega) | conv => whnf) | (refine brP_ndec (fun _ => ?_) (fun _ => ?_) <;> first | (exfalso; omega) | conv => whnf) | ((first | refine callP_a hcl ?_ | refine optP_intro (htk _) ?_ | refine optP_intro hps ?_ | refine And.intro (DrawOk.mk (by kernel_rfl)) ?_ | refine okI ?_ | refine brP_true (Nat.beq_refl _) ?_ | refine brP_intro (fun _ => ?_) (fun _ => ?_) | refine bndI ?_ | intro _) <;> conv => whnf)))
    · rename_i h
      have he := eqParts h
      rw [he, ← hq, hwp]
      (refine ⟨⟨?_⟩, trivial⟩; rfl)
    · have hz : ∀ i, (zipW r.figs ([x0, x1, x2, x3, x4].take i))[i]? = r.figs[i]? := fun i => zipW_get _ _ i
      have hzl : ∀ i, (zipW r.figs ([x0, x1, x2, x3, x4].take i)).length = r.figs.length := fun i => zipW_len _ _
      have hzs := fun i f q h h' => zipW_set r.figs [x0, x1, x2, x3, x4] i f q h h'
      refine loopK tabOk { l := 0, f := 21 } mixed (fun i : Nat => [(67, intA i)]) (fun i => [(kClone, some (1, some (4, (zipW r.figs ([x0, x1, x2, x3, x4].take i)).map figA)))]) (fun _ => []) (fun i => i ≤ r.figs.length) (fun i => r.figs.length - i) 0 (by kernel_rfl)
        (Nat.zero_le _) ?_
      conv => whnf
      refine ⟨⟨slotsLe_cons rfl trivial, keysLe_cons (by cases r.figs <;> rfl) trivial, trivial⟩, ?_⟩
      intro i hi
      have hz := hz i
      have hzl := hzl i
      have hzs := hzs i
      conv => whnf
      refine brP_dec (fun h1 => ?_) (fun h1 => ?_)
      · obtain ⟨f, hx, _⟩ := drop_cons (l := r.figs) (i := i) (by omega)
        generalize zipW r.figs (List.take i [x0, x1, x2, x3, x4]) = L at *
        rcases lt5 (by omega : i < 5) with rfl | rfl | rfl | rfl | rfl
        · have hs := hzs f x0 hx rfl
          have hLx : L[0]? = some f := by rw [hz]; exact hx
          have hs1 := set_figs L 0 0 (.agg [strA f.name, intA x0.kind, boolA f.broken, intA f.wants]) ⟨f.name, x0.kind, f.broken, f.wants⟩ rfl rfl
          have hs2 := set_figs (L.set 0 ⟨f.name, x0.kind, f.broken, f.wants⟩) 0 0 (.agg [strA f.name, intA x0.kind, boolA x0.broken, intA f.wants]) ⟨f.name, x0.kind, x0.broken, f.wants⟩ rfl rfl
          have hx1 : (L.set 0 ⟨f.name, x0.kind, f.broken, f.wants⟩)[0]? = some ⟨f.name, x0.kind, f.broken, f.wants⟩ := by rw [List.getElem?_set_self]; omega
          rw [List.set_set, hs] at hs2
          conv => whnf
          repeat (any_goals (first | exact falseI | (refine brP_dec (fun _ => ?_) (fun _ => ?_) <;> first | (exfalso; omega) | conv => whnf) | (refine brP_ndec (fun _ => ?_) (fun _ => ?_) <;> first | (exfalso; omega) | conv => whnf) | ((first | refine optP_map hLx rfl ?_ | refine optP_map hx1 rfl ?_ | refine forceL_to hs1 ?_ | refine forceL_to hs2 ?_ | refine And.intro (DrawOk.mk (by kernel_rfl)) ?_ | refine okI ?_ | refine brP_true (Nat.beq_refl _) ?_ | refine brP_intro (fun _ => ?_) (fun _ => ?_) | refine bndI ?_ | intro _) <;> conv => whnf)))
          (refine ⟨0 + 1, (by omega), (by omega), ?_⟩; (conv => whnf); refine ⟨?_, ?_, ?_⟩ <;> repeat (first | exact trivial | refine slotsLe_cons rfl ?_ | refine keysLe_none ?_ | refine keysLe_cons rfl ?_))
        · have hs := hzs f x1 hx rfl
          have hLx : L[1]? = some f := by rw [hz]; exact hx
          have hs1 := set_figs L 1 1 (.agg [strA f.name, intA x1.kind, boolA f.broken, intA f.wants]) ⟨f.name, x1.kind, f.broken, f.wants⟩ rfl rfl
          have hs2 := set_figs (L.set 1 ⟨f.name, x1.kind, f.broken, f.wants⟩) 1 1 (.agg [strA f.name, intA x1.kind, boolA x1.broken, intA f.wants]) ⟨f.name, x1.kind, x1.broken, f.wants⟩ rfl rfl
          have hx1 : (L.set 1 ⟨f.name, x1.kind, f.broken, f.wants⟩)[1]? = some ⟨f.name, x1.kind, f.broken, f.wants⟩ := by rw [List.getElem?_set_self]; omega
          rw [List.set_set, hs] at hs2
          conv => whnf
          repeat (any_goals (first | exact falseI | (refine brP_dec (fun _ => ?_) (fun _ => ?_) <;> first | (exfalso; omega) | conv => whnf) | (refine brP_ndec (fun _ => ?_) (fun _ => ?_) <;> first | (exfalso; omega) | conv => whnf) | ((first | refine optP_map hLx rfl ?_ | refine optP_map hx1 rfl ?_ | refine forceL_to hs1 ?_ | refine forceL_to hs2 ?_ | refine And.intro (DrawOk.mk (by kernel_rfl)) ?_ | refine okI ?_ | refine brP_true (Nat.beq_refl _) ?_ | refine brP_intro (fun _ => ?_) (fun _ => ?_) | refine bndI ?_ | intro _) <;> conv => whnf)))
          (refine ⟨1 + 1, (by omega), (by omega), ?_⟩; (conv => whnf); refine ⟨?_, ?_, ?_⟩ <;> repeat (first | exact trivial | refine slotsLe_cons rfl ?_ | refine keysLe_none ?_ | refine keysLe_cons rfl ?_))
        · have hs := hzs f x2 hx rfl
          have hLx : L[2]? = some f := by rw [hz]; exact hx
          have hs1 := set_figs L 2 2 (.agg [strA f.name, intA x2.kind, boolA f.broken, intA f.wants]) ⟨f.name, x2.kind, f.broken, f.wants⟩ rfl rfl
          have hs2 := set_figs (L.set 2 ⟨f.name, x2.kind, f.broken, f.wants⟩) 2 2 (.agg [strA f.name, intA x2.kind, boolA x2.broken, intA f.wants]) ⟨f.name, x2.kind, x2.broken, f.wants⟩ rfl rfl
          have hx1 : (L.set 2 ⟨f.name, x2.kind, f.broken, f.wants⟩)[2]? = some ⟨f.name, x2.kind, f.broken, f.wants⟩ := by rw [List.getElem?_set_self]; omega
          rw [List.set_set, hs] at hs2
          conv => whnf
          repeat (any_goals (first | exact falseI | (refine brP_dec (fun _ => ?_) (fun _ => ?_) <;> first | (exfalso; omega) | conv => whnf) | (refine brP_ndec (fun _ => ?_) (fun _ => ?_) <;> first | (exfalso; omega) | conv => whnf) | ((first | refine optP_map hLx rfl ?_ | refine optP_map hx1 rfl ?_ | refine forceL_to hs1 ?_ | refine forceL_to hs2 ?_ | refine And.intro (DrawOk.mk (by kernel_rfl)) ?_ | refine okI ?_ | refine brP_true (Nat.beq_refl _) ?_ | refine brP_intro (fun _ => ?_) (fun _ => ?_) | refine bndI ?_ | intro _) <;> conv => whnf)))
          (refine ⟨2 + 1, (by omega), (by omega), ?_⟩; (conv => whnf); refine ⟨?_, ?_, ?_⟩ <;> repeat (first | exact trivial | refine slotsLe_cons rfl ?_ | refine keysLe_none ?_ | refine keysLe_cons rfl ?_))
        · have hs := hzs f x3 hx rfl
          have hLx : L[3]? = some f := by rw [hz]; exact hx
          have hs1 := set_figs L 3 3 (.agg [strA f.name, intA x3.kind, boolA f.broken, intA f.wants]) ⟨f.name, x3.kind, f.broken, f.wants⟩ rfl rfl
          have hs2 := set_figs (L.set 3 ⟨f.name, x3.kind, f.broken, f.wants⟩) 3 3 (.agg [strA f.name, intA x3.kind, boolA x3.broken, intA f.wants]) ⟨f.name, x3.kind, x3.broken, f.wants⟩ rfl rfl
          have hx1 : (L.set 3 ⟨f.name, x3.kind, f.broken, f.wants⟩)[3]? = some ⟨f.name, x3.kind, f.broken, f.wants⟩ := by rw [List.getElem?_set_self]; omega
          rw [List.set_set, hs] at hs2
          conv => whnf
          repeat (any_goals (first | exact falseI | (refine brP_dec (fun _ => ?_) (fun _ => ?_) <;> first | (exfalso; omega) | conv => whnf) | (refine brP_ndec (fun _ => ?_) (fun _ => ?_) <;> first | (exfalso; omega) | conv => whnf) | ((first | refine optP_map hLx rfl ?_ | refine optP_map hx1 rfl ?_ | refine forceL_to hs1 ?_ | refine forceL_to hs2 ?_ | refine And.intro (DrawOk.mk (by kernel_rfl)) ?_ | refine okI ?_ | refine brP_true (Nat.beq_refl _) ?_ | refine brP_intro (fun _ => ?_) (fun _ => ?_) | refine bndI ?_ | intro _) <;> conv => whnf)))
          (refine ⟨3 + 1, (by omega), (by omega), ?_⟩; (conv => whnf); refine ⟨?_, ?_, ?_⟩ <;> repeat (first | exact trivial | refine slotsLe_cons rfl ?_ | refine keysLe_none ?_ | refine keysLe_cons rfl ?_))
        · have hs := hzs f x4 hx rfl
          have hLx : L[4]? = some f := by rw [hz]; exact hx
          have hs1 := set_figs L 4 4 (.agg [strA f.name, intA x4.kind, boolA f.broken, intA f.wants]) ⟨f.name, x4.kind, f.broken, f.wants⟩ rfl rfl
          have hs2 := set_figs (L.set 4 ⟨f.name, x4.kind, f.broken, f.wants⟩) 4 4 (.agg [strA f.name, intA x4.kind, boolA x4.broken, intA f.wants]) ⟨f.name, x4.kind, x4.broken, f.wants⟩ rfl rfl
          have hx1 : (L.set 4 ⟨f.name, x4.kind, f.broken, f.wants⟩)[4]? = some ⟨f.name, x4.kind, f.broken, f.wants⟩ := by rw [List.getElem?_set_self]; omega
          rw [List.set_set, hs] at hs2
          conv => whnf
          repeat (any_goals (first | exact falseI | (refine brP_dec (fun _ => ?_) (fun _ => ?_) <;> first | (exfalso; omega) | conv => whnf) | (refine brP_ndec (fun _ => ?_) (fun _ => ?_) <;> first | (exfalso; omega) | conv => whnf) | ((first | refine optP_map hLx rfl ?_ | refine optP_map hx1 rfl ?_ | refine forceL_to hs1 ?_ | refine forceL_to hs2 ?_ | refine And.intro (DrawOk.mk (by kernel_rfl)) ?_ | refine okI ?_ | refine brP_true (Nat.beq_refl _) ?_ | refine brP_intro (fun _ => ?_) (fun _ => ?_) | refine bndI ?_ | intro _) <;> conv => whnf)))
          (refine ⟨4 + 1, (by omega), (by omega), ?_⟩; (conv => whnf); refine ⟨?_, ?_, ?_⟩ <;> repeat (first | exact trivial | refine slotsLe_cons rfl ?_ | refine keysLe_none ?_ | refine keysLe_cons rfl ?_))
      · have hii : i = r.figs.length := by omega
        have hfin : zipW r.figs (List.take i [x0, x1, x2, x3, x4]) = zipW r.figs [x0, x1, x2, x3, x4] := by rw [hii]; exact zipW_take _ _
        have hw : r.with [x0, x1, x2, x3, x4] = { r with figs := zipW r.figs [x0, x1, x2, x3, x4] } := rfl
        rw [hw]
        simp only [hfin]
        have hzl := zipW_len r.figs [x0, x1, x2, x3, x4]
        generalize zipW r.figs [x0, x1, x2, x3, x4] = Z at *
        have hpz := pureEs_figs Z r.figs.length hzl.symm
        conv => whnf
        repeat (any_goals (first | exact falseI | (refine brP_dec (fun _ => ?_) (fun _ => ?_) <;> first | (exfalso; omega) | conv => whnf) | (refine brP_ndec (fun _ => ?_) (fun _ => ?_) <;> first | (exfalso; omega) | conv => whnf) | ((first | refine optP_intro hpz ?_ | refine And.intro (DrawOk.mk (by kernel_rfl)) ?_ | refine okI ?_ | refine brP_true (Nat.beq_refl _) ?_ | refine brP_intro (fun _ => ?_) (fun _ => ?_) | refine bndI ?_ | intro _) <;> conv => whnf)))
        (refine ⟨⟨?_⟩, trivial⟩; rfl)
theorem Done_c (r : Row) (hr : r.small) (l : List Stp) : PureA Try.prog 21 [rowA r, stpsA l] (rowErrA (r.done l)) := by
  unfold Row.done
  by_cases hc : r.check.2.2 = 0
  · rw [if_pos hc]
    by_cases h20 : 20 < l.length
    · rw [if_pos h20]; exact done2_c r hr l hc h20
    · rw [if_neg h20]
      by_cases he : (r.stepsP r.parts l).2 = 0
      · rw [if_pos he]
        by_cases h0 : r.figs = []
        · have := done4_c r hr l hc (by omega) h0 he
          rw [show r.with (r.stepsP r.parts l).1 = r by rw [stepsP_none ((r.valid_iff hc).good hr) h0 l r.parts he]; exact r.with_parts]
          exact this
        · exact done5_c r hr l hc (by omega) h0 he
      · rw [if_neg he]; exact done3_c r hr l hc (by omega) he
  · rw [if_neg hc]; exact done1_c r hr l hc
end Go.Proofs.Ytmggofcaeolaiaa
namespace Go.Proofs.Ytmggofcaeolaiaa
open Go.Am Go.Proofs Go
theorem rowR_small (b : Int) : (rowR b).small := ⟨by show 4 ≤ 1048576; decide, by show 3 ≤ 1048576; decide, fun f hf => by
  simp [rowR] at hf
  rcases hf with rfl | rfl | rfl | rfl <;> decide⟩
theorem rowQ_small : rowQ.small := ⟨by show 4 ≤ 1048576; decide, by show 6 ≤ 1048576; decide, fun f hf => by
  simp [rowQ, figs4] at hf
  rcases hf with rfl | rfl | rfl | rfl <;> decide⟩
theorem rowE_small : rowE.small := ⟨by show 4 ≤ 1048576; decide, by show 3 ≤ 1048576; decide, fun f hf => by
  simp [rowE, figs4] at hf
  rcases hf with rfl | rfl | rfl | rfl <;> decide⟩
def doneFigs : List Fig := [⟨⟨#[97]⟩, 1, false, 0⟩, ⟨⟨#[98]⟩, 3, false, 1⟩, ⟨⟨#[99]⟩, 0, false, 3⟩, ⟨⟨#[100]⟩, 2, false, -1⟩]
theorem listsN_ints (l : List (List Nat)) : listsN l = intssA (l.map (·.map fun i : Nat => (i : Int))) := by
  unfold listsN intssA natsL intsA
  simp [List.map_map, Function.comp_def]
set_option maxRecDepth 100000 in
theorem Awake_c : PureA Try.prog 24 [] (boolA true) := by
  have r1 := rowR_c 1
  have r2 := rowR_c (-1)
  have r3 := rowQ_c
  have r4 := rowE_c
  have w := Wrong_c (rowR 1) (rowR_small 1)
  have hw : wrongA (rowR 1) = .tuple [intsA [0, 1, 2], intA 0] := by
    have e1 : (rowR 1).check.2.2 = 0 := by decide +kernel
    have e2 : (rowR 1).wrong (rowR 1).parts = [0, 1, 2] := by decide +kernel
    unfold wrongA; rw [e1, if_pos rfl, e2]
  rw [hw] at w
  have d := Done_c (rowR 1) (rowR_small 1) [⟨2, 3⟩, ⟨1, 2⟩, ⟨1, 1⟩]
  have hd : (rowR 1).done [⟨2, 3⟩, ⟨1, 2⟩, ⟨1, 1⟩] = (⟨doneFigs, [⟨0, 1⟩, ⟨1, 2⟩, ⟨2, 3⟩], 1⟩, 0) := by
    have e1 : ((rowR 1).done [⟨2, 3⟩, ⟨1, 2⟩, ⟨1, 1⟩]).1.figs = doneFigs := by decide +kernel
    have e2 : ((rowR 1).done [⟨2, 3⟩, ⟨1, 2⟩, ⟨1, 1⟩]).1.beside = [⟨0, 1⟩, ⟨1, 2⟩, ⟨2, 3⟩] := by decide +kernel
    have e3 : ((rowR 1).done [⟨2, 3⟩, ⟨1, 2⟩, ⟨1, 1⟩]).1.bench = 1 := by decide +kernel
    have e4 : ((rowR 1).done [⟨2, 3⟩, ⟨1, 2⟩, ⟨1, 1⟩]).2 = 0 := by decide +kernel
    generalize (rowR 1).done [⟨2, 3⟩, ⟨1, 2⟩, ⟨1, 1⟩] = X at e1 e2 e3 e4
    obtain ⟨⟨a, b, c⟩, e⟩ := X
    simp only at e1 e2 e3 e4
    rw [e1, e2, e3, e4]
  rw [hd] at d
  have f1 := Few_c (rowR 1) (rowR_small 1)
  have hf1 : (rowR 1).few = ([⟨0, 1⟩, ⟨2, 3⟩, ⟨1, 2⟩, ⟨1, 1⟩, ⟨1, 2⟩], 0) := by decide +kernel
  rw [hf1] at f1
  have f2 := Few_c (rowR (-1)) (rowR_small (-1))
  have hf2 : (rowR (-1)).few = ([], 9) := by decide +kernel
  rw [hf2] at f2
  have m1 := Most_c (rowR 1) (rowR_small 1)
  have hm1 : (rowR 1).most = (0, 5, 0) := by decide +kernel
  rw [hm1] at m1
  have m2 := Most_c (rowR (-1)) (rowR_small (-1))
  have hm2 : (rowR (-1)).most = (1, 1, 0) := by decide +kernel
  rw [hm2] at m2
  have n1 := Reach_c (rowR 1) (rowR_small 1) 2 (by decide)
  have hn1 : (rowR 1).reachN 2 = (9, 0) := by decide +kernel
  rw [hn1] at n1
  have l1 := Loops_c rowQ rowQ_small
  have hl1 : loopsA rowQ = .tuple [intssA [[0, 2, 1]], intA 0] := by
    have e1 : rowQ.loopErr = 0 := by decide +kernel
    have e2 : rowQ.loops = [[0, 2, 1]] := by decide +kernel
    unfold loopsA; rw [e1, if_pos rfl, e2, listsN_ints]; rfl
  rw [hl1] at l1
  have g1 := Gain_c rowE rowE_small 0 3
  have hg1 : rowE.gain 0 3 = (4, 0) := by decide +kernel
  rw [hg1] at g1
  have s1 := steps38_c [2, 3, 1, 2, 1, 1] (by decide)
  have s2 := steps38_c [0, 1, 2, 3, 1, 2, 1, 1, 1, 2] (by decide)
  have h67 : PureA Try.prog 67 [rowA ⟨doneFigs, [⟨0, 1⟩, ⟨1, 2⟩, ⟨2, 3⟩], 1⟩] (.tuple [intsA [1, 3, 0, 2], boolA true]) := has67_c ⟨doneFigs, [⟨0, 1⟩, ⟨1, 2⟩, ⟨2, 3⟩], 1⟩ (by show 4 ≤ 1048576; decide)
  have i1 : PureA Try.prog 20 [intsA [0, 1, 2], intsA [0, 1, 2]] (boolA true) := ints_c [0, 1, 2] [0, 1, 2] (by decide) (by decide)
  have i2 : PureA Try.prog 20 [intsA [1, 3, 0, 2], intsA [1, 3, 0, 2]] (boolA true) := ints_c [1, 3, 0, 2] [1, 3, 0, 2] (by decide) (by decide)
  have q1 : PureA Try.prog 27 [stpsA [⟨0, 1⟩, ⟨2, 3⟩, ⟨1, 2⟩, ⟨1, 1⟩, ⟨1, 2⟩], stpsA [⟨0, 1⟩, ⟨2, 3⟩, ⟨1, 2⟩, ⟨1, 1⟩, ⟨1, 2⟩]] (boolA true) := equal_c [⟨0, 1⟩, ⟨2, 3⟩, ⟨1, 2⟩, ⟨1, 1⟩, ⟨1, 2⟩] [⟨0, 1⟩, ⟨2, 3⟩, ⟨1, 2⟩, ⟨1, 1⟩, ⟨1, 2⟩] (by decide) (by decide)
  have t1 : PureA Try.prog 36 [intssA [[0, 2, 1]], intssA [[0, 2, 1]]] (boolA true) := lists_c [[0, 2, 1]] [[0, 2, 1]] (by decide) (by decide) (by simp) (by simp)
  refine pureA_codeB tabOk { l := 0, f := 24 } mixed call_24 Try.func24 (by kernel_rfl) ?_
  conv => whnf
  repeat (any_goals (first | exact falseI | (refine brP_dec (fun _ => ?_) (fun _ => ?_) <;> first | (exfalso; omega) | conv => whnf) | (refine brP_ndec (fun _ => ?_) (fun _ => ?_) <;> first | (exfalso; omega) | conv => whnf) | ((first | refine callP_a r1 ?_ | refine callP_a r2 ?_ | refine callP_a r3 ?_ | refine callP_a w ?_ | refine callP_a s1 ?_ | refine callP_a d ?_ | refine callP_a h67 ?_ | refine callP_a f1 ?_ | refine callP_a f2 ?_ | refine callP_a m1 ?_ | refine callP_a m2 ?_ | refine callP_a n1 ?_ | refine callP_a l1 ?_ | refine callP_a r4 ?_ | refine callP_a g1 ?_ | refine callP_a i1 ?_ | refine callP_a i2 ?_ | refine callP_a s2 ?_ | refine callP_a q1 ?_ | refine callP_a t1 ?_ | refine And.intro (DrawOk.mk (by kernel_rfl)) ?_ | refine okI ?_ | refine brP_true (Nat.beq_refl _) ?_ | refine brP_intro (fun _ => ?_) (fun _ => ?_) | refine bndI ?_ | intro _) <;> conv => whnf)))
  (refine ⟨⟨?_⟩, trivial⟩; rfl)
end Go.Proofs.Ytmggofcaeolaiaa
namespace Go.Proofs.Ytmggofcaeolaiaa
open Go.Am Go.Proofs Go
abbrev RF := Row × List Stp
def rfNext (own : RF) (all : List RF) (s : Stp) : List RF :=
  if (own.1.one s).2 = 0 ∧ (all.any fun f => decide (f.1.look = (own.1.one s).1.look)) = false then all ++ [((own.1.one s).1, own.2 ++ [s])] else all
def rfSeek (L : List Stp) (most : Int) : Nat → Nat → List RF → List RF
  | 0, _, all => all
  | n + 1, i, all => match all[i]? with
    | none => all
    | some own => if (own.2.length : Int) = most then all else rfSeek L most n (i + 1) (L.foldl (rfNext own) all)
def Row.rf (r : Row) (most : Int) : List RF := rfSeek r.steps most 248833 0 [(r, [])]
def hasOk (r : Row) : Prop := ∀ f ∈ r.figs, 0 ≤ f.has ∧ f.has ≤ 5
theorem lookFrom_bound : ∀ (l : List Fig) (n : Int) (k : Nat), (∀ f ∈ l, 0 ≤ f.has ∧ f.has ≤ 5) → 0 ≤ n → n < 12 ^ k → 0 ≤ lookFrom n l ∧ lookFrom n l < 12 ^ (k + l.length)
  | [], n, k, _, h0, h => ⟨h0, h⟩
  | f :: l, n, k, hh, h0, h => by
    obtain ⟨f0, f1⟩ := hh f (List.mem_cons_self ..)
    have hp : (12 : Int) ^ (k + 1) = 12 ^ k * 12 := Int.pow_succ _ _
    have := lookFrom_bound l (12 * n + 2 * f.has + if f.broken = true then 1 else 0) (k + 1) (fun g hg => hh g (List.mem_cons_of_mem _ hg)) (by split <;> omega) (by rw [hp]; split <;> omega)
    simp only [lookFrom, List.length_cons]
    rw [show k + (l.length + 1) = k + 1 + l.length by omega]
    exact this
theorem look_bound {r : Row} (h5 : r.figs.length ≤ 5) (hh : hasOk r) : 0 ≤ r.look ∧ r.look < 248832 := by
  have h := lookFrom_bound r.figs 0 0 hh (Int.le_refl _) (by decide)
  rw [Nat.zero_add] at h
  have hp : (12 : Int) ^ r.figs.length ≤ 248832 := by
    match r.figs.length, h5 with
    | 0, _ => decide
    | 1, _ => decide
    | 2, _ => decide
    | 3, _ => decide
    | 4, _ => decide
    | 5, _ => decide
    | n + 6, h => omega
  exact ⟨h.1, by have := h.2; unfold Row.look; omega⟩
structure RfOk (r : Row) (all : List RF) : Prop where
  kept : ∀ f ∈ all, r.Kept f.1 ∧ hasOk f.1
  nodup : (all.map (·.1.look)).Nodup
  many : ∀ f ∈ all, f.2.length < all.length
theorem RfOk.bound {r : Row} (h5 : r.figs.length ≤ 5) {all : List RF} (h : RfOk r all) : all.length ≤ 248832 := by
  have hb : ∀ f ∈ all, 0 ≤ f.1.look ∧ f.1.look < 248832 := fun f hf => look_bound (by rw [(h.kept f hf).1.len]; exact h5) (h.kept f hf).2
  have := nodup_bound 248832 ((all.map (·.1.look)).map Int.toNat) (nodup_map h.nodup fun a ha b hb' e => by
    obtain ⟨f, hf, rfl⟩ := List.mem_map.1 ha
    obtain ⟨g, hg, rfl⟩ := List.mem_map.1 hb'
    have := hb f hf; have := hb g hg
    omega) fun x hx => by
      obtain ⟨p, hp, rfl⟩ := List.mem_map.1 hx
      obtain ⟨f, hf, rfl⟩ := List.mem_map.1 hp
      have := hb f hf
      omega
  simpa using this
theorem rfOk_first {r : Row} (hh : hasOk r) : RfOk r [(r, [])] := by
  refine ⟨fun f hf => ?_, by simp, fun f hf => ?_⟩
  · simp at hf; subst hf; exact ⟨.refl r, hh⟩
  · simp at hf; subst hf; simp
theorem set_has {l : List Fig} (h : ∀ f ∈ l, 0 ≤ f.has ∧ f.has ≤ 5) {i : Nat} {g : Fig} (hg : 0 ≤ g.has ∧ g.has ≤ 5) : ∀ f ∈ l.set i g, 0 ≤ f.has ∧ f.has ≤ 5 := by
  intro f hf
  rcases List.mem_or_eq_of_mem_set hf with h1 | rfl
  · exact h f h1
  · exact hg
theorem getD_has {l : List Fig} (h : ∀ f ∈ l, 0 ≤ f.has ∧ f.has ≤ 5) (i : Nat) : 0 ≤ (l.getD i zeroF).has ∧ (l.getD i zeroF).has ≤ 5 := by
  rw [List.getD_eq_getElem?_getD]
  cases hi : l[i]? with
  | none => exact ⟨by decide, by decide⟩
  | some q => exact h q (List.mem_of_getElem? hi)
theorem one_has {r : Row} (h : hasOk r) (s : Stp) : hasOk (r.one s).1 := by
  unfold hasOk Row.one
  split
  · split
    · exact set_has h (getD_has h _)
    · exact h
  · split
    · exact set_has (g := (r.figs.getD s.b.toNat zeroF).take (r.figs.getD s.a.toNat zeroF)) (set_has (g := (r.figs.getD s.a.toNat zeroF).take (r.figs.getD s.b.toNat zeroF)) h (getD_has h _)) (getD_has h _)
    · exact h
theorem RfOk.next {r : Row} {own : RF} {all : List RF} (h : RfOk r all) (ho : own ∈ all) (s : Stp) : RfOk r (rfNext own all s) ∧ own ∈ rfNext own all s ∧ ∀ i : Nat, all[i]? = some own → (rfNext own all s)[i]? = some own := by
  unfold rfNext
  split
  · rename_i hc
    refine ⟨⟨fun f hf => ?_, ?_, fun f hf => ?_⟩, List.mem_append_left _ ho, fun i hi => by rw [List.getElem?_append_left (List.getElem?_eq_some_iff.1 hi).1]; exact hi⟩
    · rcases List.mem_append.1 hf with h1 | h1
      · exact h.kept f h1
      · simp at h1; subst h1
        exact ⟨(h.kept own ho).1.trans (own.1.one_kept s), one_has (h.kept own ho).2 s⟩
    · rw [List.map_append, List.nodup_append]
      refine ⟨h.nodup, by simp, fun a ha b hb e => ?_⟩
      simp at hb; subst hb; subst e
      obtain ⟨f, hf, e⟩ := List.mem_map.1 ha
      have := hc.2
      rw [List.any_eq_false] at this
      exact this f hf (by simpa using e)
    · rcases List.mem_append.1 hf with h1 | h1
      · have := h.many f h1; simp; omega
      · simp at h1; subst h1
        have := h.many own ho; simp; omega
  · exact ⟨h, ho, fun i hi => hi⟩
end Go.Proofs.Ytmggofcaeolaiaa
namespace Go.Proofs.Ytmggofcaeolaiaa
open Go.Am Go.Proofs Go
def Stp.lt (s t : Stp) : Prop := s.a < t.a ∨ (s.a = t.a ∧ s.b < t.b)
theorem cmpS_lt (s t : Stp) : cmpS s t < 0 ↔ s.lt t := by
  unfold cmpS Stp.lt
  simp only [orL]
  split
  · split <;> omega
  · omega
theorem Stp.eq_of {s t : Stp} (h : ¬ s.lt t) (k : ¬ t.lt s) : s = t := by
  obtain ⟨a, b⟩ := s
  obtain ⟨c, d⟩ := t
  simp only [Stp.lt] at h k
  have : a = c := by omega
  have : b = d := by omega
  simp_all
theorem Stp.lt_asymm {s t : Stp} (h : s.lt t) : ¬ t.lt s := by
  unfold Stp.lt at *; omega
theorem Stp.le_trans {s t u : Stp} (h : ¬ t.lt s) (k : ¬ u.lt t) : ¬ u.lt s := by
  unfold Stp.lt at *; omega
def Ord (l : List Stp) : Prop := l.Pairwise fun s t => ¬ t.lt s
theorem ord_append {l m : List Stp} : Ord (l ++ m) ↔ Ord l ∧ Ord m ∧ ∀ a ∈ l, ∀ b ∈ m, ¬ b.lt a := List.pairwise_append
theorem bub_ins (T0 : List Stp) : ∀ (n : Nat) (P : List Stp) (x : Stp) (T : List Stp), P.length = n → Ord P → ∃ Q, bub n (P ++ x :: T) = Q ++ T ∧ Q.Perm (P ++ [x]) ∧ Ord Q
  | 0, P, x, T, hl, hP => by
    obtain rfl := List.length_eq_zero_iff.1 hl
    exact ⟨[x], rfl, .refl _, by simp [Ord]⟩
  | n + 1, P, x, T, hl, hP => by
    have hne : P ≠ [] := by intro e; subst e; simp at hl
    obtain ⟨P', y, rfl⟩ : ∃ P' y, P = P' ++ [y] := ⟨P.dropLast, P.getLast hne, (List.dropLast_concat_getLast hne).symm⟩
    have hl' : P'.length = n := by simpa using hl
    obtain ⟨h1, _, h3⟩ := ord_append.1 hP
    have hx : (P' ++ [y] ++ x :: T)[n + 1]? = some x := by
      rw [List.getElem?_append_right (by simp; omega)]; simp [hl']
    have hy : (P' ++ [y] ++ x :: T)[n]? = some y := by
      rw [List.append_assoc, List.getElem?_append_right (by omega)]; simp [hl']
    unfold bub
    rw [hx, hy]
    simp only
    split
    · rename_i hc
      have hc := (cmpS_lt x y).1 hc
      have hs : ((P' ++ [y] ++ x :: T).set (n + 1) y).set n x = P' ++ x :: (y :: T) := by
        rw [List.set_append_right _ _ (by simp; omega)]
        simp only [List.length_append, List.length_cons, List.length_nil, hl', Nat.sub_self, List.set_cons_zero]
        rw [show P' ++ [y] ++ y :: T = P' ++ (y :: y :: T) by simp, List.set_append_right _ _ (by omega)]
        simp [hl']
      rw [hs]
      obtain ⟨Q, e, hp, ho⟩ := bub_ins T0 n P' x (y :: T) hl' h1
      refine ⟨Q ++ [y], by rw [e]; simp, ?_, ord_append.2 ⟨ho, by simp [Ord], fun a ha b hb => ?_⟩⟩
      · exact (hp.append_right [y]).trans (by
          rw [List.append_assoc, List.append_assoc]
          exact List.Perm.append_left P' (List.Perm.swap y x []))
      · simp at hb; subst hb
        rcases List.mem_append.1 (hp.mem_iff.1 ha) with h | h
        · exact h3 a h b (by simp)
        · simp at h; subst h; exact Stp.lt_asymm hc
    · rename_i hc
      have hc := fun h => hc ((cmpS_lt x y).2 h)
      refine ⟨P' ++ [y] ++ [x], by simp, .refl _, ord_append.2 ⟨hP, by simp [Ord], fun a ha b hb => ?_⟩⟩
      simp at hb; subst hb
      rcases List.mem_append.1 ha with h | h
      · exact Stp.le_trans (h3 a h y (by simp)) hc
      · simp at h; subst h; exact hc
theorem srtI_ord : ∀ (k i : Nat) (P R T : List Stp), P.length = i → R.length = k → Ord P → ∃ Q, srtI k i (P ++ R ++ T) = Q ++ T ∧ Q.Perm (P ++ R) ∧ Ord Q
  | 0, i, P, R, T, hi, hk, hP => by
    obtain rfl := List.length_eq_zero_iff.1 hk
    exact ⟨P, by simp [srtI], by simp, hP⟩
  | k + 1, i, P, R, T, hi, hk, hP => by
    cases R with
    | nil => simp at hk
    | cons x R =>
      obtain ⟨Q, e, hp, ho⟩ := bub_ins [] i P x (R ++ T) hi hP
      have hQ : Q.length = i + 1 := by rw [hp.length_eq]; simp [hi]
      obtain ⟨Q', e', hp', ho'⟩ := srtI_ord k (i + 1) Q R T hQ (by simpa using hk) ho
      refine ⟨Q', ?_, hp'.trans ?_, ho'⟩
      · unfold srtI
        rw [show P ++ x :: R ++ T = P ++ x :: (R ++ T) by simp, e, ← List.append_assoc, e']
      · have := hp.append_right R
        simpa using this
theorem srt_ord (n : Nat) (A T : List Stp) (h : A.length = n) : ∃ Q, srt n (A ++ T) = Q ++ T ∧ Q.Perm A ∧ Ord Q := by
  cases A with
  | nil =>
    simp at h; subst h
    exact ⟨[], by simp [srt, srtI], .refl _, by simp [Ord]⟩
  | cons a A =>
    obtain ⟨Q, e, hp, ho⟩ := srtI_ord (n - 1) 1 [a] A T rfl (by simp at h; omega) (by simp [Ord])
    exact ⟨Q, by simpa [srt] using e, by simpa using hp, ho⟩
theorem ord_eq : ∀ {l m : List Stp}, l.Pairwise Stp.lt → m.Pairwise Stp.lt → (∀ s, s ∈ l ↔ s ∈ m) → l = m
  | [], [], _, _, _ => rfl
  | [], y :: m, _, _, h => absurd ((h y).2 (by simp)) (by simp)
  | x :: l, [], _, _, h => absurd ((h x).1 (by simp)) (by simp)
  | x :: l, y :: m, hl, hm, h => by
    obtain ⟨hx, hl2⟩ := List.pairwise_cons.1 hl
    obtain ⟨hy, hm2⟩ := List.pairwise_cons.1 hm
    have e : x = y := by
      rcases List.mem_cons.1 ((h x).1 (by simp)) with e | h1
      · exact e
      · rcases List.mem_cons.1 ((h y).2 (by simp)) with e | h2
        · exact e.symm
        · exact absurd (hy x h1) (Stp.lt_asymm (hx y h2))
    subst e
    have hmem : ∀ s, s ∈ l ↔ s ∈ m := fun s => by
      refine ⟨fun hs => ?_, fun hs => ?_⟩
      · rcases List.mem_cons.1 ((h s).1 (List.mem_cons_of_mem _ hs)) with e | h1
        · subst e; exact absurd (hx s hs) (Stp.lt_asymm (hx s hs))
        · exact h1
      · rcases List.mem_cons.1 ((h s).2 (List.mem_cons_of_mem _ hs)) with e | h1
        · subst e; exact absurd (hy s hs) (Stp.lt_asymm (hy s hs))
        · exact h1
    rw [ord_eq hl2 hm2 hmem]
theorem ord_strict {l : List Stp} (h : Ord l) (hn : l.Nodup) : l.Pairwise Stp.lt := by
  induction l with
  | nil => exact .nil
  | cons x l ih =>
    obtain ⟨h1, h2⟩ := List.pairwise_cons.1 h
    obtain ⟨k1, k2⟩ := List.nodup_cons.1 hn
    refine List.pairwise_cons.2 ⟨fun y hy => ?_, ih h2 k2⟩
    by_cases hlt : x.lt y
    · exact hlt
    · have := Stp.eq_of hlt (h1 y hy)
      subst this
      exact absurd hy k1
theorem stepsIn_mem (r : Row) (a : Nat) : ∀ (k b : Nat) (s : Stp), s ∈ r.stepsIn a b k ↔ ∃ c : Nat, b ≤ c ∧ c < b + k ∧ s = ⟨a, c⟩ ∧ r.isStep a c = true
  | 0, b, s => by simp [Row.stepsIn]; omega
  | k + 1, b, s => by
    have ih := stepsIn_mem r a k (b + 1) s
    unfold Row.stepsIn
    split
    · rename_i h
      rw [List.mem_cons, ih]
      constructor
      · rintro (rfl | ⟨c, h1, h2, h3, h4⟩)
        · exact ⟨b, Nat.le_refl _, by omega, rfl, h⟩
        · exact ⟨c, by omega, by omega, h3, h4⟩
      · rintro ⟨c, h1, h2, h3, h4⟩
        by_cases e : c = b
        · subst e; exact .inl h3
        · exact .inr ⟨c, by omega, by omega, h3, h4⟩
    · rename_i h
      rw [ih]
      constructor
      · rintro ⟨c, h1, h2, h3, h4⟩
        exact ⟨c, by omega, by omega, h3, h4⟩
      · rintro ⟨c, h1, h2, h3, h4⟩
        have : c ≠ b := by intro e; subst e; exact h h4
        exact ⟨c, by omega, by omega, h3, h4⟩
theorem stepsIn_ord (r : Row) (a : Nat) : ∀ (k b : Nat), (r.stepsIn a b k).Pairwise Stp.lt
  | 0, b => .nil
  | k + 1, b => by
    unfold Row.stepsIn
    split
    · refine List.pairwise_cons.2 ⟨fun s hs => ?_, stepsIn_ord r a k (b + 1)⟩
      obtain ⟨c, h1, _, rfl, _⟩ := (stepsIn_mem r a k (b + 1) s).1 hs
      exact .inr ⟨rfl, by simp only; omega⟩
    · exact stepsIn_ord r a k (b + 1)
theorem stepsFrom_mem (r : Row) : ∀ (k a : Nat) (s : Stp), s ∈ r.stepsFrom a k ↔ ∃ c d : Nat, a ≤ c ∧ c < a + k ∧ c ≤ d ∧ d < c + (r.figs.length - c) ∧ s = ⟨c, d⟩ ∧ r.isStep c d = true
  | 0, a, s => by simp [Row.stepsFrom]; omega
  | k + 1, a, s => by
    unfold Row.stepsFrom
    rw [List.mem_append, stepsIn_mem, stepsFrom_mem r k (a + 1) s]
    constructor
    · rintro (⟨d, h1, h2, h3, h4⟩ | ⟨c, d, h1, h2, h3⟩)
      · exact ⟨a, d, Nat.le_refl _, by omega, h1, h2, h3, h4⟩
      · exact ⟨c, d, by omega, by omega, h3⟩
    · rintro ⟨c, d, h1, h2, h3, h4, h5, h6⟩
      by_cases e : c = a
      · subst e; exact .inl ⟨d, h3, h4, h5, h6⟩
      · exact .inr ⟨c, d, by omega, by omega, h3, h4, h5, h6⟩
theorem stepsFrom_ord (r : Row) : ∀ (k a : Nat), (r.stepsFrom a k).Pairwise Stp.lt
  | 0, a => .nil
  | k + 1, a => by
    unfold Row.stepsFrom
    refine List.pairwise_append.2 ⟨stepsIn_ord r a _ _, stepsFrom_ord r k (a + 1), fun s hs t ht => ?_⟩
    obtain ⟨d, _, _, rfl, _⟩ := (stepsIn_mem r a _ _ s).1 hs
    obtain ⟨c, e, h1, _, _, _, rfl, _⟩ := (stepsFrom_mem r k (a + 1) t).1 ht
    exact .inl (by simp only; omega)
theorem Row.Valid.mem_steps {r : Row} (h : r.Valid) (s : Stp) : s ∈ r.steps ↔ s ∈ r.beside ∨ (s = ⟨r.bench, r.bench⟩ ∧ r.bench ≠ -1) := by
  have hb := h.benchB
  have hbd := fun s hs => h.bound (s := s) hs
  unfold Row.steps
  rw [stepsFrom_mem]
  constructor
  · rintro ⟨c, d, h1, h2, h3, h4, rfl, h6⟩
    simp only [Row.isStep, Bool.or_eq_true, Bool.and_eq_true, decide_eq_true_eq] at h6
    rcases h6 with h6 | ⟨e1, e2⟩
    · obtain ⟨x, hx, e⟩ := List.any_eq_true.1 h6
      have e : (⟨c, d⟩ : Stp) = x := by simpa using e
      exact .inl (e ▸ hx)
    · refine .inr ⟨?_, by omega⟩
      rw [← e1, ← e2]
  · rintro (hs | ⟨rfl, hne⟩)
    · have := hbd s hs
      obtain ⟨a, b⟩ := s
      simp only at this
      obtain ⟨c, rfl⟩ : ∃ c : Nat, a = c := ⟨a.toNat, by omega⟩
      obtain ⟨d, rfl⟩ : ∃ d : Nat, b = d := ⟨b.toNat, by omega⟩
      refine ⟨c, d, by omega, by omega, by omega, by omega, rfl, ?_⟩
      simp only [Row.isStep, Bool.or_eq_true]
      exact .inl (List.any_eq_true.2 ⟨_, hs, by simp⟩)
    · obtain ⟨c, hc⟩ : ∃ c : Nat, r.bench = c := ⟨r.bench.toNat, by omega⟩
      refine ⟨c, c, by omega, by omega, by omega, by omega, by rw [hc], ?_⟩
      simp [Row.isStep, hc]
theorem Row.Valid.sorted {r : Row} (h : r.Valid) : r.sorted = r.steps := by
  have hb := h.benchB
  have hbd := fun s hs => h.bound (s := s) hs
  have hn := h.nodup
  have hnb : (⟨r.bench, r.bench⟩ : Stp) ∉ r.beside := fun hm => by have := hbd _ hm; simp at this
  have mem := fun s => h.mem_steps s
  have ord := stepsFrom_ord r r.figs.length 0
  unfold Row.sorted
  split
  · rename_i he
    obtain ⟨Q, e, hp, ho⟩ := srt_ord r.beside.length r.beside [zeroS] rfl
    rw [e, ← hp.length_eq, List.take_left]
    refine ord_eq (ord_strict ho (hp.nodup_iff.2 hn)) ord fun s => ?_
    rw [hp.mem_iff]
    refine Iff.trans ?_ (mem s).symm
    simp [he]
  · rename_i he
    obtain ⟨Q, e, hp, ho⟩ := srt_ord (r.beside.length + 1) (r.beside ++ [⟨r.bench, r.bench⟩]) [] (by simp)
    rw [List.append_nil, List.append_nil] at e
    rw [e]
    refine ord_eq (ord_strict ho (hp.nodup_iff.2 ?_)) ord fun s => ?_
    · rw [List.nodup_append]
      exact ⟨hn, by simp, fun a ha b hb e => by simp at hb; subst hb; subst e; exact hnb ha⟩
    · rw [hp.mem_iff, List.mem_append]
      refine Iff.trans ?_ (mem s).symm
      simp [he]
end Go.Proofs.Ytmggofcaeolaiaa
namespace Go.Proofs.Ytmggofcaeolaiaa
open Go.Am Go.Proofs Go
theorem selFrom_congr {g h : Nat → Fig → Bool} : ∀ (l : List Fig) (i : Nat), (∀ j f, l[j]? = some f → g (i + j) f = h (i + j) f) → selFrom g i l = selFrom h i l
  | [], i, _ => rfl
  | x :: l, i, H => by
    have h0 := H 0 x rfl
    rw [Nat.add_zero] at h0
    have ih := selFrom_congr (g := g) (h := h) l (i + 1) fun j f hj => by
      have := H (j + 1) f (by simpa using hj)
      rw [show i + 1 + j = i + (j + 1) by omega]; exact this
    simp only [selFrom, h0, ih]
theorem isWrong_part (f : Fig) : isWrong f f.part = !f.right := by
  obtain ⟨n, h, b, w⟩ := f
  simp only [isWrong, Fig.right, Fig.part, eqL, eqC]
  rw [Bool.eq_iff_iff]
  cases b <;> simp
  intro _
  exact decide_eq_false_iff_not
theorem parts_get {r : Row} (h5 : r.figs.length ≤ 5) {j : Nat} {f : Fig} (hf : r.figs[j]? = some f) : r.parts.getD j zeroP = f.part := by
  have hj := (List.getElem?_eq_some_iff.1 hf).1
  unfold Row.parts partsTo
  rw [List.take_length, List.getD_eq_getElem?_getD, List.getElem?_append_left (by simpa using hj), List.getElem?_map, hf]
  rfl
theorem wrong_bad {r : Row} (h5 : r.figs.length ≤ 5) : r.wrong r.parts = r.bad := by
  unfold Row.wrong Row.bad
  refine selFrom_congr _ 0 fun j f hf => ?_
  simp only [Nat.zero_add]
  rw [parts_get h5 hf, isWrong_part]
theorem zipW_getI : ∀ (l : List Fig) (p : List Part) (i : Nat) (f : Fig) (q : Part), l[i]? = some f → p[i]? = some q → (zipW l p)[i]? = some ⟨f.name, q.kind, q.broken, f.wants⟩
  | [], p, i, f, q, h, _ => by simp at h
  | f :: l, [], i, _, q, _, h => by simp at h
  | f :: l, q :: p, 0, _, _, h, h' => by simp at h h'; subst h h'; rfl
  | f :: l, q :: p, i + 1, _, _, h, h' => by
    simpa [zipW] using zipW_getI l p i _ _ (by simpa using h) (by simpa using h')
theorem zipW_setP : ∀ (l : List Fig) (p : List Part) (i : Nat) (f : Fig) (q : Part), l[i]? = some f → i < p.length → zipW l (p.set i q) = (zipW l p).set i ⟨f.name, q.kind, q.broken, f.wants⟩
  | [], p, i, f, q, h, _ => by simp at h
  | f :: l, [], i, _, q, _, h => by simp at h
  | f :: l, q' :: p, 0, _, _, h, _ => by simp at h; subst h; rfl
  | f :: l, q' :: p, i + 1, _, q, h, h' => by
    simp [zipW, zipW_setP l p i _ q (by simpa using h) (by simpa using h')]
theorem getD_some {α : Type} {l : List α} {i : Nat} {x d : α} (h : l[i]? = some x) : l.getD i d = x := by simp [List.getD, h]
theorem one_with (r : Row) (hg : r.Good) (p : List Part) (hp : p.length = 5) (s : Stp) : (r.with p).one s = (r.with (r.stepP p s).1, (r.stepP p s).2) := by
  have h5 := hg.len
  have hbe : (r.with p).bench = r.bench := rfl
  have hbs : (r.with p).beside = r.beside := rfl
  have hfg : (r.with p).figs = zipW r.figs p := rfl
  unfold Row.one Row.stepP
  rw [hbe, hbs, hfg]
  by_cases h1 : s.a = r.bench ∧ s.b = r.bench ∧ r.bench ≠ -1
  · have h1' : s.a = s.b ∧ s.a = r.bench ∧ r.bench ≠ -1 := ⟨by rw [h1.1, h1.2.1], h1.1, h1.2.2⟩
    rw [if_pos h1, if_pos h1']
    have hb := hg.benchB
    have ha : s.a.toNat < r.figs.length := by omega
    obtain ⟨f, hf⟩ : ∃ f, r.figs[s.a.toNat]? = some f := ⟨r.figs[s.a.toNat], by simp [ha]⟩
    obtain ⟨q, hq⟩ : ∃ q, p[s.a.toNat]? = some q := ⟨p[s.a.toNat]'(by omega), by simp⟩
    have hz := zipW_getI _ _ _ _ _ hf hq
    rw [getD_some hz, getD_some hq]
    by_cases hbr : q.broken = true
    · rw [if_pos hbr, if_pos hbr]
      unfold Row.with
      rw [zipW_setP _ _ _ _ _ hf (by omega)]
    · rw [if_neg hbr, if_neg hbr]
  · have h1' : ¬ (s.a = s.b ∧ s.a = r.bench ∧ r.bench ≠ -1) := fun h => h1 ⟨h.2.1, by rw [← h.1]; exact h.2.1, h.2.2⟩
    rw [if_neg h1, if_neg h1']
    by_cases h2 : r.beside.any (s == ·) = true
    · rw [if_pos h2, if_pos h2]
      obtain ⟨x, hx, he⟩ := List.any_eq_true.1 h2
      have hb := hg.bound s (by simpa [beq_iff_eq.1 he] using hx)
      have ha : s.a.toNat < r.figs.length := by omega
      have hbb : s.b.toNat < r.figs.length := by omega
      obtain ⟨f, hf⟩ : ∃ f, r.figs[s.a.toNat]? = some f := ⟨r.figs[s.a.toNat], by simp [ha]⟩
      obtain ⟨q, hq⟩ : ∃ q, p[s.a.toNat]? = some q := ⟨p[s.a.toNat]'(by omega), by simp⟩
      obtain ⟨g, hg'⟩ : ∃ f, r.figs[s.b.toNat]? = some f := ⟨r.figs[s.b.toNat], by simp [hbb]⟩
      obtain ⟨t, ht⟩ : ∃ q, p[s.b.toNat]? = some q := ⟨p[s.b.toNat]'(by omega), by simp⟩
      rw [getD_some (zipW_getI _ _ _ _ _ hf hq), getD_some (zipW_getI _ _ _ _ _ hg' ht), getD_some hq, getD_some ht]
      unfold Row.with Fig.take
      rw [zipW_setP _ _ _ _ _ hg' (by simp; omega), zipW_setP _ _ _ _ _ hf (by omega)]
    · rw [if_neg h2, if_neg h2]
end Go.Proofs.Ytmggofcaeolaiaa
namespace Go.Proofs.Ytmggofcaeolaiaa
open Go.Am Go.Proofs Go
theorem look_inj : ∀ (l m : List Fig) (x y : Int), l.length = m.length → (∀ f ∈ l, 0 ≤ f.has ∧ f.has ≤ 5) → (∀ f ∈ m, 0 ≤ f.has ∧ f.has ≤ 5) → lookFrom x l = lookFrom y m → x = y ∧ l.map Fig.part = m.map Fig.part
  | [], [], x, y, _, _, _, h => ⟨h, rfl⟩
  | [], _ :: _, _, _, h, _, _, _ => by simp at h
  | _ :: _, [], _, _, h, _, _, _ => by simp at h
  | f :: l, g :: m, x, y, hl, h1, h2, h => by
    obtain ⟨a0, a1⟩ := h1 f (List.mem_cons_self ..)
    obtain ⟨b0, b1⟩ := h2 g (List.mem_cons_self ..)
    obtain ⟨e1, e2⟩ := look_inj l m _ _ (by simpa using hl) (fun f hf => h1 f (List.mem_cons_of_mem _ hf)) (fun f hf => h2 f (List.mem_cons_of_mem _ hf)) h
    have hb : f.broken = g.broken ∧ f.has = g.has ∧ x = y := by
      cases hf : f.broken <;> cases hg : g.broken <;> simp only [hf, hg, if_true, Bool.false_eq_true, if_false] at e1 <;> first | (exfalso; omega) | exact ⟨rfl, by omega, by omega⟩
    refine ⟨hb.2.2, ?_⟩
    rw [List.map_cons, List.map_cons, e2, Fig.part, Fig.part, hb.1, hb.2.1]
theorem zipW_map : ∀ (l : List Fig) (p : List Part), l.length ≤ p.length → (zipW l p).map Fig.part = p.take l.length
  | [], p, _ => by cases p <;> simp [zipW]
  | f :: l, [], h => by simp at h
  | f :: l, q :: p, h => by
    have := zipW_map l p (by simpa using h)
    simp only [zipW, List.map_cons, List.length_cons, List.take_succ_cons, this]
    rfl
def Tail (r : Row) (p : List Part) : Prop := p.drop r.figs.length = r.parts.drop r.figs.length
theorem with_has {r : Row} (h5 : r.figs.length ≤ 5) {p : List Part} (hp : okP5 p) : ∀ f ∈ zipW r.figs p, 0 ≤ f.has ∧ f.has ≤ 5 := by
  intro f hf
  have h : f.part ∈ (zipW r.figs p).map Fig.part := List.mem_map_of_mem hf
  rw [zipW_map _ _ (by rw [hp.1]; exact h5)] at h
  exact hp.2 _ (List.mem_of_mem_take h)
theorem look_parts {r : Row} (h5 : r.figs.length ≤ 5) {p q : List Part} (hp : okP5 p) (hq : okP5 q) (tp : Tail r p) (tq : Tail r q) : (r.with p).look = (r.with q).look ↔ p = q := by
  constructor
  · intro h
    have := (look_inj (zipW r.figs p) (zipW r.figs q) 0 0 (by rw [zipW_len, zipW_len]) (with_has h5 hp) (with_has h5 hq) h).2
    rw [zipW_map _ _ (by rw [hp.1]; exact h5), zipW_map _ _ (by rw [hq.1]; exact h5)] at this
    unfold Tail at tp tq
    rw [← List.take_append_drop r.figs.length p, this, tp, ← tq, List.take_append_drop]
  · rintro rfl; rfl
theorem getD_mem {p : List Part} {i : Nat} (h : i < p.length) : p.getD i zeroP ∈ p := by
  rw [List.getD_eq_getElem?_getD, List.getElem?_eq_getElem h]
  exact List.getElem_mem h
theorem stepP_keeps {r : Row} (hg : r.Good) {p : List Part} (hp : p.length = 5) (s : Stp) {K : List Int} (hK : ∀ q ∈ p, q.kind ∈ K) (t : Tail r p) :
    Tail r (r.stepP p s).1 ∧ ∀ q ∈ (r.stepP p s).1, q.kind ∈ K := by
  have h5 := hg.len
  have hb := hg.benchB
  unfold Row.stepP
  split
  · rename_i hc
    have hi : s.a.toNat < r.figs.length := by omega
    split
    · refine ⟨?_, fun q hq => ?_⟩
      · unfold Tail; rw [List.drop_set_of_lt hi]; exact t
      · rcases List.mem_or_eq_of_mem_set hq with h | rfl
        · exact hK q h
        · exact hK (p.getD s.a.toNat zeroP) (getD_mem (p := p) (i := s.a.toNat) (by omega))
    · exact ⟨t, hK⟩
  · split
    · rename_i hc
      obtain ⟨x, hx, e⟩ := List.any_eq_true.1 hc
      have e : s = x := by simpa using e
      subst e
      have hs := hg.bound s hx
      have hi : s.a.toNat < r.figs.length := by omega
      have hj : s.b.toNat < r.figs.length := by omega
      refine ⟨?_, fun q hq => ?_⟩
      · unfold Tail; rw [List.drop_set_of_lt hj, List.drop_set_of_lt hi]; exact t
      · rcases List.mem_or_eq_of_mem_set hq with h | rfl
        · rcases List.mem_or_eq_of_mem_set h with h | rfl
          · exact hK q h
          · exact hK _ (getD_mem (p := p) (i := s.b.toNat) (by omega))
        · exact hK _ (getD_mem (p := p) (i := s.a.toNat) (by omega))
    · exact ⟨t, hK⟩
def posK : List Int → Int → Nat
  | [], _ => 0
  | k :: K, x => if k = x then 0 else posK K x + 1
theorem posK_lt : ∀ {K : List Int} {x : Int}, x ∈ K → posK K x < K.length
  | [], x, h => by simp at h
  | k :: K, x, h => by
    unfold posK
    split
    · simp
    · rename_i hne
      rcases List.mem_cons.1 h with e | h
      · exact absurd e.symm hne
      · have := posK_lt h; simp only [List.length_cons]; omega
theorem posK_inj : ∀ {K : List Int} {x y : Int}, x ∈ K → y ∈ K → posK K x = posK K y → x = y
  | [], x, _, h, _, _ => by simp at h
  | k :: K, x, y, h, h', e => by
    unfold posK at e
    by_cases e1 : k = x
    · by_cases e2 : k = y
      · rw [← e1, ← e2]
      · rw [if_pos e1, if_neg e2] at e; omega
    · by_cases e2 : k = y
      · rw [if_neg e1, if_pos e2] at e; omega
      · rw [if_neg e1, if_neg e2] at e
        rcases List.mem_cons.1 h with e3 | h
        · exact absurd e3.symm e1
        · rcases List.mem_cons.1 h' with e3 | h'
          · exact absurd e3.symm e2
          · exact posK_inj h h' (by omega)
def partsK (K : List Int) : List Part → Nat
  | [] => 0
  | q :: p => 2 * posK K q.kind + (if q.broken = true then 1 else 0) + 10 * partsK K p
theorem partsK_lt {K : List Int} (h5 : K.length ≤ 5) : ∀ {p : List Part}, (∀ q ∈ p, q.kind ∈ K) → partsK K p < 10 ^ p.length
  | [], _ => by simp [partsK]
  | q :: p, h => by
    have h1 := posK_lt (h q (List.mem_cons_self ..))
    have h2 := partsK_lt h5 (p := p) fun x hx => h x (List.mem_cons_of_mem _ hx)
    simp only [partsK, List.length_cons, Nat.pow_succ]
    split <;> omega
theorem partsK_inj {K : List Int} (h5 : K.length ≤ 5) : ∀ {p p' : List Part}, p.length = p'.length → (∀ q ∈ p, q.kind ∈ K) → (∀ q ∈ p', q.kind ∈ K) → partsK K p = partsK K p' → p = p'
  | [], [], _, _, _, _ => rfl
  | [], _ :: _, h, _, _, _ => by simp at h
  | _ :: _, [], h, _, _, _ => by simp at h
  | q :: p, q' :: p', hl, h, h', e => by
    have h1 := posK_lt (h q (List.mem_cons_self ..))
    have h1' := posK_lt (h' q' (List.mem_cons_self ..))
    simp only [partsK] at e
    have hx : posK K q.kind = posK K q'.kind ∧ q.broken = q'.broken ∧ partsK K p = partsK K p' := by
      cases hb : q.broken <;> cases hb' : q'.broken <;> simp only [hb, hb', if_true, Bool.false_eq_true, if_false] at e <;> first | (exfalso; omega) | exact ⟨by omega, rfl, by omega⟩
    have e1 := posK_inj (h q (List.mem_cons_self ..)) (h' q' (List.mem_cons_self ..)) hx.1
    have e2 := partsK_inj h5 (by simpa using hl) (fun x hx => h x (List.mem_cons_of_mem _ hx)) (fun x hx => h' x (List.mem_cons_of_mem _ hx)) hx.2.2
    obtain ⟨k, b⟩ := q
    obtain ⟨k', b'⟩ := q'
    simp only at e1 hx
    rw [e1, hx.2.1, e2]
structure Inv (r : Row) (all : List Found) : Prop where
  ok : FoundOk all
  tail : ∀ f ∈ all, Tail r f.parts
  kinds : ∀ f ∈ all, ∀ q ∈ f.parts, q.kind ∈ r.parts.map (·.kind)
theorem Inv.bound {r : Row} {all : List Found} (h : Inv r all) (hl : r.parts.length = 5) : all.length ≤ 100000 := by
  have hk : (r.parts.map (·.kind)).length ≤ 5 := by rw [List.length_map, hl]; exact Nat.le_refl _
  have hp : ∀ p ∈ all.map Found.parts, okP5 p ∧ ∀ q ∈ p, q.kind ∈ r.parts.map (·.kind) := fun p hp => by
    obtain ⟨f, hf, rfl⟩ := List.mem_map.1 hp
    exact ⟨h.ok.one f hf, h.kinds f hf⟩
  have := nodup_bound 100000 ((all.map Found.parts).map (partsK (r.parts.map (·.kind)))) (nodup_map h.ok.nodup fun a ha b hb e => partsK_inj hk (by rw [(hp a ha).1.1, (hp b hb).1.1]) (hp a ha).2 (hp b hb).2 e) fun x hx => by
    obtain ⟨p, hp', rfl⟩ := List.mem_map.1 hx
    have := partsK_lt hk (hp p hp').2
    rw [(hp p hp').1.1] at this
    exact this
  simpa using this
theorem Inv.next {r : Row} (hg : r.Good) {i : Nat} {own : Found} {all : List Found} (h : Inv r all) (ho : all[i]? = some own) (s : Stp) : Inv r (r.next i own all s) := by
  have hm := List.mem_of_getElem? ho
  have hk := stepP_keeps hg (h.ok.one own hm).1 s (h.kinds own hm) (h.tail own hm)
  have h1 := (h.ok.next (r := r) hm (List.getElem?_eq_some_iff.1 ho).1 s).1
  unfold Row.next at h1 ⊢
  split
  · rename_i hc
    rw [if_pos hc] at h1
    refine ⟨h1, fun f hf => ?_, fun f hf => ?_⟩
    · rcases List.mem_append.1 hf with hf | hf
      · exact h.tail f hf
      · simp at hf; subst hf; exact hk.1
    · rcases List.mem_append.1 hf with hf | hf
      · exact h.kinds f hf
      · simp at hf; subst hf; exact hk.2
  · exact h
theorem next_at {r : Row} {i j : Nat} {own f : Found} {all : List Found} (s : Stp) (h : all[j]? = some f) : (r.next i own all s)[j]? = some f := by
  unfold Row.next
  split
  · rw [List.getElem?_append_left (List.getElem?_eq_some_iff.1 h).1]; exact h
  · exact h
theorem pathF_app {all X : List Found} (h : FoundOk all) : ∀ (n i : Nat), i < all.length → pathF (all ++ X) n i = pathF all n i
  | 0, i, _ => rfl
  | n + 1, i, hi => by
    obtain ⟨f, hf⟩ : ∃ f, all[i]? = some f := ⟨all[i], by simp [hi]⟩
    unfold pathF
    rw [List.getElem?_append_left hi, hf]
    simp only
    have := h.back i f hf
    split
    · rw [pathF_app h n f.behind.toNat (by omega)]
    · rfl
theorem pathTo_app {all : List Found} (h : FoundOk all) (X : List Found) {i : Nat} (hi : i < all.length) : pathTo (all ++ X) i = pathTo all i := by
  unfold pathTo
  rw [pathF_app h _ _ hi]
theorem pathTo_new {all : List Found} {P : List Part} {s : Stp} {i m : Nat} (h0 : FoundOk all) (h : FoundOk (all ++ [⟨P, s, i, m⟩])) (hi : i < all.length) : pathTo (all ++ [⟨P, s, i, m⟩]) all.length = pathTo all i ++ [s] := by
  have e : pathF (all ++ [⟨P, s, i, m⟩]) (all.length + 1) all.length = s :: pathF all (i + 1) i := by
    rw [pathF, List.getElem?_append_right (Nat.le_refl _), Nat.sub_self]
    simp only [List.getElem?_cons_zero]
    rw [if_pos (by omega), Int.toNat_natCast, pathF_fuel h all.length (i + 1) i hi (by omega), pathF_app h0 _ _ hi]
  unfold pathTo
  rw [e, List.reverse_cons]
structure Sim (r : Row) (all : List Found) (rf : List RF) : Prop where
  len : rf.length = all.length
  at_ : ∀ (j : Nat) (f : Found), all[j]? = some f → rf[j]? = some (r.with f.parts, pathTo all j)
  many : ∀ (j : Nat) (f : Found), all[j]? = some f → (pathTo all j).length = f.many
theorem Sim.next {r : Row} (hg : r.Good) {i : Nat} {own : Found} {all : List Found} {rf : List RF} (h : Inv r all) (S : Sim r all rf) (ho : all[i]? = some own) (s : Stp) :
    Sim r (r.next i own all s) (rfNext (r.with own.parts, pathTo all i) rf s) := by
  have h5 := hg.len
  have hm := List.mem_of_getElem? ho
  have hi := (List.getElem?_eq_some_iff.1 ho).1
  have hone := one_with r hg own.parts (h.ok.one own hm).1 s
  have hk := stepP_keeps hg (h.ok.one own hm).1 s (h.kinds own hm) (h.tail own hm)
  have hs := stepP_ok (r := r) (h.ok.one own hm) s
  have hok := (h.ok.next (r := r) hm hi s).1
  have hany : (rf.any fun f => decide (f.1.look = (r.with (r.stepP own.parts s).1).look)) = (all.any fun f => decide (f.parts = (r.stepP own.parts s).1)) := by
    rw [Bool.eq_iff_iff, List.any_eq_true, List.any_eq_true]
    constructor
    · rintro ⟨g, hg', e⟩
      obtain ⟨j, hj⟩ := List.mem_iff_getElem?.1 hg'
      have hjl : j < all.length := by rw [← S.len]; exact (List.getElem?_eq_some_iff.1 hj).1
      obtain ⟨f, hf⟩ : ∃ f, all[j]? = some f := ⟨all[j], by simp [hjl]⟩
      have := S.at_ j f hf
      rw [hj] at this
      cases this
      have hfm := List.mem_of_getElem? hf
      exact ⟨f, hfm, by simpa using (look_parts h5 (h.ok.one f hfm) hs (h.tail f hfm) hk.1).1 (by simpa using e)⟩
    · rintro ⟨f, hfm, e⟩
      obtain ⟨j, hf⟩ := List.mem_iff_getElem?.1 hfm
      exact ⟨_, List.mem_of_getElem? (S.at_ j f hf), by simpa using (look_parts h5 (h.ok.one f hfm) hs (h.tail f hfm) hk.1).2 (by simpa using e)⟩
  have e1 : rfNext (r.with own.parts, pathTo all i) rf s = if (r.stepP own.parts s).2 = 0 ∧ (all.any fun f => decide (f.parts = (r.stepP own.parts s).1)) = false then rf ++ [(r.with (r.stepP own.parts s).1, pathTo all i ++ [s])] else rf := by
    unfold rfNext
    simp only [hone, hany]
  rw [e1]
  unfold Row.next at hok ⊢
  by_cases hc : (r.stepP own.parts s).2 = 0 ∧ (all.any fun f => decide (f.parts = (r.stepP own.parts s).1)) = false
  · rw [if_pos hc] at hok ⊢
    rw [if_pos hc]
    have hnew := pathTo_new h.ok hok hi
    have hat : ∀ (j : Nat) (f : Found), (all ++ [⟨(r.stepP own.parts s).1, s, i, own.many + 1⟩])[j]? = some f → (j < all.length ∧ all[j]? = some f) ∨ (j = all.length ∧ f = ⟨(r.stepP own.parts s).1, s, i, own.many + 1⟩) := fun j f hf => by
      by_cases hj : j < all.length
      · rw [List.getElem?_append_left hj] at hf; exact .inl ⟨hj, hf⟩
      · have hl := (List.getElem?_eq_some_iff.1 hf).1
        simp at hl
        have hj : j = all.length := by omega
        subst hj
        simp at hf
        exact .inr ⟨rfl, hf.symm⟩
    refine ⟨by simp [S.len], fun j f hf => ?_, fun j f hf => ?_⟩
    · rcases hat j f hf with ⟨hj, hf⟩ | ⟨rfl, rfl⟩
      · rw [List.getElem?_append_left (by rw [S.len]; exact hj), S.at_ j f hf, pathTo_app h.ok _ hj]
      · rw [List.getElem?_append_right (by rw [S.len]; exact Nat.le_refl _), S.len, Nat.sub_self, hnew]
        rfl
    · rcases hat j f hf with ⟨hj, hf⟩ | ⟨rfl, rfl⟩
      · rw [pathTo_app h.ok _ hj]; exact S.many j f hf
      · rw [hnew]
        simp [S.many i own ho]
  · rw [if_neg hc, if_neg hc]; exact S
structure Asc (all : List Found) (m : Nat) : Prop where
  ord : (all.map Found.many).Pairwise (· ≤ ·)
  top : ∀ f ∈ all, f.many ≤ m + 1
theorem Asc.next {r : Row} {i : Nat} {own : Found} {all : List Found} (h : Asc all own.many) (s : Stp) : Asc (r.next i own all s) own.many := by
  unfold Row.next
  split
  · refine ⟨?_, fun f hf => ?_⟩
    · rw [List.map_append, List.pairwise_append]
      refine ⟨h.ord, by simp, fun a ha b hb => ?_⟩
      obtain ⟨f, hf, rfl⟩ := List.mem_map.1 ha
      simp at hb; subst hb
      exact h.top f hf
    · rcases List.mem_append.1 hf with hf | hf
      · exact h.top f hf
      · simp at hf; subst hf; exact Nat.le_refl _
  · exact h
theorem Asc.le {all : List Found} {m : Nat} (h : Asc all m) {i j : Nat} {f g : Found} (hij : i ≤ j) (hf : all[i]? = some f) (hg : all[j]? = some g) : f.many ≤ g.many := by
  rcases Nat.eq_or_lt_of_le hij with e | hlt
  · subst e; rw [hf] at hg; cases hg; exact Nat.le_refl _
  · obtain ⟨hj, ej⟩ := List.getElem?_eq_some_iff.1 hg
    obtain ⟨hi, ei⟩ := List.getElem?_eq_some_iff.1 hf
    have := List.pairwise_iff_getElem.1 h.ord i j (by simpa using hi) (by simpa using hj) hlt
    simpa [ei, ej] using this
theorem Sim.fold {r : Row} (hg : r.Good) {i : Nat} {own : Found} {st : List Stp} : ∀ (l : List Stp) (all : List Found) (rf : List RF), Inv r all → Sim r all rf → Asc all own.many → all[i]? = some own → pathTo all i = st →
    Inv r (l.foldl (r.next i own) all) ∧ Sim r (l.foldl (r.next i own) all) (l.foldl (rfNext (r.with own.parts, st)) rf) ∧ Asc (l.foldl (r.next i own) all) own.many ∧ (l.foldl (r.next i own) all)[i]? = some own
  | [], all, rf, h, S, A, ho, _ => ⟨h, S, A, ho⟩
  | s :: l, all, rf, h, S, A, ho, hp => by
    have h1 := h.next hg ho s
    have S1 := S.next hg h ho s
    have ho1 := next_at (r := r) (i := i) (own := own) s ho
    have hp1 : pathTo (r.next i own all s) i = st := by
      rw [← hp]
      unfold Row.next
      split
      · exact pathTo_app h.ok _ (List.getElem?_eq_some_iff.1 ho).1
      · rfl
    rw [hp] at S1
    simp only [List.foldl_cons]
    exact Sim.fold hg l _ _ h1 S1 (A.next s) ho1 hp1
theorem Sim.none {r : Row} {all : List Found} {rf : List RF} (S : Sim r all rf) {i : Nat} (h : all[i]? = none) : rf[i]? = none := by
  rw [List.getElem?_eq_none_iff] at h ⊢
  rw [S.len]; exact h
theorem Asc.up {all : List Found} {own own' : Found} {i : Nat} (A : Asc all own.many) (ho : all[i]? = some own) (ho' : all[i + 1]? = some own') : Asc all own'.many :=
  ⟨A.ord, fun f hf => by have := A.top f hf; have := A.le (Nat.le_succ i) ho ho'; omega⟩
theorem full1 {r : Row} (hv : r.Valid) (hr : r.small) : ∀ (n i : Nat) (all : List Found) (rf : List RF), Inv r all → Sim r all rf → (∀ own, all[i]? = some own → Asc all own.many) →
    Inv r (r.seek (-1) (fun _ => false) n i all).2 ∧ Sim r (r.seek (-1) (fun _ => false) n i all).2 (rfSeek r.steps 100000 n i rf)
  | 0, i, all, rf, h, S, _ => ⟨h, S⟩
  | n + 1, i, all, rf, h, S, A => by
    have hg := hv.good hr
    unfold Row.seek rfSeek
    cases ho : all[i]? with
    | none =>
      rw [S.none ho]
      exact ⟨h, S⟩
    | some own =>
      have hm := List.mem_of_getElem? ho
      rw [S.at_ i own ho]
      have hmany := S.many i own ho
      have hb := h.bound hv.parts.1
      have hlt := h.ok.many own hm
      simp only [Bool.false_eq_true, if_false]
      rw [if_neg (by omega), if_neg (by omega), hv.sorted]
      obtain ⟨h1, S1, A1, ho1⟩ := Sim.fold hg r.steps all rf h S (A own ho) ho rfl
      exact full1 hv hr n (i + 1) _ _ h1 S1 fun own' ho' => A1.up ho1 ho'
end Go.Proofs.Ytmggofcaeolaiaa
namespace Go.Proofs.Ytmggofcaeolaiaa
open Go.Am Go.Proofs Go
theorem Row.Valid.has {r : Row} (h : r.Valid) : hasOk r := fun f hf => by
  obtain ⟨j, hj⟩ := List.mem_iff_getElem?.1 hf
  have := figErr_zero (h.fig j f hj)
  exact ⟨this.1, this.2.1⟩
theorem Row.Kept.small {r q : Row} (h : r.Kept q) (hr : r.small) : q.small := by
  obtain ⟨h1, h2, h3⟩ := hr
  refine ⟨by rw [h.len]; exact h1, by rw [h.beside]; exact h2, fun f hf => ?_⟩
  obtain ⟨i, hi⟩ := List.mem_iff_getElem?.1 hf
  obtain ⟨g, hg, e, _⟩ := h.names i f hi
  rw [e]; exact h3 g (List.mem_of_getElem? hg)
theorem rfFold_ok {r : Row} {own : RF} : ∀ (l : List Stp) (all : List RF), RfOk r all → own ∈ all → RfOk r (l.foldl (rfNext own) all)
  | [], all, h, _ => h
  | s :: l, all, h, ho => by
    simp only [List.foldl_cons]
    exact rfFold_ok l _ (h.next ho s).1 (h.next ho s).2.1
theorem rfSeek_ok {r : Row} {L : List Stp} {most : Int} : ∀ (n i : Nat) (all : List RF), RfOk r all → RfOk r (rfSeek L most n i all)
  | 0, i, all, h => h
  | n + 1, i, all, h => by
    unfold rfSeek
    cases ho : all[i]? with
    | none => exact h
    | some own =>
      simp only
      split
      · exact h
      · exact rfSeek_ok n (i + 1) _ (rfFold_ok L all h (List.mem_of_getElem? ho))
theorem rfNext_at {own x : RF} {all : List RF} {i : Nat} (s : Stp) (h : all[i]? = some x) : (rfNext own all s)[i]? = some x := by
  unfold rfNext
  split
  · rw [List.getElem?_append_left (List.getElem?_eq_some_iff.1 h).1]; exact h
  · exact h
theorem rfFold_at {own x : RF} {i : Nat} : ∀ (l : List Stp) (all : List RF), all[i]? = some x → (l.foldl (rfNext own) all)[i]? = some x
  | [], all, h => h
  | s :: l, all, h => by
    simp only [List.foldl_cons]
    exact rfFold_at l _ (rfNext_at s h)
theorem rfSeek_at {L : List Stp} {most : Int} {x : RF} {j : Nat} : ∀ (n i : Nat) (all : List RF), all[j]? = some x → (rfSeek L most n i all)[j]? = some x
  | 0, i, all, h => h
  | n + 1, i, all, h => by
    unfold rfSeek
    cases ho : all[i]? with
    | none => exact h
    | some own =>
      simp only
      split
      · exact h
      · exact rfSeek_at n (i + 1) _ (rfFold_at L all h)
theorem rf_ok {r : Row} (hv : r.Valid) (most : Int) : RfOk r (r.rf most) := rfSeek_ok _ _ _ (rfOk_first hv.has)
theorem rf_head (r : Row) (most : Int) : (r.rf most)[0]? = some (r, []) := rfSeek_at _ _ _ rfl
def rfewF (all : List RF) : List Stp × Int := match all.find? (fun f => decide (f.1.bad.length = 0)) with
  | some f => (f.2, 0)
  | none => ([], 9)
def Row.rfew (r : Row) : List Stp × Int := if r.check.2.2 = 0 then rfewF (r.rf 100000) else ([], r.check.2.2)
theorem rfew_len (r : Row) : r.rfew.1.length ≤ 248832 := by
  unfold Row.rfew
  split
  · rename_i hc
    have hv := r.valid_iff hc
    have hok := rf_ok hv 100000
    have hbd := hok.bound (check_len hc)
    unfold rfewF
    split
    · rename_i f hf
      have := hok.many f (List.mem_of_find?_eq_some hf)
      simp only; omega
    · simp
  · simp
end Go.Proofs.Ytmggofcaeolaiaa
namespace Go.Proofs.Ytmggofcaeolaiaa
open Go.Am Go.Proofs Go
end Go.Proofs.Ytmggofcaeolaiaa
namespace Go.Proofs.Ytmggofcaeolaiaa
open Go.Am Go.Proofs Go
theorem bad_zip : ∀ (l : List Fig) (p : List Part) (k : Nat) (P : List Part), l.length ≤ p.length → (∀ j, P.getD (k + j) zeroP = p.getD j zeroP) → selFrom (fun _ f => !f.right) k (zipW l p) = selFrom (fun i f => isWrong f (P.getD i zeroP)) k l
  | [], p, k, P, _, _ => by cases p <;> rfl
  | f :: l, [], _, _, h, _ => by simp at h
  | f :: l, q :: p, k, P, h, hP => by
    have h0 : P.getD k zeroP = q := hP 0
    have ih := bad_zip l p (k + 1) P (by simpa using h) fun j => by
      have := hP (j + 1)
      rw [show k + 1 + j = k + (j + 1) by omega, this]; rfl
    have e : isWrong f (P.getD k zeroP) = !(⟨f.name, q.kind, q.broken, f.wants⟩ : Fig).right := by
      rw [h0]
      exact isWrong_part ⟨f.name, q.kind, q.broken, f.wants⟩
    simp only [zipW, selFrom, e, ih]
theorem bad_with {r : Row} (h5 : r.figs.length ≤ 5) {p : List Part} (hp : p.length = 5) : (r.with p).bad = r.wrong p :=
  bad_zip r.figs p 0 p (by omega) fun j => by rw [Nat.zero_add]
theorem sim0 (r : Row) : Sim r [firstF r.parts] [(r, [])] := by
  have hp : pathTo [firstF r.parts] 0 = [] := by simp [pathTo, pathF, firstF]
  refine ⟨rfl, fun j f hf => ?_, fun j f hf => ?_⟩
  · cases j with
    | zero =>
      simp at hf; subst hf
      show some (r, []) = some (r.with r.parts, _)
      rw [r.with_parts, hp]
    | succ j => simp at hf
  · cases j with
    | zero => simp at hf; subst hf; rw [hp]; rfl
    | succ j => simp at hf
theorem inv0 {r : Row} (hv : r.Valid) : Inv r [firstF r.parts] := by
  refine ⟨firstF_ok hv.parts, fun f hf => ?_, fun f hf q hq => ?_⟩
  · simp at hf; subst hf; rfl
  · simp at hf; subst hf; exact List.mem_map_of_mem hq
theorem asc0 (p : List Part) : ∀ own, [firstF p][0]? = some own → Asc [firstF p] own.many := fun own ho => by
  simp at ho; subst ho
  exact ⟨by simp, fun f hf => by simp at hf; subst hf; simp⟩
theorem reach1 {r : Row} (hv : r.Valid) (hr : r.small) : Inv r (r.reach (-1)) ∧ Sim r (r.reach (-1)) (r.rf 100000) :=
  full1 hv hr 248833 0 _ _ (inv0 hv) (sim0 r) (asc0 r.parts)
theorem fold_at {r : Row} {i j : Nat} {own f : Found} : ∀ (l : List Stp) (all : List Found), all[j]? = some f → (l.foldl (r.next i own) all)[j]? = some f
  | [], all, h => h
  | s :: l, all, h => by
    simp only [List.foldl_cons]
    exact fold_at l _ (next_at s h)
theorem fold_ext {r : Row} {i : Nat} {own : Found} : ∀ (l : List Stp) (all : List Found), ∃ Z, l.foldl (r.next i own) all = all ++ Z
  | [], all => ⟨[], by simp⟩
  | s :: l, all => by
    simp only [List.foldl_cons]
    obtain ⟨Z, hZ⟩ := fold_ext (r := r) (i := i) (own := own) l (r.next i own all s)
    rw [hZ]
    unfold Row.next
    split
    · exact ⟨_ :: Z, by rw [List.append_assoc]; rfl⟩
    · exact ⟨Z, rfl⟩
theorem seek_ext {r : Row} {most : Int} {d : List Part → Bool} : ∀ (n i : Nat) (all : List Found), ∃ Z, (r.seek most d n i all).2 = all ++ Z
  | 0, i, all => ⟨[], by simp [Row.seek]⟩
  | n + 1, i, all => by
    unfold Row.seek
    split
    · exact ⟨[], by simp⟩
    · split
      · exact ⟨[], by simp⟩
      · split
        · exact seek_ext n (i + 1) all
        · rename_i own _ _ _
          obtain ⟨Z, hZ⟩ := fold_ext (r := r) (i := i) (own := own) r.sorted all
          obtain ⟨Y, hY⟩ := seek_ext (r := r) (most := most) (d := d) n (i + 1) (r.sorted.foldl (r.next i own) all)
          exact ⟨Z ++ Y, by rw [hY, hZ, List.append_assoc]⟩
theorem seek_at {r : Row} {most : Int} {d : List Part → Bool} {n i j : Nat} {all : List Found} {f : Found} (h : all[j]? = some f) : (r.seek most d n i all).2[j]? = some f := by
  obtain ⟨Z, hZ⟩ := seek_ext (r := r) (most := most) (d := d) n i all
  rw [hZ, List.getElem?_append_left (List.getElem?_eq_some_iff.1 h).1]; exact h
structure Stops (d : List Part → Bool) (n i : Nat) (X : Int × List Found) (F : List Found) : Prop where
  ext : ∃ Z, F = X.2 ++ Z
  hit : ∀ j : Nat, X.1 = j → i ≤ j ∧ (∃ f, X.2[j]? = some f ∧ d f.parts = true) ∧ ∀ (k : Nat) (f : Found), i ≤ k → k < j → X.2[k]? = some f → d f.parts = false
  miss : X.1 = -1 → F = X.2 ∧ ∀ (k : Nat) (f : Found), i ≤ k → k < i + n → X.2[k]? = some f → d f.parts = false
theorem seek_d (r : Row) (d : List Part → Bool) : ∀ (n i : Nat) (all : List Found), Stops d n i (r.seek (-1) d n i all) (r.seek (-1) (fun _ => false) n i all).2
  | 0, i, all => ⟨⟨[], by simp [Row.seek]⟩, fun j h => by simp only [Row.seek] at h; omega, fun _ => ⟨rfl, fun k f h1 h2 => by omega⟩⟩
  | n + 1, i, all => by
    obtain ⟨Z0, hZ0⟩ := seek_ext (r := r) (most := -1) (d := fun _ => false) (n + 1) i all
    unfold Row.seek at hZ0 ⊢
    cases ho : all[i]? with
    | none =>
      simp only
      refine ⟨⟨[], by simp⟩, fun j h => by simp only at h; omega, fun _ => ⟨rfl, fun k f h1 h2 h3 => ?_⟩⟩
      rw [List.getElem?_eq_none_iff] at ho
      have := (List.getElem?_eq_some_iff.1 h3).1
      simp only at this
      omega
    | some own =>
      rw [ho] at hZ0
      have hm : ¬ (own.many : Int) = -1 := by omega
      simp only [Bool.false_eq_true, if_false, if_neg hm] at hZ0 ⊢
      by_cases hd : d own.parts = true
      · rw [if_pos hd]
        refine ⟨⟨Z0, hZ0⟩, fun j h => ?_, fun h => by simp only at h; omega⟩
        simp only at h
        have : j = i := by omega
        subst this
        exact ⟨Nat.le_refl _, ⟨own, ho, hd⟩, fun k f h1 h2 => by omega⟩
      · rw [if_neg hd]
        have hd := Bool.eq_false_iff.2 hd
        have ih := seek_d r d n (i + 1) (r.sorted.foldl (r.next i own) all)
        have hat := seek_at (r := r) (most := -1) (d := d) (n := n) (i := i + 1) (fold_at (r := r) (i := i) (own := own) r.sorted all ho)
        refine ⟨ih.ext, fun j h => ?_, fun h => ?_⟩
        · obtain ⟨h1, h2, h3⟩ := ih.hit j h
          refine ⟨by omega, h2, fun k f k1 k2 k3 => ?_⟩
          by_cases e : k = i
          · subst e; rw [hat] at k3; cases k3; exact hd
          · exact h3 k f (by omega) k2 k3
        · obtain ⟨h1, h2⟩ := ih.miss h
          refine ⟨h1, fun k f k1 k2 k3 => ?_⟩
          by_cases e : k = i
          · subst e; rw [hat] at k3; cases k3; exact hd
          · exact h2 k f (by omega) (by omega) k3
theorem find_at (P : RF → Bool) : ∀ (l : List RF) (j : Nat) (g : RF), l[j]? = some g → P g = true → (∀ (k : Nat) (x : RF), k < j → l[k]? = some x → P x = false) → l.find? P = some g
  | [], j, g, h, _, _ => by simp at h
  | x :: l, 0, g, h, hP, _ => by
    simp at h; subst h
    simp [hP]
  | x :: l, j + 1, g, h, hP, hk => by
    have h0 := hk 0 x (by omega) rfl
    rw [List.find?_cons, h0]
    exact find_at P l j g (by simpa using h) hP fun k y hlt hy => hk (k + 1) y (by omega) (by simpa using hy)
theorem few_rfew (r : Row) (hr : r.small) : r.few = r.rfew := by
  unfold Row.few Row.rfew
  by_cases hc : r.check.2.2 = 0
  · rw [if_pos hc, if_pos hc]
    have hv := r.valid_iff hc
    have h5 := check_len hc
    obtain ⟨hI, S⟩ := reach1 hv hr
    have hs := seek_ok r (-1) (fun p => decide ((r.wrong p).length = 0)) 248833 0 [firstF r.parts] (firstF_ok hv.parts)
    have hd := seek_d r (fun p => decide ((r.wrong p).length = 0)) 248833 0 [firstF r.parts]
    have hb := hI.ok.bound
    have hP : ∀ (k : Nat) (f : Found), (r.reach (-1))[k]? = some f → ∃ g, (r.rf 100000)[k]? = some g ∧ g.2 = pathTo (r.reach (-1)) k ∧ decide (g.1.bad.length = 0) = decide ((r.wrong f.parts).length = 0) := fun k f hf =>
      ⟨_, S.at_ k f hf, rfl, by simp only; rw [bad_with h5 (hI.ok.one f (List.mem_of_getElem? hf)).1]⟩
    unfold Row.fewP Row.found rfewF
    have hF : r.reach (-1) = (r.seek (-1) (fun _ => false) 248833 0 [firstF r.parts]).2 := rfl
    rw [← hF] at hd
    generalize r.seek (-1) (fun p => decide ((r.wrong p).length = 0)) 248833 0 [firstF r.parts] = X at *
    generalize r.reach (-1) = F at *
    rcases hs.2 with e | ⟨j, e, hj⟩
    · have hlt : X.1 < 0 := by omega
      simp only [if_pos hlt, Bool.false_eq_true, if_false]
      obtain ⟨rfl, hm⟩ := hd.miss e
      have hn : (r.rf 100000).find? (fun f => decide (f.1.bad.length = 0)) = none := by
        rw [List.find?_eq_none]
        intro g hg
        obtain ⟨k, hk⟩ := List.mem_iff_getElem?.1 hg
        have hkl := (List.getElem?_eq_some_iff.1 hk).1
        rw [S.len] at hkl
        obtain ⟨f, hf⟩ : ∃ f, X.2[k]? = some f := ⟨X.2[k], by simp [hkl]⟩
        obtain ⟨g', hg', _, hd'⟩ := hP k f hf
        rw [hk] at hg'; cases hg'
        rw [hd', hm k f (Nat.zero_le _) (by omega) hf]
        simp
      rw [hn]
    · obtain ⟨_, ⟨f, hf, hdf⟩, hlt⟩ := hd.hit j e
      obtain ⟨Z, hZ⟩ := hd.ext
      have hfF : ∀ (k : Nat) (x : Found), X.2[k]? = some x → F[k]? = some x := fun k x hx => by
        rw [hZ, List.getElem?_append_left (List.getElem?_eq_some_iff.1 hx).1]; exact hx
      obtain ⟨g, hg, hg2, hgd⟩ := hP j f (hfF j f hf)
      have hfind : (r.rf 100000).find? (fun f => decide (f.1.bad.length = 0)) = some g := by
        refine find_at _ _ j g hg (by rw [hgd]; exact hdf) fun k x hk hx => ?_
        obtain ⟨y, hy⟩ : ∃ y, X.2[k]? = some y := ⟨X.2[k]'(by omega), by simp [show k < X.2.length by omega]⟩
        obtain ⟨g', hg', _, hd'⟩ := hP k y (hfF k y hy)
        rw [hx] at hg'; cases hg'
        rw [hd']; exact hlt k y (Nat.zero_le _) hk hy
      have hnl : ¬ X.1 < 0 := by omega
      simp only [if_neg hnl, if_true, hfind]
      rw [hg2, e, Int.toNat_natCast, hZ, pathTo_app hs.1 Z hj]
  · rw [if_neg hc, if_neg hc]
theorem firstFrom_all {α : Type} (g : Nat → α → Int) : ∀ (l : List α) (i : Nat), (∀ (j : Nat) (x : α), l[j]? = some x → g (i + j) x = 0) → (firstFrom g i l).2 = 0
  | [], i, _ => rfl
  | x :: l, i, h => by
    have h0 := h 0 x rfl
    rw [Nat.add_zero] at h0
    simp only [firstFrom, h0, if_true]
    refine firstFrom_all g l (i + 1) fun j y hy => ?_
    rw [show i + 1 + j = i + (j + 1) by omega]
    exact h (j + 1) y (by simpa using hy)
end Go.Proofs.Ytmggofcaeolaiaa
namespace Go.Proofs.Ytmggofcaeolaiaa
open Go.Am Go.Proofs Go
theorem after_append : ∀ (u v : List Stp) (r : Row), r.after (u ++ v) = if (r.after u).2 = 0 then (r.after u).1.after v else r.after u
  | [], v, r => by simp [Row.after]
  | s :: u, v, r => by
    by_cases h : (r.one s).2 = 0
    · simp only [List.cons_append, Row.after, if_pos h]
      exact after_append u v _
    · simp only [List.cons_append, Row.after, if_neg h]
theorem after_snoc {u : List Stp} {s : Stp} {r : Row} (h : (r.after (u ++ [s])).2 = 0) : (r.after u).2 = 0 ∧ ((r.after u).1.one s).2 = 0 ∧ r.after (u ++ [s]) = (((r.after u).1.one s).1, 0) := by
  rw [after_append] at h ⊢
  by_cases hu : (r.after u).2 = 0
  · rw [if_pos hu] at h ⊢
    refine ⟨hu, ?_⟩
    simp only [Row.after] at h ⊢
    by_cases h1 : ((r.after u).1.one s).2 = 0
    · rw [if_pos h1]; exact ⟨h1, rfl⟩
    · rw [if_neg h1] at h; exact absurd h h1
  · rw [if_neg hu] at h; exact absurd h hu
theorem snoc_after {u : List Stp} {s : Stp} {r q : Row} (h : r.after u = (q, 0)) (h1 : (q.one s).2 = 0) : r.after (u ++ [s]) = ((q.one s).1, 0) := by
  rw [after_append, h]
  simp only [if_true, Row.after]
  rw [if_pos h1]
theorem look_eq {r a b : Row} (ha : r.Kept a) (hb : r.Kept b) (oa : hasOk a) (ob : hasOk b) (h : a.look = b.look) : a = b := by
  have hp := (look_inj a.figs b.figs 0 0 (by rw [ha.len, hb.len]) oa ob h).2
  have hf : a.figs = b.figs := by
    refine List.ext_getElem? fun i => ?_
    by_cases hi : i < r.figs.length
    · obtain ⟨f, hf⟩ : ∃ f, a.figs[i]? = some f := ⟨a.figs[i]'(by rw [ha.len]; exact hi), by simp [show i < a.figs.length by rw [ha.len]; exact hi]⟩
      obtain ⟨g, hg⟩ : ∃ g, b.figs[i]? = some g := ⟨b.figs[i]'(by rw [hb.len]; exact hi), by simp [show i < b.figs.length by rw [hb.len]; exact hi]⟩
      obtain ⟨x, hx, e1, e2⟩ := ha.names i f hf
      obtain ⟨y, hy, e3, e4⟩ := hb.names i g hg
      rw [hx] at hy; cases hy
      have e5 : (a.figs.map Fig.part)[i]? = (b.figs.map Fig.part)[i]? := by rw [hp]
      rw [List.getElem?_map, List.getElem?_map, hf, hg] at e5
      simp only [Option.map_some, Option.some.injEq, Fig.part, Part.mk.injEq] at e5
      rw [hf, hg]
      obtain ⟨n, h1, b1, w⟩ := f
      obtain ⟨n', h1', b1', w'⟩ := g
      simp only at e1 e2 e3 e4 e5
      rw [e1, e2, e5.1, e5.2, e3, e4]
    · rw [List.getElem?_eq_none (by rw [ha.len]; omega), List.getElem?_eq_none (by rw [hb.len]; omega)]
  have hbe : a.beside = b.beside := ha.beside.trans hb.beside.symm
  have hbn : a.bench = b.bench := ha.bench.trans hb.bench.symm
  obtain ⟨f, x, y⟩ := a
  obtain ⟨f', x', y'⟩ := b
  simp only at hf hbe hbn
  rw [hf, hbe, hbn]
def lexlt : List Stp → List Stp → Prop
  | x :: u, y :: v => x.lt y ∨ (x = y ∧ lexlt u v)
  | _, _ => False
def wlt (u v : List Stp) : Prop := u.length < v.length ∨ (u.length = v.length ∧ lexlt u v)
def wle (u v : List Stp) : Prop := u = v ∨ wlt u v
theorem Stp.lt_trans {s t u : Stp} (h : s.lt t) (k : t.lt u) : s.lt u := by
  unfold Stp.lt at *; omega
theorem lexlt_trans : ∀ {u v w : List Stp}, lexlt u v → lexlt v w → lexlt u w
  | x :: u, y :: v, z :: w, h, k => by
    rcases h with h | ⟨rfl, h⟩
    · rcases k with k | ⟨rfl, k⟩
      · exact .inl (Stp.lt_trans h k)
      · exact .inl h
    · rcases k with k | ⟨rfl, k⟩
      · exact .inl k
      · exact .inr ⟨rfl, lexlt_trans h k⟩
  | [], _, _, h, _ => h.elim
  | _ :: _, [], _, h, _ => h.elim
  | _ :: _, _ :: _, [], _, k => k.elim
theorem lexlt_append : ∀ {u v : List Stp} (a b : List Stp), lexlt u v → lexlt (u ++ a) (v ++ b)
  | x :: u, y :: v, a, b, h => by
    rcases h with h | ⟨rfl, h⟩
    · exact .inl h
    · exact .inr ⟨rfl, lexlt_append a b h⟩
  | [], _, _, _, h => h.elim
  | _ :: _, [], _, _, h => h.elim
theorem lexlt_snoc {s t : Stp} (h : s.lt t) : ∀ u : List Stp, lexlt (u ++ [s]) (u ++ [t])
  | [] => .inl h
  | x :: u => .inr ⟨rfl, lexlt_snoc h u⟩
theorem wlt_trans {u v w : List Stp} (h : wlt u v) (k : wlt v w) : wlt u w := by
  rcases h with h | ⟨e, h⟩
  · rcases k with k | ⟨e', _⟩
    · exact .inl (by omega)
    · exact .inl (by omega)
  · rcases k with k | ⟨e', k⟩
    · exact .inl (by omega)
    · exact .inr ⟨by omega, lexlt_trans h k⟩
theorem wle_trans {u v w : List Stp} (h : wle u v) (k : wle v w) : wle u w := by
  rcases h with rfl | h
  · exact k
  · rcases k with rfl | k
    · exact .inr h
    · exact .inr (wlt_trans h k)
theorem wle_len {u v : List Stp} (h : wle u v) : u.length ≤ v.length := by
  rcases h with rfl | h | ⟨e, _⟩
  · exact Nat.le_refl _
  · omega
  · omega
theorem wlt_snoc {u v : List Stp} (h : wlt u v) (s t : Stp) : wlt (u ++ [s]) (v ++ [t]) := by
  rcases h with h | ⟨e, h⟩
  · exact .inl (by simp; omega)
  · exact .inr ⟨by simp [e], lexlt_append _ _ h⟩
theorem wle_snoc {u v : List Stp} (h : wle u v) (s : Stp) : wle (u ++ [s]) (v ++ [s]) := by
  rcases h with rfl | h
  · exact .inl rfl
  · exact .inr (wlt_snoc h s s)
structure Bfs (r : Row) (L : List Stp) (most : Int) (i : Nat) (T : List Stp) (all : List RF) : Prop where
  ok : RfOk r all
  path : ∀ f ∈ all, r.after f.2 = (f.1, 0) ∧ ∀ s ∈ f.2, s ∈ L
  ord : (all.map (·.2)).Pairwise wlt
  closed : ∀ (k : Nat) (f : RF), k < i → all[k]? = some f → ∀ s ∈ L, (f.1.one s).2 = 0 → ∃ g ∈ all, g.1 = (f.1.one s).1 ∧ wle g.2 (f.2 ++ [s])
  part : ∀ own, all[i]? = some own → ∀ s ∈ T, (own.1.one s).2 = 0 → ∃ g ∈ all, g.1 = (own.1.one s).1 ∧ wle g.2 (own.2 ++ [s])
  src : ∀ f ∈ all, f.2 = [] ∨ ∃ (k : Nat) (g : RF) (t : Stp), all[k]? = some g ∧ f.2 = g.2 ++ [t] ∧ (k < i ∨ (k = i ∧ t ∈ T))
  proc : ∀ (k : Nat) (f : RF), k < i → all[k]? = some f → (f.2.length : Int) ≠ most
  own : T ≠ [] → ∀ f, all[i]? = some f → (f.2.length : Int) ≠ most
theorem ord_at {all : List RF} (h : (all.map (·.2)).Pairwise wlt) {i j : Nat} {f g : RF} (hij : i < j) (hf : all[i]? = some f) (hg : all[j]? = some g) : wlt f.2 g.2 := by
  obtain ⟨hj, ej⟩ := List.getElem?_eq_some_iff.1 hg
  obtain ⟨hi, ei⟩ := List.getElem?_eq_some_iff.1 hf
  have := List.pairwise_iff_getElem.1 h i j (by simpa using hi) (by simpa using hj) hij
  simpa [ei, ej] using this
theorem Bfs.next {r : Row} {L T : List Stp} {most : Int} {i : Nat} {all : List RF} {own : RF} {s : Stp} (h : Bfs r L most i T all) (ho : all[i]? = some own) (hT : ∀ t ∈ T, t.lt s) (hs : s ∈ L) (hmo : (own.2.length : Int) ≠ most) : Bfs r L most i (T ++ [s]) (rfNext own all s) := by
  have hm := List.mem_of_getElem? ho
  have hok := h.ok.next hm s
  have hkq := h.ok.kept own hm
  have hat : ∀ (k : Nat) (f : RF), all[k]? = some f → (rfNext own all s)[k]? = some f := fun k f hf => rfNext_at s hf
  by_cases hc : (own.1.one s).2 = 0 ∧ (all.any fun f => decide (f.1.look = (own.1.one s).1.look)) = false
  · have e : rfNext own all s = all ++ [((own.1.one s).1, own.2 ++ [s])] := by unfold rfNext; rw [if_pos hc]
    rw [e] at hok hat ⊢
    refine ⟨hok.1, fun f hf => ?_, ?_, fun k f hk hf s' hs' he => ?_, fun own' ho' s' hs' he => ?_, fun f hf => ?_, fun k f hk hf => ?_, fun _ f hf => ?_⟩
    · rcases List.mem_append.1 hf with hf | hf
      · exact h.path f hf
      · simp at hf; subst hf
        refine ⟨snoc_after (h.path own hm).1 hc.1, fun t ht => ?_⟩
        rcases List.mem_append.1 ht with ht | ht
        · exact (h.path own hm).2 t ht
        · simp at ht; subst ht; exact hs
    · rw [List.map_append, List.pairwise_append]
      refine ⟨h.ord, by simp, fun a ha b hb => ?_⟩
      simp at hb; subst hb
      obtain ⟨f, hf, rfl⟩ := List.mem_map.1 ha
      rcases h.src f hf with e | ⟨k, g, t, hg, e, hk | ⟨rfl, ht⟩⟩
      · exact .inl (by rw [e]; simp)
      · rw [e]; exact wlt_snoc (ord_at h.ord hk hg ho) t s
      · rw [ho] at hg; cases hg
        rw [e]
        exact .inr ⟨by simp, lexlt_snoc (hT t ht) own.2⟩
    · have hfl : k < all.length := by have := (List.getElem?_eq_some_iff.1 ho).1; omega
      rw [List.getElem?_append_left hfl] at hf
      obtain ⟨g, hg, e1, e2⟩ := h.closed k f hk hf s' hs' he
      exact ⟨g, List.mem_append_left _ hg, e1, e2⟩
    · rw [hat i own ho] at ho'
      cases ho'
      rcases List.mem_append.1 hs' with hs' | hs'
      · obtain ⟨g, hg, e1, e2⟩ := h.part own ho s' hs' he
        exact ⟨g, List.mem_append_left _ hg, e1, e2⟩
      · simp at hs'; subst hs'
        exact ⟨((own.1.one s').1, own.2 ++ [s']), List.mem_append_right _ (by simp), rfl, .inl rfl⟩
    · rcases List.mem_append.1 hf with hf | hf
      · rcases h.src f hf with e | ⟨k, g, t, hg, e, hk | ⟨hk, ht⟩⟩
        · exact .inl e
        · exact .inr ⟨k, g, t, hat k g hg, e, .inl hk⟩
        · exact .inr ⟨k, g, t, hat k g hg, e, .inr ⟨hk, List.mem_append_left _ ht⟩⟩
      · simp at hf; subst hf
        exact .inr ⟨i, own, s, hat i own ho, rfl, .inr ⟨rfl, by simp⟩⟩
    · have hfl : k < all.length := by have := (List.getElem?_eq_some_iff.1 ho).1; omega
      rw [List.getElem?_append_left hfl] at hf
      exact h.proc k f hk hf
    · rw [hat i own ho] at hf; cases hf; exact hmo
  · have e : rfNext own all s = all := by unfold rfNext; rw [if_neg hc]
    rw [e]
    refine ⟨h.ok, h.path, h.ord, h.closed, fun own' ho' s' hs' he => ?_, fun f hf => ?_, h.proc, fun _ f hf => by rw [ho] at hf; cases hf; exact hmo⟩
    · rw [ho] at ho'; cases ho'
      rcases List.mem_append.1 hs' with hs' | hs'
      · exact h.part own ho s' hs' he
      · simp at hs'; subst hs'
        have ha : (all.any fun f => decide (f.1.look = (own.1.one s').1.look)) = true := by
          cases hx : (all.any fun f => decide (f.1.look = (own.1.one s').1.look)) with
          | true => rfl
          | false => exact absurd ⟨he, hx⟩ hc
        obtain ⟨g, hg, eg⟩ := List.any_eq_true.1 ha
        have eg : g.1.look = (own.1.one s').1.look := by simpa using eg
        have hk1 := h.ok.kept g hg
        refine ⟨g, hg, look_eq hk1.1 (hkq.1.trans (own.1.one_kept s')) hk1.2 (one_has hkq.2 s') eg, ?_⟩
        rcases h.src g hg with e | ⟨k, g', t, hg', e, hk | ⟨rfl, ht⟩⟩
        · exact .inr (.inl (by rw [e]; simp))
        · rw [e]; exact .inr (wlt_snoc (ord_at h.ord hk hg' ho) t s')
        · rw [ho] at hg'; cases hg'
          rw [e]
          exact .inr (.inr ⟨by simp, lexlt_snoc (hT t ht) own.2⟩)
    · rcases h.src f hf with e | ⟨k, g, t, hg, e, hk | ⟨hk, ht⟩⟩
      · exact .inl e
      · exact .inr ⟨k, g, t, hg, e, .inl hk⟩
      · exact .inr ⟨k, g, t, hg, e, .inr ⟨hk, List.mem_append_left _ ht⟩⟩
theorem Bfs.fold {r : Row} {L : List Stp} {most : Int} {i : Nat} {own : RF} (hmo : (own.2.length : Int) ≠ most) : ∀ (rest T : List Stp) (all : List RF), Bfs r L most i T all → all[i]? = some own → (T ++ rest).Pairwise Stp.lt → (∀ s ∈ rest, s ∈ L) →
    Bfs r L most i (T ++ rest) (rest.foldl (rfNext own) all) ∧ (rest.foldl (rfNext own) all)[i]? = some own
  | [], T, all, h, ho, _, _ => by simpa using ⟨h, ho⟩
  | s :: rest, T, all, h, ho, hp, hL => by
    have hT : ∀ t ∈ T, t.lt s := fun t ht => (List.pairwise_append.1 hp).2.2 t ht s (by simp)
    have h1 := h.next ho hT (hL s (by simp)) hmo
    have := Bfs.fold hmo rest (T ++ [s]) _ h1 (rfNext_at s ho) (by simpa using hp) fun x hx => hL x (List.mem_cons_of_mem _ hx)
    simpa using this
theorem Bfs.done {r : Row} {L : List Stp} {most : Int} {i : Nat} {all : List RF} (h : Bfs r L most i L all) (hmo : ∀ f, all[i]? = some f → (f.2.length : Int) ≠ most) : Bfs r L most (i + 1) [] all := by
  refine ⟨h.ok, h.path, h.ord, fun k f hk hf s hs he => ?_, fun own ho s hs => by simp at hs, fun f hf => ?_, fun k f hk hf => ?_, fun hne => absurd rfl hne⟩
  · by_cases e : k = i
    · subst e; exact h.part f hf s hs he
    · exact h.closed k f (by omega) hf s hs he
  · rcases h.src f hf with e | ⟨k, g, t, hg, e, hk | ⟨hk, _⟩⟩
    · exact .inl e
    · exact .inr ⟨k, g, t, hg, e, .inl (by omega)⟩
    · exact .inr ⟨k, g, t, hg, e, .inl (by omega)⟩
  · by_cases e : k = i
    · subst e; exact hmo f hf
    · exact h.proc k f (by omega) hf
theorem rfSeek_bfs {r : Row} {L : List Stp} (h5 : r.figs.length ≤ 5) (hL : L.Pairwise Stp.lt) {most : Int} : ∀ (n i : Nat) (all : List RF), Bfs r L most i [] all → 248833 ≤ n + i →
    ∃ i', Bfs r L most i' [] (rfSeek L most n i all) ∧ ∀ f, (rfSeek L most n i all)[i']? = some f → (f.2.length : Int) = most
  | 0, i, all, h, hn => ⟨i, h, fun f hf => by
      have := (List.getElem?_eq_some_iff.1 hf).1
      have hb := h.ok.bound h5
      simp only [rfSeek] at this
      omega⟩
  | n + 1, i, all, h, hn => by
    unfold rfSeek
    cases ho : all[i]? with
    | none => exact ⟨i, h, fun f hf => by simp only at hf; rw [ho] at hf; cases hf⟩
    | some own =>
      simp only
      by_cases e : (own.2.length : Int) = most
      · rw [if_pos e]
        exact ⟨i, h, fun f hf => by rw [ho] at hf; cases hf; exact e⟩
      · rw [if_neg e]
        have h1 := Bfs.fold e L [] all h ho (by simpa using hL) fun s hs => hs
        have h2 : Bfs r L most i L (L.foldl (rfNext own) all) := by simpa using h1.1
        exact rfSeek_bfs h5 hL n (i + 1) _ (h2.done fun f hf => by rw [h1.2] at hf; cases hf; exact e) (by omega)
structure Finds (r : Row) (most : Int) (all : List RF) : Prop where
  ok : RfOk r all
  path : ∀ f ∈ all, r.after f.2 = (f.1, 0) ∧ ∀ s ∈ f.2, s ∈ r.steps
  ord : (all.map (·.2)).Pairwise wlt
  top : 0 ≤ most → ∀ f ∈ all, (f.2.length : Int) ≤ most
  each : ∀ (w : List Stp), (∀ s ∈ w, s ∈ r.steps) → (r.after w).2 = 0 → ((w.length : Int) ≤ most ∨ ∀ f ∈ all, (f.2.length : Int) ≠ most) → ∃ g ∈ all, g.1 = (r.after w).1 ∧ wle g.2 w
theorem rf_finds {r : Row} (hv : r.Valid) (most : Int) : Finds r most (r.rf most) := by
  have h0 : Bfs r r.steps most 0 [] [(r, [])] := by
    refine ⟨rfOk_first hv.has, fun f hf => ?_, by simp, fun k f hk => by omega, fun own _ s hs => by simp at hs, fun f hf => ?_, fun k f hk => by omega, fun hne => absurd rfl hne⟩
    · simp at hf; subst hf; exact ⟨rfl, fun s hs => by simp at hs⟩
    · simp at hf; subst hf; exact .inl rfl
  have hord : r.steps.Pairwise Stp.lt := stepsFrom_ord r r.figs.length 0
  obtain ⟨i, h, hst⟩ := rfSeek_bfs hv.len hord (most := most) 248833 0 _ h0 (by omega)
  have hhead := rf_head r most
  unfold Row.rf at hhead ⊢
  generalize rfSeek r.steps most 248833 0 [(r, [])] = all at *
  have htop : 0 ≤ most → ∀ (j : Nat) (f : RF), all[j]? = some f → (f.2.length : Int) ≤ most := by
    intro h0 j
    induction j using Nat.strongRecOn with
    | _ j ih =>
      intro f hf
      rcases h.src f (List.mem_of_getElem? hf) with e | ⟨k, g, t, hg, e, hk | ⟨_, ht⟩⟩
      · rw [e]; exact h0
      · have hlt : k < j := by
          rcases Nat.lt_trichotomy k j with hlt | rfl | hlt
          · exact hlt
          · rw [hf] at hg; cases hg
            have := congrArg List.length e
            simp only [List.length_append, List.length_cons, List.length_nil] at this
            omega
          · have := wle_len (.inr (ord_at h.ord hlt hf hg))
            rw [e] at this
            simp only [List.length_append, List.length_cons, List.length_nil] at this
            omega
        have h1 := ih k hlt g hg
        have h2 := h.proc k g hk hg
        rw [e]
        simp only [List.length_append, List.length_cons, List.length_nil]
        omega
      · simp at ht
  refine ⟨h.ok, h.path, h.ord, fun h0 f hf => ?_, fun w => ?_⟩
  · obtain ⟨j, hj⟩ := List.mem_iff_getElem?.1 hf
    exact htop h0 j f hj
  generalize hn : w.length = n
  induction n generalizing w with
  | zero =>
    intro _ _ _
    have : w = [] := List.length_eq_zero_iff.1 hn
    subst this
    exact ⟨_, List.mem_of_getElem? hhead, rfl, .inl rfl⟩
  | succ n ih =>
    intro hw hok hm
    have hne : w ≠ [] := by intro e; subst e; simp at hn
    obtain ⟨u, s, rfl⟩ : ∃ u s, w = u ++ [s] := ⟨w.dropLast, w.getLast hne, (List.dropLast_concat_getLast hne).symm⟩
    have hu : u.length = n := by simpa using hn
    obtain ⟨h1, h2, h3⟩ := after_snoc hok
    obtain ⟨g, hg, e1, e2⟩ := ih u hu (fun x hx => hw x (List.mem_append_left _ hx)) h1 (hm.imp (fun h => by omega) id)
    obtain ⟨k, hk⟩ := List.mem_iff_getElem?.1 hg
    have hlen := wle_len e2
    have hki : k < i := by
      by_cases hki : k < i
      · exact hki
      · exfalso
        have hkl := (List.getElem?_eq_some_iff.1 hk).1
        obtain ⟨f, hf⟩ : ∃ f, all[i]? = some f := ⟨all[i]'(by omega), by simp [show i < all.length by omega]⟩
        have hfm := hst f hf
        rcases hm with hm | hm
        · rcases Nat.eq_or_lt_of_le (Nat.le_of_not_lt hki) with e | hlt
          · subst e; rw [hf] at hk; cases hk; omega
          · have := wle_len (.inr (ord_at h.ord hlt hf hk)); omega
        · exact hm f (List.mem_of_getElem? hf) hfm
    rw [← e1] at h2
    obtain ⟨g', hg', e3, e4⟩ := h.closed k g hki hk s (hw s (by simp)) h2
    exact ⟨g', hg', by rw [e3, e1, h3], wle_trans e4 (wle_snoc e2 s)⟩
end Go.Proofs.Ytmggofcaeolaiaa
namespace Go.Proofs.Ytmggofcaeolaiaa
open Go.Am Go.Proofs Go
theorem one_ok_step {r q : Row} (hv : r.Valid) (hk : r.Kept q) {s : Stp} (h : (q.one s).2 = 0) : s ∈ r.steps := by
  rw [hv.mem_steps]
  unfold Row.one at h
  split at h
  · rename_i hc
    obtain ⟨a, b⟩ := s
    simp only [hk.bench] at hc
    refine .inr ⟨?_, hc.2.2⟩
    rw [Stp.mk.injEq]
    exact ⟨hc.1, hc.2.1⟩
  · split at h
    · rename_i hc
      rw [hk.beside] at hc
      obtain ⟨x, hx, e⟩ := List.any_eq_true.1 hc
      have e : s = x := by simpa using e
      exact .inl (e ▸ hx)
    · simp at h
theorem after_steps {r : Row} (hv : r.Valid) : ∀ (w : List Stp) (q : Row), r.Kept q → (q.after w).2 = 0 → ∀ s ∈ w, s ∈ r.steps
  | [], q, _, _, s, hs => by simp at hs
  | x :: w, q, hk, h, s, hs => by
    simp only [Row.after] at h
    by_cases h1 : (q.one x).2 = 0
    · rw [if_pos h1] at h
      rcases List.mem_cons.1 hs with e | hs
      · subst e; exact one_ok_step hv hk h1
      · exact after_steps hv w _ (hk.trans (q.one_kept x)) h s hs
    · rw [if_neg h1] at h; exact absurd h h1
theorem full_each {r : Row} (hv : r.Valid) (hr : r.small) (w : List Stp) (h : (r.after w).2 = 0) : ∃ g ∈ r.rf 100000, g.1 = (r.after w).1 ∧ wle g.2 w := by
  have F := rf_finds hv 100000
  obtain ⟨hI, S⟩ := reach1 hv hr
  have hb := hI.bound hv.parts.1
  refine F.each w (after_steps hv w r (.refl r) h) h (.inr fun f hf => ?_)
  have := F.ok.many f hf
  rw [S.len] at this
  omega
structure IsFew (r : Row) (l : List Stp) : Prop where
  can : (r.after l).2 = 0
  good : (r.after l).1.bad.length = 0
  least : ∀ w, (r.after w).2 = 0 → (r.after w).1.bad.length = 0 → wle l w
theorem rfew_spec {r : Row} (hc : r.check.2.2 = 0) (hr : r.small) : (r.rfew.2 = 0 ∧ IsFew r r.rfew.1) ∨ (r.rfew = ([], 9) ∧ ∀ w, (r.after w).2 = 0 → (r.after w).1.bad.length ≠ 0) := by
  have hv := r.valid_iff hc
  have F := rf_finds hv 100000
  have E := fun w h => full_each hv hr w h
  unfold Row.rfew
  rw [if_pos hc]
  generalize r.rf 100000 = all at *
  unfold rfewF
  cases hf : all.find? (fun f => decide (f.1.bad.length = 0)) with
  | none =>
    refine .inr ⟨rfl, fun w h hb => ?_⟩
    obtain ⟨g, hg, e, _⟩ := E w h
    have := List.find?_eq_none.1 hf g hg
    rw [e] at this
    simp [hb] at this
  | some f =>
    refine .inl ⟨rfl, ?_⟩
    have hfm := List.mem_of_find?_eq_some hf
    have hfb := List.find?_some hf
    have hp := (F.path f hfm).1
    refine ⟨by rw [hp], by rw [hp]; simpa using hfb, fun w h hb => ?_⟩
    obtain ⟨g, hg, e, hle⟩ := E w h
    refine wle_trans ?_ hle
    obtain ⟨_, xs, ys, he, hno⟩ := List.find?_eq_some_iff_append.1 hf
    rw [he] at hg
    rcases List.mem_append.1 hg with h1 | h1
    · have := hno g h1
      rw [e] at this
      simp [hb] at this
    · rcases List.mem_cons.1 h1 with h1 | h1
      · rw [h1]; exact .inl rfl
      · have ho := F.ord
        rw [he, List.map_append, List.map_cons] at ho
        have := (List.pairwise_append.1 ho).2.1
        exact .inr ((List.pairwise_cons.1 this).1 g.2 (List.mem_map.2 ⟨g, h1, rfl⟩))
end Go.Proofs.Ytmggofcaeolaiaa
namespace Go.Proofs.Ytmggofcaeolaiaa
open Go.Am Go.Proofs Go
theorem after_kept {r : Row} (hg : r.Good) : ∀ (w : List Stp), (r.after w).2 = 0 → r.Kept (r.after w).1 := by
  have : ∀ (w : List Stp) (q : Row), r.Kept q → (q.after w).2 = 0 → r.Kept (q.after w).1 := by
    intro w
    induction w with
    | nil => exact fun q hk _ => hk
    | cons s w ih =>
      intro q hk h
      simp only [Row.after] at h ⊢
      by_cases h1 : (q.one s).2 = 0
      · rw [if_pos h1] at h ⊢
        exact ih _ (hk.trans (q.one_kept s)) h
      · rw [if_neg h1] at h; exact absurd h h1
  exact fun w h => this w r (.refl r) h
end Go.Proofs.Ytmggofcaeolaiaa
namespace Go.Proofs.Ytmggofcaeolaiaa
open Go.Am Go.Proofs Go
theorem Row.Valid.check {r : Row} (h : r.Valid) : r.check.2.2 = 0 := by
  unfold Row.check
  have h5 : ¬ (5 : Int) < r.figs.length := by have := h.len; omega
  have hf : r.figsErr.2 = 0 := firstFrom_all _ _ 0 fun j x hx => by rw [Nat.zero_add]; exact h.fig j x hx
  have hs : r.stpsErr.2 = 0 := firstFrom_all _ _ 0 fun j x hx => by rw [Nat.zero_add]; exact h.stp j x hx
  rw [if_neg h5, if_neg (by rw [hf]; simp), if_neg (by rw [hs]; simp), if_neg (by rw [h.bench]; simp)]
theorem Row.Kept.name {r q : Row} (k : r.Kept q) : q.figs.map (·.name) = r.figs.map (·.name) := by
  refine List.ext_getElem? fun i => ?_
  rw [List.getElem?_map, List.getElem?_map]
  cases hf : q.figs[i]? with
  | none =>
    have : r.figs.length ≤ i := by rw [← k.len]; exact List.getElem?_eq_none_iff.1 hf
    rw [List.getElem?_eq_none this]
  | some f =>
    obtain ⟨g, hg, e, _⟩ := k.names i f hf
    rw [hg]; simp [e]
theorem any_name (l : List Fig) (n : ByteArray) : (l.any fun x => decide (x.name = n)) = (l.map (·.name)).any fun x => decide (x = n) := by
  rw [List.any_map]; rfl
theorem figErr_eq {l : List Fig} {f : Fig} (h : figErr l f = 0) {l' : List Fig} {f' : Fig} (hn : f'.name = f.name) (hl : l'.map (·.name) = l.map (·.name)) (h1 : 0 ≤ f'.has ∧ f'.has ≤ 5) (h2 : -1 ≤ f'.wants ∧ f'.wants ≤ 5) : figErr l' f' = 0 := by
  unfold figErr at h ⊢
  rw [any_name] at h ⊢
  rw [hn, hl]
  split at h
  · simp at h
  · rename_i n1
    split at h
    · simp at h
    · rename_i n2
      have e1 := (outside_false).2 h1
      have e2 := (outside_false).2 h2
      rw [if_neg n1, if_neg n2, e1, e2]; rfl
theorem Row.Valid.kept {r q : Row} (h : r.Valid) (k : r.Kept q) (hq : hasOk q) : q.Valid := by
  have hl : q.last = r.last := by unfold Row.last; rw [k.len]
  refine ⟨by rw [k.len]; exact h.len, fun j f hf => ?_, fun j s hs => ?_, ?_⟩
  · obtain ⟨g, hg, e1, e2⟩ := k.names j f hf
    have h0 := h.fig j g hg
    have hz := figErr_zero h0
    refine figErr_eq h0 e1 ?_ (hq f (List.mem_of_getElem? hf)) (by rw [e2]; exact ⟨hz.2.2.1, hz.2.2.2⟩)
    rw [List.map_take, List.map_take, k.name]
  · rw [k.beside] at hs ⊢
    rw [hl]; exact h.stp j s hs
  · rw [hl, k.bench]; exact h.bench
end Go.Proofs.Ytmggofcaeolaiaa
namespace Go.Proofs.Ytmggofcaeolaiaa
open Go.Am Go.Proofs Go
structure Sub (u v : Row) : Prop where
  figs : v.figs = u.figs
  bench : v.bench = u.bench
  beside : ∀ t : Stp, u.beside.any (t == ·) = true → v.beside.any (t == ·) = true
theorem Sub.one {u v : Row} (h : Sub u v) {t : Stp} (ho : (u.one t).2 = 0) : (v.one t).2 = 0 ∧ Sub (u.one t).1 (v.one t).1 := by
  unfold Row.one at ho ⊢
  rw [h.bench, h.figs]
  split at ho
  · rename_i hc
    rw [if_pos hc, if_pos hc]
    split at ho
    · rename_i hb
      rw [if_pos hb, if_pos hb]
      exact ⟨rfl, rfl, rfl, h.beside⟩
    · simp at ho
  · rename_i hc
    rw [if_neg hc, if_neg hc]
    split at ho
    · rename_i hb
      rw [if_pos hb, if_pos (h.beside t hb)]
      exact ⟨rfl, rfl, rfl, h.beside⟩
    · simp at ho
theorem Sub.after : ∀ {w : List Stp} {u v : Row}, Sub u v → (u.after w).2 = 0 → (v.after w).2 = 0 ∧ (v.after w).1.figs = (u.after w).1.figs
  | [], u, v, h, _ => ⟨rfl, h.figs⟩
  | t :: w, u, v, h, ho => by
    simp only [Row.after] at ho ⊢
    by_cases h1 : (u.one t).2 = 0
    · obtain ⟨h2, h3⟩ := h.one h1
      rw [if_pos h1] at ho ⊢
      rw [if_pos h2]
      exact h3.after ho
    · rw [if_neg h1] at ho; exact absurd ho h1
end Go.Proofs.Ytmggofcaeolaiaa
namespace Go.Proofs.Ytmggofcaeolaiaa
open Go.Am Go.Proofs Go
def flip (n : Int) (s : Stp) : Stp := ⟨n - s.b, n - s.a⟩
def Row.back (r : Row) : Row := ⟨r.figs.reverse, r.beside.map (flip r.last), if r.bench = -1 then -1 else r.last - r.bench⟩
theorem flip_flip (n : Int) (s : Stp) : flip n (flip n s) = s := by
  obtain ⟨a, b⟩ := s
  simp only [flip, Stp.mk.injEq]; omega
theorem back_last (r : Row) : r.back.last = r.last := by unfold Row.last Row.back; simp
theorem selFrom_count (g : Fig → Bool) : ∀ (l : List Fig) (i : Nat), (selFrom (fun _ f => g f) i l).length = l.countP g
  | [], _ => rfl
  | x :: l, i => by
    simp only [selFrom, List.countP_cons]
    split
    · rename_i h; simp [selFrom_count g l, h]
    · rename_i h; simp [selFrom_count g l, h]
theorem stp_zero {last : Int} {l : List Stp} {s : Stp} (h1 : s.a < s.b) (h2 : s ∉ l) (h3 : 0 ≤ s.a) (h4 : s.b ≤ last) : stpErr last l s = 0 := by
  unfold stpErr
  have e1 : outside 0 last s.a = false := outside_false.2 ⟨h3, by omega⟩
  have e2 : outside 0 last s.b = false := outside_false.2 ⟨by omega, h4⟩
  rw [e1, e2, if_neg (by simp), if_neg (by omega), if_neg]
  intro h
  obtain ⟨x, hx, e⟩ := List.any_eq_true.1 h
  exact h2 (by simpa [beq_iff_eq.1 e] using hx)
theorem nodup_take_not {α : Type} {l : List α} (h : l.Nodup) {j : Nat} {x : α} (hx : l[j]? = some x) : x ∉ l.take j := by
  intro hm
  obtain ⟨i, hi⟩ := List.mem_iff_getElem?.1 hm
  rw [List.getElem?_take] at hi
  split at hi
  · rename_i hij
    obtain ⟨hj, ej⟩ := List.getElem?_eq_some_iff.1 hx
    obtain ⟨hi', ei⟩ := List.getElem?_eq_some_iff.1 hi
    exact List.pairwise_iff_getElem.1 h i j hi' hj hij (by rw [ei, ej])
  · cases hi
theorem figErr_name {l : List Fig} {f : Fig} (h : figErr l f = 0) : nameOk f.name ≠ false ∧ f.name ∉ l.map (·.name) := by
  unfold figErr at h
  split at h
  · simp at h
  · rename_i h1
    split at h
    · simp at h
    · rename_i h2
      refine ⟨h1, fun hm => h2 ?_⟩
      obtain ⟨x, hx, e⟩ := List.mem_map.1 hm
      exact List.any_eq_true.2 ⟨x, hx, by simpa using e⟩
theorem fig_zero {l : List Fig} {f : Fig} (h1 : nameOk f.name ≠ false) (h2 : f.name ∉ l.map (·.name)) (h3 : 0 ≤ f.has ∧ f.has ≤ 5) (h4 : -1 ≤ f.wants ∧ f.wants ≤ 5) : figErr l f = 0 := by
  unfold figErr
  rw [if_neg h1, if_neg, outside_false.2 h3, outside_false.2 h4]
  · rfl
  · intro h
    obtain ⟨x, hx, e⟩ := List.any_eq_true.1 h
    exact h2 (List.mem_map.2 ⟨x, hx, by simpa using e⟩)
theorem Row.Valid.names {r : Row} (h : r.Valid) : (r.figs.map (·.name)).Nodup := nodup_take _ fun j x hx => by
  rw [List.getElem?_map] at hx
  obtain ⟨f, hf, rfl⟩ := Option.map_eq_some_iff.1 hx
  rw [← List.map_take]
  exact (figErr_name (h.fig j f hf)).2
theorem Row.Valid.back {r : Row} (h : r.Valid) : r.back.Valid := by
  have hl : r.back.figs.length = r.figs.length := by simp [Row.back]
  refine ⟨by rw [hl]; exact h.len, fun j f hf => ?_, fun j s hs => ?_, ?_⟩
  · have hm : f ∈ r.figs := by have := List.mem_of_getElem? hf; simpa [Row.back] using this
    obtain ⟨i, hi⟩ := List.mem_iff_getElem?.1 hm
    have h0 := h.fig i f hi
    have hz := figErr_zero h0
    refine fig_zero (figErr_name h0).1 ?_ ⟨hz.1, hz.2.1⟩ hz.2.2
    rw [List.map_take]
    have hn : (r.back.figs.map (·.name)).Nodup := by
      simp only [Row.back, List.map_reverse]
      exact ((List.reverse_perm _).nodup_iff).2 h.names
    exact nodup_take_not hn (by rw [List.getElem?_map, hf]; rfl)
  · have hs' : (r.beside.map (flip r.last))[j]? = some s := hs
    have hm := List.mem_of_getElem? hs'
    obtain ⟨t, ht, rfl⟩ := List.mem_map.1 hm
    have hb := h.bound ht
    rw [back_last]
    refine stp_zero (by simp only [flip]; omega) (nodup_take_not (l := r.beside.map (flip r.last)) ?_ hs') (by simp only [flip, Row.last]; omega) (by simp only [flip]; omega)
    refine nodup_map h.nodup fun x _ y _ e => ?_
    rw [← flip_flip r.last x, e, flip_flip]
  · have hbe := h.benchB
    rw [back_last, outside_false]
    simp only [Row.back, Row.last]
    split <;> omega
end Go.Proofs.Ytmggofcaeolaiaa
namespace Go.Proofs.Ytmggofcaeolaiaa
open Go.Am Go.Proofs Go
theorem bad_zero (r : Row) : r.bad.length = 0 ↔ ∀ f ∈ r.figs, f.right = true := by
  unfold Row.bad
  rw [selFrom_count, List.countP_eq_zero]
  simp
theorem few_nil {r : Row} (hc : r.check.2.2 = 0) (hr : r.small) : (r.rfew.2 = 0 ∧ r.rfew.1.length = 0) ↔ r.bad.length = 0 := by
  rcases rfew_spec hc hr with ⟨e, hF⟩ | ⟨e, hn⟩
  · refine ⟨fun h => ?_, fun h => ⟨e, ?_⟩⟩
    · have := hF.good
      rw [List.length_eq_zero_iff.1 h.2] at this
      exact this
    · have := wle_len (hF.least [] rfl h)
      simpa using this
  · refine ⟨fun h => ?_, fun h => absurd h (hn [] rfl)⟩
    rw [e] at h; simp at h
def Fig.calm (f : Fig) : Fig := ⟨f.name, f.has, false, f.has⟩
def Fig.want (f : Fig) (w : Int) : Fig := ⟨f.name, f.has, f.broken, w⟩
def Row.made (r : Row) (s : Stp) : Row :=
  { r with figs := ((r.figs.map Fig.calm).set s.a.toNat (((r.figs.getD s.a.toNat zeroF).calm).want (r.figs.getD s.b.toNat zeroF).has)).set s.b.toNat (((r.figs.getD s.b.toNat zeroF).calm).want (r.figs.getD s.a.toNat zeroF).has) }
structure Row.Two (r : Row) (s : Stp) : Prop where
  mem : s ∈ r.beside
  ha : s.a.toNat < r.figs.length
  hb : s.b.toNat < r.figs.length
  ne : s.a.toNat ≠ s.b.toNat
theorem Row.Good.two {r : Row} (hg : r.Good) {s : Stp} (h : s ∈ r.beside) : r.Two s := by
  have := hg.bound s h
  exact ⟨h, by omega, by omega, by omega⟩
theorem made_at {r : Row} {s : Stp} (h : r.Two s) (i : Nat) : (r.made s).figs[i]? = if i = s.b.toNat then some (((r.figs.getD s.b.toNat zeroF).calm).want (r.figs.getD s.a.toNat zeroF).has)
    else if i = s.a.toNat then some (((r.figs.getD s.a.toNat zeroF).calm).want (r.figs.getD s.b.toNat zeroF).has) else (r.figs[i]?).map Fig.calm := by
  have h1 := h.ha
  have h2 := h.hb
  unfold Row.made
  simp only
  by_cases e1 : i = s.b.toNat
  · rw [if_pos e1, e1, List.getElem?_set_self (by simpa using h2)]
  · rw [if_neg e1, List.getElem?_set_ne (Ne.symm e1)]
    by_cases e2 : i = s.a.toNat
    · rw [if_pos e2, e2, List.getElem?_set_self (by simpa using h1)]
    · rw [if_neg e2, List.getElem?_set_ne (Ne.symm e2), List.getElem?_map]
theorem getD_get {r : Row} {i : Nat} (h : i < r.figs.length) : r.figs[i]? = some (r.figs.getD i zeroF) := by simp [List.getD, h]
theorem made_names {r : Row} {s : Stp} (h : r.Two s) : (r.made s).figs.map (·.name) = r.figs.map (·.name) := by
  refine List.ext_getElem? fun i => ?_
  rw [List.getElem?_map, List.getElem?_map, made_at h]
  split
  · rename_i e; rw [e, getD_get h.hb]; rfl
  · split
    · rename_i e; rw [e, getD_get h.ha]; rfl
    · cases r.figs[i]? <;> rfl
theorem made_len (r : Row) (s : Stp) : (r.made s).figs.length = r.figs.length := by simp [Row.made]
theorem made_fig {r : Row} {s : Stp} (h : r.Two s) (hh : hasOk r) {i : Nat} {f : Fig} (hf : (r.made s).figs[i]? = some f) : (0 ≤ f.has ∧ f.has ≤ 5) ∧ (-1 ≤ f.wants ∧ f.wants ≤ 5) ∧ ∃ g, r.figs[i]? = some g ∧ f.name = g.name := by
  have h1 := hh _ (List.mem_of_getElem? (getD_get h.ha))
  have h2 := hh _ (List.mem_of_getElem? (getD_get h.hb))
  rw [made_at h] at hf
  split at hf
  · rename_i e
    cases hf
    simp only [Fig.want, Fig.calm]
    exact ⟨h2, by omega, _, by rw [e]; exact getD_get h.hb, rfl⟩
  · split at hf
    · rename_i e
      cases hf
      simp only [Fig.want, Fig.calm]
      exact ⟨h1, by omega, _, by rw [e]; exact getD_get h.ha, rfl⟩
    · obtain ⟨g, hg, rfl⟩ := Option.map_eq_some_iff.1 hf
      have := hh g (List.mem_of_getElem? hg)
      simp only [Fig.calm]
      exact ⟨this, by omega, g, hg, rfl⟩
theorem made_valid {r : Row} (hv : r.Valid) {s : Stp} (h : r.Two s) : (r.made s).Valid := by
  have hl : (r.made s).last = r.last := by unfold Row.last; rw [made_len]
  refine ⟨by rw [made_len]; exact hv.len, fun j f hf => ?_, fun j t ht => by rw [hl]; exact hv.stp j t ht, by rw [hl]; exact hv.bench⟩
  obtain ⟨h1, h2, g, hg, e⟩ := made_fig h hv.has hf
  have h0 := figErr_name (hv.fig j g hg)
  refine fig_zero (by rw [e]; exact h0.1) ?_ h1 h2
  rw [e, List.map_take, made_names h, ← List.map_take]
  exact h0.2
theorem made_small {r : Row} (hr : r.small) {s : Stp} (h : r.Two s) : (r.made s).small := by
  refine ⟨by rw [made_len]; exact hr.1, hr.2.1, fun f hf => ?_⟩
  obtain ⟨i, hi⟩ := List.mem_iff_getElem?.1 hf
  have : f.name ∈ (r.made s).figs.map (·.name) := List.mem_map.2 ⟨f, hf, rfl⟩
  rw [made_names h] at this
  obtain ⟨g, hg, e⟩ := List.mem_map.1 this
  rw [← e]; exact hr.2.2 g hg
theorem calm_right (f : Fig) : f.calm.right = true := by simp [Fig.right, Fig.calm]
theorem made_same {r : Row} {s : Stp} (h : r.Two s) (e : (r.figs.getD s.a.toNat zeroF).has = (r.figs.getD s.b.toNat zeroF).has) : (r.made s).bad.length = 0 := by
  rw [bad_zero]
  intro f hf
  obtain ⟨i, hi⟩ := List.mem_iff_getElem?.1 hf
  rw [made_at h] at hi
  generalize r.figs.getD s.a.toNat zeroF = A at *
  generalize r.figs.getD s.b.toNat zeroF = B at *
  split at hi
  · cases hi; simp [Fig.right, Fig.calm, Fig.want, e]
  · split at hi
    · cases hi; simp [Fig.right, Fig.calm, Fig.want, e]
    · obtain ⟨g, _, rfl⟩ := Option.map_eq_some_iff.1 hi
      exact calm_right g
theorem made_other {r : Row} (hh : hasOk r) {s : Stp} (h : r.Two s) (e : (r.figs.getD s.a.toNat zeroF).has ≠ (r.figs.getD s.b.toNat zeroF).has) : (r.made s).bad.length ≠ 0 := by
  rw [Ne, bad_zero]
  intro hf
  have h1 := made_at h s.b.toNat
  rw [if_pos rfl] at h1
  have h2 := hf _ (List.mem_of_getElem? h1)
  have h3 := hh _ (List.mem_of_getElem? (getD_get h.ha))
  clear h1 hf
  generalize r.figs.getD s.a.toNat zeroF = A at *
  generalize r.figs.getD s.b.toNat zeroF = B at *
  simp [Fig.right, Fig.calm, Fig.want] at h2
  rcases h2 with h2 | h2
  · omega
  · exact e h2.symm
theorem made_step {r : Row} (hg : r.Good) {s : Stp} (h : r.Two s) : ((r.made s).after [s]).2 = 0 ∧ ((r.made s).after [s]).1.bad.length = 0 := by
  have hbd := hg.bound s h.mem
  have hany : r.beside.any (s == ·) = true := List.any_eq_true.2 ⟨s, h.mem, by simp⟩
  have ma := made_at h s.a.toNat
  have mb := made_at h s.b.toNat
  rw [if_neg h.ne, if_pos rfl] at ma
  rw [if_pos rfl] at mb
  have h1 : (r.made s).one s = ({ r.made s with figs := ((r.made s).figs.set s.a.toNat (((r.made s).figs.getD s.a.toNat zeroF).take ((r.made s).figs.getD s.b.toNat zeroF))).set s.b.toNat (((r.made s).figs.getD s.b.toNat zeroF).take ((r.made s).figs.getD s.a.toNat zeroF)) }, 0) := by
    have hnb : ¬ (s.a = (r.made s).bench ∧ s.b = (r.made s).bench ∧ (r.made s).bench ≠ -1) := by omega
    have hb : (r.made s).beside.any (s == ·) = true := hany
    generalize r.made s = q at *
    unfold Row.one; rw [if_neg hnb, if_pos hb]
  simp only [Row.after]
  rw [h1]
  refine ⟨rfl, ?_⟩
  rw [if_pos rfl, bad_zero]
  intro f hf
  simp only at hf
  rw [getD_of ma, getD_of mb] at hf
  obtain ⟨i, hi⟩ := List.mem_iff_getElem?.1 hf
  have l1 : s.a.toNat < (r.made s).figs.length := by rw [made_len]; exact h.ha
  have l2 : s.b.toNat < (r.made s).figs.length := by rw [made_len]; exact h.hb
  by_cases e1 : i = s.b.toNat
  · rw [e1, List.getElem?_set_self (by simpa using l2)] at hi
    cases hi
    simp [Fig.right, Fig.calm, Fig.want, Fig.take]
  · rw [List.getElem?_set_ne (Ne.symm e1)] at hi
    by_cases e2 : i = s.a.toNat
    · rw [e2, List.getElem?_set_self l1] at hi
      cases hi
      simp [Fig.right, Fig.calm, Fig.want, Fig.take]
    · rw [List.getElem?_set_ne (Ne.symm e2), made_at h, if_neg e1, if_neg e2] at hi
      obtain ⟨g, _, rfl⟩ := Option.map_eq_some_iff.1 hi
      exact calm_right g
theorem made_few {r : Row} (hv : r.Valid) (hr : r.small) {s : Stp} (hs : s ∈ r.beside) :
    (r.made s).rfew.2 = 0 ∧ ((r.made s).after (r.made s).rfew.1).2 = 0 ∧ ((r.made s).after (r.made s).rfew.1).1.bad.length = 0 ∧
    (r.made s).rfew.1.length = if (r.figs.getD s.a.toNat zeroF).has = (r.figs.getD s.b.toNat zeroF).has then 0 else 1 := by
  have h := (hv.good hr).two hs
  have hm := made_valid hv h
  obtain ⟨h1, h2⟩ := made_step (hv.good hr) h
  rcases rfew_spec hm.check (made_small hr h) with ⟨e, hF⟩ | ⟨_, hn⟩
  · refine ⟨e, hF.can, hF.good, ?_⟩
    split
    · rename_i hh
      exact ((few_nil hm.check (made_small hr h)).2 (made_same h hh)).2
    · rename_i hh
      have h3 := wle_len (hF.least [s] h1 h2)
      have h4 : (r.made s).rfew.1.length ≠ 0 := fun h0 => made_other hv.has h hh ((few_nil hm.check (made_small hr h)).1 ⟨e, h0⟩)
      simp at h3
      omega
  · exact absurd h2 (hn [s] h1)
end Go.Proofs.Ytmggofcaeolaiaa
namespace Go.Proofs.Ytmggofcaeolaiaa
open Go.Am Go.Proofs Go
end Go.Proofs.Ytmggofcaeolaiaa
namespace Go.Proofs.Ytmggofcaeolaiaa
open Go.Am Go.Proofs Go
theorem valid41_c (r : Row) (hr : r.small) : PureA Try.prog 41 [rowA r] (boolA (decide (r.check.2.2 = 0))) := by
  have hk := refCheck_c r hr
  unfold triA at hk
  generalize r.check = c at *
  obtain ⟨c1, c2, c3⟩ := c
  simp only at hk ⊢
  refine pureA_codeB tabOk { l := 0, f := 41 } mixed call_41 Try.func41 (by kernel_rfl) ?_
  conv => whnf
  repeat (any_goals (first | exact falseI | (refine brP_dec (fun _ => ?_) (fun _ => ?_) <;> first | (exfalso; omega) | conv => whnf) | (refine brP_ndec (fun _ => ?_) (fun _ => ?_) <;> first | (exfalso; omega) | conv => whnf) | ((first | refine callP_a hk ?_ | refine And.intro (DrawOk.mk (by kernel_rfl)) ?_ | refine okI ?_ | refine brP_true (Nat.beq_refl _) ?_ | refine brP_intro (fun _ => ?_) (fun _ => ?_) | refine bndI ?_ | intro _) <;> conv => whnf)))
  (refine ⟨⟨?_⟩, trivial⟩; rfl)
end Go.Proofs.Ytmggofcaeolaiaa
namespace Go.Proofs.Ytmggofcaeolaiaa
open Go.Am Go.Proofs Go
theorem Few_r (r : Row) (hr : r.small) : PureA Try.prog 25 [rowA r] (.tuple [stpsA r.rfew.1, intA r.rfew.2]) := by
  have := Few_c r hr
  rw [few_rfew r hr] at this
  exact this
end Go.Proofs.Ytmggofcaeolaiaa
namespace Go.Proofs.Ytmggofcaeolaiaa
open Go.Am Go.Proofs Go
def calmTo (l : List Fig) (i : Nat) : List Fig := (l.take i).map Fig.calm ++ l.drop i
theorem calmTo_len (l : List Fig) (i : Nat) : (calmTo l i).length = l.length := by
  unfold calmTo; simp; omega
theorem calmTo_get {l : List Fig} {i : Nat} {f : Fig} (h : l[i]? = some f) : (calmTo l i)[i]? = some f := by
  have hi := (List.getElem?_eq_some_iff.1 h).1
  unfold calmTo
  rw [List.getElem?_append_right (by simp; omega)]
  simp only [List.length_map, List.length_take, List.getElem?_drop]
  rw [show i + (i - min i l.length) = i by omega]; exact h
theorem calmTo_set {l : List Fig} {i : Nat} {f : Fig} (h : l[i]? = some f) : (calmTo l i).set i f.calm = calmTo l (i + 1) := by
  have hi := (List.getElem?_eq_some_iff.1 h).1
  have hd : l.drop i = f :: l.drop (i + 1) := by
    obtain ⟨x, hx, e⟩ := drop_cons (l := l) hi
    rw [h] at hx; cases hx; exact e
  unfold calmTo
  rw [hd, List.set_append_right _ _ (by simp; omega)]
  simp only [List.length_map, List.length_take]
  rw [show i - min i l.length = 0 by omega, List.set_cons_zero, List.take_add_one, h]
  simp
theorem calmTo_all (l : List Fig) : calmTo l l.length = l.map Fig.calm := by unfold calmTo; simp
theorem neqB4 (a b : Bool) : ∀ w : World, Sem.run Try.prog (binS BinOp.neq 4 (Operand.tmp 48) (Operand.tmp 51) (.bool a) (.bool b)) w = .ok (.bool (a != b)) w := by
  intro w
  cases a <;> cases b <;> kernel_rfl
set_option maxHeartbeats 2000000 in
set_option maxRecDepth 100000 in
theorem MendAlready_c (r : Row) (hr : r.small) (k : Nat) (hk : k ≤ 255) : PureA Try.prog 15 [rowA r, .v (.int .u8 k)] (boolA true) := by
  have hva := valid41_c r hr
  have aw := Awake_c
  have hW := Wrong_c r hr
  unfold wrongA at hW
  by_cases hc : r.check.2.2 = 0
  · have hv := r.valid_iff hc
    have hg := hv.good hr
    rw [decide_eq_true hc] at hva
    rw [if_pos hc, wrong_bad hv.len, hc] at hW
    have hF := Few_r r hr
    have hn := few_nil hc hr
    have hfl := rfew_len r
    have h5 := hv.len
    have e3 : (r.bad.map intA).length = r.bad.length := List.length_map _
    have e4 : (r.beside.map stpA).length = r.beside.length := List.length_map _
    have e5 : (r.figs.map figA).length = r.figs.length := List.length_map _
    have hmade := fun s hs => made_few hv hr (s := s) hs
    have hmadeF := fun s (hs : s ∈ r.beside) => Few_r (r.made s) (made_small hr (hg.two hs))
    have hmadeG := fun s (hs : s ∈ r.beside) => (made_valid hv (hg.two hs)).good (made_small hr (hg.two hs))
    have hmadeL := fun s => rfew_len (r.made s)
    have hmadeK := fun s (hs : s ∈ r.beside) h => (after_kept (hmadeG s hs) (r.made s).rfew.1 h).small (made_small hr (hg.two hs))
    generalize r.bad = W at *
    generalize r.rfew = F at *
    obtain ⟨F1, F2⟩ := F
    simp only at hF hn hfl
    have e1 : (F1.map stpA).length = F1.length := List.length_map _
    have hq1 : F2 = 0 → decide (((F1.map stpA).length : Int) = 0) = decide (((W.map intA).length : Int) = 0) := fun h => by
      have : (((F1.map stpA).length : Int) = 0) ↔ (((W.map intA).length : Int) = 0) := by rw [e1, e3]; have := hn; omega
      simp only [this]
    have hq2 : ¬ F2 = 0 → false = decide (((W.map intA).length : Int) = 0) := fun h => by
      have : ¬ (((W.map intA).length : Int) = 0) := by rw [e3]; have := hn; omega
      rw [decide_eq_false this]
    by_cases hbe : r.beside.length = 0
    · refine pureA_codeB tabOk { l := 0, f := 15, ow := [73], fz := [(20, 12)] } mixed call_15 Try.func15 (by kernel_rfl) ?_
      conv => whnf
      repeat (any_goals (first | exact falseI | (refine brP_dec (fun _ => ?_) (fun _ => ?_) <;> first | (exfalso; omega) | conv => whnf) | (refine brP_ndec (fun _ => ?_) (fun _ => ?_) <;> first | (exfalso; omega) | conv => whnf) | ((first | refine callP_a hva ?_ | refine callP_a hW ?_ | refine callP_a hF ?_ | refine ⟨_, neqB4 _ _, ?_⟩ | refine callP_a aw ?_ | refine And.intro (DrawOk.mk (by kernel_rfl)) ?_ | refine okI ?_ | refine brP_true (Nat.beq_refl _) ?_ | refine brP_intro (fun _ => ?_) (fun _ => ?_) | refine bndI ?_ | intro _) <;> conv => whnf)))
      all_goals first | exact trivial | ((refine ⟨⟨?_⟩, trivial⟩; rfl)) | (exfalso; omega) | (exfalso; exact absurd (hq1 (by assumption)) (by assumption)) | (exfalso; exact absurd (hq2 (by assumption)) (by assumption)) | trace_state
    · have hj : k % r.beside.length < r.beside.length := Nat.mod_lt _ (by omega)
      obtain ⟨s, hs2, _⟩ := drop_cons (l := r.beside) hj
      have htm : (k : Int).tmod ((r.beside.map stpA).length : Int) = ((k % r.beside.length : Nat) : Int) := by rw [e4]; rfl
      have hm := List.mem_of_getElem? hs2
      have h2 := hg.two hm
      have hbd := hg.bound s hm
      obtain ⟨m1, m2, m3, m4⟩ := hmade s hm
      have hFm := hmadeF s hm
      have hfm := hmadeL s
      have hAm := after_c (r.made s) (hmadeG s hm) (r.made s).rfew.1 (by omega)
      have hBm := bad_c _ (hmadeK s hm m2)
      unfold rowErrA at hAm
      rw [m2] at hAm
      rw [m1] at hFm
      generalize ((r.made s).after (r.made s).rfew.1).1 = q at *
      rw [List.length_eq_zero_iff.1 m3] at hBm
      generalize (r.made s).rfew.1 = M at *
      clear hmade hmadeF hmadeG hmadeL hmadeK
      have e2 : (M.map stpA).length = M.length := List.length_map _
      obtain ⟨n, hn1⟩ : ∃ n : Nat, s.a = n := ⟨s.a.toNat, by omega⟩
      obtain ⟨o, ho1⟩ : ∃ o : Nat, s.b = o := ⟨s.b.toNat, by omega⟩
      have hA := getD_get h2.ha
      have hB := getD_get h2.hb
      have hmd : (r.made s) = { r with figs := ((r.figs.map Fig.calm).set s.a.toNat (((r.figs.getD s.a.toNat zeroF).calm).want (r.figs.getD s.b.toNat zeroF).has)).set s.b.toNat (((r.figs.getD s.b.toNat zeroF).calm).want (r.figs.getD s.a.toNat zeroF).has) } := rfl
      rw [hmd] at hFm hAm
      generalize r.figs.getD s.a.toNat zeroF = A at *
      generalize r.figs.getD s.b.toNat zeroF = B at *
      rw [show s.a.toNat = n by omega] at *
      rw [show s.b.toNat = o by omega] at *
      have hps := pureEs_figs r.figs r.figs.length rfl
      refine pureA_codeB tabOk { l := 0, f := 15, ow := [73], fz := [(20, 12)] } mixed call_15 Try.func15 (by kernel_rfl) ?_
      conv => whnf
      repeat (any_goals (first | exact falseI | (refine brP_dec (fun _ => ?_) (fun _ => ?_) <;> first | (exfalso; omega) | conv => whnf) | (refine brP_ndec (fun _ => ?_) (fun _ => ?_) <;> first | (exfalso; omega) | conv => whnf) | ((first | refine callP_a hva ?_ | refine callP_a hW ?_ | refine callP_a hF ?_ | refine ⟨_, neqB4 _ _, ?_⟩ | refine optP_map hs2 htm ?_ | refine And.intro (DrawOk.mk (by kernel_rfl)) ?_ | refine okI ?_ | refine brP_true (Nat.beq_refl _) ?_ | refine brP_intro (fun _ => ?_) (fun _ => ?_) | refine bndI ?_ | intro _) <;> conv => whnf)))
      all_goals first | exact trivial | ((refine ⟨⟨?_⟩, trivial⟩; rfl)) | (exfalso; omega) | (exfalso; exact absurd (hq1 (by assumption)) (by assumption)) | (exfalso; exact absurd (hq2 (by assumption)) (by assumption)) | skip
      all_goals clear hq1 hq2 hn hF hW hva
      all_goals
        refine loopK tabOk { l := 0, f := 15, ow := [73], fz := [(20, 12)] } mixed (fun i : Nat => [(13, intA i)]) (fun i => [(⟨0, 15, 73⟩, some (1, some (4, (calmTo r.figs i).map figA)))]) (fun _ => []) (fun i => i ≤ r.figs.length) (fun i => r.figs.length - i) 0 (by kernel_rfl)
          (Nat.zero_le _) ?_
        conv => whnf
        refine ⟨⟨slotsLe_cons rfl trivial, keysLe_cons rfl trivial, trivial⟩, ?_⟩
        intro i hi
        have hcl := calmTo_len r.figs i
        have hcl2 : ((calmTo r.figs i).map figA).length = r.figs.length := by rw [List.length_map, hcl]
        conv => whnf
        refine brP_dec (fun h1 => ?_) (fun h1 => ?_)
        · have h1 : i < r.figs.length := by first | omega | (simp only at h1; omega)
          obtain ⟨f, hf, _⟩ := drop_cons (l := r.figs) (i := i) h1
          have hL := calmTo_get hf
          have hs1 := set_figs (calmTo r.figs i) i i (.agg [strA f.name, intA f.has, boolA false, intA f.wants]) ⟨f.name, f.has, false, f.wants⟩ rfl rfl
          have hL1 : ((calmTo r.figs i).set i ⟨f.name, f.has, false, f.wants⟩)[i]? = some ⟨f.name, f.has, false, f.wants⟩ := by rw [List.getElem?_set_self]; rw [hcl]; exact h1
          have hs2 := set_figs ((calmTo r.figs i).set i ⟨f.name, f.has, false, f.wants⟩) i i (.agg [strA f.name, intA f.has, boolA false, intA f.has]) f.calm rfl rfl
          rw [List.set_set, calmTo_set hf] at hs2
          conv => whnf
          repeat (any_goals (first | exact falseI | (refine brP_dec (fun _ => ?_) (fun _ => ?_) <;> first | (exfalso; omega) | conv => whnf) | (refine brP_ndec (fun _ => ?_) (fun _ => ?_) <;> first | (exfalso; omega) | conv => whnf) | ((first | refine optP_map hf rfl ?_ | refine optP_map hL rfl ?_ | refine optP_map hL1 rfl ?_ | refine forceL_to hs1 ?_ | refine forceL_to hs2 ?_ | refine And.intro (DrawOk.mk (by kernel_rfl)) ?_ | refine okI ?_ | refine brP_true (Nat.beq_refl _) ?_ | refine brP_intro (fun _ => ?_) (fun _ => ?_) | refine bndI ?_ | intro _) <;> conv => whnf)))
          (refine ⟨i + 1, (by omega), (by omega), ?_⟩; (conv => whnf); refine ⟨?_, ?_, ?_⟩ <;> repeat (first | exact trivial | refine slotsLe_cons rfl ?_ | refine keysLe_none ?_ | refine keysLe_cons rfl ?_ | refine slotsLe_cons (by rfl) ?_ | refine keysLe_cons (by rfl) ?_))
        · have hie : i = r.figs.length := by first | omega | (simp only at h1; omega)
          subst hie
          rw [calmTo_all] at *
          have hLA : (r.figs.map Fig.calm)[n]? = some A.calm := by rw [List.getElem?_map, hA]; rfl
          have hsa := set_figs (r.figs.map Fig.calm) s.a n (.agg [strA A.name, intA A.has, boolA false, intA B.has]) (A.calm.want B.has) hn1 rfl
          have hLB : ((r.figs.map Fig.calm).set n (A.calm.want B.has))[o]? = some B.calm := by
            rw [List.getElem?_set_ne (by omega), List.getElem?_map, hB]; rfl
          have hsb := set_figs ((r.figs.map Fig.calm).set n (A.calm.want B.has)) s.b o (.agg [strA B.name, intA B.has, boolA false, intA A.has]) (B.calm.want A.has) ho1 rfl
          have hpl : (((r.figs.map Fig.calm).set n (A.calm.want B.has)).set o (B.calm.want A.has)).length = r.figs.length := by simp
          generalize ((r.figs.map Fig.calm).set n (A.calm.want B.has)).set o (B.calm.want A.has) = Z at *
          generalize (r.figs.map Fig.calm).set n (A.calm.want B.has) = Y at *
          have hpz := pureEs_figs Z (r.figs.map figA).length (by rw [hpl, e5])
          have hpz2 := pureEs_figs Z r.figs.length hpl.symm
          have e6 : (Z.map figA).length = r.figs.length := by rw [List.length_map, hpl]
          by_cases hh : A.has = B.has
          · rw [if_pos hh] at m4
            conv => whnf
            repeat (any_goals (first | exact falseI | (refine brP_dec (fun _ => ?_) (fun _ => ?_) <;> first | (exfalso; omega) | conv => whnf) | (refine brP_ndec (fun _ => ?_) (fun _ => ?_) <;> first | (exfalso; omega) | conv => whnf) | ((first | refine optP_map hA hn1 ?_ | refine optP_map hB ho1 ?_ | refine optP_map hLA hn1 ?_ | refine optP_map hLB ho1 ?_ | refine forceL_to hsa ?_ | refine forceL_to hsb ?_ | refine optP_intro hpz ?_ | refine optP_intro hpz2 ?_ | refine callP_a hFm ?_ | refine callP_a hAm ?_ | refine callP_a hBm ?_ | refine callP_a aw ?_ | refine And.intro (DrawOk.mk (by kernel_rfl)) ?_ | refine okI ?_ | refine brP_true (Nat.beq_refl _) ?_ | refine brP_intro (fun _ => ?_) (fun _ => ?_) | refine bndI ?_ | intro _) <;> conv => whnf)))
            all_goals first | exact trivial | ((refine ⟨⟨?_⟩, trivial⟩; rfl)) | (exfalso; omega) | trace_state
          · rw [if_neg hh] at m4
            conv => whnf
            repeat (any_goals (first | exact falseI | (refine brP_dec (fun _ => ?_) (fun _ => ?_) <;> first | (exfalso; omega) | conv => whnf) | (refine brP_ndec (fun _ => ?_) (fun _ => ?_) <;> first | (exfalso; omega) | conv => whnf) | ((first | refine optP_map hA hn1 ?_ | refine optP_map hB ho1 ?_ | refine optP_map hLA hn1 ?_ | refine optP_map hLB ho1 ?_ | refine forceL_to hsa ?_ | refine forceL_to hsb ?_ | refine optP_intro hpz ?_ | refine optP_intro hpz2 ?_ | refine callP_a hFm ?_ | refine callP_a hAm ?_ | refine callP_a hBm ?_ | refine callP_a aw ?_ | refine And.intro (DrawOk.mk (by kernel_rfl)) ?_ | refine okI ?_ | refine brP_true (Nat.beq_refl _) ?_ | refine brP_intro (fun _ => ?_) (fun _ => ?_) | refine bndI ?_ | intro _) <;> conv => whnf)))
            all_goals first | exact trivial | ((refine ⟨⟨?_⟩, trivial⟩; rfl)) | (exfalso; omega) | trace_state
  · rw [if_neg hc] at hW
    rw [decide_eq_false hc] at hva
    generalize r.check = c at *
    obtain ⟨c1, c2, c3⟩ := c
    simp only at hc hW
    refine pureA_codeB tabOk { l := 0, f := 15, ow := [73], fz := [(20, 12)] } mixed call_15 Try.func15 (by kernel_rfl) ?_
    conv => whnf
    repeat (any_goals (first | exact falseI | (refine brP_dec (fun _ => ?_) (fun _ => ?_) <;> first | (exfalso; omega) | conv => whnf) | (refine brP_ndec (fun _ => ?_) (fun _ => ?_) <;> first | (exfalso; omega) | conv => whnf) | ((first | refine callP_a hva ?_ | refine callP_a hW ?_ | refine callP_a aw ?_ | refine And.intro (DrawOk.mk (by kernel_rfl)) ?_ | refine okI ?_ | refine brP_true (Nat.beq_refl _) ?_ | refine brP_intro (fun _ => ?_) (fun _ => ?_) | refine bndI ?_ | intro _) <;> conv => whnf)))
    all_goals first | ((refine ⟨⟨?_⟩, trivial⟩; rfl)) | skip
end Go.Proofs.Ytmggofcaeolaiaa
namespace Go.Proofs.Ytmggofcaeolaiaa
open Go.Am Go.Proofs Go Go.ChangeShapes Go.WideShapes Go.ChangeAt Go.RowKit
set_option linter.unusedVariables false
set_option maxRecDepth 100000 in
theorem byte_read5 {H : Type} {enc : TypeId × Value → H} {sp : Nat → Bool} {held : Bool} {W : World} {r : Reach} {b0 : Nat} {v : Value} {d : DataW H} {ps : List MemPlace} (hk : Value.okWide Try.prog W r b0 5 v) (h : DataW.Trod enc Try.prog W 0 sp held 5 v d ps) : ∃ k : Nat, k ≤ 255 ∧ v = .int .u8 k := by
  simp only [Value.okWide, Try.underlying5] at hk
  obtain ⟨fuel, hf⟩ := h
  have hv : v.cells.toList = [v] := by
    cases v with
    | agg cs => simp [Cell.okWide, Try.underlying5, Cell.ok] at hk
    | _ => rfl
  rw [hv] at hf
  obtain ⟨m, e2, _, hw⟩ := DataW.trod_int Try.underlying5 hf
  simp at e2
  subst e2
  obtain ⟨h1, h2⟩ := bounds_u8 hw
  exact ⟨m.toNat, by omega, by rw [Int.toNat_of_nonneg h1]⟩
end Go.Proofs.Ytmggofcaeolaiaa
