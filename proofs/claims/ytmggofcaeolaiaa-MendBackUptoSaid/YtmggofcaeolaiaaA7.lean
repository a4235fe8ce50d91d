/- Part 7 of the texts that the last one stands on. -/
import Derived.Test.YtmggofcaeolaiaaA6
set_option linter.unusedVariables false
set_option linter.unusedSimpArgs false
namespace Go.Proofs.Ytmggofcaeolaiaa
open Go.Am Go.Proofs Go
theorem one_ok_step {r q : Row} (hv : r.Valid) (hk : r.Kept q) {s : Stp} (h : (q.one s).2 = 0) : s ∈ r.steps := by
  rw [hv.mem_steps]
  unfold Row.one at h
  split at h
  · rename_i hc
    obtain ⟨a, b⟩ := s
    simp only [hk.bench] at hc
    refine .inr ⟨?_, hc.2.2⟩
    rw [Stp.mk.injEq]
    exact ⟨hc.1, hc.2.1⟩
  · split at h
    · rename_i hc
      rw [hk.beside] at hc
      obtain ⟨x, hx, e⟩ := List.any_eq_true.1 hc
      have e : s = x := by simpa using e
      exact .inl (e ▸ hx)
    · simp at h
theorem after_steps {r : Row} (hv : r.Valid) : ∀ (w : List Stp) (q : Row), r.Kept q → (q.after w).2 = 0 → ∀ s ∈ w, s ∈ r.steps
  | [], q, _, _, s, hs => by simp at hs
  | x :: w, q, hk, h, s, hs => by
    simp only [Row.after] at h
    by_cases h1 : (q.one x).2 = 0
    · rw [if_pos h1] at h
      rcases List.mem_cons.1 hs with e | hs
      · subst e; exact one_ok_step hv hk h1
      · exact after_steps hv w _ (hk.trans (q.one_kept x)) h s hs
    · rw [if_neg h1] at h; exact absurd h h1
theorem full_each {r : Row} (hv : r.Valid) (hr : r.small) (w : List Stp) (h : (r.after w).2 = 0) : ∃ g ∈ r.rf 100000, g.1 = (r.after w).1 ∧ wle g.2 w := by
  have F := rf_finds hv 100000
  obtain ⟨hI, S⟩ := reach1 hv hr
  have hb := hI.bound hv.parts.1
  refine F.each w (after_steps hv w r (.refl r) h) h (.inr fun f hf => ?_)
  have := F.ok.many f hf
  rw [S.len] at this
  omega
structure IsFew (r : Row) (l : List Stp) : Prop where
  can : (r.after l).2 = 0
  good : (r.after l).1.bad.length = 0
  least : ∀ w, (r.after w).2 = 0 → (r.after w).1.bad.length = 0 → wle l w
theorem rfew_spec {r : Row} (hc : r.check.2.2 = 0) (hr : r.small) : (r.rfew.2 = 0 ∧ IsFew r r.rfew.1) ∨ (r.rfew = ([], 9) ∧ ∀ w, (r.after w).2 = 0 → (r.after w).1.bad.length ≠ 0) := by
  have hv := r.valid_iff hc
  have F := rf_finds hv 100000
  have E := fun w h => full_each hv hr w h
  unfold Row.rfew
  rw [if_pos hc]
  generalize r.rf 100000 = all at *
  unfold rfewF
  cases hf : all.find? (fun f => decide (f.1.bad.length = 0)) with
  | none =>
    refine .inr ⟨rfl, fun w h hb => ?_⟩
    obtain ⟨g, hg, e, _⟩ := E w h
    have := List.find?_eq_none.1 hf g hg
    rw [e] at this
    simp [hb] at this
  | some f =>
    refine .inl ⟨rfl, ?_⟩
    have hfm := List.mem_of_find?_eq_some hf
    have hfb := List.find?_some hf
    have hp := (F.path f hfm).1
    refine ⟨by rw [hp], by rw [hp]; simpa using hfb, fun w h hb => ?_⟩
    obtain ⟨g, hg, e, hle⟩ := E w h
    refine wle_trans ?_ hle
    obtain ⟨_, xs, ys, he, hno⟩ := List.find?_eq_some_iff_append.1 hf
    rw [he] at hg
    rcases List.mem_append.1 hg with h1 | h1
    · have := hno g h1
      rw [e] at this
      simp [hb] at this
    · rcases List.mem_cons.1 h1 with h1 | h1
      · rw [h1]; exact .inl rfl
      · have ho := F.ord
        rw [he, List.map_append, List.map_cons] at ho
        have := (List.pairwise_append.1 ho).2.1
        exact .inr ((List.pairwise_cons.1 this).1 g.2 (List.mem_map.2 ⟨g, h1, rfl⟩))
theorem bestP_le : ∀ (l : List (Int × Int)) (a : Int × Int), (bestP a l).1 ≤ a.1 ∧ ∀ x ∈ l, (bestP a l).1 ≤ x.1
  | [], a => ⟨Int.le_refl _, fun x hx => by simp at hx⟩
  | y :: l, a => by
    have ih := bestP_le l (if y.1 < a.1 then y else a)
    simp only [bestP]
    by_cases h : y.1 < a.1
    · rw [if_pos h] at ih ⊢
      exact ⟨by omega, fun x hx => by
        rcases List.mem_cons.1 hx with e | hx
        · subst e; exact ih.1
        · exact ih.2 x hx⟩
    · rw [if_neg h] at ih ⊢
      exact ⟨ih.1, fun x hx => by
        rcases List.mem_cons.1 hx with e | hx
        · subst e; omega
        · exact ih.2 x hx⟩
theorem bestP_mem : ∀ (l : List (Int × Int)) (a : Int × Int), bestP a l ∈ a :: l
  | [], a => by simp [bestP]
  | y :: l, a => by
    have ih := bestP_mem l (if y.1 < a.1 then y else a)
    simp only [bestP]
    rcases List.mem_cons.1 ih with e | h
    · rw [e]; split <;> simp
    · exact List.mem_cons_of_mem _ (List.mem_cons_of_mem _ h)
theorem bestP_first : ∀ (l : List (Int × Int)) (a : Int × Int), (a :: l).Pairwise (fun x y => x.2 ≤ y.2) → ∀ x ∈ a :: l, x.1 = (bestP a l).1 → (bestP a l).2 ≤ x.2
  | [], a, _, x, hx, _ => by simp at hx; subst hx; exact Int.le_refl _
  | y :: l, a, hp, x, hx, he => by
    obtain ⟨h1, h2⟩ := List.pairwise_cons.1 hp
    simp only [bestP] at he ⊢
    by_cases h : y.1 < a.1
    · rw [if_pos h] at he ⊢
      rcases List.mem_cons.1 hx with e | hx
      · subst e
        have := (bestP_le l y).1
        omega
      · exact bestP_first l y h2 x hx he
    · rw [if_neg h] at he ⊢
      have hp' : (a :: l).Pairwise (fun x y => x.2 ≤ y.2) := List.pairwise_cons.2 ⟨fun z hz => h1 z (List.mem_cons_of_mem _ hz), (List.pairwise_cons.1 h2).2⟩
      rcases List.mem_cons.1 hx with e | hx
      · subst e; exact bestP_first l x hp' x (List.mem_cons_self ..) he
      · rcases List.mem_cons.1 hx with e | hx
        · subst e
          have h3 := (bestP_le l a).1
          have h4 : a.1 = (bestP a l).1 := by omega
          have := bestP_first l a hp' a (List.mem_cons_self ..) h4
          have := h1 x (List.mem_cons_self ..)
          omega
        · exact bestP_first l a hp' x (List.mem_cons_of_mem _ hx) he
structure IsMost (r : Row) (m : Int × Int × Int) : Prop where
  ok : m.2.2 = 0
  some_ : ∃ w, (r.after w).2 = 0 ∧ ((r.after w).1.bad.length : Int) = m.1 ∧ (w.length : Int) = m.2.1
  least : ∀ w, (r.after w).2 = 0 → m.1 ≤ (r.after w).1.bad.length ∧ (((r.after w).1.bad.length : Int) = m.1 → m.2.1 ≤ w.length)
theorem rmost_spec {r : Row} (hc : r.check.2.2 = 0) (hr : r.small) : IsMost r r.rmost := by
  have hv := r.valid_iff hc
  have F := rf_finds hv 100000
  have E := fun w h => full_each hv hr w h
  have h0 := rf_head r 100000
  unfold Row.rmost
  rw [if_pos hc]
  generalize r.rf 100000 = all at *
  obtain ⟨l, rfl⟩ : ∃ l, all = (r, []) :: l := by
    cases all with
    | nil => simp at h0
    | cons x l => simp at h0; exact ⟨l, by rw [h0]⟩
  have e : (((r, []) :: l : List RF).map num2).drop 1 = l.map num2 := rfl
  rw [e]
  have hmap : ((r.bad.length : Int), (0 : Int)) :: l.map num2 = ((r, []) :: l : List RF).map num2 := rfl
  have hord : (((r.bad.length : Int), (0 : Int)) :: l.map num2).Pairwise (fun x y => x.2 ≤ y.2) := by
    rw [hmap, List.pairwise_map]
    have := F.ord
    rw [List.pairwise_map] at this
    exact this.imp fun h => by
      have := wle_len (.inr h)
      simp only [num2]; omega
  refine ⟨rfl, ?_, fun w h => ?_⟩
  · have := bestP_mem (l.map num2) ((r.bad.length : Int), 0)
    rw [hmap] at this
    obtain ⟨f, hf, e⟩ := List.mem_map.1 this
    have hp := (F.path f hf).1
    refine ⟨f.2, by rw [hp], ?_, ?_⟩
    · rw [hp, ← e]; rfl
    · rw [← e]; rfl
  · obtain ⟨g, hg, eg, hle⟩ := E w h
    have hgm : num2 g ∈ ((r.bad.length : Int), (0 : Int)) :: l.map num2 := by rw [hmap]; exact List.mem_map.2 ⟨g, hg, rfl⟩
    have h1 : (bestP ((r.bad.length : Int), 0) (l.map num2)).1 ≤ (num2 g).1 := by
      rcases List.mem_cons.1 hgm with e | hm
      · rw [e]; exact (bestP_le _ _).1
      · exact (bestP_le _ _).2 _ hm
    have e1 : (num2 g).1 = ((r.after w).1.bad.length : Int) := by rw [← eg]; rfl
    rw [e1] at h1
    refine ⟨h1, fun he => ?_⟩
    have h2 := bestP_first _ _ hord (num2 g) hgm (by rw [e1]; exact he)
    have h3 := wle_len hle
    have h4 : (num2 g).2 = (g.2.length : Int) := rfl
    simp only at h2 ⊢
    omega
end Go.Proofs.Ytmggofcaeolaiaa
namespace Go.Proofs.Ytmggofcaeolaiaa
open Go.Am Go.Proofs Go
def canF (q : Row) : List Stp → List Stp
  | [] => []
  | s :: l => if (q.one s).2 = 0 then s :: canF q l else canF q l
def anyF (x : List Int) : Nat → Row → List Stp → List Stp
  | 0, _, out => out
  | n + 1, q, out => if out.length < x.length ∧ out.length < 20 then
      if (canF q q.steps).length = 0 then out else
        anyF x n (q.one ((canF q q.steps).getD ((turn x out.length).toNat % (canF q q.steps).length) zeroS)).1 (out ++ [(canF q q.steps).getD ((turn x out.length).toNat % (canF q q.steps).length) zeroS])
    else out
def Row.anyS (r : Row) (x : List Int) : List Stp := anyF x 21 r []
theorem canF_ok (q : Row) : ∀ (l : List Stp), ∀ s ∈ canF q l, (q.one s).2 = 0
  | [], s, h => by simp [canF] at h
  | t :: l, s, h => by
    unfold canF at h
    split at h
    · rename_i ht
      rcases List.mem_cons.1 h with e | h
      · subst e; exact ht
      · exact canF_ok q l s h
    · exact canF_ok q l s h
theorem canF_len (q : Row) : ∀ (l : List Stp), (canF q l).length ≤ l.length
  | [] => Nat.le_refl _
  | t :: l => by
    have := canF_len q l
    unfold canF
    split <;> simp <;> omega
theorem anyF_can {r : Row} {x : List Int} : ∀ (n : Nat) (q : Row) (out : List Stp), r.after out = (q, 0) → out.length ≤ 20 → (r.after (anyF x n q out)).2 = 0 ∧ (anyF x n q out).length ≤ 20
  | 0, q, out, h, hl => ⟨by simp only [anyF]; rw [h], hl⟩
  | n + 1, q, out, h, hl => by
    unfold anyF
    split
    · rename_i hc
      split
      · exact ⟨by rw [h], hl⟩
      · rename_i h0
        have hlt : (turn x out.length).toNat % (canF q q.steps).length < (canF q q.steps).length := Nat.mod_lt _ (by omega)
        obtain ⟨s, hs, _⟩ := drop_cons (l := canF q q.steps) hlt
        have e : (canF q q.steps).getD ((turn x out.length).toNat % (canF q q.steps).length) zeroS = s := by simp [List.getD, hs]
        rw [e]
        exact anyF_can n _ _ (snoc_after h (canF_ok q _ s (List.mem_of_getElem? hs))) (by simp; omega)
    · exact ⟨by rw [h], hl⟩
theorem Row.any_can (r : Row) (x : List Int) : (r.after (r.anyS x)).2 = 0 ∧ (r.anyS x).length ≤ 20 := anyF_can 21 r [] rfl (by simp)
theorem after_kept {r : Row} (hg : r.Good) : ∀ (w : List Stp), (r.after w).2 = 0 → r.Kept (r.after w).1 := by
  have : ∀ (w : List Stp) (q : Row), r.Kept q → (q.after w).2 = 0 → r.Kept (q.after w).1 := by
    intro w
    induction w with
    | nil => exact fun q hk _ => hk
    | cons s w ih =>
      intro q hk h
      simp only [Row.after] at h ⊢
      by_cases h1 : (q.one s).2 = 0
      · rw [if_pos h1] at h ⊢
        exact ih _ (hk.trans (q.one_kept s)) h
      · rw [if_neg h1] at h; exact absurd h h1
  exact fun w h => this w r (.refl r) h
theorem turn_bound {x : List Int} (hb : ∀ v ∈ x, 0 ≤ v ∧ v < 256) (n : Nat) : 0 ≤ turn x n ∧ turn x n < 256 := by
  unfold turn
  split
  · omega
  · rename_i h0
    obtain ⟨v, hv, _⟩ := drop_cons (l := x) (i := n % x.length) (Nat.mod_lt _ (by omega))
    have : x.getD (n % x.length) 0 = v := by simp [List.getD, hv]
    rw [this]; exact hb v (List.mem_of_getElem? hv)
set_option maxHeartbeats 2000000 in
theorem any_c (r : Row) (hg : r.Good) (x : List Int) (hx : x.length ≤ 1048576) (hb : ∀ v ∈ x, 0 ≤ v ∧ v < 256) : PureA Try.prog 42 [rowA r, bytesA x] (stpsA (r.anyS x)) := by
  obtain ⟨R, hR⟩ : ∃ R, R = r.anyS x := ⟨_, rfl⟩
  rw [← hR]
  unfold Row.anyS at hR
  refine pureA_codeB tabOk { l := 0, f := 42 } mixed call_42 Try.func42 (by kernel_rfl) ?_
  conv => whnf
  refine loopTok 5 2 ⟨0, 42, 74⟩ ?_
  conv => whnf
  refine loopK tabOk { l := 0, f := 42 } mixed (fun a : Row × List Stp => [(6, intA (a.2.length : Nat)), (5, .slice 2 (a.2.map stpA) (.own ⟨0, 42, 74⟩ 1))]) (fun a => [(⟨0, 42, 2⟩, some (1, some (3, [rowA a.1])))]) (fun a => [(⟨0, 42, 74⟩, some (1, a.2.length))]) (fun a => a.2.length ≤ 20 ∧ r.Kept a.1 ∧ R = anyF x (21 - a.2.length) a.1 a.2) (fun a => 21 - a.2.length) (r, []) (by kernel_rfl)
    ⟨by simp, .refl r, hR⟩ ?_
  conv => whnf
  refine ⟨⟨slotsLe_cons rfl (slotsLe_cons rfl trivial), keysLe_cons rfl trivial, keysLe_cons rfl trivial⟩, ?_⟩
  intro ⟨q, out⟩ ⟨ho, hk, H⟩
  simp only at ho hk H
  obtain ⟨m, hm⟩ : ∃ m, 21 - out.length = m + 1 := ⟨20 - out.length, by omega⟩
  rw [hm] at H
  simp only [anyF] at H
  by_cases hc : out.length < x.length ∧ out.length < 20
  · rw [if_pos hc] at H
    have hgq := hk.good hg
    have hs := steps_c q hgq
    have hL := q.steps_len hgq.len
    have hone := fun s => one_c q hgq s
    have ht := turn_c x out.length hx (by omega) hb
    have htb := turn_bound hb out.length
    have ex : (x.map byteA).length = x.length := List.length_map _
    generalize hQ : q.steps = L at *
    obtain ⟨K, hK⟩ : ∃ K, K = canF q L := ⟨_, rfl⟩
    rw [← hK] at H
    conv => whnf
    refine brP_dec (fun h1 => ?_) (fun h1 => ?_)
    · conv => whnf
      refine brP_dec (fun h2 => ?_) (fun h2 => ?_)
      · conv => whnf
        repeat (any_goals (first | exact falseI | (refine brP_dec (fun _ => ?_) (fun _ => ?_) <;> first | (exfalso; omega) | conv => whnf) | (refine brP_ndec (fun _ => ?_) (fun _ => ?_) <;> first | (exfalso; omega) | conv => whnf) | ((first | refine callP_a hs ?_ | refine And.intro (DrawOk.mk (by kernel_rfl)) ?_ | refine okI ?_ | refine brP_true (Nat.beq_refl _) ?_ | refine brP_intro (fun _ => ?_) (fun _ => ?_) | refine bndI ?_ | intro _) <;> conv => whnf)))
        refine loopTok 7 2 ⟨0, 42, 50⟩ ?_
        conv => whnf
        intro g _
        conv => whnf
        refine loopK tabOk { l := 0, f := 42 } mixed (fun b : Nat × List Stp => [(9, intA b.1), (7, .slice 2 (b.2.map stpA) (.own ⟨0, 42, 50⟩ (g + 1)))]) (fun _ => []) (fun b => [(⟨0, 42, 50⟩, some (g + 1, b.2.length))]) (fun b => b.1 ≤ L.length ∧ b.2.length ≤ b.1 ∧ K = b.2 ++ canF q (L.drop b.1)) (fun b => L.length - b.1) (0, []) (by kernel_rfl)
          ⟨Nat.zero_le _, Nat.le_refl _, hK⟩ ?_
        conv => whnf
        refine ⟨⟨slotsLe_cons rfl (slotsLe_cons rfl trivial), trivial, keysLe_cons rfl trivial⟩, ?_⟩
        intro ⟨k, can⟩ ⟨hk2, hcl, HK⟩
        simp only at hk2 hcl HK
        conv => whnf
        refine brP_dec (fun h1 => ?_) (fun h1 => ?_)
        · simp only [List.length_map] at h1
          obtain ⟨s, hs2, hd⟩ := drop_cons (l := L) (i := k) (by omega)
          rw [hd] at HK
          simp only [canF] at HK
          have ho2 := hone s
          unfold rowErrA at ho2
          generalize q.one s = y at *
          obtain ⟨y, e⟩ := y
          simp only at HK ho2
          by_cases he : e = 0
          · subst he
            simp only [if_true] at HK
            conv => whnf
            repeat (any_goals (first | exact falseI | (refine brP_dec (fun _ => ?_) (fun _ => ?_) <;> first | (exfalso; omega) | conv => whnf) | (refine brP_ndec (fun _ => ?_) (fun _ => ?_) <;> first | (exfalso; omega) | conv => whnf) | ((first | refine optP_map hs2 rfl ?_ | refine callP_a ho2 ?_ | refine And.intro (DrawOk.mk (by kernel_rfl)) ?_ | refine okI ?_ | refine brP_true (Nat.beq_refl _) ?_ | refine brP_intro (fun _ => ?_) (fun _ => ?_) | refine bndI ?_ | intro _) <;> conv => whnf)))
            (refine ⟨(k + 1, can ++ [s]), ⟨by simp only; omega, by simp only [List.length_append, List.length_cons, List.length_nil]; omega, by simpa using HK⟩, (by simp only; omega), ?_⟩; (conv => whnf); refine ⟨?_, ?_, ?_⟩ <;> repeat (first | exact trivial | refine slotsLe_cons rfl ?_ | refine keysLe_none ?_ | refine keysLe_cons rfl ?_ | refine slotsLe_cons (by first | rfl | (simp only [List.map_append]; rfl) | ((conv => lhs; whnf); simp; done) | ((conv => lhs; whnf); simp; omega)) ?_ | refine keysLe_cons (by first | rfl | (simp only [List.map_append]; rfl) | ((conv => lhs; whnf); simp; done) | ((conv => lhs; whnf); simp; omega)) ?_))
          · rw [if_neg he] at HK
            conv => whnf
            repeat (any_goals (first | exact falseI | (refine brP_dec (fun _ => ?_) (fun _ => ?_) <;> first | (exfalso; omega) | conv => whnf) | (refine brP_ndec (fun _ => ?_) (fun _ => ?_) <;> first | (exfalso; omega) | conv => whnf) | ((first | refine optP_map hs2 rfl ?_ | refine callP_a ho2 ?_ | refine And.intro (DrawOk.mk (by kernel_rfl)) ?_ | refine okI ?_ | refine brP_true (Nat.beq_refl _) ?_ | refine brP_intro (fun _ => ?_) (fun _ => ?_) | refine bndI ?_ | intro _) <;> conv => whnf)))
            (refine ⟨(k + 1, can), ⟨by simp only; omega, by simp only; omega, HK⟩, (by simp only; omega), ?_⟩; (conv => whnf); refine ⟨?_, ?_, ?_⟩ <;> repeat (first | exact trivial | refine slotsLe_cons rfl ?_ | refine keysLe_none ?_ | refine keysLe_cons rfl ?_ | refine slotsLe_cons (by rfl) ?_ | refine keysLe_cons (by rfl) ?_))
        · have : k = L.length := by simp only [List.length_map] at h1; omega
          subst this
          rw [List.drop_length] at HK
          simp only [canF, List.append_nil] at HK
          have HK := HK.symm
          subst HK
          have ec : (List.map stpA ((L.length, can) : Nat × List Stp).snd).length = can.length := List.length_map _
          by_cases hz : can.length = 0
          · rw [if_pos hz] at H
            subst H
            conv => whnf
            repeat (any_goals (first | exact falseI | (refine brP_dec (fun _ => ?_) (fun _ => ?_) <;> first | (exfalso; omega) | conv => whnf) | (refine brP_ndec (fun _ => ?_) (fun _ => ?_) <;> first | (exfalso; omega) | conv => whnf) | ((first | refine And.intro (DrawOk.mk (by kernel_rfl)) ?_ | refine okI ?_ | refine brP_true (Nat.beq_refl _) ?_ | refine brP_intro (fun _ => ?_) (fun _ => ?_) | refine bndI ?_ | intro _) <;> conv => whnf)))
            all_goals first | ((refine ⟨⟨?_⟩, trivial⟩; rfl)) | skip
          · rw [if_neg hz] at H
            have hj : (turn x out.length).toNat % can.length < can.length := Nat.mod_lt _ (by omega)
            obtain ⟨s, hs2, _⟩ := drop_cons (l := can) hj
            have eg : can.getD ((turn x out.length).toNat % can.length) zeroS = s := by simp [List.getD, hs2]
            rw [eg] at H
            have ho2 := hone s
            have hks := hk.trans (q.one_kept s)
            have htm : (turn x out.length).tmod ((List.map stpA ((L.length, can) : Nat × List Stp).snd).length : Int) = (((turn x out.length).toNat % can.length : Nat) : Int) := by
              obtain ⟨t, et⟩ : ∃ t : Nat, turn x out.length = t := ⟨(turn x out.length).toNat, by omega⟩
              rw [ec, et, Int.toNat_natCast]
              rfl
            unfold rowErrA at ho2
            generalize q.one s = y at *
            obtain ⟨y, e⟩ := y
            simp only at H ho2 hks
            conv => whnf
            repeat (any_goals (first | exact falseI | (refine brP_dec (fun _ => ?_) (fun _ => ?_) <;> first | (exfalso; omega) | conv => whnf) | (refine brP_ndec (fun _ => ?_) (fun _ => ?_) <;> first | (exfalso; omega) | conv => whnf) | ((first | refine callP_a ht ?_ | refine optP_map hs2 htm ?_ | refine callP_a ho2 ?_ | refine And.intro (DrawOk.mk (by kernel_rfl)) ?_ | refine okI ?_ | refine brP_true (Nat.beq_refl _) ?_ | refine brP_intro (fun _ => ?_) (fun _ => ?_) | refine bndI ?_ | intro _) <;> conv => whnf)))
            have hl1 : (out ++ [s]).length = out.length + 1 := by simp
            (refine ⟨(y, out ++ [s]), ⟨by simp only; omega, hks, by simp only; rw [show 21 - (out ++ [s]).length = m by omega]; exact H⟩, (by simp only; omega), ?_⟩; (conv => whnf); refine ⟨?_, ?_, ?_⟩ <;> repeat (first | exact trivial | refine slotsLe_cons rfl ?_ | refine keysLe_none ?_ | refine keysLe_cons rfl ?_ | refine slotsLe_cons (by first | rfl | (simp only [hl1]; rfl) | (simp only [List.map_append]; rfl) | ((conv => lhs; whnf); simp; done) | ((conv => lhs; whnf); simp; omega)) ?_ | refine keysLe_cons (by first | rfl | (simp only [hl1]; rfl) | (simp only [List.map_append]; rfl) | ((conv => lhs; whnf); simp; done) | ((conv => lhs; whnf); simp; omega)) ?_))
      · exfalso
        simp only at h2
        omega
    · exfalso
      simp only [List.length_map] at h1
      omega
  · rw [if_neg hc] at H
    have H := H.symm
    subst H
    have ex : (x.map byteA).length = x.length := List.length_map _
    conv => whnf
    refine brP_dec (fun h1 => ?_) (fun h1 => ?_)
    · conv => whnf
      refine brP_dec (fun h2 => ?_) (fun h2 => ?_)
      · exfalso
        simp only [List.length_map] at h1 h2
        omega
      · conv => whnf
        repeat (any_goals (first | exact falseI | (refine brP_dec (fun _ => ?_) (fun _ => ?_) <;> first | (exfalso; omega) | conv => whnf) | (refine brP_ndec (fun _ => ?_) (fun _ => ?_) <;> first | (exfalso; omega) | conv => whnf) | ((first | refine And.intro (DrawOk.mk (by kernel_rfl)) ?_ | refine okI ?_ | refine brP_true (Nat.beq_refl _) ?_ | refine brP_intro (fun _ => ?_) (fun _ => ?_) | refine bndI ?_ | intro _) <;> conv => whnf)))
        (refine ⟨⟨?_⟩, trivial⟩; rfl)
    · conv => whnf
      repeat (any_goals (first | exact falseI | (refine brP_dec (fun _ => ?_) (fun _ => ?_) <;> first | (exfalso; omega) | conv => whnf) | (refine brP_ndec (fun _ => ?_) (fun _ => ?_) <;> first | (exfalso; omega) | conv => whnf) | ((first | refine And.intro (DrawOk.mk (by kernel_rfl)) ?_ | refine okI ?_ | refine brP_true (Nat.beq_refl _) ?_ | refine brP_intro (fun _ => ?_) (fun _ => ?_) | refine bndI ?_ | intro _) <;> conv => whnf)))
      (refine ⟨⟨?_⟩, trivial⟩; rfl)
end Go.Proofs.Ytmggofcaeolaiaa
namespace Go.Proofs.Ytmggofcaeolaiaa
open Go.Am Go.Proofs Go
theorem Row.Valid.check {r : Row} (h : r.Valid) : r.check.2.2 = 0 := by
  unfold Row.check
  have h5 : ¬ (5 : Int) < r.figs.length := by have := h.len; omega
  have hf : r.figsErr.2 = 0 := firstFrom_all _ _ 0 fun j x hx => by rw [Nat.zero_add]; exact h.fig j x hx
  have hs : r.stpsErr.2 = 0 := firstFrom_all _ _ 0 fun j x hx => by rw [Nat.zero_add]; exact h.stp j x hx
  rw [if_neg h5, if_neg (by rw [hf]; simp), if_neg (by rw [hs]; simp), if_neg (by rw [h.bench]; simp)]
theorem Row.Kept.name {r q : Row} (k : r.Kept q) : q.figs.map (·.name) = r.figs.map (·.name) := by
  refine List.ext_getElem? fun i => ?_
  rw [List.getElem?_map, List.getElem?_map]
  cases hf : q.figs[i]? with
  | none =>
    have : r.figs.length ≤ i := by rw [← k.len]; exact List.getElem?_eq_none_iff.1 hf
    rw [List.getElem?_eq_none this]
  | some f =>
    obtain ⟨g, hg, e, _⟩ := k.names i f hf
    rw [hg]; simp [e]
theorem any_name (l : List Fig) (n : ByteArray) : (l.any fun x => decide (x.name = n)) = (l.map (·.name)).any fun x => decide (x = n) := by
  rw [List.any_map]; rfl
theorem figErr_eq {l : List Fig} {f : Fig} (h : figErr l f = 0) {l' : List Fig} {f' : Fig} (hn : f'.name = f.name) (hl : l'.map (·.name) = l.map (·.name)) (h1 : 0 ≤ f'.has ∧ f'.has ≤ 5) (h2 : -1 ≤ f'.wants ∧ f'.wants ≤ 5) : figErr l' f' = 0 := by
  unfold figErr at h ⊢
  rw [any_name] at h ⊢
  rw [hn, hl]
  split at h
  · simp at h
  · rename_i n1
    split at h
    · simp at h
    · rename_i n2
      have e1 := (outside_false).2 h1
      have e2 := (outside_false).2 h2
      rw [if_neg n1, if_neg n2, e1, e2]; rfl
theorem Row.Valid.kept {r q : Row} (h : r.Valid) (k : r.Kept q) (hq : hasOk q) : q.Valid := by
  have hl : q.last = r.last := by unfold Row.last; rw [k.len]
  refine ⟨by rw [k.len]; exact h.len, fun j f hf => ?_, fun j s hs => ?_, ?_⟩
  · obtain ⟨g, hg, e1, e2⟩ := k.names j f hf
    have h0 := h.fig j g hg
    have hz := figErr_zero h0
    refine figErr_eq h0 e1 ?_ (hq f (List.mem_of_getElem? hf)) (by rw [e2]; exact ⟨hz.2.2.1, hz.2.2.2⟩)
    rw [List.map_take, List.map_take, k.name]
  · rw [k.beside] at hs ⊢
    rw [hl]; exact h.stp j s hs
  · rw [hl, k.bench]; exact h.bench
theorem after_has {r : Row} : ∀ (w : List Stp) {q : Row}, hasOk q → (q.after w).2 = 0 → hasOk (q.after w).1
  | [], q, hq, _ => hq
  | s :: w, q, hq, h => by
    simp only [Row.after] at h ⊢
    by_cases h1 : (q.one s).2 = 0
    · rw [if_pos h1] at h ⊢
      exact after_has (r := r) w (one_has hq s) h
    · rw [if_neg h1] at h; exact absurd h h1
theorem after_check {r : Row} (hc : r.check.2.2 = 0) (hr : r.small) {w : List Stp} (h : (r.after w).2 = 0) : (r.after w).1.check.2.2 = 0 ∧ (r.after w).1.small ∧ r.Kept (r.after w).1 := by
  have hv := r.valid_iff hc
  have hk := after_kept (hv.good hr) w h
  exact ⟨(hv.kept hk (after_has (r := r) w hv.has h)).check, hk.small hr, hk⟩
theorem done_ok {r : Row} (hc : r.check.2.2 = 0) (hr : r.small) {w : List Stp} (h : w.length ≤ 20) : r.done w = r.after w := by
  rw [← done_after r hr w, if_neg (by simp [hc]), if_neg (by omega)]
def cntK (k : Int) (l : List Fig) : Nat := l.countP fun f => decide (f.has = k)
def cntB (k : Int) (l : List Fig) : Nat := l.countP fun f => decide (f.has = k) && f.broken
theorem countP_at {p : Fig → Bool} {l : List Fig} {i : Nat} (h : i < l.length) : (if p l[i] = true then 1 else 0) ≤ l.countP p := by
  split
  · rename_i hp
    exact List.countP_pos_iff.2 ⟨l[i], List.getElem_mem h, hp⟩
  · exact Nat.zero_le _
theorem countP_swap {p : Fig → Bool} {l : List Fig} {i j : Nat} {x y : Fig} (hi : i < l.length) (hj : j < l.length) (hij : i ≠ j) (hx : p x = p l[j]) (hy : p y = p l[i]) : ((l.set i x).set j y).countP p = l.countP p := by
  have hj' : j < (l.set i x).length := by simpa using hj
  have e : (l.set i x)[j] = l[j] := by rw [List.getElem_set]; rw [if_neg hij]
  rw [List.countP_set (h := hj'), List.countP_set (h := hi), e, hx, hy]
  have h1 := countP_at (p := p) hi
  have h2 := countP_at (p := p) hj'
  rw [List.countP_set (h := hi), e, hx] at h2
  split <;> split at h1 <;> split at h2 <;> simp_all <;> omega
theorem one_cnt {r : Row} (hg : r.Good) (s : Stp) (k : Int) (h : (r.one s).2 = 0) : cntK k (r.one s).1.figs = cntK k r.figs ∧ cntB k (r.one s).1.figs ≤ cntB k r.figs := by
  unfold Row.one at h ⊢
  split at h
  · rename_i hc
    rw [if_pos hc]
    split at h
    · rename_i hb
      rw [if_pos hb]
      have hbe := hg.benchB
      have hi : s.a.toNat < r.figs.length := by omega
      have e : r.figs.getD s.a.toNat zeroF = r.figs[s.a.toNat] := by simp [List.getD, hi]
      simp only [cntK, cntB]
      rw [e]
      have h1 := countP_at (p := fun f => decide (f.has = k)) hi
      have h2 := countP_at (p := fun f => decide (f.has = k) && f.broken) hi
      rw [List.countP_set (h := hi), List.countP_set (h := hi)]
      refine ⟨?_, ?_⟩
      · simp only at h1 ⊢
        split <;> split at h1 <;> simp_all <;> omega
      · simp only [Bool.and_false] at h2 ⊢
        split <;> simp_all <;> omega
    · simp at h
  · rename_i hc
    rw [if_neg hc]
    split at h
    · rename_i hb
      rw [if_pos hb]
      obtain ⟨x, hx, he⟩ := List.any_eq_true.1 hb
      have hbd := hg.bound s (by simpa [beq_iff_eq.1 he] using hx)
      have hi : s.a.toNat < r.figs.length := by omega
      have hj : s.b.toNat < r.figs.length := by omega
      have e1 : r.figs.getD s.a.toNat zeroF = r.figs[s.a.toNat] := by simp [List.getD, hi]
      have e2 : r.figs.getD s.b.toNat zeroF = r.figs[s.b.toNat] := by simp [List.getD, hj]
      simp only [cntK, cntB]
      rw [e1, e2]
      refine ⟨countP_swap hi hj (by omega) rfl rfl, Nat.le_of_eq (countP_swap hi hj (by omega) rfl rfl)⟩
    · simp at h
theorem after_cnt {k : Int} : ∀ (w : List Stp) {q : Row}, q.Good → (q.after w).2 = 0 → cntK k (q.after w).1.figs = cntK k q.figs ∧ cntB k (q.after w).1.figs ≤ cntB k q.figs
  | [], q, _, _ => ⟨rfl, Nat.le_refl _⟩
  | s :: w, q, hq, h => by
    simp only [Row.after] at h ⊢
    by_cases h1 : (q.one s).2 = 0
    · rw [if_pos h1] at h ⊢
      have := after_cnt (k := k) w ((q.one_kept s).good hq) h
      have h2 := one_cnt hq s k h1
      omega
    · rw [if_neg h1] at h; exact absurd h h1
theorem twice {r : Row} (hg : r.Good) {s : Stp} (hs : s ∈ r.beside) : r.after [s, s] = (r, 0) := by
  have hbd := hg.bound s hs
  have hi : s.a.toNat < r.figs.length := by omega
  have hj : s.b.toNat < r.figs.length := by omega
  have hne : s.a.toNat ≠ s.b.toNat := by omega
  have hany : r.beside.any (s == ·) = true := List.any_eq_true.2 ⟨s, hs, by simp⟩
  have e1 : r.figs.getD s.a.toNat zeroF = r.figs[s.a.toNat] := by simp [List.getD, hi]
  have e2 : r.figs.getD s.b.toNat zeroF = r.figs[s.b.toNat] := by simp [List.getD, hj]
  have hone : ∀ q : Row, q.bench = r.bench → q.beside = r.beside → q.one s = ({ q with figs := (q.figs.set s.a.toNat ((q.figs.getD s.a.toNat zeroF).take (q.figs.getD s.b.toNat zeroF))).set s.b.toNat ((q.figs.getD s.b.toNat zeroF).take (q.figs.getD s.a.toNat zeroF)) }, 0) := by
    intro q hb hbe
    unfold Row.one
    rw [if_neg (by rw [hb]; omega), hbe, if_pos hany, ← hbe]
  have h1 := hone r rfl rfl
  have h2 := hone (r.one s).1 (by rw [h1]) (by rw [h1])
  have z1 : (r.one s).2 = 0 := by rw [h1]
  have z2 : ((r.one s).1.one s).2 = 0 := by rw [h2]
  simp only [Row.after]
  rw [if_pos z1, if_pos z2]
  congr 1
  rw [h2]
  have : ∀ figs : List Fig, figs = r.figs → ∀ be bn, be = r.beside → bn = r.bench → (⟨figs, be, bn⟩ : Row) = r := fun figs h be bn h1 h2 => by rw [h, h1, h2]
  refine this _ ?_ _ _ (by rw [h1]) (by rw [h1])
  rw [h1]
  simp only
  rw [e1, e2]
  generalize hA : r.figs[s.a.toNat] = A
  generalize hB : r.figs[s.b.toNat] = B
  have g1 : ((r.figs.set s.a.toNat (A.take B)).set s.b.toNat (B.take A)).getD s.a.toNat zeroF = A.take B := by
    rw [List.getD_eq_getElem?_getD, List.getElem?_set_ne (Ne.symm hne), List.getElem?_set_self hi]; rfl
  have g2 : ((r.figs.set s.a.toNat (A.take B)).set s.b.toNat (B.take A)).getD s.b.toNat zeroF = B.take A := by
    rw [List.getD_eq_getElem?_getD, List.getElem?_set_self (by simpa using hj)]; rfl
  rw [g1, g2]
  have t1 : (A.take B).take (B.take A) = A := rfl
  have t2 : (B.take A).take (A.take B) = B := rfl
  rw [t1, t2]
  refine List.ext_getElem? fun i => ?_
  by_cases h1 : i = s.b.toNat
  · subst h1
    rw [List.getElem?_set_self (by simpa using hj), ← hB]; simp [hj]
  · rw [List.getElem?_set_ne (Ne.symm h1)]
    by_cases h2 : i = s.a.toNat
    · subst h2
      rw [List.getElem?_set_self (by simpa using hi), ← hA]; simp [hi]
    · rw [List.getElem?_set_ne (Ne.symm h2), List.getElem?_set_ne (Ne.symm h1), List.getElem?_set_ne (Ne.symm h2)]
end Go.Proofs.Ytmggofcaeolaiaa
namespace Go.Proofs.Ytmggofcaeolaiaa
open Go.Am Go.Proofs Go
structure Sub (u v : Row) : Prop where
  figs : v.figs = u.figs
  bench : v.bench = u.bench
  beside : ∀ t : Stp, u.beside.any (t == ·) = true → v.beside.any (t == ·) = true
theorem Sub.one {u v : Row} (h : Sub u v) {t : Stp} (ho : (u.one t).2 = 0) : (v.one t).2 = 0 ∧ Sub (u.one t).1 (v.one t).1 := by
  unfold Row.one at ho ⊢
  rw [h.bench, h.figs]
  split at ho
  · rename_i hc
    rw [if_pos hc, if_pos hc]
    split at ho
    · rename_i hb
      rw [if_pos hb, if_pos hb]
      exact ⟨rfl, rfl, rfl, h.beside⟩
    · simp at ho
  · rename_i hc
    rw [if_neg hc, if_neg hc]
    split at ho
    · rename_i hb
      rw [if_pos hb, if_pos (h.beside t hb)]
      exact ⟨rfl, rfl, rfl, h.beside⟩
    · simp at ho
theorem Sub.after : ∀ {w : List Stp} {u v : Row}, Sub u v → (u.after w).2 = 0 → (v.after w).2 = 0 ∧ (v.after w).1.figs = (u.after w).1.figs
  | [], u, v, h, _ => ⟨rfl, h.figs⟩
  | t :: w, u, v, h, ho => by
    simp only [Row.after] at ho ⊢
    by_cases h1 : (u.one t).2 = 0
    · obtain ⟨h2, h3⟩ := h.one h1
      rw [if_pos h1] at ho ⊢
      rw [if_pos h2]
      exact h3.after ho
    · rw [if_neg h1] at ho; exact absurd ho h1
theorem plus_sub (r : Row) (s : Stp) : Sub r (r.plus s) := by
  unfold Row.plus
  split
  · exact ⟨rfl, rfl, fun t h => h⟩
  · exact ⟨rfl, rfl, fun t h => by
      obtain ⟨x, hx, e⟩ := List.any_eq_true.1 h
      exact List.any_eq_true.2 ⟨x, List.mem_append_left _ hx, e⟩⟩
theorem bad_figs {a b : Row} (h : a.figs = b.figs) : a.bad = b.bad := by unfold Row.bad; rw [h]
theorem most_few {q : Row} (hc : q.check.2.2 = 0) (hq : q.small) (hf : q.rfew.2 = 0) : q.rmost = (0, (q.rfew.1.length : Int), 0) := by
  have hM := rmost_spec hc hq
  rcases rfew_spec hc hq with ⟨_, hF⟩ | ⟨e, _⟩
  · obtain ⟨h1, h2⟩ := hM.least _ hF.can
    obtain ⟨w, hw, hw1, hw2⟩ := hM.some_
    have hok := hM.ok
    generalize q.rmost = M at *
    obtain ⟨M1, M2, M3⟩ := M
    simp only at *
    have hg := hF.good
    have e1 : M1 = 0 := by omega
    have h3 := hF.least w hw (by omega)
    have h4 := wle_len h3
    have h5 := h2 (by omega)
    rw [e1, hok, show M2 = (q.rfew.1.length : Int) by omega]
  · rw [e] at hf; simp at hf
theorem saved {r : Row} (hc : r.check.2.2 = 0) (hr : r.small) {a b : Int} (ho : (outside 0 r.last a || outside 0 r.last b) = false) (hlt : ¬ b ≤ a) (hf : r.rfew.2 = 0) :
    (r.plus ⟨a, b⟩).rfew.2 = 0 ∧ (r.plus ⟨a, b⟩).rfew.1.length ≤ r.rfew.1.length := by
  have hv := r.valid_iff hc
  have hc2 := plus_check hc ho hlt
  have hr2 := Row.plus_small hr hv.ten ⟨a, b⟩
  have hs := plus_sub r ⟨a, b⟩
  rcases rfew_spec hc hr with ⟨_, hF⟩ | ⟨e, _⟩
  · obtain ⟨h1, h2⟩ := hs.after hF.can
    have h3 : ((r.plus ⟨a, b⟩).after r.rfew.1).1.bad.length = 0 := by rw [bad_figs h2]; exact hF.good
    rcases rfew_spec hc2 hr2 with ⟨e, hG⟩ | ⟨_, hn⟩
    · exact ⟨e, wle_len (hG.least _ h1 h3)⟩
    · exact absurd h3 (hn _ h1)
  · rw [e] at hf; simp at hf
theorem plus_has {r : Row} {s : Stp} (h : r.beside.any (s == ·) = true) : r.plus s = r := by
  unfold Row.plus; rw [if_pos h]
end Go.Proofs.Ytmggofcaeolaiaa
namespace Go.Proofs.Ytmggofcaeolaiaa
open Go.Am Go.Proofs Go
def flip (n : Int) (s : Stp) : Stp := ⟨n - s.b, n - s.a⟩
def Row.back (r : Row) : Row := ⟨r.figs.reverse, r.beside.map (flip r.last), if r.bench = -1 then -1 else r.last - r.bench⟩
theorem flip_flip (n : Int) (s : Stp) : flip n (flip n s) = s := by
  obtain ⟨a, b⟩ := s
  simp only [flip, Stp.mk.injEq]; omega
theorem back_last (r : Row) : r.back.last = r.last := by unfold Row.last Row.back; simp
theorem Row.Good.back_back {r : Row} (h : r.Good) : r.back.back = r := by
  have h1 : r.back.back = ⟨r.back.figs.reverse, r.back.beside.map (flip r.back.last), if r.back.bench = -1 then -1 else r.back.last - r.back.bench⟩ := rfl
  rw [h1, back_last]
  have hf : r.back.figs.reverse = r.figs := by simp [Row.back]
  have hb : r.back.beside.map (flip r.last) = r.beside := by
    simp only [Row.back, List.map_map]
    conv => rhs; rw [← List.map_id r.beside]
    refine List.map_congr_left fun s _ => flip_flip _ s
  have hn : (if r.back.bench = -1 then -1 else r.last - r.back.bench) = r.bench := by
    have hbe := h.benchB
    simp only [Row.back, Row.last]
    split <;> split at * <;> omega
  rw [hf, hb, hn]
theorem rev_at {l : List Fig} {i j : Nat} (h : i + j + 1 = l.length) : l.reverse[i]? = l[j]? := by
  rw [List.getElem?_reverse (by omega)]
  congr 1; omega
theorem rev_set {l : List Fig} {i j : Nat} (x : Fig) (h : i + j + 1 = l.length) : l.reverse.set i x = (l.set j x).reverse := by
  refine List.ext_getElem? fun k => ?_
  by_cases hk : k < l.length
  · have hk' : k + (l.length - 1 - k) + 1 = (l.set j x).length := by simp; omega
    rw [rev_at hk']
    by_cases e : k = i
    · subst e
      have : l.length - 1 - k = j := by omega
      rw [this, List.getElem?_set_self (by simp; omega), List.getElem?_set_self (by omega)]
    · rw [List.getElem?_set_ne (Ne.symm e), List.getElem?_set_ne (by omega), rev_at (j := l.length - 1 - k) (by omega)]
  · rw [List.getElem?_eq_none (by simp; omega), List.getElem?_eq_none (by simp; omega)]
theorem rev_getD {l : List Fig} {i j : Nat} (h : i + j + 1 = l.length) : l.reverse.getD i zeroF = l.getD j zeroF := by
  rw [List.getD_eq_getElem?_getD, List.getD_eq_getElem?_getD, rev_at h]
theorem flip_any (n : Int) (l : List Stp) (s : Stp) : (l.map (flip n)).any (flip n s == ·) = l.any (s == ·) := by
  rw [List.any_map]
  congr 1
  funext t
  rw [Bool.eq_iff_iff]
  simp only [Function.comp, beq_iff_eq]
  refine ⟨fun h => ?_, fun h => by rw [h]⟩
  rw [← flip_flip n s, h, flip_flip]
theorem one_back {r : Row} (hg : r.Good) {s : Stp} (h : (r.one s).2 = 0) : r.back.one (flip r.last s) = ((r.one s).1.back, 0) := by
  have hbe := hg.benchB
  unfold Row.one at h
  split at h
  · rename_i hc
    split at h
    · rename_i hb
      have h1 : r.one s = ({ r with figs := r.figs.set s.a.toNat { r.figs.getD s.a.toNat zeroF with broken := false } }, 0) := by
        unfold Row.one; rw [if_pos hc, if_pos hb]
      rw [h1]
      obtain ⟨c1, c2, c3⟩ := hc
      have hi : (flip r.last s).a.toNat + s.a.toNat + 1 = r.figs.length := by simp only [flip, Row.last]; omega
      have hbk : r.back.bench = r.last - r.bench := by simp only [Row.back]; rw [if_neg c3]
      unfold Row.one
      rw [hbk, if_pos ⟨by simp only [flip]; omega, by simp only [flip]; omega, by simp only [Row.last]; omega⟩]
      have e1 : r.back.figs = r.figs.reverse := rfl
      rw [e1, rev_getD hi, if_pos hb, rev_set _ hi]
      simp only [Row.back, Row.last, List.length_set]
      rw [if_neg c3]
    · simp at h
  · rename_i hc
    split at h
    · rename_i hb
      have h1 : r.one s = ({ r with figs := (r.figs.set s.a.toNat ((r.figs.getD s.a.toNat zeroF).take (r.figs.getD s.b.toNat zeroF))).set s.b.toNat ((r.figs.getD s.b.toNat zeroF).take (r.figs.getD s.a.toNat zeroF)) }, 0) := by
        unfold Row.one; rw [if_neg hc, if_pos hb]
      rw [h1]
      obtain ⟨x, hx, he⟩ := List.any_eq_true.1 hb
      have hbd := hg.bound s (by simpa [beq_iff_eq.1 he] using hx)
      have hi : (flip r.last s).a.toNat + s.b.toNat + 1 = r.figs.length := by simp only [flip, Row.last]; omega
      have hj : (flip r.last s).b.toNat + s.a.toNat + 1 = r.figs.length := by simp only [flip, Row.last]; omega
      have e1 : r.back.figs = r.figs.reverse := rfl
      have e2 : r.back.beside = r.beside.map (flip r.last) := rfl
      have hna : ¬ ((flip r.last s).a = r.back.bench ∧ (flip r.last s).b = r.back.bench ∧ r.back.bench ≠ -1) := by
        rintro ⟨h1, h2, _⟩
        simp only [flip] at h1 h2
        omega
      unfold Row.one
      rw [if_neg hna, e2, flip_any, if_pos hb, e1, rev_getD hi, rev_getD hj, rev_set _ hi, rev_set _ (by simpa using hj), List.set_comm _ _ (by omega)]
      simp only [Row.back, Row.last, List.length_set]
    · simp at h
theorem after_back : ∀ (w : List Stp) {r : Row}, r.Good → (r.after w).2 = 0 → r.back.after (w.map (flip r.last)) = ((r.after w).1.back, 0)
  | [], r, _, _ => rfl
  | s :: w, r, hg, h => by
    simp only [Row.after] at h
    simp only [List.map_cons, Row.after]
    by_cases h1 : (r.one s).2 = 0
    · rw [if_pos h1] at h
      rw [one_back hg h1]
      simp only [if_true]
      rw [if_pos h1]
      have hk := r.one_kept s
      have hl : (r.one s).1.last = r.last := by unfold Row.last; rw [hk.len]
      rw [← hl]
      exact after_back w (hk.good hg) h
    · rw [if_neg h1] at h; exact absurd h h1
theorem selFrom_count (g : Fig → Bool) : ∀ (l : List Fig) (i : Nat), (selFrom (fun _ f => g f) i l).length = l.countP g
  | [], _ => rfl
  | x :: l, i => by
    simp only [selFrom, List.countP_cons]
    split
    · rename_i h; simp [selFrom_count g l, h]
    · rename_i h; simp [selFrom_count g l, h]
theorem bad_back (r : Row) : r.back.bad.length = r.bad.length := by
  unfold Row.bad
  rw [selFrom_count, selFrom_count]
  simp only [Row.back, List.countP_reverse]
theorem back_good {r : Row} (h : r.Good) : r.back.Good := by
  have hbe := h.benchB
  have hl : r.back.figs.length = r.figs.length := by simp [Row.back]
  refine ⟨by rw [hl]; exact h.len, fun s hs => ?_, ?_, by simp only [Row.back, List.length_map]; exact h.blen⟩
  · obtain ⟨t, ht, rfl⟩ := List.mem_map.1 (show s ∈ r.beside.map (flip r.last) from hs)
    have := h.bound t ht
    rw [hl]
    simp only [flip, Row.last]; omega
  · rw [hl]
    simp only [Row.back, Row.last]
    split <;> omega
theorem stp_zero {last : Int} {l : List Stp} {s : Stp} (h1 : s.a < s.b) (h2 : s ∉ l) (h3 : 0 ≤ s.a) (h4 : s.b ≤ last) : stpErr last l s = 0 := by
  unfold stpErr
  have e1 : outside 0 last s.a = false := outside_false.2 ⟨h3, by omega⟩
  have e2 : outside 0 last s.b = false := outside_false.2 ⟨by omega, h4⟩
  rw [e1, e2, if_neg (by simp), if_neg (by omega), if_neg]
  intro h
  obtain ⟨x, hx, e⟩ := List.any_eq_true.1 h
  exact h2 (by simpa [beq_iff_eq.1 e] using hx)
theorem nodup_take_not {α : Type} {l : List α} (h : l.Nodup) {j : Nat} {x : α} (hx : l[j]? = some x) : x ∉ l.take j := by
  intro hm
  obtain ⟨i, hi⟩ := List.mem_iff_getElem?.1 hm
  rw [List.getElem?_take] at hi
  split at hi
  · rename_i hij
    obtain ⟨hj, ej⟩ := List.getElem?_eq_some_iff.1 hx
    obtain ⟨hi', ei⟩ := List.getElem?_eq_some_iff.1 hi
    exact List.pairwise_iff_getElem.1 h i j hi' hj hij (by rw [ei, ej])
  · cases hi
theorem figErr_name {l : List Fig} {f : Fig} (h : figErr l f = 0) : nameOk f.name ≠ false ∧ f.name ∉ l.map (·.name) := by
  unfold figErr at h
  split at h
  · simp at h
  · rename_i h1
    split at h
    · simp at h
    · rename_i h2
      refine ⟨h1, fun hm => h2 ?_⟩
      obtain ⟨x, hx, e⟩ := List.mem_map.1 hm
      exact List.any_eq_true.2 ⟨x, hx, by simpa using e⟩
theorem fig_zero {l : List Fig} {f : Fig} (h1 : nameOk f.name ≠ false) (h2 : f.name ∉ l.map (·.name)) (h3 : 0 ≤ f.has ∧ f.has ≤ 5) (h4 : -1 ≤ f.wants ∧ f.wants ≤ 5) : figErr l f = 0 := by
  unfold figErr
  rw [if_neg h1, if_neg, outside_false.2 h3, outside_false.2 h4]
  · rfl
  · intro h
    obtain ⟨x, hx, e⟩ := List.any_eq_true.1 h
    exact h2 (List.mem_map.2 ⟨x, hx, by simpa using e⟩)
theorem Row.Valid.names {r : Row} (h : r.Valid) : (r.figs.map (·.name)).Nodup := nodup_take _ fun j x hx => by
  rw [List.getElem?_map] at hx
  obtain ⟨f, hf, rfl⟩ := Option.map_eq_some_iff.1 hx
  rw [← List.map_take]
  exact (figErr_name (h.fig j f hf)).2
theorem Row.Valid.back {r : Row} (h : r.Valid) : r.back.Valid := by
  have hl : r.back.figs.length = r.figs.length := by simp [Row.back]
  refine ⟨by rw [hl]; exact h.len, fun j f hf => ?_, fun j s hs => ?_, ?_⟩
  · have hm : f ∈ r.figs := by have := List.mem_of_getElem? hf; simpa [Row.back] using this
    obtain ⟨i, hi⟩ := List.mem_iff_getElem?.1 hm
    have h0 := h.fig i f hi
    have hz := figErr_zero h0
    refine fig_zero (figErr_name h0).1 ?_ ⟨hz.1, hz.2.1⟩ hz.2.2
    rw [List.map_take]
    have hn : (r.back.figs.map (·.name)).Nodup := by
      simp only [Row.back, List.map_reverse]
      exact ((List.reverse_perm _).nodup_iff).2 h.names
    exact nodup_take_not hn (by rw [List.getElem?_map, hf]; rfl)
  · have hs' : (r.beside.map (flip r.last))[j]? = some s := hs
    have hm := List.mem_of_getElem? hs'
    obtain ⟨t, ht, rfl⟩ := List.mem_map.1 hm
    have hb := h.bound ht
    rw [back_last]
    refine stp_zero (by simp only [flip]; omega) (nodup_take_not (l := r.beside.map (flip r.last)) ?_ hs') (by simp only [flip, Row.last]; omega) (by simp only [flip]; omega)
    refine nodup_map h.nodup fun x _ y _ e => ?_
    rw [← flip_flip r.last x, e, flip_flip]
  · have hbe := h.benchB
    rw [back_last, outside_false]
    simp only [Row.back, Row.last]
    split <;> omega
theorem back_small {r : Row} (h : r.small) : r.back.small := ⟨by simp [Row.back]; exact h.1, by simp only [Row.back, List.length_map]; exact h.2.1, fun f hf => h.2.2 f (by simpa [Row.back] using hf)⟩
theorem few_le {r : Row} (hv : r.Valid) (hr : r.small) (hf : r.rfew.2 = 0) : r.back.rfew.2 = 0 ∧ r.back.rfew.1.length ≤ r.rfew.1.length := by
  have hg := hv.good hr
  rcases rfew_spec hv.check hr with ⟨_, hF⟩ | ⟨e, _⟩
  · have h1 := after_back r.rfew.1 hg hF.can
    have h2 : (r.back.after (r.rfew.1.map (flip r.last))).1.bad.length = 0 := by rw [h1, bad_back]; exact hF.good
    rcases rfew_spec hv.back.check (back_small hr) with ⟨e, hG⟩ | ⟨_, hn⟩
    · refine ⟨e, ?_⟩
      have := wle_len (hG.least _ (by rw [h1]) h2)
      simpa using this
    · exact absurd h2 (hn _ (by rw [h1]))
  · rw [e] at hf; simp at hf
theorem few_back {r : Row} (hv : r.Valid) (hr : r.small) : r.back.rfew.2 = r.rfew.2 ∧ r.back.rfew.1.length = r.rfew.1.length := by
  have hbb := (hv.good hr).back_back
  rcases rfew_spec hv.check hr with ⟨e, _⟩ | ⟨e, _⟩
  · obtain ⟨h1, h2⟩ := few_le hv hr e
    have h3 := few_le hv.back (back_small hr) h1
    rw [hbb] at h3
    exact ⟨by rw [e, h1], by omega⟩
  · rcases rfew_spec hv.back.check (back_small hr) with ⟨e', _⟩ | ⟨e', _⟩
    · have h3 := few_le hv.back (back_small hr) e'
      rw [hbb, e] at h3
      simp at h3
    · rw [e, e']; exact ⟨rfl, rfl⟩
theorem most_le {r : Row} (hv : r.Valid) (hr : r.small) : r.back.rmost.1 ≤ r.rmost.1 ∧ (r.back.rmost.1 = r.rmost.1 → r.back.rmost.2.1 ≤ r.rmost.2.1) := by
  have hM := rmost_spec hv.check hr
  have hN := rmost_spec hv.back.check (back_small hr)
  obtain ⟨w, hw, h1, h2⟩ := hM.some_
  have hb := after_back w (hv.good hr) hw
  obtain ⟨h3, h4⟩ := hN.least (w.map (flip r.last)) (by rw [hb])
  rw [hb] at h3 h4
  simp only [bad_back, List.length_map] at h3 h4
  rw [h1] at h3 h4
  rw [h2] at h4
  exact ⟨h3, fun e => h4 e.symm⟩
theorem most_back {r : Row} (hv : r.Valid) (hr : r.small) : r.back.rmost = r.rmost := by
  have hM := rmost_spec hv.check hr
  have hN := rmost_spec hv.back.check (back_small hr)
  have h1 := most_le hv hr
  have h2 := most_le hv.back (back_small hr)
  rw [(hv.good hr).back_back] at h2
  have e3 := hM.ok
  have e4 := hN.ok
  generalize r.back.rmost = A at *
  generalize r.rmost = B at *
  obtain ⟨a, b, c⟩ := A
  obtain ⟨x, y, z⟩ := B
  simp only at *
  have e1 : a = x := by omega
  have e2 := h1.2 e1
  have e5 := h2.2 e1.symm
  rw [e1, e3, e4, show b = y by omega]
theorem reach_le {r : Row} (hv : r.Valid) (hr : r.small) (n : Nat) : (r.rf n).length ≤ (r.back.rf n).length := by
  have F := rf_finds hv (n : Int)
  have G := rf_finds hv.back (n : Int)
  have hg := hv.good hr
  have := nodup_sub ((r.rf n).map (·.1.look)) ((r.back.rf n).map (·.1.back.look)) F.ok.nodup fun x hx => by
    obtain ⟨f, hf, rfl⟩ := List.mem_map.1 hx
    have hp := F.path f hf
    have hl := F.top (by omega) f hf
    have hb := after_back f.2 hg (by rw [hp.1])
    rw [hp.1] at hb
    have hw : ∀ s ∈ f.2.map (flip r.last), s ∈ r.back.steps := after_steps hv.back _ _ (.refl _) (by rw [hb])
    obtain ⟨g, hgm, e, _⟩ := G.each _ hw (by rw [hb]) (.inl (by simpa using hl))
    rw [hb] at e
    refine List.mem_map.2 ⟨g, hgm, ?_⟩
    rw [e]
    have hk := after_kept hg f.2 (by rw [hp.1])
    rw [hp.1] at hk
    have hgf := hk.good hg
    simp only at hgf ⊢
    rw [hgf.back_back]
  simpa using this
theorem reach_back {r : Row} (hv : r.Valid) (hr : r.small) (n : Nat) : (r.back.rf n).length = (r.rf n).length := by
  have h1 := reach_le hv hr n
  have h2 := reach_le hv.back (back_small hr) n
  rw [(hv.good hr).back_back] at h2
  omega
end Go.Proofs.Ytmggofcaeolaiaa
namespace Go.Proofs.Ytmggofcaeolaiaa
open Go.Am Go.Proofs Go
theorem bad_zero (r : Row) : r.bad.length = 0 ↔ ∀ f ∈ r.figs, f.right = true := by
  unfold Row.bad
  rw [selFrom_count, List.countP_eq_zero]
  simp
theorem bad_nil {r : Row} : r.bad = [] ↔ r.bad.length = 0 := List.length_eq_zero_iff.symm
theorem few_nil {r : Row} (hc : r.check.2.2 = 0) (hr : r.small) : (r.rfew.2 = 0 ∧ r.rfew.1.length = 0) ↔ r.bad.length = 0 := by
  rcases rfew_spec hc hr with ⟨e, hF⟩ | ⟨e, hn⟩
  · refine ⟨fun h => ?_, fun h => ⟨e, ?_⟩⟩
    · have := hF.good
      rw [List.length_eq_zero_iff.1 h.2] at this
      exact this
    · have := wle_len (hF.least [] rfl h)
      simpa using this
  · refine ⟨fun h => ?_, fun h => absurd h (hn [] rfl)⟩
    rw [e] at h; simp at h
def Fig.calm (f : Fig) : Fig := ⟨f.name, f.has, false, f.has⟩
def Fig.want (f : Fig) (w : Int) : Fig := ⟨f.name, f.has, f.broken, w⟩
def Row.made (r : Row) (s : Stp) : Row :=
  { r with figs := ((r.figs.map Fig.calm).set s.a.toNat (((r.figs.getD s.a.toNat zeroF).calm).want (r.figs.getD s.b.toNat zeroF).has)).set s.b.toNat (((r.figs.getD s.b.toNat zeroF).calm).want (r.figs.getD s.a.toNat zeroF).has) }
theorem set_map_eq {β : Type} (g : Fig → β) {l : List Fig} {i : Nat} {x : Fig} (h : ∀ y, l[i]? = some y → g x = g y) : (l.set i x).map g = l.map g := by
  refine List.ext_getElem? fun k => ?_
  rw [List.getElem?_map, List.getElem?_map, List.getElem?_set]
  split
  · rename_i e
    subst e
    split
    · rename_i hl
      obtain ⟨y, hy⟩ : ∃ y, l[i]? = some y := ⟨l[i], by simp [hl]⟩
      rw [hy]; simp [h y hy]
    · rename_i hl
      rw [List.getElem?_eq_none (by omega)]
  · rfl
structure Row.Two (r : Row) (s : Stp) : Prop where
  mem : s ∈ r.beside
  ha : s.a.toNat < r.figs.length
  hb : s.b.toNat < r.figs.length
  ne : s.a.toNat ≠ s.b.toNat
theorem Row.Good.two {r : Row} (hg : r.Good) {s : Stp} (h : s ∈ r.beside) : r.Two s := by
  have := hg.bound s h
  exact ⟨h, by omega, by omega, by omega⟩
theorem made_at {r : Row} {s : Stp} (h : r.Two s) (i : Nat) : (r.made s).figs[i]? = if i = s.b.toNat then some (((r.figs.getD s.b.toNat zeroF).calm).want (r.figs.getD s.a.toNat zeroF).has)
    else if i = s.a.toNat then some (((r.figs.getD s.a.toNat zeroF).calm).want (r.figs.getD s.b.toNat zeroF).has) else (r.figs[i]?).map Fig.calm := by
  have h1 := h.ha
  have h2 := h.hb
  unfold Row.made
  simp only
  by_cases e1 : i = s.b.toNat
  · rw [if_pos e1, e1, List.getElem?_set_self (by simpa using h2)]
  · rw [if_neg e1, List.getElem?_set_ne (Ne.symm e1)]
    by_cases e2 : i = s.a.toNat
    · rw [if_pos e2, e2, List.getElem?_set_self (by simpa using h1)]
    · rw [if_neg e2, List.getElem?_set_ne (Ne.symm e2), List.getElem?_map]
theorem getD_get {r : Row} {i : Nat} (h : i < r.figs.length) : r.figs[i]? = some (r.figs.getD i zeroF) := by simp [List.getD, h]
theorem made_names {r : Row} {s : Stp} (h : r.Two s) : (r.made s).figs.map (·.name) = r.figs.map (·.name) := by
  refine List.ext_getElem? fun i => ?_
  rw [List.getElem?_map, List.getElem?_map, made_at h]
  split
  · rename_i e; rw [e, getD_get h.hb]; rfl
  · split
    · rename_i e; rw [e, getD_get h.ha]; rfl
    · cases r.figs[i]? <;> rfl
theorem made_len (r : Row) (s : Stp) : (r.made s).figs.length = r.figs.length := by simp [Row.made]
theorem made_fig {r : Row} {s : Stp} (h : r.Two s) (hh : hasOk r) {i : Nat} {f : Fig} (hf : (r.made s).figs[i]? = some f) : (0 ≤ f.has ∧ f.has ≤ 5) ∧ (-1 ≤ f.wants ∧ f.wants ≤ 5) ∧ ∃ g, r.figs[i]? = some g ∧ f.name = g.name := by
  have h1 := hh _ (List.mem_of_getElem? (getD_get h.ha))
  have h2 := hh _ (List.mem_of_getElem? (getD_get h.hb))
  rw [made_at h] at hf
  split at hf
  · rename_i e
    cases hf
    simp only [Fig.want, Fig.calm]
    exact ⟨h2, by omega, _, by rw [e]; exact getD_get h.hb, rfl⟩
  · split at hf
    · rename_i e
      cases hf
      simp only [Fig.want, Fig.calm]
      exact ⟨h1, by omega, _, by rw [e]; exact getD_get h.ha, rfl⟩
    · obtain ⟨g, hg, rfl⟩ := Option.map_eq_some_iff.1 hf
      have := hh g (List.mem_of_getElem? hg)
      simp only [Fig.calm]
      exact ⟨this, by omega, g, hg, rfl⟩
theorem made_valid {r : Row} (hv : r.Valid) {s : Stp} (h : r.Two s) : (r.made s).Valid := by
  have hl : (r.made s).last = r.last := by unfold Row.last; rw [made_len]
  refine ⟨by rw [made_len]; exact hv.len, fun j f hf => ?_, fun j t ht => by rw [hl]; exact hv.stp j t ht, by rw [hl]; exact hv.bench⟩
  obtain ⟨h1, h2, g, hg, e⟩ := made_fig h hv.has hf
  have h0 := figErr_name (hv.fig j g hg)
  refine fig_zero (by rw [e]; exact h0.1) ?_ h1 h2
  rw [e, List.map_take, made_names h, ← List.map_take]
  exact h0.2
theorem made_small {r : Row} (hr : r.small) {s : Stp} (h : r.Two s) : (r.made s).small := by
  refine ⟨by rw [made_len]; exact hr.1, hr.2.1, fun f hf => ?_⟩
  obtain ⟨i, hi⟩ := List.mem_iff_getElem?.1 hf
  have : f.name ∈ (r.made s).figs.map (·.name) := List.mem_map.2 ⟨f, hf, rfl⟩
  rw [made_names h] at this
  obtain ⟨g, hg, e⟩ := List.mem_map.1 this
  rw [← e]; exact hr.2.2 g hg
theorem calm_right (f : Fig) : f.calm.right = true := by simp [Fig.right, Fig.calm]
theorem made_same {r : Row} {s : Stp} (h : r.Two s) (e : (r.figs.getD s.a.toNat zeroF).has = (r.figs.getD s.b.toNat zeroF).has) : (r.made s).bad.length = 0 := by
  rw [bad_zero]
  intro f hf
  obtain ⟨i, hi⟩ := List.mem_iff_getElem?.1 hf
  rw [made_at h] at hi
  generalize r.figs.getD s.a.toNat zeroF = A at *
  generalize r.figs.getD s.b.toNat zeroF = B at *
  split at hi
  · cases hi; simp [Fig.right, Fig.calm, Fig.want, e]
  · split at hi
    · cases hi; simp [Fig.right, Fig.calm, Fig.want, e]
    · obtain ⟨g, _, rfl⟩ := Option.map_eq_some_iff.1 hi
      exact calm_right g
theorem made_other {r : Row} (hh : hasOk r) {s : Stp} (h : r.Two s) (e : (r.figs.getD s.a.toNat zeroF).has ≠ (r.figs.getD s.b.toNat zeroF).has) : (r.made s).bad.length ≠ 0 := by
  rw [Ne, bad_zero]
  intro hf
  have h1 := made_at h s.b.toNat
  rw [if_pos rfl] at h1
  have h2 := hf _ (List.mem_of_getElem? h1)
  have h3 := hh _ (List.mem_of_getElem? (getD_get h.ha))
  clear h1 hf
  generalize r.figs.getD s.a.toNat zeroF = A at *
  generalize r.figs.getD s.b.toNat zeroF = B at *
  simp [Fig.right, Fig.calm, Fig.want] at h2
  rcases h2 with h2 | h2
  · omega
  · exact e h2.symm
theorem made_step {r : Row} (hg : r.Good) {s : Stp} (h : r.Two s) : ((r.made s).after [s]).2 = 0 ∧ ((r.made s).after [s]).1.bad.length = 0 := by
  have hbd := hg.bound s h.mem
  have hany : r.beside.any (s == ·) = true := List.any_eq_true.2 ⟨s, h.mem, by simp⟩
  have ma := made_at h s.a.toNat
  have mb := made_at h s.b.toNat
  rw [if_neg h.ne, if_pos rfl] at ma
  rw [if_pos rfl] at mb
  have h1 : (r.made s).one s = ({ r.made s with figs := ((r.made s).figs.set s.a.toNat (((r.made s).figs.getD s.a.toNat zeroF).take ((r.made s).figs.getD s.b.toNat zeroF))).set s.b.toNat (((r.made s).figs.getD s.b.toNat zeroF).take ((r.made s).figs.getD s.a.toNat zeroF)) }, 0) := by
    have hnb : ¬ (s.a = (r.made s).bench ∧ s.b = (r.made s).bench ∧ (r.made s).bench ≠ -1) := by omega
    have hb : (r.made s).beside.any (s == ·) = true := hany
    generalize r.made s = q at *
    unfold Row.one; rw [if_neg hnb, if_pos hb]
  simp only [Row.after]
  rw [h1]
  refine ⟨rfl, ?_⟩
  rw [if_pos rfl, bad_zero]
  intro f hf
  simp only at hf
  rw [getD_of ma, getD_of mb] at hf
  obtain ⟨i, hi⟩ := List.mem_iff_getElem?.1 hf
  have l1 : s.a.toNat < (r.made s).figs.length := by rw [made_len]; exact h.ha
  have l2 : s.b.toNat < (r.made s).figs.length := by rw [made_len]; exact h.hb
  by_cases e1 : i = s.b.toNat
  · rw [e1, List.getElem?_set_self (by simpa using l2)] at hi
    cases hi
    simp [Fig.right, Fig.calm, Fig.want, Fig.take]
  · rw [List.getElem?_set_ne (Ne.symm e1)] at hi
    by_cases e2 : i = s.a.toNat
    · rw [e2, List.getElem?_set_self l1] at hi
      cases hi
      simp [Fig.right, Fig.calm, Fig.want, Fig.take]
    · rw [List.getElem?_set_ne (Ne.symm e2), made_at h, if_neg e1, if_neg e2] at hi
      obtain ⟨g, _, rfl⟩ := Option.map_eq_some_iff.1 hi
      exact calm_right g
theorem made_few {r : Row} (hv : r.Valid) (hr : r.small) {s : Stp} (hs : s ∈ r.beside) :
    (r.made s).rfew.2 = 0 ∧ ((r.made s).after (r.made s).rfew.1).2 = 0 ∧ ((r.made s).after (r.made s).rfew.1).1.bad.length = 0 ∧
    (r.made s).rfew.1.length = if (r.figs.getD s.a.toNat zeroF).has = (r.figs.getD s.b.toNat zeroF).has then 0 else 1 := by
  have h := (hv.good hr).two hs
  have hm := made_valid hv h
  obtain ⟨h1, h2⟩ := made_step (hv.good hr) h
  rcases rfew_spec hm.check (made_small hr h) with ⟨e, hF⟩ | ⟨_, hn⟩
  · refine ⟨e, hF.can, hF.good, ?_⟩
    split
    · rename_i hh
      exact ((few_nil hm.check (made_small hr h)).2 (made_same h hh)).2
    · rename_i hh
      have h3 := wle_len (hF.least [s] h1 h2)
      have h4 : (r.made s).rfew.1.length ≠ 0 := fun h0 => made_other hv.has h hh ((few_nil hm.check (made_small hr h)).1 ⟨e, h0⟩)
      simp at h3
      omega
  · exact absurd h2 (hn [s] h1)
end Go.Proofs.Ytmggofcaeolaiaa
namespace Go.Proofs.Ytmggofcaeolaiaa
open Go.Am Go.Proofs Go
set_option maxRecDepth 100000 in
theorem MendFewest_c (r : Row) (hr : r.small) : PureA Try.prog 4 [rowA r] (boolA true) := by
  have h1 := Few_c r hr
  have h2 := RefFew_c r hr
  have h3 := Most_c r hr
  have h4 := RefMost_c r hr
  have hl := rfew_len r
  rw [few_rfew r hr] at h1
  rw [most_rmost r hr] at h3
  have aw := Awake_c
  unfold stpsErrA at h1 h2
  unfold triA at h3 h4
  generalize r.rfew = F at *
  generalize r.rmost = M at *
  obtain ⟨F1, F2⟩ := F
  obtain ⟨M1, M2, M3⟩ := M
  simp only at *
  have hq : PureA Try.prog 27 [stpsA F1, stpsA F1] (boolA true) := by
    have := equal_c F1 F1 (by omega) (by omega)
    rw [eqAll_self (by intro s; simp)] at this
    exact this
  have e1 : decide (F2 = F2) = true := by simp
  have e2 : decide (M1 = M1) = true := by simp
  have e3 : decide (M2 = M2) = true := by simp
  have e4 : decide (M3 = M3) = true := by simp
  refine pureA_codeB tabOk { l := 0, f := 4 } mixed call_4 Try.func4 (by kernel_rfl) ?_
  conv => whnf
  repeat (any_goals (first | exact falseI | (refine brP_dec (fun _ => ?_) (fun _ => ?_) <;> first | (exfalso; omega) | conv => whnf) | (refine brP_ndec (fun _ => ?_) (fun _ => ?_) <;> first | (exfalso; omega) | conv => whnf) | ((first | refine callP_a h1 ?_ | refine callP_a h2 ?_ | refine callP_a hq ?_ | rw [e1] | rw [e2] | rw [e3] | rw [e4] | refine callP_a h3 ?_ | refine callP_a h4 ?_ | refine callP_a aw ?_ | refine And.intro (DrawOk.mk (by kernel_rfl)) ?_ | refine okI ?_ | refine brP_true (Nat.beq_refl _) ?_ | refine brP_intro (fun _ => ?_) (fun _ => ?_) | refine bndI ?_ | intro _) <;> conv => whnf)))
  all_goals first | ((refine ⟨⟨?_⟩, trivial⟩; rfl)) | skip
set_option maxRecDepth 100000 in
theorem MendReach_c (r : Row) (hr : r.small) (n a b : Int) (hn : inI n) : PureA Try.prog 5 [rowA r, intA n, .agg [intA a, intA b]] (boolA true) := by
  have h1 := Reach_c r hr n hn
  have h2 := RefReach_c r hr n hn
  have h3 := Gain_c r hr a b
  have h4 := RefGain_c r hr a b
  rw [reachN_r r hr n] at h1
  rw [gain_r r hr a b] at h3
  have aw := Awake_c
  generalize r.rreachN n = N at *
  generalize r.rgain a b = G at *
  obtain ⟨N1, N2⟩ := N
  obtain ⟨G1, G2⟩ := G
  simp only at *
  have e1 : decide (N1 = N1) = true := by simp
  have e2 : decide (N2 = N2) = true := by simp
  have e3 : decide (G1 = G1) = true := by simp
  have e4 : decide (G2 = G2) = true := by simp
  refine pureA_codeB tabOk { l := 0, f := 5 } mixed call_5 Try.func5 (by kernel_rfl) ?_
  conv => whnf
  repeat (any_goals (first | exact falseI | (refine brP_dec (fun _ => ?_) (fun _ => ?_) <;> first | (exfalso; omega) | conv => whnf) | (refine brP_ndec (fun _ => ?_) (fun _ => ?_) <;> first | (exfalso; omega) | conv => whnf) | ((first | refine callP_a h1 ?_ | refine callP_a h2 ?_ | rw [e1] | rw [e2] | rw [e3] | rw [e4] | refine callP_a h3 ?_ | refine callP_a h4 ?_ | refine callP_a aw ?_ | refine And.intro (DrawOk.mk (by kernel_rfl)) ?_ | refine okI ?_ | refine brP_true (Nat.beq_refl _) ?_ | refine brP_intro (fun _ => ?_) (fun _ => ?_) | refine bndI ?_ | intro _) <;> conv => whnf)))
  all_goals first | ((refine ⟨⟨?_⟩, trivial⟩; rfl)) | skip
end Go.Proofs.Ytmggofcaeolaiaa
namespace Go.Proofs.Ytmggofcaeolaiaa
open Go.Am Go.Proofs Go
theorem valid41_c (r : Row) (hr : r.small) : PureA Try.prog 41 [rowA r] (boolA (decide (r.check.2.2 = 0))) := by
  have hk := refCheck_c r hr
  unfold triA at hk
  generalize r.check = c at *
  obtain ⟨c1, c2, c3⟩ := c
  simp only at hk ⊢
  refine pureA_codeB tabOk { l := 0, f := 41 } mixed call_41 Try.func41 (by kernel_rfl) ?_
  conv => whnf
  repeat (any_goals (first | exact falseI | (refine brP_dec (fun _ => ?_) (fun _ => ?_) <;> first | (exfalso; omega) | conv => whnf) | (refine brP_ndec (fun _ => ?_) (fun _ => ?_) <;> first | (exfalso; omega) | conv => whnf) | ((first | refine callP_a hk ?_ | refine And.intro (DrawOk.mk (by kernel_rfl)) ?_ | refine okI ?_ | refine brP_true (Nat.beq_refl _) ?_ | refine brP_intro (fun _ => ?_) (fun _ => ?_) | refine bndI ?_ | intro _) <;> conv => whnf)))
  (refine ⟨⟨?_⟩, trivial⟩; rfl)
theorem steps_beside {r : Row} (hv : r.Valid) : r.steps.length ≤ r.beside.length + 1 := by
  rw [← hv.sorted]
  unfold Row.sorted
  split
  · rw [List.length_take]; omega
  · rw [srt, srtI_len]; simp
def reachA (n e : Int) : AV := .tuple [intA n, intA e]
theorem Reach_ok (r : Row) (hr : r.small) (hc : r.check.2.2 = 0) (n : Nat) (hn : n ≤ 20) : PureA Try.prog 30 [rowA r, intA n] (.tuple [intA (r.rf n).length, intA 0]) := by
  have h := Reach_c r hr n (by simp only [inI]; omega)
  rw [reachN_r r hr] at h
  have hw : within (n : Int) 0 20 = true := by unfold within; simp; omega
  unfold Row.rreachN at h
  rw [if_pos hc, if_pos hw] at h
  exact h
set_option maxRecDepth 100000 in
theorem MendReached_c (r : Row) (hr : r.small) (k : Nat) (hk : k ≤ 255) : PureA Try.prog 12 [rowA r, .v (.int .u8 k)] (boolA true) := by
  have hva := valid41_c r hr
  have aw := Awake_c
  by_cases hc : r.check.2.2 = 0
  · have hv := r.valid_iff hc
    rw [decide_eq_true hc] at hva
    have h0 := Reach_ok r hr hc 0 (by omega)
    have h1 := Reach_ok r hr hc (k % 20) (by omega)
    have h2 := Reach_ok r hr hc (k % 20 + 1) (by omega)
    have z0 : (r.rf ((0 : Nat) : Int)).length = 1 := rf_zero hv
    have m0 := rf_mono hv (n := 0) (m := k % 20) (by omega)
    have m1 := rf_mono hv (n := k % 20) (m := k % 20 + 1) (by omega)
    have m2 := rf_more hv (k % 20)
    have hb := (rf_ok hv ((k % 20 : Nat) : Int)).bound hv.len
    have hs := steps_beside hv
    have h10 := hv.ten
    rw [z0] at h0 m0
    generalize (r.rf ((k % 20 : Nat) : Int)).length = N at *
    generalize (r.rf ((k % 20 + 1 : Nat) : Int)).length = M at *
    have hM : M ≤ 1 + N * (r.beside.length + 1) := Nat.le_trans m2 (by have := Nat.mul_le_mul_left N hs; omega)
    have hP : N * (r.beside.length + 1) ≤ 248832 * 11 := Nat.mul_le_mul hb (by omega)
    obtain ⟨P, hPe⟩ : ∃ P, P = N * (r.beside.length + 1) := ⟨_, rfl⟩
    have hT : (k : Int).tmod 20 = ((k % 20 : Nat) : Int) := rfl
    have h1 : PureA Try.prog 30 [rowA r, intA ((k : Int).tmod 20)] (.tuple [intA N, intA 0]) := h1
    have h2 : PureA Try.prog 30 [rowA r, intA ((k : Int).tmod 20 + 1)] (.tuple [intA M, intA 0]) := h2
    have hT1 : 0 ≤ (k : Int).tmod 20 ∧ (k : Int).tmod 20 ≤ 19 := by rw [hT]; omega
    have hPi : (N : Int) * (((r.beside.map stpA).length : Int) + 1) = (P : Int) := by rw [hPe, List.length_map]; rfl
    refine pureA_codeB tabOk { l := 0, f := 12 } mixed call_12 Try.func12 (by kernel_rfl) ?_
    conv => whnf
    repeat (any_goals (first | exact falseI | (refine brP_dec (fun _ => ?_) (fun _ => ?_) <;> first | (exfalso; omega) | conv => whnf) | (refine brP_ndec (fun _ => ?_) (fun _ => ?_) <;> first | (exfalso; omega) | conv => whnf) | ((first | refine callP_a h0 ?_ | refine callP_a hva ?_ | refine callP_a h1 ?_ | refine callP_a h2 ?_ | refine callP_a aw ?_ | refine And.intro (DrawOk.mk (by kernel_rfl)) ?_ | refine okI ?_ | refine brP_true (Nat.beq_refl _) ?_ | refine brP_intro (fun _ => ?_) (fun _ => ?_) | refine bndI ?_ | intro _) <;> conv => whnf)))
    all_goals first | ((refine ⟨⟨?_⟩, trivial⟩; rfl)) | skip
  · rw [decide_eq_false hc] at hva
    have h0 := Reach_c r hr 0 (by decide)
    unfold Row.reachN at h0
    rw [if_neg hc] at h0
    generalize r.check = c at *
    obtain ⟨c1, c2, c3⟩ := c
    simp only at hc h0
    refine pureA_codeB tabOk { l := 0, f := 12 } mixed call_12 Try.func12 (by kernel_rfl) ?_
    conv => whnf
    repeat (any_goals (first | exact falseI | (refine brP_dec (fun _ => ?_) (fun _ => ?_) <;> first | (exfalso; omega) | conv => whnf) | (refine brP_ndec (fun _ => ?_) (fun _ => ?_) <;> first | (exfalso; omega) | conv => whnf) | ((first | refine callP_a h0 ?_ | refine callP_a hva ?_ | refine callP_a aw ?_ | refine And.intro (DrawOk.mk (by kernel_rfl)) ?_ | refine okI ?_ | refine brP_true (Nat.beq_refl _) ?_ | refine brP_intro (fun _ => ?_) (fun _ => ?_) | refine bndI ?_ | intro _) <;> conv => whnf)))
    all_goals first | ((refine ⟨⟨?_⟩, trivial⟩; rfl)) | skip
end Go.Proofs.Ytmggofcaeolaiaa
namespace Go.Proofs.Ytmggofcaeolaiaa
open Go.Am Go.Proofs Go
theorem Gain_r (r : Row) (hr : r.small) (a b : Int) : PureA Try.prog 32 [rowA r, intA a, intA b] (.tuple [intA (r.rgain a b).1, intA (r.rgain a b).2]) := by
  have := Gain_c r hr a b
  rw [gain_r r hr a b] at this
  exact this
theorem Few_r (r : Row) (hr : r.small) : PureA Try.prog 25 [rowA r] (.tuple [stpsA r.rfew.1, intA r.rfew.2]) := by
  have := Few_c r hr
  rw [few_rfew r hr] at this
  exact this
theorem Most_r (r : Row) (hr : r.small) : PureA Try.prog 28 [rowA r] (.tuple [intA r.rmost.1, intA r.rmost.2.1, intA r.rmost.2.2]) := by
  have := Most_c r hr
  rw [most_rmost r hr] at this
  exact this
theorem tmod_two {m n : Int} (h0 : 0 ≤ m) (h2 : 2 ≤ n) (h5 : n ≤ 5) (hm : m < 2 * n) : (m.tmod n = m ∧ m < n) ∨ (m.tmod n = m - n ∧ n ≤ m) := by
  rw [Int.tmod_eq_emod_of_nonneg h0]
  have h : n = 2 ∨ n = 3 ∨ n = 4 ∨ n = 5 := by omega
  rcases h with rfl | rfl | rfl | rfl <;> omega
set_option maxRecDepth 100000 in
theorem MendSaved_c (r : Row) (hr : r.small) (x y : Nat) (hx : x ≤ 255) (hy : y ≤ 255) : PureA Try.prog 13 [rowA r, .agg [.v (.int .u8 x), .v (.int .u8 y)]] (boolA true) := by
  have hva := valid41_c r hr
  have aw := Awake_c
  have hg := Gain_r r hr
  have hsm := hr.1
  by_cases hc : r.check.2.2 = 0
  · have hv := r.valid_iff hc
    have h5 := check_len hc
    rw [decide_eq_true hc] at hva
    by_cases h2 : r.figs.length < 2
    · have h0 := hg 0 1
      have he : r.rgain 0 1 = (0, 4) := by
        unfold Row.rgain
        rw [if_pos hc, if_pos]
        have : outside 0 r.last 1 = true := by unfold outside Row.last; simp; omega
        rw [this]; simp
      rw [he] at h0
      have hln : (r.figs.map figA).length < 2 := by rw [List.length_map]; exact h2
      refine pureA_codeB tabOk { l := 0, f := 13 } mixed call_13 Try.func13 (by kernel_rfl) ?_
      conv => whnf
      repeat (any_goals (first | exact falseI | (refine brP_dec (fun _ => ?_) (fun _ => ?_) <;> first | (exfalso; omega) | conv => whnf) | (refine brP_ndec (fun _ => ?_) (fun _ => ?_) <;> first | (exfalso; omega) | conv => whnf) | ((first | refine callP_a hva ?_ | refine callP_a h0 ?_ | refine callP_a aw ?_ | refine And.intro (DrawOk.mk (by kernel_rfl)) ?_ | refine okI ?_ | refine brP_true (Nat.beq_refl _) ?_ | refine brP_intro (fun _ => ?_) (fun _ => ?_) | refine bndI ?_ | intro _) <;> conv => whnf)))
      all_goals first | ((refine ⟨⟨?_⟩, trivial⟩; rfl)) | skip
    · have h2 : 2 ≤ r.figs.length := by omega
      have hln : 2 ≤ ((r.figs.map figA).length : Int) := by rw [List.length_map]; omega
      have hl5 : ((r.figs.map figA).length : Int) ≤ 5 := by rw [List.length_map]; omega
      have hll : r.last = ((r.figs.map figA).length : Int) - 1 := by simp [Row.last]
      have hA : 0 ≤ ((x : Int).tmod ((r.figs.map figA).length : Int)) ∧ ((x : Int).tmod ((r.figs.map figA).length : Int)) < ((r.figs.map figA).length : Int) := ⟨Int.tmod_nonneg _ (by omega), Int.tmod_lt_of_pos _ (by omega)⟩
      have hB : 0 ≤ ((y : Int).tmod (((r.figs.map figA).length : Int) - 1)) ∧ ((y : Int).tmod (((r.figs.map figA).length : Int) - 1)) < ((r.figs.map figA).length : Int) - 1 := ⟨Int.tmod_nonneg _ (by omega), Int.tmod_lt_of_pos _ (by omega)⟩
      have hC := tmod_two (m := ((x : Int).tmod ((r.figs.map figA).length : Int)) + 1 + ((y : Int).tmod (((r.figs.map figA).length : Int) - 1))) (n := ((r.figs.map figA).length : Int)) (by omega) hln hl5 (by omega)
      have hG := hg (min ((x : Int).tmod ((r.figs.map figA).length : Int)) ((((x : Int).tmod ((r.figs.map figA).length : Int)) + 1 + ((y : Int).tmod (((r.figs.map figA).length : Int) - 1))).tmod ((r.figs.map figA).length : Int))) (max ((x : Int).tmod ((r.figs.map figA).length : Int)) ((((x : Int).tmod ((r.figs.map figA).length : Int)) + 1 + ((y : Int).tmod (((r.figs.map figA).length : Int) - 1))).tmod ((r.figs.map figA).length : Int)))
      have hP := with49_c r hr (min ((x : Int).tmod ((r.figs.map figA).length : Int)) ((((x : Int).tmod ((r.figs.map figA).length : Int)) + 1 + ((y : Int).tmod (((r.figs.map figA).length : Int) - 1))).tmod ((r.figs.map figA).length : Int))) (max ((x : Int).tmod ((r.figs.map figA).length : Int)) ((((x : Int).tmod ((r.figs.map figA).length : Int)) + 1 + ((y : Int).tmod (((r.figs.map figA).length : Int) - 1))).tmod ((r.figs.map figA).length : Int)))
      have hH := has_c r.beside ⟨min ((x : Int).tmod ((r.figs.map figA).length : Int)) ((((x : Int).tmod ((r.figs.map figA).length : Int)) + 1 + ((y : Int).tmod (((r.figs.map figA).length : Int) - 1))).tmod ((r.figs.map figA).length : Int)), max ((x : Int).tmod ((r.figs.map figA).length : Int)) ((((x : Int).tmod ((r.figs.map figA).length : Int)) + 1 + ((y : Int).tmod (((r.figs.map figA).length : Int) - 1))).tmod ((r.figs.map figA).length : Int))⟩ hr.2.1
      have hps := Row.plus_small hr hv.ten ⟨min ((x : Int).tmod ((r.figs.map figA).length : Int)) ((((x : Int).tmod ((r.figs.map figA).length : Int)) + 1 + ((y : Int).tmod (((r.figs.map figA).length : Int) - 1))).tmod ((r.figs.map figA).length : Int)), max ((x : Int).tmod ((r.figs.map figA).length : Int)) ((((x : Int).tmod ((r.figs.map figA).length : Int)) + 1 + ((y : Int).tmod (((r.figs.map figA).length : Int) - 1))).tmod ((r.figs.map figA).length : Int))⟩
      have hF := Few_r r hr
      have hQ := Few_r _ hps
      have hM := Most_r _ hps
      have hab : 0 ≤ min ((x : Int).tmod ((r.figs.map figA).length : Int)) ((((x : Int).tmod ((r.figs.map figA).length : Int)) + 1 + ((y : Int).tmod (((r.figs.map figA).length : Int) - 1))).tmod ((r.figs.map figA).length : Int)) ∧ min ((x : Int).tmod ((r.figs.map figA).length : Int)) ((((x : Int).tmod ((r.figs.map figA).length : Int)) + 1 + ((y : Int).tmod (((r.figs.map figA).length : Int) - 1))).tmod ((r.figs.map figA).length : Int)) < max ((x : Int).tmod ((r.figs.map figA).length : Int)) ((((x : Int).tmod ((r.figs.map figA).length : Int)) + 1 + ((y : Int).tmod (((r.figs.map figA).length : Int) - 1))).tmod ((r.figs.map figA).length : Int)) ∧ max ((x : Int).tmod ((r.figs.map figA).length : Int)) ((((x : Int).tmod ((r.figs.map figA).length : Int)) + 1 + ((y : Int).tmod (((r.figs.map figA).length : Int) - 1))).tmod ((r.figs.map figA).length : Int)) ≤ r.last := by rw [hll]; omega
      have ho : (outside 0 r.last (min ((x : Int).tmod ((r.figs.map figA).length : Int)) ((((x : Int).tmod ((r.figs.map figA).length : Int)) + 1 + ((y : Int).tmod (((r.figs.map figA).length : Int) - 1))).tmod ((r.figs.map figA).length : Int))) || outside 0 r.last (max ((x : Int).tmod ((r.figs.map figA).length : Int)) ((((x : Int).tmod ((r.figs.map figA).length : Int)) + 1 + ((y : Int).tmod (((r.figs.map figA).length : Int) - 1))).tmod ((r.figs.map figA).length : Int)))) = false := by
        rw [Bool.or_eq_false_iff, outside_false, outside_false]; omega
      have hlt : ¬ max ((x : Int).tmod ((r.figs.map figA).length : Int)) ((((x : Int).tmod ((r.figs.map figA).length : Int)) + 1 + ((y : Int).tmod (((r.figs.map figA).length : Int) - 1))).tmod ((r.figs.map figA).length : Int)) ≤ min ((x : Int).tmod ((r.figs.map figA).length : Int)) ((((x : Int).tmod ((r.figs.map figA).length : Int)) + 1 + ((y : Int).tmod (((r.figs.map figA).length : Int) - 1))).tmod ((r.figs.map figA).length : Int)) := by omega
      have hpc := plus_check hc ho hlt
      have hsv := saved hc hr ho hlt
      have hmf := most_few hpc hps
      have hhas := plus_has (r := r) (s := ⟨min ((x : Int).tmod ((r.figs.map figA).length : Int)) ((((x : Int).tmod ((r.figs.map figA).length : Int)) + 1 + ((y : Int).tmod (((r.figs.map figA).length : Int) - 1))).tmod ((r.figs.map figA).length : Int)), max ((x : Int).tmod ((r.figs.map figA).length : Int)) ((((x : Int).tmod ((r.figs.map figA).length : Int)) + 1 + ((y : Int).tmod (((r.figs.map figA).length : Int) - 1))).tmod ((r.figs.map figA).length : Int))⟩)
      have hge : r.rgain (min ((x : Int).tmod ((r.figs.map figA).length : Int)) ((((x : Int).tmod ((r.figs.map figA).length : Int)) + 1 + ((y : Int).tmod (((r.figs.map figA).length : Int) - 1))).tmod ((r.figs.map figA).length : Int))) (max ((x : Int).tmod ((r.figs.map figA).length : Int)) ((((x : Int).tmod ((r.figs.map figA).length : Int)) + 1 + ((y : Int).tmod (((r.figs.map figA).length : Int) - 1))).tmod ((r.figs.map figA).length : Int))) = if r.rfew.2 = 0 then ((r.rfew.1.length : Int) - (r.plus ⟨min ((x : Int).tmod ((r.figs.map figA).length : Int)) ((((x : Int).tmod ((r.figs.map figA).length : Int)) + 1 + ((y : Int).tmod (((r.figs.map figA).length : Int) - 1))).tmod ((r.figs.map figA).length : Int)), max ((x : Int).tmod ((r.figs.map figA).length : Int)) ((((x : Int).tmod ((r.figs.map figA).length : Int)) + 1 + ((y : Int).tmod (((r.figs.map figA).length : Int) - 1))).tmod ((r.figs.map figA).length : Int))⟩).rfew.1.length, 0) else (0, r.rfew.2) := by
        unfold Row.rgain
        rw [if_pos hc, if_neg (by rw [ho]; simp), if_neg hlt]
      rw [hge] at hG
      generalize hq : r.plus ⟨min ((x : Int).tmod ((r.figs.map figA).length : Int)) ((((x : Int).tmod ((r.figs.map figA).length : Int)) + 1 + ((y : Int).tmod (((r.figs.map figA).length : Int) - 1))).tmod ((r.figs.map figA).length : Int)), max ((x : Int).tmod ((r.figs.map figA).length : Int)) ((((x : Int).tmod ((r.figs.map figA).length : Int)) + 1 + ((y : Int).tmod (((r.figs.map figA).length : Int) - 1))).tmod ((r.figs.map figA).length : Int))⟩ = q at *
      by_cases hf : r.rfew.2 = 0
      · obtain ⟨hf2, hle⟩ := hsv hf
        rw [hmf hf2] at hM
        rw [if_pos hf] at hG
        rw [hf] at hF
        rw [hf2] at hQ
        simp only at hG hF hQ hM
        have hhas : r.beside.any ((⟨min ((x : Int).tmod ((r.figs.map figA).length : Int)) ((((x : Int).tmod ((r.figs.map figA).length : Int)) + 1 + ((y : Int).tmod (((r.figs.map figA).length : Int) - 1))).tmod ((r.figs.map figA).length : Int)), max ((x : Int).tmod ((r.figs.map figA).length : Int)) ((((x : Int).tmod ((r.figs.map figA).length : Int)) + 1 + ((y : Int).tmod (((r.figs.map figA).length : Int) - 1))).tmod ((r.figs.map figA).length : Int))⟩ : Stp) == ·) = true → q.rfew.1 = r.rfew.1 := fun h => by rw [hhas h]
        have hfl := rfew_len r
        clear hmf hsv hge hpc hq
        generalize q.rfew.1 = P1 at *
        generalize r.rfew.1 = F1 at *
        have e1 : (F1.map stpA).length = F1.length := List.length_map _
        have e2 : (P1.map stpA).length = P1.length := List.length_map _
        have hG : PureA Try.prog 32 [rowA r, intA (min ((x : Int).tmod ((r.figs.map figA).length : Int)) ((((x : Int).tmod ((r.figs.map figA).length : Int)) + 1 + ((y : Int).tmod (((r.figs.map figA).length : Int) - 1))).tmod ((r.figs.map figA).length : Int))), intA (max ((x : Int).tmod ((r.figs.map figA).length : Int)) ((((x : Int).tmod ((r.figs.map figA).length : Int)) + 1 + ((y : Int).tmod (((r.figs.map figA).length : Int) - 1))).tmod ((r.figs.map figA).length : Int)))] (.tuple [intA (((F1.map stpA).length : Int) - (P1.map stpA).length), intA 0]) := by rw [e1, e2]; exact hG
        have hM : PureA Try.prog 28 [rowA q] (.tuple [intA 0, intA ((P1.map stpA).length : Int), intA 0]) := by rw [e2]; exact hM
        have hle : (P1.map stpA).length ≤ (F1.map stpA).length := by rw [e1, e2]; exact hle
        have hFl : (F1.map stpA).length ≤ 248832 := by rw [e1]; exact hfl
        generalize r.beside.any ((⟨min ((x : Int).tmod ((r.figs.map figA).length : Int)) ((((x : Int).tmod ((r.figs.map figA).length : Int)) + 1 + ((y : Int).tmod (((r.figs.map figA).length : Int) - 1))).tmod ((r.figs.map figA).length : Int)), max ((x : Int).tmod ((r.figs.map figA).length : Int)) ((((x : Int).tmod ((r.figs.map figA).length : Int)) + 1 + ((y : Int).tmod (((r.figs.map figA).length : Int) - 1))).tmod ((r.figs.map figA).length : Int))⟩ : Stp) == ·) = w at *
        cases w
        · refine pureA_codeB tabOk { l := 0, f := 13 } mixed call_13 Try.func13 (by kernel_rfl) ?_
          conv => whnf
          repeat (any_goals (first | exact falseI | (refine brP_dec (fun _ => ?_) (fun _ => ?_) <;> first | (exfalso; omega) | conv => whnf) | (refine brP_ndec (fun _ => ?_) (fun _ => ?_) <;> first | (exfalso; omega) | conv => whnf) | ((first | refine callP_a hva ?_ | refine callP_a hG ?_ | refine callP_a hF ?_ | refine callP_a hP ?_ | refine callP_a hQ ?_ | refine callP_a hM ?_ | refine callP_a hH ?_ | refine callP_a aw ?_ | refine And.intro (DrawOk.mk (by kernel_rfl)) ?_ | refine okI ?_ | refine brP_true (Nat.beq_refl _) ?_ | refine brP_intro (fun _ => ?_) (fun _ => ?_) | refine bndI ?_ | intro _) <;> conv => whnf)))
          all_goals first | ((refine ⟨⟨?_⟩, trivial⟩; rfl)) | skip
        · have := hhas rfl
          subst this
          refine pureA_codeB tabOk { l := 0, f := 13 } mixed call_13 Try.func13 (by kernel_rfl) ?_
          conv => whnf
          repeat (any_goals (first | exact falseI | (refine brP_dec (fun _ => ?_) (fun _ => ?_) <;> first | (exfalso; omega) | conv => whnf) | (refine brP_ndec (fun _ => ?_) (fun _ => ?_) <;> first | (exfalso; omega) | conv => whnf) | ((first | refine callP_a hva ?_ | refine callP_a hG ?_ | refine callP_a hF ?_ | refine callP_a hP ?_ | refine callP_a hQ ?_ | refine callP_a hM ?_ | refine callP_a hH ?_ | refine callP_a aw ?_ | refine And.intro (DrawOk.mk (by kernel_rfl)) ?_ | refine okI ?_ | refine brP_true (Nat.beq_refl _) ?_ | refine brP_intro (fun _ => ?_) (fun _ => ?_) | refine bndI ?_ | intro _) <;> conv => whnf)))
          all_goals first | ((refine ⟨⟨?_⟩, trivial⟩; rfl)) | skip
      · rcases rfew_spec hc hr with ⟨e, _⟩ | ⟨e, _⟩
        · exact absurd e hf
        · rw [if_neg hf, e] at hG
          rw [e] at hF
          simp only at hG hF
          refine pureA_codeB tabOk { l := 0, f := 13 } mixed call_13 Try.func13 (by kernel_rfl) ?_
          conv => whnf
          repeat (any_goals (first | exact falseI | (refine brP_dec (fun _ => ?_) (fun _ => ?_) <;> first | (exfalso; omega) | conv => whnf) | (refine brP_ndec (fun _ => ?_) (fun _ => ?_) <;> first | (exfalso; omega) | conv => whnf) | ((first | refine callP_a hva ?_ | refine callP_a hG ?_ | refine callP_a hF ?_ | refine callP_a aw ?_ | refine And.intro (DrawOk.mk (by kernel_rfl)) ?_ | refine okI ?_ | refine brP_true (Nat.beq_refl _) ?_ | refine brP_intro (fun _ => ?_) (fun _ => ?_) | refine bndI ?_ | intro _) <;> conv => whnf)))
          all_goals first | ((refine ⟨⟨?_⟩, trivial⟩; rfl)) | skip
  · have h0 := hg 0 1
    have he : r.rgain 0 1 = (0, r.check.2.2) := by
      unfold Row.rgain
      rw [if_neg hc]
    rw [he] at h0
    rw [decide_eq_false hc] at hva
    generalize r.check = c at *
    obtain ⟨c1, c2, c3⟩ := c
    simp only at hc h0
    refine pureA_codeB tabOk { l := 0, f := 13 } mixed call_13 Try.func13 (by kernel_rfl) ?_
    conv => whnf
    repeat (any_goals (first | exact falseI | (refine brP_dec (fun _ => ?_) (fun _ => ?_) <;> first | (exfalso; omega) | conv => whnf) | (refine brP_ndec (fun _ => ?_) (fun _ => ?_) <;> first | (exfalso; omega) | conv => whnf) | ((first | refine callP_a hva ?_ | refine callP_a h0 ?_ | refine callP_a aw ?_ | refine And.intro (DrawOk.mk (by kernel_rfl)) ?_ | refine okI ?_ | refine brP_true (Nat.beq_refl _) ?_ | refine brP_intro (fun _ => ?_) (fun _ => ?_) | refine bndI ?_ | intro _) <;> conv => whnf)))
    all_goals first | ((refine ⟨⟨?_⟩, trivial⟩; rfl)) | skip
end Go.Proofs.Ytmggofcaeolaiaa
namespace Go.Proofs.Ytmggofcaeolaiaa
open Go.Am Go.Proofs Go
theorem countP_take {p : Fig → Bool} {l : List Fig} {i : Nat} {x : Fig} (h : l[i]? = some x) : (l.take (i + 1)).countP p = (l.take i).countP p + if p x = true then 1 else 0 := by
  rw [List.take_add_one, h, List.countP_append]
  simp [List.countP_cons]
def manyK (k : Int) (r q : Row) (i : Nat) : Int := (cntK k (r.figs.take i) : Int) - cntK k (q.figs.take i)
def manyB (k : Int) (r q : Row) (i : Nat) : Int := (cntB k (r.figs.take i) : Int) - cntB k (q.figs.take i)
theorem manyK_next (k : Int) {r q : Row} {i : Nat} {f g : Fig} (hf : r.figs[i]? = some f) (hg : q.figs[i]? = some g) : manyK k r q (i + 1) = manyK k r q i + (if f.has = k then 1 else 0) - (if g.has = k then 1 else 0) := by
  unfold manyK cntK
  rw [countP_take hf, countP_take hg]
  simp only [decide_eq_true_eq]
  split <;> split <;> omega
theorem manyB_next (k : Int) {r q : Row} {i : Nat} {f g : Fig} (hf : r.figs[i]? = some f) (hg : q.figs[i]? = some g) : manyB k r q (i + 1) = manyB k r q i + (if f.has = k then if f.broken = true then 1 else 0 else 0) - (if g.has = k then if g.broken = true then 1 else 0 else 0) := by
  unfold manyB cntB
  rw [countP_take hf, countP_take hg]
  simp only [Bool.and_eq_true, decide_eq_true_eq]
  have : ∀ (a b : Prop) [Decidable a] [Decidable b], (if a ∧ b then 1 else 0 : Nat) = if a then if b then 1 else 0 else 0 := by
    intro a b _ _
    by_cases ha : a <;> by_cases hb : b <;> simp [ha, hb]
  rw [this, this]
  split <;> split <;> (try split) <;> (try split) <;> omega
theorem many_bound (k : Int) (r q : Row) {i : Nat} (h : i ≤ 5) : -5 ≤ manyK k r q i ∧ manyK k r q i ≤ 5 ∧ -5 ≤ manyB k r q i ∧ manyB k r q i ≤ 5 := by
  have h1 := List.countP_le_length (p := fun f : Fig => decide (f.has = k)) (l := r.figs.take i)
  have h2 := List.countP_le_length (p := fun f : Fig => decide (f.has = k)) (l := q.figs.take i)
  have h3 := List.countP_le_length (p := fun f : Fig => decide (f.has = k) && f.broken) (l := r.figs.take i)
  have h4 := List.countP_le_length (p := fun f : Fig => decide (f.has = k) && f.broken) (l := q.figs.take i)
  rw [List.length_take] at h1 h2 h3 h4
  unfold manyK manyB cntK cntB
  omega
set_option maxHeartbeats 2000000 in
set_option maxRecDepth 100000 in
theorem MendStay_c (r : Row) (hr : r.small) (x : List Int) (hx : x.length ≤ 1048576) (hb : ∀ v ∈ x, 0 ≤ v ∧ v < 256) (y z : Nat) (hy : y ≤ 255) (hz : z ≤ 255) :
    PureA Try.prog 11 [rowA r, bytesA x, .agg [.v (.int .u8 y), .v (.int .u8 z)]] (boolA true) := by
  have hva := valid41_c r hr
  have aw := Awake_c
  by_cases hc : r.check.2.2 = 0
  · have hv := r.valid_iff hc
    have hg := hv.good hr
    rw [decide_eq_true hc] at hva
    have hA := any_c r hg x hx hb
    obtain ⟨hcan, h20⟩ := r.any_can x
    generalize r.anyS x = L at *
    obtain ⟨hqc, hqs, hqk⟩ := after_check hc hr hcan
    have hD := Done_c r hr L
    rw [done_ok hc hr h20] at hD
    have e1 : (L.map stpA).length = L.length := List.length_map _
    obtain ⟨n, hn⟩ : ∃ n, n = y % (L.length + 1) := ⟨_, rfl⟩
    have hnl : n ≤ L.length := by have := Nat.mod_lt y (show 0 < L.length + 1 by omega); omega
    have hT : (y : Int).tmod (((L.map stpA).length : Int) + 1) = (n : Int) := by rw [e1, hn]; rfl
    have hsplit : L = L.take n ++ L.drop n := (List.take_append_drop n L).symm
    have hap := after_append (L.take n) (L.drop n) r
    rw [← hsplit] at hap
    have hcut : (r.after (L.take n)).2 = 0 := by
      apply Classical.byContradiction
      intro h
      rw [if_neg h] at hap
      rw [hap] at hcan
      exact h hcan
    rw [if_pos hcut] at hap
    obtain ⟨hhc, hhs, hhk⟩ := after_check hc hr hcut
    have hH := Done_c r hr (L.take n)
    rw [done_ok hc hr (by rw [List.length_take]; omega)] at hH
    have hR := Done_c _ hhs (L.drop n)
    rw [done_ok hhc hhs (by rw [List.length_drop]; omega), ← hap] at hR
    have hcnt := fun k => after_cnt (k := k) L hg hcan
    have hsm := same_c (r.after L).1 (r.after L).1 hqs.1 hqs.1 hqs.2.1 hqs.2.1
    rw [same_self] at hsm
    unfold rowErrA at hD hH hR
    rw [hcan] at hD hR
    rw [hcut] at hH
    generalize (r.after L).1 = q at *
    generalize (r.after (L.take n)).1 = p at *
    have h5 := hv.len
    have hfl : q.figs.length = r.figs.length := hqk.len
    have hn0 : (((r.figs.map figA).length : Nat) : Int) = r.figs.length := by rw [List.length_map]
    have hn1 : (((q.figs.map figA).length : Nat) : Int) = r.figs.length := by rw [List.length_map, hfl]
    have hH : PureA Try.prog 21 [rowA r, .slice 2 ((L.map stpA).take ((y : Int).tmod (((L.map stpA).length : Int) + 1)).toNat) .no] (.tuple [rowA p, intA 0]) := by
      rw [hT, Int.toNat_natCast, ← List.map_take]; exact hH
    have hR : PureA Try.prog 21 [rowA p, .slice 2 ((L.map stpA).drop ((y : Int).tmod (((L.map stpA).length : Int) + 1)).toNat) .no] (.tuple [rowA q, intA 0]) := by
      rw [hT, Int.toNat_natCast, ← List.map_drop]; exact hR
    have hTb : 0 ≤ (y : Int).tmod (((L.map stpA).length : Int) + 1) ∧ (y : Int).tmod (((L.map stpA).length : Int) + 1) ≤ ((L.map stpA).length : Int) := by rw [hT]; omega
    refine pureA_codeB tabOk { l := 0, f := 11 } mixed call_11 Try.func11 (by kernel_rfl) ?_
    conv => whnf
    repeat (any_goals (first | exact falseI | (refine brP_dec (fun _ => ?_) (fun _ => ?_) <;> first | (exfalso; omega) | conv => whnf) | (refine brP_ndec (fun _ => ?_) (fun _ => ?_) <;> first | (exfalso; omega) | conv => whnf) | ((first | refine callP_a hva ?_ | refine callP_a hA ?_ | refine callP_a hD ?_ | refine callP_a hH ?_ | refine callP_a hR ?_ | refine callP_a hsm ?_ | refine And.intro (DrawOk.mk (by kernel_rfl)) ?_ | refine okI ?_ | refine brP_true (Nat.beq_refl _) ?_ | refine brP_intro (fun _ => ?_) (fun _ => ?_) | refine bndI ?_ | intro _) <;> conv => whnf)))
    refine loopK tabOk { l := 0, f := 11 } mixed (fun k : Nat => [(17, intA k)]) (fun _ => []) (fun _ => []) (fun k => k ≤ 6) (fun k => 6 - k) 0 (by kernel_rfl)
      (Nat.zero_le _) ?_
    conv => whnf
    refine ⟨⟨slotsLe_cons rfl trivial, trivial, trivial⟩, ?_⟩
    intro k hk
    have hck := hcnt (k : Int)
    conv => whnf
    refine brP_dec (fun h1 => ?_) (fun h1 => ?_)
    · conv => whnf
      repeat (any_goals (first | exact falseI | (refine brP_dec (fun _ => ?_) (fun _ => ?_) <;> first | (exfalso; omega) | conv => whnf) | (refine brP_ndec (fun _ => ?_) (fun _ => ?_) <;> first | (exfalso; omega) | conv => whnf) | ((first | refine And.intro (DrawOk.mk (by kernel_rfl)) ?_ | refine okI ?_ | refine brP_true (Nat.beq_refl _) ?_ | refine brP_intro (fun _ => ?_) (fun _ => ?_) | refine bndI ?_ | intro _) <;> conv => whnf)))
      refine loopK tabOk { l := 0, f := 11 } mixed (fun i : Nat => [(20, intA i), (18, intA (manyK k r q i)), (19, intA (manyB k r q i))]) (fun _ => []) (fun _ => []) (fun i => i ≤ r.figs.length) (fun i => r.figs.length - i) 0 (by kernel_rfl)
        (Nat.zero_le _) ?_
      conv => whnf
      refine ⟨⟨slotsLe_cons rfl (slotsLe_cons rfl (slotsLe_cons rfl trivial)), trivial, trivial⟩, ?_⟩
      intro i hi
      have hbd := many_bound k r q (i := i) (by omega)
      conv => whnf
      refine brP_dec (fun h2 => ?_) (fun h2 => ?_)
      · have h2 : i < r.figs.length := by omega
        obtain ⟨f, hf, _⟩ := drop_cons (l := r.figs) (i := i) h2
        obtain ⟨g, hg2, _⟩ := drop_cons (l := q.figs) (i := i) (by omega)
        obtain ⟨f', hf', en, ew⟩ := hqk.names i g hg2
        rw [hf] at hf'
        cases hf'
        have hmk := manyK_next k hf hg2
        have hmb := manyB_next k hf hg2
        generalize manyK k r q i = MK at *
        generalize manyB k r q i = MB at *
        conv => whnf
        repeat (any_goals (first | exact falseI | (refine brP_dec (fun _ => ?_) (fun _ => ?_) <;> first | (exfalso; omega) | conv => whnf) | (refine brP_ndec (fun _ => ?_) (fun _ => ?_) <;> first | (exfalso; omega) | conv => whnf) | ((first | refine optP_map hf rfl ?_ | refine optP_map hg2 rfl ?_ | refine And.intro (DrawOk.mk (by kernel_rfl)) ?_ | refine okI ?_ | refine brP_true (Nat.beq_refl _) ?_ | refine brP_intro (fun _ => ?_) (fun _ => ?_) | refine bndI ?_ | intro _) <;> conv => whnf)))
        all_goals first | (exfalso; exact absurd en.symm (by assumption)) | (exfalso; exact absurd ew.symm (by assumption)) | skip
        all_goals clear hva aw hA hD hcnt hsm hH hR hap hcut hsplit
        all_goals ((refine ⟨i + 1, (by omega), (by omega), ?_⟩; (conv => whnf); refine ⟨?_, ?_, ?_⟩ <;> repeat (first | exact trivial | refine slotsLe_cons rfl ?_ | refine keysLe_none ?_ | refine keysLe_cons rfl ?_ | refine slotsLe_cons (by (first | (refine congrArg (fun n => some (intA n)) ?_; rw [hmk]; clear hmb; simp [*]; done) | (refine congrArg (fun n => some (intA n)) ?_; rw [hmb]; clear hmk; simp [*]; done) | (refine congrArg (fun n => some (intA n)) ?_; rw [hmk]; clear hmb; simp [*]; omega) | (refine congrArg (fun n => some (intA n)) ?_; rw [hmb]; clear hmk; simp [*]; omega))) ?_ | refine keysLe_cons (by (first | (refine congrArg (fun n => some (intA n)) ?_; rw [hmk]; clear hmb; simp [*]; done) | (refine congrArg (fun n => some (intA n)) ?_; rw [hmb]; clear hmk; simp [*]; done) | (refine congrArg (fun n => some (intA n)) ?_; rw [hmk]; clear hmb; simp [*]; omega) | (refine congrArg (fun n => some (intA n)) ?_; rw [hmb]; clear hmk; simp [*]; omega))) ?_)))
      · have hi2 : i = r.figs.length := by omega
        have hzk : manyK k r q i = 0 := by
          unfold manyK; rw [hi2]
          conv => lhs; rw [← hfl, List.take_length]
          rw [hfl, List.take_length]; omega
        have hzb : 0 ≤ manyB k r q i := by
          unfold manyB; rw [hi2]
          conv => rhs; rw [← hfl, List.take_length]
          rw [hfl, List.take_length]; omega
        conv => whnf
        repeat (any_goals (first | exact falseI | (refine brP_dec (fun _ => ?_) (fun _ => ?_) <;> first | (exfalso; omega) | conv => whnf) | (refine brP_ndec (fun _ => ?_) (fun _ => ?_) <;> first | (exfalso; omega) | conv => whnf) | ((first | refine And.intro (DrawOk.mk (by kernel_rfl)) ?_ | refine okI ?_ | refine brP_true (Nat.beq_refl _) ?_ | refine brP_intro (fun _ => ?_) (fun _ => ?_) | refine bndI ?_ | intro _) <;> conv => whnf)))
        all_goals first | (exfalso; omega) | skip
        (refine ⟨k + 1, (by omega), (by omega), ?_⟩; (conv => whnf); refine ⟨?_, ?_, ?_⟩ <;> repeat (first | exact trivial | refine slotsLe_cons rfl ?_ | refine keysLe_none ?_ | refine keysLe_cons rfl ?_ | refine slotsLe_cons (by rfl) ?_ | refine keysLe_cons (by rfl) ?_))
    · by_cases hbe : r.beside.length = 0
      · have e2 : (r.beside.map stpA).length = 0 := by rw [List.length_map]; exact hbe
        conv => whnf
        repeat (any_goals (first | exact falseI | (refine brP_dec (fun _ => ?_) (fun _ => ?_) <;> first | (exfalso; omega) | conv => whnf) | (refine brP_ndec (fun _ => ?_) (fun _ => ?_) <;> first | (exfalso; omega) | conv => whnf) | ((first | refine callP_a aw ?_ | refine And.intro (DrawOk.mk (by kernel_rfl)) ?_ | refine okI ?_ | refine brP_true (Nat.beq_refl _) ?_ | refine brP_intro (fun _ => ?_) (fun _ => ?_) | refine bndI ?_ | intro _) <;> conv => whnf)))
        (refine ⟨⟨?_⟩, trivial⟩; rfl)
      · have e2 : (r.beside.map stpA).length = r.beside.length := List.length_map _
        have hj : z % r.beside.length < r.beside.length := Nat.mod_lt _ (by omega)
        obtain ⟨s, hs2, _⟩ := drop_cons (l := r.beside) hj
        have htm : (z : Int).tmod ((r.beside.map stpA).length : Int) = ((z % r.beside.length : Nat) : Int) := by rw [e2]; rfl
        have hW := Done_c r hr [s, s]
        rw [done_ok hc hr (by simp), twice hg (List.mem_of_getElem? hs2)] at hW
        unfold rowErrA at hW
        have hsr := same_c r r hr.1 hr.1 hr.2.1 hr.2.1
        rw [same_self] at hsr
        conv => whnf
        repeat (any_goals (first | exact falseI | (refine brP_dec (fun _ => ?_) (fun _ => ?_) <;> first | (exfalso; omega) | conv => whnf) | (refine brP_ndec (fun _ => ?_) (fun _ => ?_) <;> first | (exfalso; omega) | conv => whnf) | ((first | refine callP_a aw ?_ | refine optP_map hs2 htm ?_ | refine callP_a hW ?_ | refine callP_a hsr ?_ | refine And.intro (DrawOk.mk (by kernel_rfl)) ?_ | refine okI ?_ | refine brP_true (Nat.beq_refl _) ?_ | refine brP_intro (fun _ => ?_) (fun _ => ?_) | refine bndI ?_ | intro _) <;> conv => whnf)))
        all_goals first | ((refine ⟨⟨?_⟩, trivial⟩; rfl)) | skip
  · have hD := Done_c r hr []
    rw [decide_eq_false hc] at hva
    unfold Row.done at hD
    rw [if_neg hc] at hD
    unfold rowErrA zeroR at hD
    have hD := PureA.args hD (WkL.cons (Wk.refl _) (WkL.cons (Wk.nil 2) (WkL.refl _)))
    generalize r.check = c at *
    obtain ⟨c1, c2, c3⟩ := c
    simp only at hc hD
    refine pureA_codeB tabOk { l := 0, f := 11 } mixed call_11 Try.func11 (by kernel_rfl) ?_
    conv => whnf
    repeat (any_goals (first | exact falseI | (refine brP_dec (fun _ => ?_) (fun _ => ?_) <;> first | (exfalso; omega) | conv => whnf) | (refine brP_ndec (fun _ => ?_) (fun _ => ?_) <;> first | (exfalso; omega) | conv => whnf) | ((first | refine callP_a hva ?_ | refine callP_a hD ?_ | refine callP_a aw ?_ | refine And.intro (DrawOk.mk (by kernel_rfl)) ?_ | refine okI ?_ | refine brP_true (Nat.beq_refl _) ?_ | refine brP_intro (fun _ => ?_) (fun _ => ?_) | refine bndI ?_ | intro _) <;> conv => whnf)))
    all_goals first | ((refine ⟨⟨?_⟩, trivial⟩; rfl)) | skip
end Go.Proofs.Ytmggofcaeolaiaa
namespace Go.Proofs.Ytmggofcaeolaiaa
open Go.Am Go.Proofs Go Go.ChangeShapes Go.WideShapes Go.RowKit
theorem cells5' : Try.prog.cellsOf 5 = 1 := by kernel_rfl
set_option maxRecDepth 100000 in
theorem bytes_read54 {H : Type} {enc : TypeId × Value → H} {sp : Nat → Bool} {held : Bool} {W : World} {r : Reach} {b0 : Nat} {v : Value} {d : DataW H} {ps : List MemPlace} (hk : Value.okWide Try.prog W r b0 54 v) (h : DataW.Trod enc Try.prog W 0 sp held 54 v d ps) :
    ∃ l : List Int, l.length ≤ Rows.uptoBulk d ∧ (∀ x ∈ l, 0 ≤ x ∧ x < 256) ∧ PRel W (lies W) (bytesA l) v := by
  simp only [Value.okWide, Try.underlying54] at hk
  obtain ⟨fuel, hf⟩ := h
  have hv : v.cells.toList = [v] := by
    cases v with
    | agg cs => simp [Cell.okWide, Try.underlying54, Cell.ok] at hk
    | _ => rfl
  rw [hv] at hf
  rcases slice_open (mk := fun m : Int => [Value.int .u8 m]) (good := fun (m : Int) d => 0 ≤ m ∧ m < 256) Try.underlying54 cells5' (fun h => by
    obtain ⟨m, e, _, hw⟩ := DataW.trod_int Try.underlying5 h
    have := bounds_u8 hw
    exact ⟨m, e, by omega⟩) hf with ⟨h1, h2⟩ | ⟨a, cap, l, elems, rest, h1, hc, hm, hx, hl, hg, he⟩
  · simp only [List.cons.injEq, and_true] at h1
    subst h1
    exact ⟨[], Nat.zero_le _, by simp, .nil 1 .no (.inl rfl)⟩
  · simp only [List.cons.injEq, and_true] at h1
    subst h1
    simp only at hx
    rw [hx]
    have hb := bulk_slice elems rest
    have hsp : a.spot = none := spot_of (P := Try.prog) (W := W) (r := r) (b0 := b0) (len := l.length) (cap := cap) Try.underlying54 hk
    have hbl := bulk_len elems
    refine ⟨l, by omega, fun x hx => ?_, slice_rel (A := byteA) (mk := fun m : Int => [Value.int .u8 m]) (n := 1) (l := l) hsp hc hm (fun y => rfl) (fun y v hv => ?_) he⟩
    · obtain ⟨j, hj⟩ := List.mem_iff_getElem?.1 hx
      obtain ⟨d, _, hs⟩ := hg j x hj
      exact hs
    · simp at hv
      subst hv; rfl
end Go.Proofs.Ytmggofcaeolaiaa
namespace Go.Proofs.Ytmggofcaeolaiaa
open Go.Am Go.Proofs Go Go.ChangeShapes Go.WideShapes Go.ChangeAt Go.RowKit
set_option linter.unusedVariables false
set_option maxRecDepth 100000 in
theorem byte_read5 {H : Type} {enc : TypeId × Value → H} {sp : Nat → Bool} {held : Bool} {W : World} {r : Reach} {b0 : Nat} {v : Value} {d : DataW H} {ps : List MemPlace} (hk : Value.okWide Try.prog W r b0 5 v) (h : DataW.Trod enc Try.prog W 0 sp held 5 v d ps) : ∃ k : Nat, k ≤ 255 ∧ v = .int .u8 k := by
  simp only [Value.okWide, Try.underlying5] at hk
  obtain ⟨fuel, hf⟩ := h
  have hv : v.cells.toList = [v] := by
    cases v with
    | agg cs => simp [Cell.okWide, Try.underlying5, Cell.ok] at hk
    | _ => rfl
  rw [hv] at hf
  obtain ⟨m, e2, _, hw⟩ := DataW.trod_int Try.underlying5 hf
  simp at e2
  subst e2
  obtain ⟨h1, h2⟩ := bounds_u8 hw
  exact ⟨m.toNat, by omega, by rw [Int.toNat_of_nonneg h1]⟩
theorem cells63 : Try.prog.cellsOf 63 = 2 := by kernel_rfl
theorem cells5 : Try.prog.cellsOf 5 = 1 := by kernel_rfl
theorem two2 {α : Type} {l : List α} (h : l.length = 2) : ∃ a b, l = [a, b] := by
  match l, h with
  | [a, b], _ => exact ⟨a, b, rfl⟩
set_option maxRecDepth 100000 in
theorem pair_read63 {H : Type} {enc : TypeId × Value → H} {sp : Nat → Bool} {held : Bool} {W : World} {r : Reach} {b0 : Nat} {v : Value} {d : DataW H} {ps : List MemPlace} (hk : Value.okWide Try.prog W r b0 63 v) (h : DataW.Trod enc Try.prog W 0 sp held 63 v d ps) : ∃ a b : Nat, a ≤ 255 ∧ b ≤ 255 ∧ v = .agg #[.int .u8 a, .int .u8 b] := by
  simp only [Value.okWide, Try.underlying63] at hk
  obtain ⟨vs, rfl, hsz, _⟩ := hk
  rw [cells63] at hsz
  obtain ⟨fuel, hf⟩ := h
  obtain ⟨l⟩ := vs
  obtain ⟨c0, c1, rfl⟩ := two2 (by simpa using hsz)
  obtain ⟨xs, n, rfl, e, hl, hx, hfs⟩ := DataW.trod_array Try.underlying63 hf
  obtain ⟨x0, x1, rfl⟩ := two2 hx
  have h0 := hfs 0 (by decide)
  have h1 := hfs 1 (by decide)
  rw [cells5] at h0 h1
  have h0 : DataW.trod enc Try.prog W 0 sp held n 5 [c0] = some x0 := h0
  have h1 : DataW.trod enc Try.prog W 0 sp held n 5 [c1] = some x1 := h1
  obtain ⟨a, e0, _, w0⟩ := DataW.trod_int Try.underlying5 h0
  obtain ⟨b, e1, _, w1⟩ := DataW.trod_int Try.underlying5 h1
  simp at e0 e1
  subst e0 e1
  have b0 := bounds_u8 w0
  have b1 := bounds_u8 w1
  exact ⟨a.toNat, b.toNat, by omega, by omega, by rw [Int.toNat_of_nonneg b0.1, Int.toNat_of_nonneg b1.1]⟩
end Go.Proofs.Ytmggofcaeolaiaa
namespace Go.Proofs.Ytmggofcaeolaiaa
open Go.Am Go.Proofs Go
def figsV : List Fig → AV
  | [] => nilS
  | f :: l => .slice 4 ((f :: l).map figA) .no
def stpsV : List Stp → AV
  | [] => nilS
  | f :: l => .slice 2 ((f :: l).map stpA) .no
theorem wk_figsV (l : List Fig) : Wk (figsV l) (figsA l) := by cases l with
  | nil => exact Wk.nil 4
  | cons f l => exact Wk.refl _
theorem wk_stpsV (l : List Stp) : Wk (stpsV l) (stpsA l) := by cases l with
  | nil => exact Wk.nil 2
  | cons f l => exact Wk.refl _
def figsT (g : Nat) : List Fig → AV
  | [] => .slice 0 [] .tight
  | f :: l => .slice 4 ((f :: l).map figA) (.own ⟨0, 14, 43⟩ g)
def stpsT (g : Nat) : List Stp → AV
  | [] => .slice 0 [] .tight
  | f :: l => .slice 2 ((f :: l).map stpA) (.own ⟨0, 14, 62⟩ g)
theorem figsT_snoc (g : Nat) (l : List Fig) (f : Fig) : figsT g (l ++ [f]) = .slice 4 (l.map figA ++ [figA f]) (.own ⟨0, 14, 43⟩ g) := by
  cases l with
  | nil => rfl
  | cons x l => simp [figsT]
theorem stpsT_snoc (g : Nat) (l : List Stp) (f : Stp) : stpsT g (l ++ [f]) = .slice 2 (l.map stpA ++ [stpA f]) (.own ⟨0, 14, 62⟩ g) := by
  cases l with
  | nil => rfl
  | cons x l => simp [stpsT]
theorem figsV_snoc (l : List Fig) (f : Fig) : figsV (l ++ [f]) = .slice 4 (l.map figA ++ [figA f]) .no := by
  cases l with
  | nil => rfl
  | cons x l => simp [figsV]
theorem stpsV_snoc (l : List Stp) (f : Stp) : stpsV (l ++ [f]) = .slice 2 (l.map stpA ++ [stpA f]) .no := by
  cases l with
  | nil => rfl
  | cons x l => simp [stpsV]
theorem take_next {α : Type} {l : List α} {d : Nat} {x : α} (h : l[d]? = some x) : l.take (d + 1) = l.take d ++ [x] := by
  rw [List.take_add_one, h]; rfl
set_option maxHeartbeats 2000000 in
set_option maxRecDepth 100000 in
theorem MendBack_c (r : Row) (hr : r.small) (k : Nat) (hk : k ≤ 255) : PureA Try.prog 14 [rowA r, .v (.int .u8 k)] (boolA true) := by
  have hva := valid41_c r hr
  have aw := Awake_c
  by_cases hc : r.check.2.2 = 0
  · have hv := r.valid_iff hc
    have hg := hv.good hr
    rw [decide_eq_true hc] at hva
    have hbc := hv.back.check
    have hbs := back_small hr
    obtain ⟨f1, f2⟩ := few_back hv hr
    have m1 := most_back hv hr
    have p1 := reach_back hv hr (k % 21)
    have hF := Few_r r hr
    have hFb := PureA.args (args := [.agg [figsV r.back.figs, stpsV r.back.beside, intA r.back.bench]]) (Few_r r.back hbs) (WkL.cons (Wk.agg (WkL.cons (wk_figsV _) (WkL.cons (wk_stpsV _) (WkL.refl _)))) (WkL.refl _))
    have hM := Most_r r hr
    have hMb := PureA.args (args := [.agg [figsV r.back.figs, stpsV r.back.beside, intA r.back.bench]]) (Most_r r.back hbs) (WkL.cons (Wk.agg (WkL.cons (wk_figsV _) (WkL.cons (wk_stpsV _) (WkL.refl _)))) (WkL.refl _))
    have hN := Reach_ok r hr hc (k % 21) (by omega)
    have hNb := PureA.args (args := [.agg [figsV r.back.figs, stpsV r.back.beside, intA r.back.bench], intA ((k % 21 : Nat) : Int)]) (Reach_ok r.back hbs hbc (k % 21) (by omega)) (WkL.cons (Wk.agg (WkL.cons (wk_figsV _) (WkL.cons (wk_stpsV _) (WkL.refl _)))) (WkL.refl _))
    rw [m1] at hMb
    rw [f1] at hFb
    rw [p1] at hNb
    have hmk := (rmost_spec hc hr).ok
    have hbl : r.back.figs.length = r.figs.length := by simp [Row.back]
    have hbl2 : r.back.beside.length = r.beside.length := by simp [Row.back]
    have hbe : r.back.bench = if r.bench = -1 then -1 else r.last - r.bench := rfl
    have hbb := hg.benchB
    have h5 := hv.len
    have hsb : ∀ (d : Nat) (s : Stp), r.beside[d]? = some s → r.back.beside[d]? = some (flip r.last s) := fun d s h => by simp [Row.back, h]
    have hfb : ∀ (d : Nat), d < r.figs.length → r.back.figs[d]? = r.figs[r.figs.length - 1 - d]? := fun d h => rev_at (by omega)
    have hbd := hg.bound
    generalize r.back = B at *
    generalize r.rmost = M at *
    generalize hFe : r.rfew = F at *
    generalize hBe : B.rfew = G at *
    have hfl : F.1.length ≤ 248832 := by rw [← hFe]; exact rfew_len r
    obtain ⟨F1, F2⟩ := F
    obtain ⟨G1, G2⟩ := G
    obtain ⟨M1, M2, M3⟩ := M
    simp only at *
    subst f1 hmk
    have e1 : (F1.map stpA).length = F1.length := List.length_map _
    have e2 : (G1.map stpA).length = F1.length := by rw [List.length_map]; exact f2
    have hT : (k : Int).tmod 21 = ((k % 21 : Nat) : Int) := rfl
    have hN : PureA Try.prog 30 [rowA r, intA ((k : Int).tmod 21)] (.tuple [intA (r.rf (k % 21 : Nat)).length, intA 0]) := hN
    have hNb : PureA Try.prog 30 [.agg [figsV B.figs, stpsV B.beside, intA B.bench], intA ((k : Int).tmod 21)] (.tuple [intA (r.rf (k % 21 : Nat)).length, intA 0]) := hNb
    have e3 : (r.figs.map figA).length = r.figs.length := List.length_map _
    have e4 : (r.beside.map stpA).length = r.beside.length := List.length_map _
    have hl : r.last = ((r.figs.map figA).length : Int) - 1 := by rw [e3]; rfl
    refine pureA_codeB tabOk { l := 0, f := 14 } mixed call_14 Try.func14 (by kernel_rfl) ?_
    conv => whnf
    repeat (any_goals (first | exact falseI | (refine brP_dec (fun _ => ?_) (fun _ => ?_) <;> first | (exfalso; omega) | conv => whnf) | (refine brP_ndec (fun _ => ?_) (fun _ => ?_) <;> first | (exfalso; omega) | conv => whnf) | ((first | refine callP_a hva ?_ | refine And.intro (DrawOk.mk (by kernel_rfl)) ?_ | refine okI ?_ | refine brP_true (Nat.beq_refl _) ?_ | refine brP_intro (fun _ => ?_) (fun _ => ?_) | refine bndI ?_ | intro _) <;> conv => whnf)))
    refine loopK tabOk { l := 0, f := 14 } mixed (fun a : Nat × List Fig × Nat => [(7, intA (((r.figs.map figA).length : Int) - 1 - (a.1 : Int)))]) (fun a => [(⟨0, 14, 6⟩, some (1, some (3, [.agg [figsT a.2.2 a.2.1, .slice 0 [] .tight, intA r.bench]])))]) (fun _ => []) (fun a => a.1 ≤ r.figs.length ∧ a.2.1 = B.figs.take a.1) (fun a => r.figs.length - a.1) (0, [], 0) (by kernel_rfl)
      ⟨Nat.zero_le _, rfl⟩ ?_
    conv => whnf
    refine ⟨⟨slotsLe_cons (by show some (intA (((r.figs.map figA).length : Int) - 1)) = some (intA (((r.figs.map figA).length : Int) - 1 - ((0 : Nat) : Int))); rw [Int.natCast_zero, Int.sub_zero]) trivial, keysLe_cons rfl trivial, trivial⟩, ?_⟩
    intro ⟨d, acc, g⟩ ⟨hd, hacc⟩
    simp only at hd hacc
    conv => whnf
    refine brP_dec (fun h1 => ?_) (fun h1 => ?_)
    · have h1 : d < r.figs.length := by simp only at h1; omega
      obtain ⟨x, hx, _⟩ := drop_cons (l := r.figs) (i := r.figs.length - 1 - d) (by omega)
      have hidx : ((r.figs.map figA).length : Int) - 1 - (d : Int) = ((r.figs.length - 1 - d : Nat) : Int) := by omega
      have hnx := take_next (l := B.figs) (d := d) ((hfb d h1).trans hx)
      rw [← hacc] at hnx
      have hal : acc.length = d := by rw [hacc, List.length_take]; omega
      have hds : (((r.figs.map figA).length : Int) - 1 - (d : Int) - 1) = (((r.figs.map figA).length : Int) - 1 - ((d + 1 : Nat) : Int)) := by omega
      cases acc with
      | nil =>
        conv => whnf
        repeat (any_goals (first | exact falseI | (refine brP_dec (fun _ => ?_) (fun _ => ?_) <;> first | (exfalso; omega) | conv => whnf) | (refine brP_ndec (fun _ => ?_) (fun _ => ?_) <;> first | (exfalso; omega) | conv => whnf) | ((first | refine optP_map hx hidx ?_ | refine And.intro (DrawOk.mk (by kernel_rfl)) ?_ | refine okI ?_ | refine brP_true (Nat.beq_refl _) ?_ | refine brP_intro (fun _ => ?_) (fun _ => ?_) | refine bndI ?_ | intro _) <;> conv => whnf)))
        all_goals first | (exfalso; omega) | skip
        rename_i g2 _
        (refine ⟨(d + 1, [x], g2 + 1), ⟨by simp only; omega, by rw [hnx]; rfl⟩, (by simp only; omega), ?_⟩; (conv => whnf); refine ⟨?_, ?_, ?_⟩ <;> repeat (first | exact trivial | refine slotsLe_cons rfl ?_ | refine keysLe_none ?_ | refine keysLe_cons rfl ?_ | refine slotsLe_cons (by first | rfl | (show some (intA (((r.figs.map figA).length : Int) - 1 - (d : Int) - 1)) = some (intA (((r.figs.map figA).length : Int) - 1 - ((d + 1 : Nat) : Int))); rw [hds])) ?_ | refine keysLe_cons (by first | rfl | (show some (intA (((r.figs.map figA).length : Int) - 1 - (d : Int) - 1)) = some (intA (((r.figs.map figA).length : Int) - 1 - ((d + 1 : Nat) : Int))); rw [hds])) ?_))
      | cons y acc =>
        conv => whnf
        repeat (any_goals (first | exact falseI | (refine brP_dec (fun _ => ?_) (fun _ => ?_) <;> first | (exfalso; omega) | conv => whnf) | (refine brP_ndec (fun _ => ?_) (fun _ => ?_) <;> first | (exfalso; omega) | conv => whnf) | ((first | refine optP_map hx hidx ?_ | refine And.intro (DrawOk.mk (by kernel_rfl)) ?_ | refine okI ?_ | refine brP_true (Nat.beq_refl _) ?_ | refine brP_intro (fun _ => ?_) (fun _ => ?_) | refine bndI ?_ | intro _) <;> conv => whnf)))
        all_goals first | (exfalso; omega) | skip
        rename_i g2 _ _
        (refine ⟨(d + 1, y :: acc ++ [x], g2 + 1), ⟨by simp only; omega, by rw [hnx]⟩, (by simp only; omega), ?_⟩; (conv => whnf); refine ⟨?_, ?_, ?_⟩ <;> repeat (first | exact trivial | refine slotsLe_cons rfl ?_ | refine keysLe_none ?_ | refine keysLe_cons rfl ?_ | refine slotsLe_cons (by first | rfl | (show some (intA (((r.figs.map figA).length : Int) - 1 - (d : Int) - 1)) = some (intA (((r.figs.map figA).length : Int) - 1 - ((d + 1 : Nat) : Int))); rw [hds]) | (simp only [figsT_snoc]; rfl)) ?_ | refine keysLe_cons (by first | rfl | (show some (intA (((r.figs.map figA).length : Int) - 1 - (d : Int) - 1)) = some (intA (((r.figs.map figA).length : Int) - 1 - ((d + 1 : Nat) : Int))); rw [hds]) | (simp only [figsT_snoc]; rfl)) ?_))
    · have hde : d = r.figs.length := by simp only at h1; omega
      subst hde
      rw [← hbl, List.take_length] at hacc
      subst hacc
      conv => whnf
      repeat (any_goals (first | exact falseI | (refine brP_dec (fun _ => ?_) (fun _ => ?_) <;> first | (exfalso; omega) | conv => whnf) | (refine brP_ndec (fun _ => ?_) (fun _ => ?_) <;> first | (exfalso; omega) | conv => whnf) | ((first | refine And.intro (DrawOk.mk (by kernel_rfl)) ?_ | refine okI ?_ | refine brP_true (Nat.beq_refl _) ?_ | refine brP_intro (fun _ => ?_) (fun _ => ?_) | refine bndI ?_ | intro _) <;> conv => whnf)))
      clear hfb
      generalize B.figs = BF at *
      refine loopK tabOk { l := 0, f := 14 } mixed (fun a : Nat × List Stp × Nat => [(8, intA a.1)]) (fun a => [(⟨0, 14, 6⟩, some (1, some (3, [.agg [figsT g BF, stpsT a.2.2 a.2.1, intA r.bench]])))]) (fun _ => []) (fun a => a.1 ≤ r.beside.length ∧ a.2.1 = B.beside.take a.1) (fun a => r.beside.length - a.1) (0, [], 0) (by kernel_rfl)
        ⟨Nat.zero_le _, rfl⟩ ?_
      conv => whnf
      refine ⟨⟨slotsLe_cons rfl trivial, keysLe_cons rfl trivial, trivial⟩, ?_⟩
      intro ⟨i, acc, g'⟩ ⟨hi, hacc⟩
      simp only at hi hacc
      conv => whnf
      refine brP_dec (fun h1 => ?_) (fun h1 => ?_)
      · have h1 : i < r.beside.length := by simp only at h1; omega
        obtain ⟨s, hs, _⟩ := drop_cons (l := r.beside) (i := i) h1
        have hnx := take_next (l := B.beside) (d := i) (hsb i s hs)
        rw [← hacc] at hnx
        have hsd := hbd s (List.mem_of_getElem? hs)
        have hal : acc.length = i := by rw [hacc, List.length_take]; omega
        have hfe : stpA (flip r.last s) = .agg [.v (.int .i64 (((r.figs.map figA).length : Int) - 1 - s.b)), .v (.int .i64 (((r.figs.map figA).length : Int) - 1 - s.a))] := by rw [hl]; rfl
        generalize flip r.last s = fs at *
        have hbl3 := hr.2.1
        cases acc with
        | nil =>
          conv => whnf
          repeat (any_goals (first | exact falseI | (refine brP_dec (fun _ => ?_) (fun _ => ?_) <;> first | (exfalso; omega) | conv => whnf) | (refine brP_ndec (fun _ => ?_) (fun _ => ?_) <;> first | (exfalso; omega) | conv => whnf) | ((first | refine optP_map hs rfl ?_ | refine And.intro (DrawOk.mk (by kernel_rfl)) ?_ | refine okI ?_ | refine brP_true (Nat.beq_refl _) ?_ | refine brP_intro (fun _ => ?_) (fun _ => ?_) | refine bndI ?_ | intro _) <;> conv => whnf)))
          all_goals first | (exfalso; omega) | skip
          rename_i g2 _
          (refine ⟨(i + 1, [fs], g2 + 1), ⟨by simp only; omega, by rw [hnx]; rfl⟩, (by simp only; omega), ?_⟩; (conv => whnf); refine ⟨?_, ?_, ?_⟩ <;> repeat (first | exact trivial | refine slotsLe_cons rfl ?_ | refine keysLe_none ?_ | refine keysLe_cons rfl ?_ | refine slotsLe_cons (by first | rfl | (simp only [stpsT, List.map_cons, hfe]; rfl)) ?_ | refine keysLe_cons (by first | rfl | (simp only [stpsT, List.map_cons, hfe]; rfl)) ?_))
        | cons y acc =>
          conv => whnf
          repeat (any_goals (first | exact falseI | (refine brP_dec (fun _ => ?_) (fun _ => ?_) <;> first | (exfalso; omega) | conv => whnf) | (refine brP_ndec (fun _ => ?_) (fun _ => ?_) <;> first | (exfalso; omega) | conv => whnf) | ((first | refine optP_map hs rfl ?_ | refine And.intro (DrawOk.mk (by kernel_rfl)) ?_ | refine okI ?_ | refine brP_true (Nat.beq_refl _) ?_ | refine brP_intro (fun _ => ?_) (fun _ => ?_) | refine bndI ?_ | intro _) <;> conv => whnf)))
          all_goals first | (exfalso; omega) | skip
          rename_i g2 _ _
          (refine ⟨(i + 1, y :: acc ++ [fs], g2 + 1), ⟨by simp only; omega, by rw [hnx]⟩, (by simp only; omega), ?_⟩; (conv => whnf); refine ⟨?_, ?_, ?_⟩ <;> repeat (first | exact trivial | refine slotsLe_cons rfl ?_ | refine keysLe_none ?_ | refine keysLe_cons rfl ?_ | refine slotsLe_cons (by first | rfl | (simp only [stpsT_snoc, hfe]; rfl)) ?_ | refine keysLe_cons (by first | rfl | (simp only [stpsT_snoc, hfe]; rfl)) ?_))
      · have hie : i = r.beside.length := by simp only at h1; omega
        subst hie
        rw [← hbl2, List.take_length] at hacc
        subst hacc
        clear hsb
        generalize B.beside = BS at *
        generalize (r.rf ↑(k % 21)).length = N at *
        have c1 : decide ((F1.map stpA).length = (G1.map stpA).length) = true := by rw [e1, e2]; simp
        by_cases hbn : r.bench = -1
        · rw [show B.bench = r.bench by rw [hbe, if_pos hbn, hbn]] at hFb hMb hNb
          cases BF <;> cases BS
          all_goals
            conv => whnf
            repeat (any_goals (first | exact falseI | (refine brP_dec (fun _ => ?_) (fun _ => ?_) <;> first | (exfalso; omega) | conv => whnf) | (refine brP_ndec (fun _ => ?_) (fun _ => ?_) <;> first | (exfalso; omega) | conv => whnf) | ((first | refine callP_a hF ?_ | refine callP_a hFb ?_ | refine callP_a hM ?_ | refine callP_a hMb ?_ | refine callP_a hN ?_ | refine callP_a hNb ?_ | refine callP_a aw ?_ | refine And.intro (DrawOk.mk (by kernel_rfl)) ?_ | refine okI ?_ | refine brP_true (Nat.beq_refl _) ?_ | refine brP_intro (fun _ => ?_) (fun _ => ?_) | refine bndI ?_ | intro _) <;> conv => whnf)))
          all_goals first | exact trivial | ((refine ⟨⟨?_⟩, trivial⟩; rfl)) | (exfalso; omega) | skip
        · rw [show B.bench = ((r.figs.map figA).length : Int) - 1 - r.bench by rw [hbe, if_neg hbn, hl]] at hFb hMb hNb
          cases BF <;> cases BS
          all_goals
            conv => whnf
            repeat (any_goals (first | exact falseI | (refine brP_dec (fun _ => ?_) (fun _ => ?_) <;> first | (exfalso; omega) | conv => whnf) | (refine brP_ndec (fun _ => ?_) (fun _ => ?_) <;> first | (exfalso; omega) | conv => whnf) | ((first | refine callP_a hF ?_ | refine callP_a hFb ?_ | refine callP_a hM ?_ | refine callP_a hMb ?_ | refine callP_a hN ?_ | refine callP_a hNb ?_ | refine callP_a aw ?_ | refine And.intro (DrawOk.mk (by kernel_rfl)) ?_ | refine okI ?_ | refine brP_true (Nat.beq_refl _) ?_ | refine brP_intro (fun _ => ?_) (fun _ => ?_) | refine bndI ?_ | intro _) <;> conv => whnf)))
          all_goals first | exact trivial | ((refine ⟨⟨?_⟩, trivial⟩; rfl)) | (exfalso; omega) | skip
  · rw [decide_eq_false hc] at hva
    refine pureA_codeB tabOk { l := 0, f := 14 } mixed call_14 Try.func14 (by kernel_rfl) ?_
    conv => whnf
    repeat (any_goals (first | exact falseI | (refine brP_dec (fun _ => ?_) (fun _ => ?_) <;> first | (exfalso; omega) | conv => whnf) | (refine brP_ndec (fun _ => ?_) (fun _ => ?_) <;> first | (exfalso; omega) | conv => whnf) | ((first | refine callP_a hva ?_ | refine callP_a aw ?_ | refine And.intro (DrawOk.mk (by kernel_rfl)) ?_ | refine okI ?_ | refine brP_true (Nat.beq_refl _) ?_ | refine brP_intro (fun _ => ?_) (fun _ => ?_) | refine bndI ?_ | intro _) <;> conv => whnf)))
    all_goals first | ((refine ⟨⟨?_⟩, trivial⟩; rfl)) | skip
end Go.Proofs.Ytmggofcaeolaiaa
