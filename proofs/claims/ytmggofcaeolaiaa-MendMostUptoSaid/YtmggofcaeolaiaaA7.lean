/- Part 7 of the texts that the last one stands on. -/
import Derived.Test.YtmggofcaeolaiaaA6
set_option linter.unusedVariables false
set_option linter.unusedSimpArgs false
namespace Go.Proofs.Ytmggofcaeolaiaa
open Go.Am Go.Proofs Go
theorem one_ok_step {r q : Row} (hv : r.Valid) (hk : r.Kept q) {s : Stp} (h : (q.one s).2 = 0) : s ∈ r.steps := by
  rw [hv.mem_steps]
  unfold Row.one at h
  split at h
  · rename_i hc
    obtain ⟨a, b⟩ := s
    simp only [hk.bench] at hc
    refine .inr ⟨?_, hc.2.2⟩
    rw [Stp.mk.injEq]
    exact ⟨hc.1, hc.2.1⟩
  · split at h
    · rename_i hc
      rw [hk.beside] at hc
      obtain ⟨x, hx, e⟩ := List.any_eq_true.1 hc
      have e : s = x := by simpa using e
      exact .inl (e ▸ hx)
    · simp at h
theorem after_steps {r : Row} (hv : r.Valid) : ∀ (w : List Stp) (q : Row), r.Kept q → (q.after w).2 = 0 → ∀ s ∈ w, s ∈ r.steps
  | [], q, _, _, s, hs => by simp at hs
  | x :: w, q, hk, h, s, hs => by
    simp only [Row.after] at h
    by_cases h1 : (q.one x).2 = 0
    · rw [if_pos h1] at h
      rcases List.mem_cons.1 hs with e | hs
      · subst e; exact one_ok_step hv hk h1
      · exact after_steps hv w _ (hk.trans (q.one_kept x)) h s hs
    · rw [if_neg h1] at h; exact absurd h h1
theorem full_each {r : Row} (hv : r.Valid) (hr : r.small) (w : List Stp) (h : (r.after w).2 = 0) : ∃ g ∈ r.rf 100000, g.1 = (r.after w).1 ∧ wle g.2 w := by
  have F := rf_finds hv 100000
  obtain ⟨hI, S⟩ := reach1 hv hr
  have hb := hI.bound hv.parts.1
  refine F.each w (after_steps hv w r (.refl r) h) h (.inr fun f hf => ?_)
  have := F.ok.many f hf
  rw [S.len] at this
  omega
structure IsFew (r : Row) (l : List Stp) : Prop where
  can : (r.after l).2 = 0
  good : (r.after l).1.bad.length = 0
  least : ∀ w, (r.after w).2 = 0 → (r.after w).1.bad.length = 0 → wle l w
theorem rfew_spec {r : Row} (hc : r.check.2.2 = 0) (hr : r.small) : (r.rfew.2 = 0 ∧ IsFew r r.rfew.1) ∨ (r.rfew = ([], 9) ∧ ∀ w, (r.after w).2 = 0 → (r.after w).1.bad.length ≠ 0) := by
  have hv := r.valid_iff hc
  have F := rf_finds hv 100000
  have E := fun w h => full_each hv hr w h
  unfold Row.rfew
  rw [if_pos hc]
  generalize r.rf 100000 = all at *
  unfold rfewF
  cases hf : all.find? (fun f => decide (f.1.bad.length = 0)) with
  | none =>
    refine .inr ⟨rfl, fun w h hb => ?_⟩
    obtain ⟨g, hg, e, _⟩ := E w h
    have := List.find?_eq_none.1 hf g hg
    rw [e] at this
    simp [hb] at this
  | some f =>
    refine .inl ⟨rfl, ?_⟩
    have hfm := List.mem_of_find?_eq_some hf
    have hfb := List.find?_some hf
    have hp := (F.path f hfm).1
    refine ⟨by rw [hp], by rw [hp]; simpa using hfb, fun w h hb => ?_⟩
    obtain ⟨g, hg, e, hle⟩ := E w h
    refine wle_trans ?_ hle
    obtain ⟨_, xs, ys, he, hno⟩ := List.find?_eq_some_iff_append.1 hf
    rw [he] at hg
    rcases List.mem_append.1 hg with h1 | h1
    · have := hno g h1
      rw [e] at this
      simp [hb] at this
    · rcases List.mem_cons.1 h1 with h1 | h1
      · rw [h1]; exact .inl rfl
      · have ho := F.ord
        rw [he, List.map_append, List.map_cons] at ho
        have := (List.pairwise_append.1 ho).2.1
        exact .inr ((List.pairwise_cons.1 this).1 g.2 (List.mem_map.2 ⟨g, h1, rfl⟩))
theorem bestP_le : ∀ (l : List (Int × Int)) (a : Int × Int), (bestP a l).1 ≤ a.1 ∧ ∀ x ∈ l, (bestP a l).1 ≤ x.1
  | [], a => ⟨Int.le_refl _, fun x hx => by simp at hx⟩
  | y :: l, a => by
    have ih := bestP_le l (if y.1 < a.1 then y else a)
    simp only [bestP]
    by_cases h : y.1 < a.1
    · rw [if_pos h] at ih ⊢
      exact ⟨by omega, fun x hx => by
        rcases List.mem_cons.1 hx with e | hx
        · subst e; exact ih.1
        · exact ih.2 x hx⟩
    · rw [if_neg h] at ih ⊢
      exact ⟨ih.1, fun x hx => by
        rcases List.mem_cons.1 hx with e | hx
        · subst e; omega
        · exact ih.2 x hx⟩
theorem bestP_mem : ∀ (l : List (Int × Int)) (a : Int × Int), bestP a l ∈ a :: l
  | [], a => by simp [bestP]
  | y :: l, a => by
    have ih := bestP_mem l (if y.1 < a.1 then y else a)
    simp only [bestP]
    rcases List.mem_cons.1 ih with e | h
    · rw [e]; split <;> simp
    · exact List.mem_cons_of_mem _ (List.mem_cons_of_mem _ h)
theorem bestP_first : ∀ (l : List (Int × Int)) (a : Int × Int), (a :: l).Pairwise (fun x y => x.2 ≤ y.2) → ∀ x ∈ a :: l, x.1 = (bestP a l).1 → (bestP a l).2 ≤ x.2
  | [], a, _, x, hx, _ => by simp at hx; subst hx; exact Int.le_refl _
  | y :: l, a, hp, x, hx, he => by
    obtain ⟨h1, h2⟩ := List.pairwise_cons.1 hp
    simp only [bestP] at he ⊢
    by_cases h : y.1 < a.1
    · rw [if_pos h] at he ⊢
      rcases List.mem_cons.1 hx with e | hx
      · subst e
        have := (bestP_le l y).1
        omega
      · exact bestP_first l y h2 x hx he
    · rw [if_neg h] at he ⊢
      have hp' : (a :: l).Pairwise (fun x y => x.2 ≤ y.2) := List.pairwise_cons.2 ⟨fun z hz => h1 z (List.mem_cons_of_mem _ hz), (List.pairwise_cons.1 h2).2⟩
      rcases List.mem_cons.1 hx with e | hx
      · subst e; exact bestP_first l x hp' x (List.mem_cons_self ..) he
      · rcases List.mem_cons.1 hx with e | hx
        · subst e
          have h3 := (bestP_le l a).1
          have h4 : a.1 = (bestP a l).1 := by omega
          have := bestP_first l a hp' a (List.mem_cons_self ..) h4
          have := h1 x (List.mem_cons_self ..)
          omega
        · exact bestP_first l a hp' x (List.mem_cons_of_mem _ hx) he
structure IsMost (r : Row) (m : Int × Int × Int) : Prop where
  ok : m.2.2 = 0
  some_ : ∃ w, (r.after w).2 = 0 ∧ ((r.after w).1.bad.length : Int) = m.1 ∧ (w.length : Int) = m.2.1
  least : ∀ w, (r.after w).2 = 0 → m.1 ≤ (r.after w).1.bad.length ∧ (((r.after w).1.bad.length : Int) = m.1 → m.2.1 ≤ w.length)
theorem rmost_spec {r : Row} (hc : r.check.2.2 = 0) (hr : r.small) : IsMost r r.rmost := by
  have hv := r.valid_iff hc
  have F := rf_finds hv 100000
  have E := fun w h => full_each hv hr w h
  have h0 := rf_head r 100000
  unfold Row.rmost
  rw [if_pos hc]
  generalize r.rf 100000 = all at *
  obtain ⟨l, rfl⟩ : ∃ l, all = (r, []) :: l := by
    cases all with
    | nil => simp at h0
    | cons x l => simp at h0; exact ⟨l, by rw [h0]⟩
  have e : (((r, []) :: l : List RF).map num2).drop 1 = l.map num2 := rfl
  rw [e]
  have hmap : ((r.bad.length : Int), (0 : Int)) :: l.map num2 = ((r, []) :: l : List RF).map num2 := rfl
  have hord : (((r.bad.length : Int), (0 : Int)) :: l.map num2).Pairwise (fun x y => x.2 ≤ y.2) := by
    rw [hmap, List.pairwise_map]
    have := F.ord
    rw [List.pairwise_map] at this
    exact this.imp fun h => by
      have := wle_len (.inr h)
      simp only [num2]; omega
  refine ⟨rfl, ?_, fun w h => ?_⟩
  · have := bestP_mem (l.map num2) ((r.bad.length : Int), 0)
    rw [hmap] at this
    obtain ⟨f, hf, e⟩ := List.mem_map.1 this
    have hp := (F.path f hf).1
    refine ⟨f.2, by rw [hp], ?_, ?_⟩
    · rw [hp, ← e]; rfl
    · rw [← e]; rfl
  · obtain ⟨g, hg, eg, hle⟩ := E w h
    have hgm : num2 g ∈ ((r.bad.length : Int), (0 : Int)) :: l.map num2 := by rw [hmap]; exact List.mem_map.2 ⟨g, hg, rfl⟩
    have h1 : (bestP ((r.bad.length : Int), 0) (l.map num2)).1 ≤ (num2 g).1 := by
      rcases List.mem_cons.1 hgm with e | hm
      · rw [e]; exact (bestP_le _ _).1
      · exact (bestP_le _ _).2 _ hm
    have e1 : (num2 g).1 = ((r.after w).1.bad.length : Int) := by rw [← eg]; rfl
    rw [e1] at h1
    refine ⟨h1, fun he => ?_⟩
    have h2 := bestP_first _ _ hord (num2 g) hgm (by rw [e1]; exact he)
    have h3 := wle_len hle
    have h4 : (num2 g).2 = (g.2.length : Int) := rfl
    simp only at h2 ⊢
    omega
end Go.Proofs.Ytmggofcaeolaiaa
namespace Go.Proofs.Ytmggofcaeolaiaa
open Go.Am Go.Proofs Go
def canF (q : Row) : List Stp → List Stp
  | [] => []
  | s :: l => if (q.one s).2 = 0 then s :: canF q l else canF q l
def anyF (x : List Int) : Nat → Row → List Stp → List Stp
  | 0, _, out => out
  | n + 1, q, out => if out.length < x.length ∧ out.length < 20 then
      if (canF q q.steps).length = 0 then out else
        anyF x n (q.one ((canF q q.steps).getD ((turn x out.length).toNat % (canF q q.steps).length) zeroS)).1 (out ++ [(canF q q.steps).getD ((turn x out.length).toNat % (canF q q.steps).length) zeroS])
    else out
def Row.anyS (r : Row) (x : List Int) : List Stp := anyF x 21 r []
theorem canF_ok (q : Row) : ∀ (l : List Stp), ∀ s ∈ canF q l, (q.one s).2 = 0
  | [], s, h => by simp [canF] at h
  | t :: l, s, h => by
    unfold canF at h
    split at h
    · rename_i ht
      rcases List.mem_cons.1 h with e | h
      · subst e; exact ht
      · exact canF_ok q l s h
    · exact canF_ok q l s h
theorem canF_len (q : Row) : ∀ (l : List Stp), (canF q l).length ≤ l.length
  | [] => Nat.le_refl _
  | t :: l => by
    have := canF_len q l
    unfold canF
    split <;> simp <;> omega
theorem anyF_can {r : Row} {x : List Int} : ∀ (n : Nat) (q : Row) (out : List Stp), r.after out = (q, 0) → out.length ≤ 20 → (r.after (anyF x n q out)).2 = 0 ∧ (anyF x n q out).length ≤ 20
  | 0, q, out, h, hl => ⟨by simp only [anyF]; rw [h], hl⟩
  | n + 1, q, out, h, hl => by
    unfold anyF
    split
    · rename_i hc
      split
      · exact ⟨by rw [h], hl⟩
      · rename_i h0
        have hlt : (turn x out.length).toNat % (canF q q.steps).length < (canF q q.steps).length := Nat.mod_lt _ (by omega)
        obtain ⟨s, hs, _⟩ := drop_cons (l := canF q q.steps) hlt
        have e : (canF q q.steps).getD ((turn x out.length).toNat % (canF q q.steps).length) zeroS = s := by simp [List.getD, hs]
        rw [e]
        exact anyF_can n _ _ (snoc_after h (canF_ok q _ s (List.mem_of_getElem? hs))) (by simp; omega)
    · exact ⟨by rw [h], hl⟩
theorem Row.any_can (r : Row) (x : List Int) : (r.after (r.anyS x)).2 = 0 ∧ (r.anyS x).length ≤ 20 := anyF_can 21 r [] rfl (by simp)
theorem after_kept {r : Row} (hg : r.Good) : ∀ (w : List Stp), (r.after w).2 = 0 → r.Kept (r.after w).1 := by
  have : ∀ (w : List Stp) (q : Row), r.Kept q → (q.after w).2 = 0 → r.Kept (q.after w).1 := by
    intro w
    induction w with
    | nil => exact fun q hk _ => hk
    | cons s w ih =>
      intro q hk h
      simp only [Row.after] at h ⊢
      by_cases h1 : (q.one s).2 = 0
      · rw [if_pos h1] at h ⊢
        exact ih _ (hk.trans (q.one_kept s)) h
      · rw [if_neg h1] at h; exact absurd h h1
  exact fun w h => this w r (.refl r) h
theorem turn_bound {x : List Int} (hb : ∀ v ∈ x, 0 ≤ v ∧ v < 256) (n : Nat) : 0 ≤ turn x n ∧ turn x n < 256 := by
  unfold turn
  split
  · omega
  · rename_i h0
    obtain ⟨v, hv, _⟩ := drop_cons (l := x) (i := n % x.length) (Nat.mod_lt _ (by omega))
    have : x.getD (n % x.length) 0 = v := by simp [List.getD, hv]
    rw [this]; exact hb v (List.mem_of_getElem? hv)
set_option maxHeartbeats 2000000 in
theorem any_c (r : Row) (hg : r.Good) (x : List Int) (hx : x.length ≤ 1048576) (hb : ∀ v ∈ x, 0 ≤ v ∧ v < 256) : PureA Try.prog 42 [rowA r, bytesA x] (stpsA (r.anyS x)) := by
  obtain ⟨R, hR⟩ : ∃ R, R = r.anyS x := ⟨_, rfl⟩
  rw [← hR]
  unfold Row.anyS at hR
  refine pureA_codeB tabOk { l := 0, f := 42 } mixed call_42 Try.func42 (by kernel_rfl) ?_
  conv => whnf
  refine loopTok 5 2 ⟨0, 42, 74⟩ ?_
  conv => whnf
  refine loopK tabOk { l := 0, f := 42 } mixed (fun a : Row × List Stp => [(6, intA (a.2.length : Nat)), (5, .slice 2 (a.2.map stpA) (.own ⟨0, 42, 74⟩ 1))]) (fun a => [(⟨0, 42, 2⟩, some (1, some (3, [rowA a.1])))]) (fun a => [(⟨0, 42, 74⟩, some (1, a.2.length))]) (fun a => a.2.length ≤ 20 ∧ r.Kept a.1 ∧ R = anyF x (21 - a.2.length) a.1 a.2) (fun a => 21 - a.2.length) (r, []) (by kernel_rfl)
    ⟨by simp, .refl r, hR⟩ ?_
  conv => whnf
  refine ⟨⟨slotsLe_cons rfl (slotsLe_cons rfl trivial), keysLe_cons rfl trivial, keysLe_cons rfl trivial⟩, ?_⟩
  intro ⟨q, out⟩ ⟨ho, hk, H⟩
  simp only at ho hk H
  obtain ⟨m, hm⟩ : ∃ m, 21 - out.length = m + 1 := ⟨20 - out.length, by omega⟩
  rw [hm] at H
  simp only [anyF] at H
  by_cases hc : out.length < x.length ∧ out.length < 20
  · rw [if_pos hc] at H
    have hgq := hk.good hg
    have hs := steps_c q hgq
    have hL := q.steps_len hgq.len
    have hone := fun s => one_c q hgq s
    have ht := turn_c x out.length hx (by omega) hb
    have htb := turn_bound hb out.length
    have ex : (x.map byteA).length = x.length := List.length_map _
    generalize hQ : q.steps = L at *
    obtain ⟨K, hK⟩ : ∃ K, K = canF q L := ⟨_, rfl⟩
    rw [← hK] at H
    conv => whnf
    refine brP_dec (fun h1 => ?_) (fun h1 => ?_)
    · conv => whnf
      refine brP_dec (fun h2 => ?_) (fun h2 => ?_)
      · conv => whnf
        repeat (any_goals (first | exact falseI | (refine brP_dec (fun _ => ?_) (fun _ => ?_) <;> first | (exfalso; omega) | conv => whnf) | (refine brP_ndec (fun _ => ?_) (fun _ => ?_) <;> first | (exfalso; omega) | conv => whnf) | ((first | refine callP_a hs ?_ | refine And.intro (DrawOk.mk (by kernel_rfl)) ?_ | refine okI ?_ | refine brP_true (Nat.beq_refl _) ?_ | refine brP_intro (fun _ => ?_) (fun _ => ?_) | refine bndI ?_ | intro _) <;> conv => whnf)))
        refine loopTok 7 2 ⟨0, 42, 50⟩ ?_
        conv => whnf
        intro g _
        conv => whnf
        refine loopK tabOk { l := 0, f := 42 } mixed (fun b : Nat × List Stp => [(9, intA b.1), (7, .slice 2 (b.2.map stpA) (.own ⟨0, 42, 50⟩ (g + 1)))]) (fun _ => []) (fun b => [(⟨0, 42, 50⟩, some (g + 1, b.2.length))]) (fun b => b.1 ≤ L.length ∧ b.2.length ≤ b.1 ∧ K = b.2 ++ canF q (L.drop b.1)) (fun b => L.length - b.1) (0, []) (by kernel_rfl)
          ⟨Nat.zero_le _, Nat.le_refl _, hK⟩ ?_
        conv => whnf
        refine ⟨⟨slotsLe_cons rfl (slotsLe_cons rfl trivial), trivial, keysLe_cons rfl trivial⟩, ?_⟩
        intro ⟨k, can⟩ ⟨hk2, hcl, HK⟩
        simp only at hk2 hcl HK
        conv => whnf
        refine brP_dec (fun h1 => ?_) (fun h1 => ?_)
        · simp only [List.length_map] at h1
          obtain ⟨s, hs2, hd⟩ := drop_cons (l := L) (i := k) (by omega)
          rw [hd] at HK
          simp only [canF] at HK
          have ho2 := hone s
          unfold rowErrA at ho2
          generalize q.one s = y at *
          obtain ⟨y, e⟩ := y
          simp only at HK ho2
          by_cases he : e = 0
          · subst he
            simp only [if_true] at HK
            conv => whnf
            repeat (any_goals (first | exact falseI | (refine brP_dec (fun _ => ?_) (fun _ => ?_) <;> first | (exfalso; omega) | conv => whnf) | (refine brP_ndec (fun _ => ?_) (fun _ => ?_) <;> first | (exfalso; omega) | conv => whnf) | ((first | refine optP_map hs2 rfl ?_ | refine callP_a ho2 ?_ | refine And.intro (DrawOk.mk (by kernel_rfl)) ?_ | refine okI ?_ | refine brP_true (Nat.beq_refl _) ?_ | refine brP_intro (fun _ => ?_) (fun _ => ?_) | refine bndI ?_ | intro _) <;> conv => whnf)))
            (refine ⟨(k + 1, can ++ [s]), ⟨by simp only; omega, by simp only [List.length_append, List.length_cons, List.length_nil]; omega, by simpa using HK⟩, (by simp only; omega), ?_⟩; (conv => whnf); refine ⟨?_, ?_, ?_⟩ <;> repeat (first | exact trivial | refine slotsLe_cons rfl ?_ | refine keysLe_none ?_ | refine keysLe_cons rfl ?_ | refine slotsLe_cons (by first | rfl | (simp only [List.map_append]; rfl) | ((conv => lhs; whnf); simp; done) | ((conv => lhs; whnf); simp; omega)) ?_ | refine keysLe_cons (by first | rfl | (simp only [List.map_append]; rfl) | ((conv => lhs; whnf); simp; done) | ((conv => lhs; whnf); simp; omega)) ?_))
          · rw [if_neg he] at HK
            conv => whnf
            repeat (any_goals (first | exact falseI | (refine brP_dec (fun _ => ?_) (fun _ => ?_) <;> first | (exfalso; omega) | conv => whnf) | (refine brP_ndec (fun _ => ?_) (fun _ => ?_) <;> first | (exfalso; omega) | conv => whnf) | ((first | refine optP_map hs2 rfl ?_ | refine callP_a ho2 ?_ | refine And.intro (DrawOk.mk (by kernel_rfl)) ?_ | refine okI ?_ | refine brP_true (Nat.beq_refl _) ?_ | refine brP_intro (fun _ => ?_) (fun _ => ?_) | refine bndI ?_ | intro _) <;> conv => whnf)))
            (refine ⟨(k + 1, can), ⟨by simp only; omega, by simp only; omega, HK⟩, (by simp only; omega), ?_⟩; (conv => whnf); refine ⟨?_, ?_, ?_⟩ <;> repeat (first | exact trivial | refine slotsLe_cons rfl ?_ | refine keysLe_none ?_ | refine keysLe_cons rfl ?_ | refine slotsLe_cons (by rfl) ?_ | refine keysLe_cons (by rfl) ?_))
        · have : k = L.length := by simp only [List.length_map] at h1; omega
          subst this
          rw [List.drop_length] at HK
          simp only [canF, List.append_nil] at HK
          have HK := HK.symm
          subst HK
          have ec : (List.map stpA ((L.length, can) : Nat × List Stp).snd).length = can.length := List.length_map _
          by_cases hz : can.length = 0
          · rw [if_pos hz] at H
            subst H
            conv => whnf
            repeat (any_goals (first | exact falseI | (refine brP_dec (fun _ => ?_) (fun _ => ?_) <;> first | (exfalso; omega) | conv => whnf) | (refine brP_ndec (fun _ => ?_) (fun _ => ?_) <;> first | (exfalso; omega) | conv => whnf) | ((first | refine And.intro (DrawOk.mk (by kernel_rfl)) ?_ | refine okI ?_ | refine brP_true (Nat.beq_refl _) ?_ | refine brP_intro (fun _ => ?_) (fun _ => ?_) | refine bndI ?_ | intro _) <;> conv => whnf)))
            all_goals first | ((refine ⟨⟨?_⟩, trivial⟩; rfl)) | skip
          · rw [if_neg hz] at H
            have hj : (turn x out.length).toNat % can.length < can.length := Nat.mod_lt _ (by omega)
            obtain ⟨s, hs2, _⟩ := drop_cons (l := can) hj
            have eg : can.getD ((turn x out.length).toNat % can.length) zeroS = s := by simp [List.getD, hs2]
            rw [eg] at H
            have ho2 := hone s
            have hks := hk.trans (q.one_kept s)
            have htm : (turn x out.length).tmod ((List.map stpA ((L.length, can) : Nat × List Stp).snd).length : Int) = (((turn x out.length).toNat % can.length : Nat) : Int) := by
              obtain ⟨t, et⟩ : ∃ t : Nat, turn x out.length = t := ⟨(turn x out.length).toNat, by omega⟩
              rw [ec, et, Int.toNat_natCast]
              rfl
            unfold rowErrA at ho2
            generalize q.one s = y at *
            obtain ⟨y, e⟩ := y
            simp only at H ho2 hks
            conv => whnf
            repeat (any_goals (first | exact falseI | (refine brP_dec (fun _ => ?_) (fun _ => ?_) <;> first | (exfalso; omega) | conv => whnf) | (refine brP_ndec (fun _ => ?_) (fun _ => ?_) <;> first | (exfalso; omega) | conv => whnf) | ((first | refine callP_a ht ?_ | refine optP_map hs2 htm ?_ | refine callP_a ho2 ?_ | refine And.intro (DrawOk.mk (by kernel_rfl)) ?_ | refine okI ?_ | refine brP_true (Nat.beq_refl _) ?_ | refine brP_intro (fun _ => ?_) (fun _ => ?_) | refine bndI ?_ | intro _) <;> conv => whnf)))
            have hl1 : (out ++ [s]).length = out.length + 1 := by simp
            (refine ⟨(y, out ++ [s]), ⟨by simp only; omega, hks, by simp only; rw [show 21 - (out ++ [s]).length = m by omega]; exact H⟩, (by simp only; omega), ?_⟩; (conv => whnf); refine ⟨?_, ?_, ?_⟩ <;> repeat (first | exact trivial | refine slotsLe_cons rfl ?_ | refine keysLe_none ?_ | refine keysLe_cons rfl ?_ | refine slotsLe_cons (by first | rfl | (simp only [hl1]; rfl) | (simp only [List.map_append]; rfl) | ((conv => lhs; whnf); simp; done) | ((conv => lhs; whnf); simp; omega)) ?_ | refine keysLe_cons (by first | rfl | (simp only [hl1]; rfl) | (simp only [List.map_append]; rfl) | ((conv => lhs; whnf); simp; done) | ((conv => lhs; whnf); simp; omega)) ?_))
      · exfalso
        simp only at h2
        omega
    · exfalso
      simp only [List.length_map] at h1
      omega
  · rw [if_neg hc] at H
    have H := H.symm
    subst H
    have ex : (x.map byteA).length = x.length := List.length_map _
    conv => whnf
    refine brP_dec (fun h1 => ?_) (fun h1 => ?_)
    · conv => whnf
      refine brP_dec (fun h2 => ?_) (fun h2 => ?_)
      · exfalso
        simp only [List.length_map] at h1 h2
        omega
      · conv => whnf
        repeat (any_goals (first | exact falseI | (refine brP_dec (fun _ => ?_) (fun _ => ?_) <;> first | (exfalso; omega) | conv => whnf) | (refine brP_ndec (fun _ => ?_) (fun _ => ?_) <;> first | (exfalso; omega) | conv => whnf) | ((first | refine And.intro (DrawOk.mk (by kernel_rfl)) ?_ | refine okI ?_ | refine brP_true (Nat.beq_refl _) ?_ | refine brP_intro (fun _ => ?_) (fun _ => ?_) | refine bndI ?_ | intro _) <;> conv => whnf)))
        (refine ⟨⟨?_⟩, trivial⟩; rfl)
    · conv => whnf
      repeat (any_goals (first | exact falseI | (refine brP_dec (fun _ => ?_) (fun _ => ?_) <;> first | (exfalso; omega) | conv => whnf) | (refine brP_ndec (fun _ => ?_) (fun _ => ?_) <;> first | (exfalso; omega) | conv => whnf) | ((first | refine And.intro (DrawOk.mk (by kernel_rfl)) ?_ | refine okI ?_ | refine brP_true (Nat.beq_refl _) ?_ | refine brP_intro (fun _ => ?_) (fun _ => ?_) | refine bndI ?_ | intro _) <;> conv => whnf)))
      (refine ⟨⟨?_⟩, trivial⟩; rfl)
end Go.Proofs.Ytmggofcaeolaiaa
namespace Go.Proofs.Ytmggofcaeolaiaa
open Go.Am Go.Proofs Go
structure Sub (u v : Row) : Prop where
  figs : v.figs = u.figs
  bench : v.bench = u.bench
  beside : ∀ t : Stp, u.beside.any (t == ·) = true → v.beside.any (t == ·) = true
theorem Sub.one {u v : Row} (h : Sub u v) {t : Stp} (ho : (u.one t).2 = 0) : (v.one t).2 = 0 ∧ Sub (u.one t).1 (v.one t).1 := by
  unfold Row.one at ho ⊢
  rw [h.bench, h.figs]
  split at ho
  · rename_i hc
    rw [if_pos hc, if_pos hc]
    split at ho
    · rename_i hb
      rw [if_pos hb, if_pos hb]
      exact ⟨rfl, rfl, rfl, h.beside⟩
    · simp at ho
  · rename_i hc
    rw [if_neg hc, if_neg hc]
    split at ho
    · rename_i hb
      rw [if_pos hb, if_pos (h.beside t hb)]
      exact ⟨rfl, rfl, rfl, h.beside⟩
    · simp at ho
theorem Sub.after : ∀ {w : List Stp} {u v : Row}, Sub u v → (u.after w).2 = 0 → (v.after w).2 = 0 ∧ (v.after w).1.figs = (u.after w).1.figs
  | [], u, v, h, _ => ⟨rfl, h.figs⟩
  | t :: w, u, v, h, ho => by
    simp only [Row.after] at ho ⊢
    by_cases h1 : (u.one t).2 = 0
    · obtain ⟨h2, h3⟩ := h.one h1
      rw [if_pos h1] at ho ⊢
      rw [if_pos h2]
      exact h3.after ho
    · rw [if_neg h1] at ho; exact absurd ho h1
theorem plus_sub (r : Row) (s : Stp) : Sub r (r.plus s) := by
  unfold Row.plus
  split
  · exact ⟨rfl, rfl, fun t h => h⟩
  · exact ⟨rfl, rfl, fun t h => by
      obtain ⟨x, hx, e⟩ := List.any_eq_true.1 h
      exact List.any_eq_true.2 ⟨x, List.mem_append_left _ hx, e⟩⟩
theorem bad_figs {a b : Row} (h : a.figs = b.figs) : a.bad = b.bad := by unfold Row.bad; rw [h]
theorem most_few {q : Row} (hc : q.check.2.2 = 0) (hq : q.small) (hf : q.rfew.2 = 0) : q.rmost = (0, (q.rfew.1.length : Int), 0) := by
  have hM := rmost_spec hc hq
  rcases rfew_spec hc hq with ⟨_, hF⟩ | ⟨e, _⟩
  · obtain ⟨h1, h2⟩ := hM.least _ hF.can
    obtain ⟨w, hw, hw1, hw2⟩ := hM.some_
    have hok := hM.ok
    generalize q.rmost = M at *
    obtain ⟨M1, M2, M3⟩ := M
    simp only at *
    have hg := hF.good
    have e1 : M1 = 0 := by omega
    have h3 := hF.least w hw (by omega)
    have h4 := wle_len h3
    have h5 := h2 (by omega)
    rw [e1, hok, show M2 = (q.rfew.1.length : Int) by omega]
  · rw [e] at hf; simp at hf
theorem saved {r : Row} (hc : r.check.2.2 = 0) (hr : r.small) {a b : Int} (ho : (outside 0 r.last a || outside 0 r.last b) = false) (hlt : ¬ b ≤ a) (hf : r.rfew.2 = 0) :
    (r.plus ⟨a, b⟩).rfew.2 = 0 ∧ (r.plus ⟨a, b⟩).rfew.1.length ≤ r.rfew.1.length := by
  have hv := r.valid_iff hc
  have hc2 := plus_check hc ho hlt
  have hr2 := Row.plus_small hr hv.ten ⟨a, b⟩
  have hs := plus_sub r ⟨a, b⟩
  rcases rfew_spec hc hr with ⟨_, hF⟩ | ⟨e, _⟩
  · obtain ⟨h1, h2⟩ := hs.after hF.can
    have h3 : ((r.plus ⟨a, b⟩).after r.rfew.1).1.bad.length = 0 := by rw [bad_figs h2]; exact hF.good
    rcases rfew_spec hc2 hr2 with ⟨e, hG⟩ | ⟨_, hn⟩
    · exact ⟨e, wle_len (hG.least _ h1 h3)⟩
    · exact absurd h3 (hn _ h1)
  · rw [e] at hf; simp at hf
theorem plus_has {r : Row} {s : Stp} (h : r.beside.any (s == ·) = true) : r.plus s = r := by
  unfold Row.plus; rw [if_pos h]
end Go.Proofs.Ytmggofcaeolaiaa
namespace Go.Proofs.Ytmggofcaeolaiaa
open Go.Am Go.Proofs Go
set_option maxRecDepth 100000 in
theorem MendFewest_c (r : Row) (hr : r.small) : PureA Try.prog 4 [rowA r] (boolA true) := by
  have h1 := Few_c r hr
  have h2 := RefFew_c r hr
  have h3 := Most_c r hr
  have h4 := RefMost_c r hr
  have hl := rfew_len r
  rw [few_rfew r hr] at h1
  rw [most_rmost r hr] at h3
  have aw := Awake_c
  unfold stpsErrA at h1 h2
  unfold triA at h3 h4
  generalize r.rfew = F at *
  generalize r.rmost = M at *
  obtain ⟨F1, F2⟩ := F
  obtain ⟨M1, M2, M3⟩ := M
  simp only at *
  have hq : PureA Try.prog 27 [stpsA F1, stpsA F1] (boolA true) := by
    have := equal_c F1 F1 (by omega) (by omega)
    rw [eqAll_self (by intro s; simp)] at this
    exact this
  have e1 : decide (F2 = F2) = true := by simp
  have e2 : decide (M1 = M1) = true := by simp
  have e3 : decide (M2 = M2) = true := by simp
  have e4 : decide (M3 = M3) = true := by simp
  refine pureA_codeB tabOk { l := 0, f := 4 } mixed call_4 Try.func4 (by kernel_rfl) ?_
  conv => whnf
  repeat (any_goals (first | exact falseI | (refine brP_dec (fun _ => ?_) (fun _ => ?_) <;> first | (exfalso; omega) | conv => whnf) | (refine brP_ndec (fun _ => ?_) (fun _ => ?_) <;> first | (exfalso; omega) | conv => whnf) | ((first | refine callP_a h1 ?_ | refine callP_a h2 ?_ | refine callP_a hq ?_ | rw [e1] | rw [e2] | rw [e3] | rw [e4] | refine callP_a h3 ?_ | refine callP_a h4 ?_ | refine callP_a aw ?_ | refine And.intro (DrawOk.mk (by kernel_rfl)) ?_ | refine okI ?_ | refine brP_true (Nat.beq_refl _) ?_ | refine brP_intro (fun _ => ?_) (fun _ => ?_) | refine bndI ?_ | intro _) <;> conv => whnf)))
  all_goals first | ((refine ⟨⟨?_⟩, trivial⟩; rfl)) | skip
set_option maxRecDepth 100000 in
theorem MendReach_c (r : Row) (hr : r.small) (n a b : Int) (hn : inI n) : PureA Try.prog 5 [rowA r, intA n, .agg [intA a, intA b]] (boolA true) := by
  have h1 := Reach_c r hr n hn
  have h2 := RefReach_c r hr n hn
  have h3 := Gain_c r hr a b
  have h4 := RefGain_c r hr a b
  rw [reachN_r r hr n] at h1
  rw [gain_r r hr a b] at h3
  have aw := Awake_c
  generalize r.rreachN n = N at *
  generalize r.rgain a b = G at *
  obtain ⟨N1, N2⟩ := N
  obtain ⟨G1, G2⟩ := G
  simp only at *
  have e1 : decide (N1 = N1) = true := by simp
  have e2 : decide (N2 = N2) = true := by simp
  have e3 : decide (G1 = G1) = true := by simp
  have e4 : decide (G2 = G2) = true := by simp
  refine pureA_codeB tabOk { l := 0, f := 5 } mixed call_5 Try.func5 (by kernel_rfl) ?_
  conv => whnf
  repeat (any_goals (first | exact falseI | (refine brP_dec (fun _ => ?_) (fun _ => ?_) <;> first | (exfalso; omega) | conv => whnf) | (refine brP_ndec (fun _ => ?_) (fun _ => ?_) <;> first | (exfalso; omega) | conv => whnf) | ((first | refine callP_a h1 ?_ | refine callP_a h2 ?_ | rw [e1] | rw [e2] | rw [e3] | rw [e4] | refine callP_a h3 ?_ | refine callP_a h4 ?_ | refine callP_a aw ?_ | refine And.intro (DrawOk.mk (by kernel_rfl)) ?_ | refine okI ?_ | refine brP_true (Nat.beq_refl _) ?_ | refine brP_intro (fun _ => ?_) (fun _ => ?_) | refine bndI ?_ | intro _) <;> conv => whnf)))
  all_goals first | ((refine ⟨⟨?_⟩, trivial⟩; rfl)) | skip
end Go.Proofs.Ytmggofcaeolaiaa
namespace Go.Proofs.Ytmggofcaeolaiaa
open Go.Am Go.Proofs Go
theorem valid41_c (r : Row) (hr : r.small) : PureA Try.prog 41 [rowA r] (boolA (decide (r.check.2.2 = 0))) := by
  have hk := refCheck_c r hr
  unfold triA at hk
  generalize r.check = c at *
  obtain ⟨c1, c2, c3⟩ := c
  simp only at hk ⊢
  refine pureA_codeB tabOk { l := 0, f := 41 } mixed call_41 Try.func41 (by kernel_rfl) ?_
  conv => whnf
  repeat (any_goals (first | exact falseI | (refine brP_dec (fun _ => ?_) (fun _ => ?_) <;> first | (exfalso; omega) | conv => whnf) | (refine brP_ndec (fun _ => ?_) (fun _ => ?_) <;> first | (exfalso; omega) | conv => whnf) | ((first | refine callP_a hk ?_ | refine And.intro (DrawOk.mk (by kernel_rfl)) ?_ | refine okI ?_ | refine brP_true (Nat.beq_refl _) ?_ | refine brP_intro (fun _ => ?_) (fun _ => ?_) | refine bndI ?_ | intro _) <;> conv => whnf)))
  (refine ⟨⟨?_⟩, trivial⟩; rfl)
theorem steps_beside {r : Row} (hv : r.Valid) : r.steps.length ≤ r.beside.length + 1 := by
  rw [← hv.sorted]
  unfold Row.sorted
  split
  · rw [List.length_take]; omega
  · rw [srt, srtI_len]; simp
def reachA (n e : Int) : AV := .tuple [intA n, intA e]
theorem Reach_ok (r : Row) (hr : r.small) (hc : r.check.2.2 = 0) (n : Nat) (hn : n ≤ 20) : PureA Try.prog 30 [rowA r, intA n] (.tuple [intA (r.rf n).length, intA 0]) := by
  have h := Reach_c r hr n (by simp only [inI]; omega)
  rw [reachN_r r hr] at h
  have hw : within (n : Int) 0 20 = true := by unfold within; simp; omega
  unfold Row.rreachN at h
  rw [if_pos hc, if_pos hw] at h
  exact h
set_option maxRecDepth 100000 in
theorem MendReached_c (r : Row) (hr : r.small) (k : Nat) (hk : k ≤ 255) : PureA Try.prog 12 [rowA r, .v (.int .u8 k)] (boolA true) := by
  have hva := valid41_c r hr
  have aw := Awake_c
  by_cases hc : r.check.2.2 = 0
  · have hv := r.valid_iff hc
    rw [decide_eq_true hc] at hva
    have h0 := Reach_ok r hr hc 0 (by omega)
    have h1 := Reach_ok r hr hc (k % 20) (by omega)
    have h2 := Reach_ok r hr hc (k % 20 + 1) (by omega)
    have z0 : (r.rf ((0 : Nat) : Int)).length = 1 := rf_zero hv
    have m0 := rf_mono hv (n := 0) (m := k % 20) (by omega)
    have m1 := rf_mono hv (n := k % 20) (m := k % 20 + 1) (by omega)
    have m2 := rf_more hv (k % 20)
    have hb := (rf_ok hv ((k % 20 : Nat) : Int)).bound hv.len
    have hs := steps_beside hv
    have h10 := hv.ten
    rw [z0] at h0 m0
    generalize (r.rf ((k % 20 : Nat) : Int)).length = N at *
    generalize (r.rf ((k % 20 + 1 : Nat) : Int)).length = M at *
    have hM : M ≤ 1 + N * (r.beside.length + 1) := Nat.le_trans m2 (by have := Nat.mul_le_mul_left N hs; omega)
    have hP : N * (r.beside.length + 1) ≤ 248832 * 11 := Nat.mul_le_mul hb (by omega)
    obtain ⟨P, hPe⟩ : ∃ P, P = N * (r.beside.length + 1) := ⟨_, rfl⟩
    have hT : (k : Int).tmod 20 = ((k % 20 : Nat) : Int) := rfl
    have h1 : PureA Try.prog 30 [rowA r, intA ((k : Int).tmod 20)] (.tuple [intA N, intA 0]) := h1
    have h2 : PureA Try.prog 30 [rowA r, intA ((k : Int).tmod 20 + 1)] (.tuple [intA M, intA 0]) := h2
    have hT1 : 0 ≤ (k : Int).tmod 20 ∧ (k : Int).tmod 20 ≤ 19 := by rw [hT]; omega
    have hPi : (N : Int) * (((r.beside.map stpA).length : Int) + 1) = (P : Int) := by rw [hPe, List.length_map]; rfl
    refine pureA_codeB tabOk { l := 0, f := 12 } mixed call_12 Try.func12 (by kernel_rfl) ?_
    conv => whnf
    repeat (any_goals (first | exact falseI | (refine brP_dec (fun _ => ?_) (fun _ => ?_) <;> first | (exfalso; omega) | conv => whnf) | (refine brP_ndec (fun _ => ?_) (fun _ => ?_) <;> first | (exfalso; omega) | conv => whnf) | ((first | refine callP_a h0 ?_ | refine callP_a hva ?_ | refine callP_a h1 ?_ | refine callP_a h2 ?_ | refine callP_a aw ?_ | refine And.intro (DrawOk.mk (by kernel_rfl)) ?_ | refine okI ?_ | refine brP_true (Nat.beq_refl _) ?_ | refine brP_intro (fun _ => ?_) (fun _ => ?_) | refine bndI ?_ | intro _) <;> conv => whnf)))
    all_goals first | ((refine ⟨⟨?_⟩, trivial⟩; rfl)) | skip
  · rw [decide_eq_false hc] at hva
    have h0 := Reach_c r hr 0 (by decide)
    unfold Row.reachN at h0
    rw [if_neg hc] at h0
    generalize r.check = c at *
    obtain ⟨c1, c2, c3⟩ := c
    simp only at hc h0
    refine pureA_codeB tabOk { l := 0, f := 12 } mixed call_12 Try.func12 (by kernel_rfl) ?_
    conv => whnf
    repeat (any_goals (first | exact falseI | (refine brP_dec (fun _ => ?_) (fun _ => ?_) <;> first | (exfalso; omega) | conv => whnf) | (refine brP_ndec (fun _ => ?_) (fun _ => ?_) <;> first | (exfalso; omega) | conv => whnf) | ((first | refine callP_a h0 ?_ | refine callP_a hva ?_ | refine callP_a aw ?_ | refine And.intro (DrawOk.mk (by kernel_rfl)) ?_ | refine okI ?_ | refine brP_true (Nat.beq_refl _) ?_ | refine brP_intro (fun _ => ?_) (fun _ => ?_) | refine bndI ?_ | intro _) <;> conv => whnf)))
    all_goals first | ((refine ⟨⟨?_⟩, trivial⟩; rfl)) | skip
end Go.Proofs.Ytmggofcaeolaiaa
namespace Go.Proofs.Ytmggofcaeolaiaa
open Go.Am Go.Proofs Go
theorem Gain_r (r : Row) (hr : r.small) (a b : Int) : PureA Try.prog 32 [rowA r, intA a, intA b] (.tuple [intA (r.rgain a b).1, intA (r.rgain a b).2]) := by
  have := Gain_c r hr a b
  rw [gain_r r hr a b] at this
  exact this
theorem Few_r (r : Row) (hr : r.small) : PureA Try.prog 25 [rowA r] (.tuple [stpsA r.rfew.1, intA r.rfew.2]) := by
  have := Few_c r hr
  rw [few_rfew r hr] at this
  exact this
theorem Most_r (r : Row) (hr : r.small) : PureA Try.prog 28 [rowA r] (.tuple [intA r.rmost.1, intA r.rmost.2.1, intA r.rmost.2.2]) := by
  have := Most_c r hr
  rw [most_rmost r hr] at this
  exact this
theorem tmod_two {m n : Int} (h0 : 0 ≤ m) (h2 : 2 ≤ n) (h5 : n ≤ 5) (hm : m < 2 * n) : (m.tmod n = m ∧ m < n) ∨ (m.tmod n = m - n ∧ n ≤ m) := by
  rw [Int.tmod_eq_emod_of_nonneg h0]
  have h : n = 2 ∨ n = 3 ∨ n = 4 ∨ n = 5 := by omega
  rcases h with rfl | rfl | rfl | rfl <;> omega
set_option maxRecDepth 100000 in
theorem MendSaved_c (r : Row) (hr : r.small) (x y : Nat) (hx : x ≤ 255) (hy : y ≤ 255) : PureA Try.prog 13 [rowA r, .agg [.v (.int .u8 x), .v (.int .u8 y)]] (boolA true) := by
  have hva := valid41_c r hr
  have aw := Awake_c
  have hg := Gain_r r hr
  have hsm := hr.1
  by_cases hc : r.check.2.2 = 0
  · have hv := r.valid_iff hc
    have h5 := check_len hc
    rw [decide_eq_true hc] at hva
    by_cases h2 : r.figs.length < 2
    · have h0 := hg 0 1
      have he : r.rgain 0 1 = (0, 4) := by
        unfold Row.rgain
        rw [if_pos hc, if_pos]
        have : outside 0 r.last 1 = true := by unfold outside Row.last; simp; omega
        rw [this]; simp
      rw [he] at h0
      have hln : (r.figs.map figA).length < 2 := by rw [List.length_map]; exact h2
      refine pureA_codeB tabOk { l := 0, f := 13 } mixed call_13 Try.func13 (by kernel_rfl) ?_
      conv => whnf
      repeat (any_goals (first | exact falseI | (refine brP_dec (fun _ => ?_) (fun _ => ?_) <;> first | (exfalso; omega) | conv => whnf) | (refine brP_ndec (fun _ => ?_) (fun _ => ?_) <;> first | (exfalso; omega) | conv => whnf) | ((first | refine callP_a hva ?_ | refine callP_a h0 ?_ | refine callP_a aw ?_ | refine And.intro (DrawOk.mk (by kernel_rfl)) ?_ | refine okI ?_ | refine brP_true (Nat.beq_refl _) ?_ | refine brP_intro (fun _ => ?_) (fun _ => ?_) | refine bndI ?_ | intro _) <;> conv => whnf)))
      all_goals first | ((refine ⟨⟨?_⟩, trivial⟩; rfl)) | skip
    · have h2 : 2 ≤ r.figs.length := by omega
      have hln : 2 ≤ ((r.figs.map figA).length : Int) := by rw [List.length_map]; omega
      have hl5 : ((r.figs.map figA).length : Int) ≤ 5 := by rw [List.length_map]; omega
      have hll : r.last = ((r.figs.map figA).length : Int) - 1 := by simp [Row.last]
      have hA : 0 ≤ ((x : Int).tmod ((r.figs.map figA).length : Int)) ∧ ((x : Int).tmod ((r.figs.map figA).length : Int)) < ((r.figs.map figA).length : Int) := ⟨Int.tmod_nonneg _ (by omega), Int.tmod_lt_of_pos _ (by omega)⟩
      have hB : 0 ≤ ((y : Int).tmod (((r.figs.map figA).length : Int) - 1)) ∧ ((y : Int).tmod (((r.figs.map figA).length : Int) - 1)) < ((r.figs.map figA).length : Int) - 1 := ⟨Int.tmod_nonneg _ (by omega), Int.tmod_lt_of_pos _ (by omega)⟩
      have hC := tmod_two (m := ((x : Int).tmod ((r.figs.map figA).length : Int)) + 1 + ((y : Int).tmod (((r.figs.map figA).length : Int) - 1))) (n := ((r.figs.map figA).length : Int)) (by omega) hln hl5 (by omega)
      have hG := hg (min ((x : Int).tmod ((r.figs.map figA).length : Int)) ((((x : Int).tmod ((r.figs.map figA).length : Int)) + 1 + ((y : Int).tmod (((r.figs.map figA).length : Int) - 1))).tmod ((r.figs.map figA).length : Int))) (max ((x : Int).tmod ((r.figs.map figA).length : Int)) ((((x : Int).tmod ((r.figs.map figA).length : Int)) + 1 + ((y : Int).tmod (((r.figs.map figA).length : Int) - 1))).tmod ((r.figs.map figA).length : Int)))
      have hP := with49_c r hr (min ((x : Int).tmod ((r.figs.map figA).length : Int)) ((((x : Int).tmod ((r.figs.map figA).length : Int)) + 1 + ((y : Int).tmod (((r.figs.map figA).length : Int) - 1))).tmod ((r.figs.map figA).length : Int))) (max ((x : Int).tmod ((r.figs.map figA).length : Int)) ((((x : Int).tmod ((r.figs.map figA).length : Int)) + 1 + ((y : Int).tmod (((r.figs.map figA).length : Int) - 1))).tmod ((r.figs.map figA).length : Int)))
      have hH := has_c r.beside ⟨min ((x : Int).tmod ((r.figs.map figA).length : Int)) ((((x : Int).tmod ((r.figs.map figA).length : Int)) + 1 + ((y : Int).tmod (((r.figs.map figA).length : Int) - 1))).tmod ((r.figs.map figA).length : Int)), max ((x : Int).tmod ((r.figs.map figA).length : Int)) ((((x : Int).tmod ((r.figs.map figA).length : Int)) + 1 + ((y : Int).tmod (((r.figs.map figA).length : Int) - 1))).tmod ((r.figs.map figA).length : Int))⟩ hr.2.1
      have hps := Row.plus_small hr hv.ten ⟨min ((x : Int).tmod ((r.figs.map figA).length : Int)) ((((x : Int).tmod ((r.figs.map figA).length : Int)) + 1 + ((y : Int).tmod (((r.figs.map figA).length : Int) - 1))).tmod ((r.figs.map figA).length : Int)), max ((x : Int).tmod ((r.figs.map figA).length : Int)) ((((x : Int).tmod ((r.figs.map figA).length : Int)) + 1 + ((y : Int).tmod (((r.figs.map figA).length : Int) - 1))).tmod ((r.figs.map figA).length : Int))⟩
      have hF := Few_r r hr
      have hQ := Few_r _ hps
      have hM := Most_r _ hps
      have hab : 0 ≤ min ((x : Int).tmod ((r.figs.map figA).length : Int)) ((((x : Int).tmod ((r.figs.map figA).length : Int)) + 1 + ((y : Int).tmod (((r.figs.map figA).length : Int) - 1))).tmod ((r.figs.map figA).length : Int)) ∧ min ((x : Int).tmod ((r.figs.map figA).length : Int)) ((((x : Int).tmod ((r.figs.map figA).length : Int)) + 1 + ((y : Int).tmod (((r.figs.map figA).length : Int) - 1))).tmod ((r.figs.map figA).length : Int)) < max ((x : Int).tmod ((r.figs.map figA).length : Int)) ((((x : Int).tmod ((r.figs.map figA).length : Int)) + 1 + ((y : Int).tmod (((r.figs.map figA).length : Int) - 1))).tmod ((r.figs.map figA).length : Int)) ∧ max ((x : Int).tmod ((r.figs.map figA).length : Int)) ((((x : Int).tmod ((r.figs.map figA).length : Int)) + 1 + ((y : Int).tmod (((r.figs.map figA).length : Int) - 1))).tmod ((r.figs.map figA).length : Int)) ≤ r.last := by rw [hll]; omega
      have ho : (outside 0 r.last (min ((x : Int).tmod ((r.figs.map figA).length : Int)) ((((x : Int).tmod ((r.figs.map figA).length : Int)) + 1 + ((y : Int).tmod (((r.figs.map figA).length : Int) - 1))).tmod ((r.figs.map figA).length : Int))) || outside 0 r.last (max ((x : Int).tmod ((r.figs.map figA).length : Int)) ((((x : Int).tmod ((r.figs.map figA).length : Int)) + 1 + ((y : Int).tmod (((r.figs.map figA).length : Int) - 1))).tmod ((r.figs.map figA).length : Int)))) = false := by
        rw [Bool.or_eq_false_iff, outside_false, outside_false]; omega
      have hlt : ¬ max ((x : Int).tmod ((r.figs.map figA).length : Int)) ((((x : Int).tmod ((r.figs.map figA).length : Int)) + 1 + ((y : Int).tmod (((r.figs.map figA).length : Int) - 1))).tmod ((r.figs.map figA).length : Int)) ≤ min ((x : Int).tmod ((r.figs.map figA).length : Int)) ((((x : Int).tmod ((r.figs.map figA).length : Int)) + 1 + ((y : Int).tmod (((r.figs.map figA).length : Int) - 1))).tmod ((r.figs.map figA).length : Int)) := by omega
      have hpc := plus_check hc ho hlt
      have hsv := saved hc hr ho hlt
      have hmf := most_few hpc hps
      have hhas := plus_has (r := r) (s := ⟨min ((x : Int).tmod ((r.figs.map figA).length : Int)) ((((x : Int).tmod ((r.figs.map figA).length : Int)) + 1 + ((y : Int).tmod (((r.figs.map figA).length : Int) - 1))).tmod ((r.figs.map figA).length : Int)), max ((x : Int).tmod ((r.figs.map figA).length : Int)) ((((x : Int).tmod ((r.figs.map figA).length : Int)) + 1 + ((y : Int).tmod (((r.figs.map figA).length : Int) - 1))).tmod ((r.figs.map figA).length : Int))⟩)
      have hge : r.rgain (min ((x : Int).tmod ((r.figs.map figA).length : Int)) ((((x : Int).tmod ((r.figs.map figA).length : Int)) + 1 + ((y : Int).tmod (((r.figs.map figA).length : Int) - 1))).tmod ((r.figs.map figA).length : Int))) (max ((x : Int).tmod ((r.figs.map figA).length : Int)) ((((x : Int).tmod ((r.figs.map figA).length : Int)) + 1 + ((y : Int).tmod (((r.figs.map figA).length : Int) - 1))).tmod ((r.figs.map figA).length : Int))) = if r.rfew.2 = 0 then ((r.rfew.1.length : Int) - (r.plus ⟨min ((x : Int).tmod ((r.figs.map figA).length : Int)) ((((x : Int).tmod ((r.figs.map figA).length : Int)) + 1 + ((y : Int).tmod (((r.figs.map figA).length : Int) - 1))).tmod ((r.figs.map figA).length : Int)), max ((x : Int).tmod ((r.figs.map figA).length : Int)) ((((x : Int).tmod ((r.figs.map figA).length : Int)) + 1 + ((y : Int).tmod (((r.figs.map figA).length : Int) - 1))).tmod ((r.figs.map figA).length : Int))⟩).rfew.1.length, 0) else (0, r.rfew.2) := by
        unfold Row.rgain
        rw [if_pos hc, if_neg (by rw [ho]; simp), if_neg hlt]
      rw [hge] at hG
      generalize hq : r.plus ⟨min ((x : Int).tmod ((r.figs.map figA).length : Int)) ((((x : Int).tmod ((r.figs.map figA).length : Int)) + 1 + ((y : Int).tmod (((r.figs.map figA).length : Int) - 1))).tmod ((r.figs.map figA).length : Int)), max ((x : Int).tmod ((r.figs.map figA).length : Int)) ((((x : Int).tmod ((r.figs.map figA).length : Int)) + 1 + ((y : Int).tmod (((r.figs.map figA).length : Int) - 1))).tmod ((r.figs.map figA).length : Int))⟩ = q at *
      by_cases hf : r.rfew.2 = 0
      · obtain ⟨hf2, hle⟩ := hsv hf
        rw [hmf hf2] at hM
        rw [if_pos hf] at hG
        rw [hf] at hF
        rw [hf2] at hQ
        simp only at hG hF hQ hM
        have hhas : r.beside.any ((⟨min ((x : Int).tmod ((r.figs.map figA).length : Int)) ((((x : Int).tmod ((r.figs.map figA).length : Int)) + 1 + ((y : Int).tmod (((r.figs.map figA).length : Int) - 1))).tmod ((r.figs.map figA).length : Int)), max ((x : Int).tmod ((r.figs.map figA).length : Int)) ((((x : Int).tmod ((r.figs.map figA).length : Int)) + 1 + ((y : Int).tmod (((r.figs.map figA).length : Int) - 1))).tmod ((r.figs.map figA).length : Int))⟩ : Stp) == ·) = true → q.rfew.1 = r.rfew.1 := fun h => by rw [hhas h]
        have hfl := rfew_len r
        clear hmf hsv hge hpc hq
        generalize q.rfew.1 = P1 at *
        generalize r.rfew.1 = F1 at *
        have e1 : (F1.map stpA).length = F1.length := List.length_map _
        have e2 : (P1.map stpA).length = P1.length := List.length_map _
        have hG : PureA Try.prog 32 [rowA r, intA (min ((x : Int).tmod ((r.figs.map figA).length : Int)) ((((x : Int).tmod ((r.figs.map figA).length : Int)) + 1 + ((y : Int).tmod (((r.figs.map figA).length : Int) - 1))).tmod ((r.figs.map figA).length : Int))), intA (max ((x : Int).tmod ((r.figs.map figA).length : Int)) ((((x : Int).tmod ((r.figs.map figA).length : Int)) + 1 + ((y : Int).tmod (((r.figs.map figA).length : Int) - 1))).tmod ((r.figs.map figA).length : Int)))] (.tuple [intA (((F1.map stpA).length : Int) - (P1.map stpA).length), intA 0]) := by rw [e1, e2]; exact hG
        have hM : PureA Try.prog 28 [rowA q] (.tuple [intA 0, intA ((P1.map stpA).length : Int), intA 0]) := by rw [e2]; exact hM
        have hle : (P1.map stpA).length ≤ (F1.map stpA).length := by rw [e1, e2]; exact hle
        have hFl : (F1.map stpA).length ≤ 248832 := by rw [e1]; exact hfl
        generalize r.beside.any ((⟨min ((x : Int).tmod ((r.figs.map figA).length : Int)) ((((x : Int).tmod ((r.figs.map figA).length : Int)) + 1 + ((y : Int).tmod (((r.figs.map figA).length : Int) - 1))).tmod ((r.figs.map figA).length : Int)), max ((x : Int).tmod ((r.figs.map figA).length : Int)) ((((x : Int).tmod ((r.figs.map figA).length : Int)) + 1 + ((y : Int).tmod (((r.figs.map figA).length : Int) - 1))).tmod ((r.figs.map figA).length : Int))⟩ : Stp) == ·) = w at *
        cases w
        · refine pureA_codeB tabOk { l := 0, f := 13 } mixed call_13 Try.func13 (by kernel_rfl) ?_
          conv => whnf
          repeat (any_goals (first | exact falseI | (refine brP_dec (fun _ => ?_) (fun _ => ?_) <;> first | (exfalso; omega) | conv => whnf) | (refine brP_ndec (fun _ => ?_) (fun _ => ?_) <;> first | (exfalso; omega) | conv => whnf) | ((first | refine callP_a hva ?_ | refine callP_a hG ?_ | refine callP_a hF ?_ | refine callP_a hP ?_ | refine callP_a hQ ?_ | refine callP_a hM ?_ | refine callP_a hH ?_ | refine callP_a aw ?_ | refine And.intro (DrawOk.mk (by kernel_rfl)) ?_ | refine okI ?_ | refine brP_true (Nat.beq_refl _) ?_ | refine brP_intro (fun _ => ?_) (fun _ => ?_) | refine bndI ?_ | intro _) <;> conv => whnf)))
          all_goals first | ((refine ⟨⟨?_⟩, trivial⟩; rfl)) | skip
        · have := hhas rfl
          subst this
          refine pureA_codeB tabOk { l := 0, f := 13 } mixed call_13 Try.func13 (by kernel_rfl) ?_
          conv => whnf
          repeat (any_goals (first | exact falseI | (refine brP_dec (fun _ => ?_) (fun _ => ?_) <;> first | (exfalso; omega) | conv => whnf) | (refine brP_ndec (fun _ => ?_) (fun _ => ?_) <;> first | (exfalso; omega) | conv => whnf) | ((first | refine callP_a hva ?_ | refine callP_a hG ?_ | refine callP_a hF ?_ | refine callP_a hP ?_ | refine callP_a hQ ?_ | refine callP_a hM ?_ | refine callP_a hH ?_ | refine callP_a aw ?_ | refine And.intro (DrawOk.mk (by kernel_rfl)) ?_ | refine okI ?_ | refine brP_true (Nat.beq_refl _) ?_ | refine brP_intro (fun _ => ?_) (fun _ => ?_) | refine bndI ?_ | intro _) <;> conv => whnf)))
          all_goals first | ((refine ⟨⟨?_⟩, trivial⟩; rfl)) | skip
      · rcases rfew_spec hc hr with ⟨e, _⟩ | ⟨e, _⟩
        · exact absurd e hf
        · rw [if_neg hf, e] at hG
          rw [e] at hF
          simp only at hG hF
          refine pureA_codeB tabOk { l := 0, f := 13 } mixed call_13 Try.func13 (by kernel_rfl) ?_
          conv => whnf
          repeat (any_goals (first | exact falseI | (refine brP_dec (fun _ => ?_) (fun _ => ?_) <;> first | (exfalso; omega) | conv => whnf) | (refine brP_ndec (fun _ => ?_) (fun _ => ?_) <;> first | (exfalso; omega) | conv => whnf) | ((first | refine callP_a hva ?_ | refine callP_a hG ?_ | refine callP_a hF ?_ | refine callP_a aw ?_ | refine And.intro (DrawOk.mk (by kernel_rfl)) ?_ | refine okI ?_ | refine brP_true (Nat.beq_refl _) ?_ | refine brP_intro (fun _ => ?_) (fun _ => ?_) | refine bndI ?_ | intro _) <;> conv => whnf)))
          all_goals first | ((refine ⟨⟨?_⟩, trivial⟩; rfl)) | skip
  · have h0 := hg 0 1
    have he : r.rgain 0 1 = (0, r.check.2.2) := by
      unfold Row.rgain
      rw [if_neg hc]
    rw [he] at h0
    rw [decide_eq_false hc] at hva
    generalize r.check = c at *
    obtain ⟨c1, c2, c3⟩ := c
    simp only at hc h0
    refine pureA_codeB tabOk { l := 0, f := 13 } mixed call_13 Try.func13 (by kernel_rfl) ?_
    conv => whnf
    repeat (any_goals (first | exact falseI | (refine brP_dec (fun _ => ?_) (fun _ => ?_) <;> first | (exfalso; omega) | conv => whnf) | (refine brP_ndec (fun _ => ?_) (fun _ => ?_) <;> first | (exfalso; omega) | conv => whnf) | ((first | refine callP_a hva ?_ | refine callP_a h0 ?_ | refine callP_a aw ?_ | refine And.intro (DrawOk.mk (by kernel_rfl)) ?_ | refine okI ?_ | refine brP_true (Nat.beq_refl _) ?_ | refine brP_intro (fun _ => ?_) (fun _ => ?_) | refine bndI ?_ | intro _) <;> conv => whnf)))
    all_goals first | ((refine ⟨⟨?_⟩, trivial⟩; rfl)) | skip
end Go.Proofs.Ytmggofcaeolaiaa
namespace Go.Proofs.Ytmggofcaeolaiaa
open Go.Am Go.Proofs Go
theorem less_self : ∀ a : List Int, lessL a a = false
  | [] => rfl
  | x :: a => by simp [lessL, less_self a]
theorem less_flat : ∀ {u v : List Stp}, lexlt u v → u.length = v.length → lessL (flat v) (flat u) = false
  | x :: u, y :: v, h, hl => by
    simp only [flat, List.flatMap_cons, List.cons_append, List.nil_append, lessL]
    rcases h with h | ⟨rfl, h⟩
    · unfold Stp.lt at h
      rcases h with h | ⟨e, h⟩
      · simp [show ¬ y.a = x.a by omega, show ¬ y.a < x.a by omega]
      · simp [e, show ¬ y.b = x.b by omega, show ¬ y.b < x.b by omega]
    · have := less_flat h (by simpa using hl)
      unfold flat at this
      simp [this]
  | [], _, h, _ => h.elim
  | _ :: _, [], h, _ => h.elim
theorem wle_less {u v : List Stp} (h : wle u v) : u.length < v.length ∨ (u.length = v.length ∧ lessL (flat v) (flat u) = false) := by
  rcases h with rfl | h | ⟨e, h⟩
  · exact .inr ⟨rfl, less_self _⟩
  · exact .inl h
  · exact .inr ⟨e, less_flat h e⟩
set_option maxRecDepth 100000 in
theorem MendLeast_c (r : Row) (hr : r.small) (x : List Int) (hx : x.length ≤ 1048576) (hb : ∀ v ∈ x, 0 ≤ v ∧ v < 256) : PureA Try.prog 8 [rowA r, bytesA x] (boolA true) := by
  have hva := valid41_c r hr
  have aw := Awake_c
  have hF := Few_r r hr
  have hfl := rfew_len r
  by_cases hc : r.check.2.2 = 0
  · have hv := r.valid_iff hc
    have hg := hv.good hr
    rw [decide_eq_true hc] at hva
    have hA := any_c r hg x hx hb
    obtain ⟨hcan, h20⟩ := r.any_can x
    have hafter := after_c r hg (r.anyS x) (by omega)
    have hko := after_kept hg (r.anyS x) hcan
    have hbad := bad_c _ (hko.small hr)
    unfold rowErrA at hafter
    rw [hcan] at hafter
    rcases rfew_spec hc hr with ⟨e, hI⟩ | ⟨e, hn⟩
    · have hl := hI.least (r.anyS x) hcan
      have hnow := after_c r hg r.rfew.1 (by omega)
      have hkn := after_kept hg r.rfew.1 hI.can
      have hbn := bad_c _ (hkn.small hr)
      have hgood := hI.good
      unfold rowErrA at hnow
      rw [hI.can] at hnow
      rw [e] at hF
      generalize r.rfew.1 = F at *
      generalize r.anyS x = O at *
      generalize (r.after F).1 = QF at *
      generalize (r.after O).1 = QO at *
      rw [List.length_eq_zero_iff.1 hgood] at hbn
      have hfo := flat_c O (by omega)
      have hff := flat_c F (by omega)
      have hls := less_c (flat O) (flat F) (by rw [flat_len]; omega) (by rw [flat_len]; omega)
      generalize QO.bad = BO at *
      generalize QF.bad = BF at *
      have e1 : (O.map stpA).length = O.length := List.length_map _
      have e2 : (F.map stpA).length = F.length := List.length_map _
      have e3 : (BO.map intA).length = BO.length := List.length_map _
      by_cases hz : BO.length = 0
      · rcases wle_less (hl hz) with h | ⟨h, h'⟩
        · refine pureA_codeB tabOk { l := 0, f := 8 } mixed call_8 Try.func8 (by kernel_rfl) ?_
          conv => whnf
          repeat (any_goals (first | exact falseI | (refine brP_dec (fun _ => ?_) (fun _ => ?_) <;> first | (exfalso; omega) | conv => whnf) | (refine brP_ndec (fun _ => ?_) (fun _ => ?_) <;> first | (exfalso; omega) | conv => whnf) | ((first | refine callP_a hF ?_ | refine callP_a hva ?_ | refine callP_a hA ?_ | refine callP_a hafter ?_ | refine callP_a hbad ?_ | refine callP_a hnow ?_ | refine callP_a hbn ?_ | refine callP_a hfo ?_ | refine callP_a hff ?_ | refine callP_a hls ?_ | refine callP_a aw ?_ | refine And.intro (DrawOk.mk (by kernel_rfl)) ?_ | refine okI ?_ | refine brP_true (Nat.beq_refl _) ?_ | refine brP_intro (fun _ => ?_) (fun _ => ?_) | refine bndI ?_ | intro _) <;> conv => whnf)))
          all_goals first | ((refine ⟨⟨?_⟩, trivial⟩; rfl)) | skip
        · rw [h'] at hls
          refine pureA_codeB tabOk { l := 0, f := 8 } mixed call_8 Try.func8 (by kernel_rfl) ?_
          conv => whnf
          repeat (any_goals (first | exact falseI | (refine brP_dec (fun _ => ?_) (fun _ => ?_) <;> first | (exfalso; omega) | conv => whnf) | (refine brP_ndec (fun _ => ?_) (fun _ => ?_) <;> first | (exfalso; omega) | conv => whnf) | ((first | refine callP_a hF ?_ | refine callP_a hva ?_ | refine callP_a hA ?_ | refine callP_a hafter ?_ | refine callP_a hbad ?_ | refine callP_a hnow ?_ | refine callP_a hbn ?_ | refine callP_a hfo ?_ | refine callP_a hff ?_ | refine callP_a hls ?_ | refine callP_a aw ?_ | refine And.intro (DrawOk.mk (by kernel_rfl)) ?_ | refine okI ?_ | refine brP_true (Nat.beq_refl _) ?_ | refine brP_intro (fun _ => ?_) (fun _ => ?_) | refine bndI ?_ | intro _) <;> conv => whnf)))
          all_goals first | ((refine ⟨⟨?_⟩, trivial⟩; rfl)) | skip
      · refine pureA_codeB tabOk { l := 0, f := 8 } mixed call_8 Try.func8 (by kernel_rfl) ?_
        conv => whnf
        repeat (any_goals (first | exact falseI | (refine brP_dec (fun _ => ?_) (fun _ => ?_) <;> first | (exfalso; omega) | conv => whnf) | (refine brP_ndec (fun _ => ?_) (fun _ => ?_) <;> first | (exfalso; omega) | conv => whnf) | ((first | refine callP_a hF ?_ | refine callP_a hva ?_ | refine callP_a hA ?_ | refine callP_a hafter ?_ | refine callP_a hbad ?_ | refine callP_a hnow ?_ | refine callP_a hbn ?_ | refine callP_a hfo ?_ | refine callP_a hff ?_ | refine callP_a hls ?_ | refine callP_a aw ?_ | refine And.intro (DrawOk.mk (by kernel_rfl)) ?_ | refine okI ?_ | refine brP_true (Nat.beq_refl _) ?_ | refine brP_intro (fun _ => ?_) (fun _ => ?_) | refine bndI ?_ | intro _) <;> conv => whnf)))
        all_goals first | ((refine ⟨⟨?_⟩, trivial⟩; rfl)) | skip
    · have hno := hn (r.anyS x) hcan
      rw [e] at hF
      simp only at hF
      generalize r.anyS x = O at *
      generalize (r.after O).1 = QO at *
      generalize QO.bad = BO at *
      have e3 : (BO.map intA).length = BO.length := List.length_map _
      refine pureA_codeB tabOk { l := 0, f := 8 } mixed call_8 Try.func8 (by kernel_rfl) ?_
      conv => whnf
      repeat (any_goals (first | exact falseI | (refine brP_dec (fun _ => ?_) (fun _ => ?_) <;> first | (exfalso; omega) | conv => whnf) | (refine brP_ndec (fun _ => ?_) (fun _ => ?_) <;> first | (exfalso; omega) | conv => whnf) | ((first | refine callP_a hF ?_ | refine callP_a hva ?_ | refine callP_a hA ?_ | refine callP_a hafter ?_ | refine callP_a hbad ?_ | refine callP_a aw ?_ | refine And.intro (DrawOk.mk (by kernel_rfl)) ?_ | refine okI ?_ | refine brP_true (Nat.beq_refl _) ?_ | refine brP_intro (fun _ => ?_) (fun _ => ?_) | refine bndI ?_ | intro _) <;> conv => whnf)))
      all_goals first | ((refine ⟨⟨?_⟩, trivial⟩; rfl)) | skip
  · rw [decide_eq_false hc] at hva
    unfold Row.rfew at hF
    rw [if_neg hc] at hF
    generalize r.check = c at *
    obtain ⟨c1, c2, c3⟩ := c
    simp only at hF hc
    refine pureA_codeB tabOk { l := 0, f := 8 } mixed call_8 Try.func8 (by kernel_rfl) ?_
    conv => whnf
    repeat (any_goals (first | exact falseI | (refine brP_dec (fun _ => ?_) (fun _ => ?_) <;> first | (exfalso; omega) | conv => whnf) | (refine brP_ndec (fun _ => ?_) (fun _ => ?_) <;> first | (exfalso; omega) | conv => whnf) | ((first | refine callP_a hF ?_ | refine callP_a hva ?_ | refine callP_a aw ?_ | refine And.intro (DrawOk.mk (by kernel_rfl)) ?_ | refine okI ?_ | refine brP_true (Nat.beq_refl _) ?_ | refine brP_intro (fun _ => ?_) (fun _ => ?_) | refine bndI ?_ | intro _) <;> conv => whnf)))
    all_goals first | ((refine ⟨⟨?_⟩, trivial⟩; rfl)) | skip
set_option maxRecDepth 100000 in
theorem MendMost_c (r : Row) (hr : r.small) (x : List Int) (hx : x.length ≤ 1048576) (hb : ∀ v ∈ x, 0 ≤ v ∧ v < 256) : PureA Try.prog 10 [rowA r, bytesA x] (boolA true) := by
  have hva := valid41_c r hr
  have aw := Awake_c
  have hF := Few_r r hr
  have hM := Most_r r hr
  by_cases hc : r.check.2.2 = 0
  · have hv := r.valid_iff hc
    have hg := hv.good hr
    rw [decide_eq_true hc] at hva
    have hA := any_c r hg x hx hb
    obtain ⟨hcan, h20⟩ := r.any_can x
    have hafter := after_c r hg (r.anyS x) (by omega)
    have hko := after_kept hg (r.anyS x) hcan
    have hbad := bad_c _ (hko.small hr)
    unfold rowErrA at hafter
    rw [hcan] at hafter
    have hm := rmost_spec hc hr
    obtain ⟨h1, h2⟩ := hm.least (r.anyS x) hcan
    obtain ⟨w, hw, hw1, hw2⟩ := hm.some_
    have hmk := hm.ok
    rcases rfew_spec hc hr with ⟨e, hI⟩ | ⟨e, hn⟩
    · have hmf := most_few hc hr e
      rw [hmf] at hM h1 h2
      rw [e] at hF
      simp only at hM h1 h2
      generalize r.rfew.1 = F at *
      generalize r.anyS x = O at *
      generalize (r.after O).1 = QO at *
      generalize QO.bad = BO at *
      have e1 : (O.map stpA).length = O.length := List.length_map _
      have e2 : (F.map stpA).length = F.length := List.length_map _
      have e3 : (BO.map intA).length = BO.length := List.length_map _
      refine pureA_codeB tabOk { l := 0, f := 10 } mixed call_10 Try.func10 (by kernel_rfl) ?_
      conv => whnf
      repeat (any_goals (first | exact falseI | (refine brP_dec (fun _ => ?_) (fun _ => ?_) <;> first | (exfalso; omega) | conv => whnf) | (refine brP_ndec (fun _ => ?_) (fun _ => ?_) <;> first | (exfalso; omega) | conv => whnf) | ((first | refine callP_a hM ?_ | refine callP_a hF ?_ | refine callP_a hva ?_ | refine callP_a hA ?_ | refine callP_a hafter ?_ | refine callP_a hbad ?_ | refine callP_a aw ?_ | refine And.intro (DrawOk.mk (by kernel_rfl)) ?_ | refine okI ?_ | refine brP_true (Nat.beq_refl _) ?_ | refine brP_intro (fun _ => ?_) (fun _ => ?_) | refine bndI ?_ | intro _) <;> conv => whnf)))
      all_goals first | ((refine ⟨⟨?_⟩, trivial⟩; rfl)) | skip
    · have hno := hn w hw
      rw [e] at hF
      rw [hmk] at hM
      generalize r.rmost = M at *
      obtain ⟨M1, M2, M3⟩ := M
      simp only at *
      generalize r.anyS x = O at *
      generalize (r.after O).1 = QO at *
      generalize QO.bad = BO at *
      have e1 : (O.map stpA).length = O.length := List.length_map _
      have e3 : (BO.map intA).length = BO.length := List.length_map _
      refine pureA_codeB tabOk { l := 0, f := 10 } mixed call_10 Try.func10 (by kernel_rfl) ?_
      conv => whnf
      repeat (any_goals (first | exact falseI | (refine brP_dec (fun _ => ?_) (fun _ => ?_) <;> first | (exfalso; omega) | conv => whnf) | (refine brP_ndec (fun _ => ?_) (fun _ => ?_) <;> first | (exfalso; omega) | conv => whnf) | ((first | refine callP_a hM ?_ | refine callP_a hF ?_ | refine callP_a hva ?_ | refine callP_a hA ?_ | refine callP_a hafter ?_ | refine callP_a hbad ?_ | refine callP_a aw ?_ | refine And.intro (DrawOk.mk (by kernel_rfl)) ?_ | refine okI ?_ | refine brP_true (Nat.beq_refl _) ?_ | refine brP_intro (fun _ => ?_) (fun _ => ?_) | refine bndI ?_ | intro _) <;> conv => whnf)))
      all_goals first | ((refine ⟨⟨?_⟩, trivial⟩; rfl)) | skip
  · rw [decide_eq_false hc] at hva
    unfold Row.rmost at hM
    rw [if_neg hc] at hM
    generalize r.check = c at *
    obtain ⟨c1, c2, c3⟩ := c
    simp only at hM hc
    refine pureA_codeB tabOk { l := 0, f := 10 } mixed call_10 Try.func10 (by kernel_rfl) ?_
    conv => whnf
    repeat (any_goals (first | exact falseI | (refine brP_dec (fun _ => ?_) (fun _ => ?_) <;> first | (exfalso; omega) | conv => whnf) | (refine brP_ndec (fun _ => ?_) (fun _ => ?_) <;> first | (exfalso; omega) | conv => whnf) | ((first | refine callP_a hM ?_ | refine callP_a hva ?_ | refine callP_a aw ?_ | refine And.intro (DrawOk.mk (by kernel_rfl)) ?_ | refine okI ?_ | refine brP_true (Nat.beq_refl _) ?_ | refine brP_intro (fun _ => ?_) (fun _ => ?_) | refine bndI ?_ | intro _) <;> conv => whnf)))
    all_goals first | ((refine ⟨⟨?_⟩, trivial⟩; rfl)) | skip
end Go.Proofs.Ytmggofcaeolaiaa
namespace Go.Proofs.Ytmggofcaeolaiaa
open Go.Am Go.Proofs Go Go.ChangeShapes Go.WideShapes Go.RowKit
theorem cells5' : Try.prog.cellsOf 5 = 1 := by kernel_rfl
set_option maxRecDepth 100000 in
theorem bytes_read54 {H : Type} {enc : TypeId × Value → H} {sp : Nat → Bool} {held : Bool} {W : World} {r : Reach} {b0 : Nat} {v : Value} {d : DataW H} {ps : List MemPlace} (hk : Value.okWide Try.prog W r b0 54 v) (h : DataW.Trod enc Try.prog W 0 sp held 54 v d ps) :
    ∃ l : List Int, l.length ≤ Rows.uptoBulk d ∧ (∀ x ∈ l, 0 ≤ x ∧ x < 256) ∧ PRel W (lies W) (bytesA l) v := by
  simp only [Value.okWide, Try.underlying54] at hk
  obtain ⟨fuel, hf⟩ := h
  have hv : v.cells.toList = [v] := by
    cases v with
    | agg cs => simp [Cell.okWide, Try.underlying54, Cell.ok] at hk
    | _ => rfl
  rw [hv] at hf
  rcases slice_open (mk := fun m : Int => [Value.int .u8 m]) (good := fun (m : Int) d => 0 ≤ m ∧ m < 256) Try.underlying54 cells5' (fun h => by
    obtain ⟨m, e, _, hw⟩ := DataW.trod_int Try.underlying5 h
    have := bounds_u8 hw
    exact ⟨m, e, by omega⟩) hf with ⟨h1, h2⟩ | ⟨a, cap, l, elems, rest, h1, hc, hm, hx, hl, hg, he⟩
  · simp only [List.cons.injEq, and_true] at h1
    subst h1
    exact ⟨[], Nat.zero_le _, by simp, .nil 1 .no (.inl rfl)⟩
  · simp only [List.cons.injEq, and_true] at h1
    subst h1
    simp only at hx
    rw [hx]
    have hb := bulk_slice elems rest
    have hsp : a.spot = none := spot_of (P := Try.prog) (W := W) (r := r) (b0 := b0) (len := l.length) (cap := cap) Try.underlying54 hk
    have hbl := bulk_len elems
    refine ⟨l, by omega, fun x hx => ?_, slice_rel (A := byteA) (mk := fun m : Int => [Value.int .u8 m]) (n := 1) (l := l) hsp hc hm (fun y => rfl) (fun y v hv => ?_) he⟩
    · obtain ⟨j, hj⟩ := List.mem_iff_getElem?.1 hx
      obtain ⟨d, _, hs⟩ := hg j x hj
      exact hs
    · simp at hv
      subst hv; rfl
end Go.Proofs.Ytmggofcaeolaiaa
