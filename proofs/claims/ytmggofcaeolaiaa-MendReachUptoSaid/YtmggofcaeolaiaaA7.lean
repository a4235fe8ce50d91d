/- Part 7 of the texts that the last one stands on. -/
import Derived.Test.YtmggofcaeolaiaaA6
set_option linter.unusedVariables false
set_option linter.unusedSimpArgs false
namespace Go.Proofs.Ytmggofcaeolaiaa
open Go.Am Go.Proofs Go
theorem with49_c (r : Row) (hr : r.small) (a b : Int) : PureA Try.prog 49 [rowA r, intA a, intA b] (rowA (r.plus ⟨a, b⟩)) := by
  have hb := hr.2.1
  have hc := has_c r.beside ⟨a, b⟩ hb
  unfold Row.plus
  generalize (r.beside.any ((⟨a, b⟩ : Stp) == ·)) = w at *
  cases w
  · rw [if_neg (by simp)]
    refine pureA_codeB tabOk { l := 0, f := 49 } mixed call_49 Try.func49 (by kernel_rfl) ?_
    conv => whnf
    repeat (any_goals (first | exact falseI | (refine brP_dec (fun _ => ?_) (fun _ => ?_) <;> first | (exfalso; omega) | conv => whnf) | (refine brP_ndec (fun _ => ?_) (fun _ => ?_) <;> first | (exfalso; omega) | conv => whnf) | ((first | refine callP_a hc ?_ | refine And.intro (DrawOk.mk (by kernel_rfl)) ?_ | refine okI ?_ | refine brP_true (Nat.beq_refl _) ?_ | refine brP_intro (fun _ => ?_) (fun _ => ?_) | refine bndI ?_ | intro _) <;> conv => whnf)))
    (refine ⟨⟨?_⟩, trivial⟩; simp [oneOf, rowA, figsA, stpsA, intA, stpA])
  · rw [if_pos rfl]
    refine pureA_codeB tabOk { l := 0, f := 49 } mixed call_49 Try.func49 (by kernel_rfl) ?_
    conv => whnf
    repeat (any_goals (first | exact falseI | (refine brP_dec (fun _ => ?_) (fun _ => ?_) <;> first | (exfalso; omega) | conv => whnf) | (refine brP_ndec (fun _ => ?_) (fun _ => ?_) <;> first | (exfalso; omega) | conv => whnf) | ((first | refine callP_a hc ?_ | refine And.intro (DrawOk.mk (by kernel_rfl)) ?_ | refine okI ?_ | refine brP_true (Nat.beq_refl _) ?_ | refine brP_intro (fun _ => ?_) (fun _ => ?_) | refine bndI ?_ | intro _) <;> conv => whnf)))
    (refine ⟨⟨?_⟩, trivial⟩; rfl)
theorem Row.plus_small {r : Row} (hr : r.small) (h10 : r.beside.length ≤ 10) (s : Stp) : (r.plus s).small := by
  obtain ⟨h1, h2, h3⟩ := hr
  unfold Row.plus
  split
  · exact ⟨h1, h2, h3⟩
  · exact ⟨h1, by simp; omega, h3⟩
def Row.rgain (r : Row) (a b : Int) : Int × Int :=
  if r.check.2.2 = 0 then if (outside 0 r.last a || outside 0 r.last b) = true then (0, 4) else if b ≤ a then (0, 2) else
    if r.rfew.2 = 0 then ((r.rfew.1.length : Int) - (r.plus ⟨a, b⟩).rfew.1.length, 0) else (0, r.rfew.2)
  else (0, r.check.2.2)
theorem within_out (n l m : Int) : within n l m = !outside l m n := by
  unfold within outside
  rw [Bool.eq_iff_iff]
  simp
theorem RefGain_c (r : Row) (hr : r.small) (a b : Int) : PureA Try.prog 33 [rowA r, intA a, intA b] (.tuple [intA (r.rgain a b).1, intA (r.rgain a b).2]) := by
  have hk := refCheck_c r hr
  unfold triA at hk
  have hl : r.last = ((r.figs.map figA).length : Int) - 1 := by simp [Row.last]
  have hwa := within_c a 0 r.last
  have hwb := within_c b 0 r.last
  have hsm := hr.1
  unfold Row.rgain
  rw [within_out] at hwa hwb
  rw [hl] at hwa hwb ⊢
  by_cases hc : r.check.2.2 = 0
  · rw [if_pos hc]
    rw [hc] at hk
    have hv := r.valid_iff hc
    have hf := RefFew_c r hr
    have hfl := rfew_len r
    have hp := with49_c r hr a b
    have hps := Row.plus_small hr hv.ten ⟨a, b⟩
    have hpf := RefFew_c (r.plus ⟨a, b⟩) hps
    have hpl := rfew_len (r.plus ⟨a, b⟩)
    generalize (r.plus ⟨a, b⟩).rfew = P at *
    generalize r.rfew = F at *
    generalize r.plus ⟨a, b⟩ = Q at *
    obtain ⟨F1, F2⟩ := F
    obtain ⟨P1, P2⟩ := P
    unfold stpsErrA at hf hpf
    simp only at hf hpf hfl hpl ⊢
    generalize outside 0 (((r.figs.map figA).length : Int) - 1) a = oa at *
    generalize outside 0 (((r.figs.map figA).length : Int) - 1) b = ob at *
    cases oa
    · cases ob
      · simp only [Bool.or_false, Bool.false_eq_true, if_false]
        by_cases hlt : b ≤ a
        · rw [if_pos hlt]
          refine pureA_codeB tabOk { l := 0, f := 33 } mixed call_33 Try.func33 (by kernel_rfl) ?_
          conv => whnf
          repeat (any_goals (first | exact falseI | (refine brP_dec (fun _ => ?_) (fun _ => ?_) <;> first | (exfalso; omega) | conv => whnf) | (refine brP_ndec (fun _ => ?_) (fun _ => ?_) <;> first | (exfalso; omega) | conv => whnf) | ((first | refine callP_a hk ?_ | refine callP_a hwa ?_ | refine callP_a hwb ?_ | refine And.intro (DrawOk.mk (by kernel_rfl)) ?_ | refine okI ?_ | refine brP_true (Nat.beq_refl _) ?_ | refine brP_intro (fun _ => ?_) (fun _ => ?_) | refine bndI ?_ | intro _) <;> conv => whnf)))
          all_goals first | ((refine ⟨⟨?_⟩, trivial⟩; rfl)) | skip
        · rw [if_neg hlt]
          by_cases hF : F2 = 0
          · rw [if_pos hF]
            subst hF
            refine pureA_codeB tabOk { l := 0, f := 33 } mixed call_33 Try.func33 (by kernel_rfl) ?_
            conv => whnf
            repeat (any_goals (first | exact falseI | (refine brP_dec (fun _ => ?_) (fun _ => ?_) <;> first | (exfalso; omega) | conv => whnf) | (refine brP_ndec (fun _ => ?_) (fun _ => ?_) <;> first | (exfalso; omega) | conv => whnf) | ((first | refine callP_a hk ?_ | refine callP_a hwa ?_ | refine callP_a hwb ?_ | refine callP_a hf ?_ | refine callP_a hp ?_ | refine callP_a hpf ?_ | refine And.intro (DrawOk.mk (by kernel_rfl)) ?_ | refine okI ?_ | refine brP_true (Nat.beq_refl _) ?_ | refine brP_intro (fun _ => ?_) (fun _ => ?_) | refine bndI ?_ | intro _) <;> conv => whnf)))
            all_goals first | ((refine ⟨⟨?_⟩, trivial⟩; simp [oneOf, intA])) | skip
          · rw [if_neg hF]
            refine pureA_codeB tabOk { l := 0, f := 33 } mixed call_33 Try.func33 (by kernel_rfl) ?_
            conv => whnf
            repeat (any_goals (first | exact falseI | (refine brP_dec (fun _ => ?_) (fun _ => ?_) <;> first | (exfalso; omega) | conv => whnf) | (refine brP_ndec (fun _ => ?_) (fun _ => ?_) <;> first | (exfalso; omega) | conv => whnf) | ((first | refine callP_a hk ?_ | refine callP_a hwa ?_ | refine callP_a hwb ?_ | refine callP_a hf ?_ | refine callP_a hp ?_ | refine callP_a hpf ?_ | refine And.intro (DrawOk.mk (by kernel_rfl)) ?_ | refine okI ?_ | refine brP_true (Nat.beq_refl _) ?_ | refine brP_intro (fun _ => ?_) (fun _ => ?_) | refine bndI ?_ | intro _) <;> conv => whnf)))
            all_goals first | ((refine ⟨⟨?_⟩, trivial⟩; rfl)) | skip
      · simp only [Bool.or_true, if_true]
        refine pureA_codeB tabOk { l := 0, f := 33 } mixed call_33 Try.func33 (by kernel_rfl) ?_
        conv => whnf
        repeat (any_goals (first | exact falseI | (refine brP_dec (fun _ => ?_) (fun _ => ?_) <;> first | (exfalso; omega) | conv => whnf) | (refine brP_ndec (fun _ => ?_) (fun _ => ?_) <;> first | (exfalso; omega) | conv => whnf) | ((first | refine callP_a hk ?_ | refine callP_a hwa ?_ | refine callP_a hwb ?_ | refine And.intro (DrawOk.mk (by kernel_rfl)) ?_ | refine okI ?_ | refine brP_true (Nat.beq_refl _) ?_ | refine brP_intro (fun _ => ?_) (fun _ => ?_) | refine bndI ?_ | intro _) <;> conv => whnf)))
        all_goals first | ((refine ⟨⟨?_⟩, trivial⟩; rfl)) | skip
    · simp only [Bool.true_or, if_true]
      refine pureA_codeB tabOk { l := 0, f := 33 } mixed call_33 Try.func33 (by kernel_rfl) ?_
      conv => whnf
      repeat (any_goals (first | exact falseI | (refine brP_dec (fun _ => ?_) (fun _ => ?_) <;> first | (exfalso; omega) | conv => whnf) | (refine brP_ndec (fun _ => ?_) (fun _ => ?_) <;> first | (exfalso; omega) | conv => whnf) | ((first | refine callP_a hk ?_ | refine callP_a hwa ?_ | refine callP_a hwb ?_ | refine And.intro (DrawOk.mk (by kernel_rfl)) ?_ | refine okI ?_ | refine brP_true (Nat.beq_refl _) ?_ | refine brP_intro (fun _ => ?_) (fun _ => ?_) | refine bndI ?_ | intro _) <;> conv => whnf)))
      all_goals first | ((refine ⟨⟨?_⟩, trivial⟩; rfl)) | skip
  · rw [if_neg hc]
    generalize r.check = c at *
    obtain ⟨c1, c2, c3⟩ := c
    simp only at hk hc ⊢
    refine pureA_codeB tabOk { l := 0, f := 33 } mixed call_33 Try.func33 (by kernel_rfl) ?_
    conv => whnf
    repeat (any_goals (first | exact falseI | (refine brP_dec (fun _ => ?_) (fun _ => ?_) <;> first | (exfalso; omega) | conv => whnf) | (refine brP_ndec (fun _ => ?_) (fun _ => ?_) <;> first | (exfalso; omega) | conv => whnf) | ((first | refine callP_a hk ?_ | refine And.intro (DrawOk.mk (by kernel_rfl)) ?_ | refine okI ?_ | refine brP_true (Nat.beq_refl _) ?_ | refine brP_intro (fun _ => ?_) (fun _ => ?_) | refine bndI ?_ | intro _) <;> conv => whnf)))
    (refine ⟨⟨?_⟩, trivial⟩; rfl)
end Go.Proofs.Ytmggofcaeolaiaa
namespace Go.Proofs.Ytmggofcaeolaiaa
open Go.Am Go.Proofs Go
theorem bad_zip : ∀ (l : List Fig) (p : List Part) (k : Nat) (P : List Part), l.length ≤ p.length → (∀ j, P.getD (k + j) zeroP = p.getD j zeroP) → selFrom (fun _ f => !f.right) k (zipW l p) = selFrom (fun i f => isWrong f (P.getD i zeroP)) k l
  | [], p, k, P, _, _ => by cases p <;> rfl
  | f :: l, [], _, _, h, _ => by simp at h
  | f :: l, q :: p, k, P, h, hP => by
    have h0 : P.getD k zeroP = q := hP 0
    have ih := bad_zip l p (k + 1) P (by simpa using h) fun j => by
      have := hP (j + 1)
      rw [show k + 1 + j = k + (j + 1) by omega, this]; rfl
    have e : isWrong f (P.getD k zeroP) = !(⟨f.name, q.kind, q.broken, f.wants⟩ : Fig).right := by
      rw [h0]
      exact isWrong_part ⟨f.name, q.kind, q.broken, f.wants⟩
    simp only [zipW, selFrom, e, ih]
theorem bad_with {r : Row} (h5 : r.figs.length ≤ 5) {p : List Part} (hp : p.length = 5) : (r.with p).bad = r.wrong p :=
  bad_zip r.figs p 0 p (by omega) fun j => by rw [Nat.zero_add]
theorem sim0 (r : Row) : Sim r [firstF r.parts] [(r, [])] := by
  have hp : pathTo [firstF r.parts] 0 = [] := by simp [pathTo, pathF, firstF]
  refine ⟨rfl, fun j f hf => ?_, fun j f hf => ?_⟩
  · cases j with
    | zero =>
      simp at hf; subst hf
      show some (r, []) = some (r.with r.parts, _)
      rw [r.with_parts, hp]
    | succ j => simp at hf
  · cases j with
    | zero => simp at hf; subst hf; rw [hp]; rfl
    | succ j => simp at hf
theorem inv0 {r : Row} (hv : r.Valid) : Inv r [firstF r.parts] := by
  refine ⟨firstF_ok hv.parts, fun f hf => ?_, fun f hf q hq => ?_⟩
  · simp at hf; subst hf; rfl
  · simp at hf; subst hf; exact List.mem_map_of_mem hq
theorem asc0 (p : List Part) : ∀ own, [firstF p][0]? = some own → Asc [firstF p] own.many := fun own ho => by
  simp at ho; subst ho
  exact ⟨by simp, fun f hf => by simp at hf; subst hf; simp⟩
theorem reach1 {r : Row} (hv : r.Valid) (hr : r.small) : Inv r (r.reach (-1)) ∧ Sim r (r.reach (-1)) (r.rf 100000) :=
  full1 hv hr 248833 0 _ _ (inv0 hv) (sim0 r) (asc0 r.parts)
theorem reach2 {r : Row} (hv : r.Valid) (hr : r.small) (m : Nat) : Sim r (r.reach m) (r.rf m) :=
  (full2 hv hr m 248833 0 _ _ (inv0 hv) (sim0 r) (asc0 r.parts) (fun f hf => by simp at hf; subst hf; simp [firstF])).2
theorem fold_at {r : Row} {i j : Nat} {own f : Found} : ∀ (l : List Stp) (all : List Found), all[j]? = some f → (l.foldl (r.next i own) all)[j]? = some f
  | [], all, h => h
  | s :: l, all, h => by
    simp only [List.foldl_cons]
    exact fold_at l _ (next_at s h)
theorem fold_ext {r : Row} {i : Nat} {own : Found} : ∀ (l : List Stp) (all : List Found), ∃ Z, l.foldl (r.next i own) all = all ++ Z
  | [], all => ⟨[], by simp⟩
  | s :: l, all => by
    simp only [List.foldl_cons]
    obtain ⟨Z, hZ⟩ := fold_ext (r := r) (i := i) (own := own) l (r.next i own all s)
    rw [hZ]
    unfold Row.next
    split
    · exact ⟨_ :: Z, by rw [List.append_assoc]; rfl⟩
    · exact ⟨Z, rfl⟩
theorem seek_ext {r : Row} {most : Int} {d : List Part → Bool} : ∀ (n i : Nat) (all : List Found), ∃ Z, (r.seek most d n i all).2 = all ++ Z
  | 0, i, all => ⟨[], by simp [Row.seek]⟩
  | n + 1, i, all => by
    unfold Row.seek
    split
    · exact ⟨[], by simp⟩
    · split
      · exact ⟨[], by simp⟩
      · split
        · exact seek_ext n (i + 1) all
        · rename_i own _ _ _
          obtain ⟨Z, hZ⟩ := fold_ext (r := r) (i := i) (own := own) r.sorted all
          obtain ⟨Y, hY⟩ := seek_ext (r := r) (most := most) (d := d) n (i + 1) (r.sorted.foldl (r.next i own) all)
          exact ⟨Z ++ Y, by rw [hY, hZ, List.append_assoc]⟩
theorem seek_at {r : Row} {most : Int} {d : List Part → Bool} {n i j : Nat} {all : List Found} {f : Found} (h : all[j]? = some f) : (r.seek most d n i all).2[j]? = some f := by
  obtain ⟨Z, hZ⟩ := seek_ext (r := r) (most := most) (d := d) n i all
  rw [hZ, List.getElem?_append_left (List.getElem?_eq_some_iff.1 h).1]; exact h
structure Stops (d : List Part → Bool) (n i : Nat) (X : Int × List Found) (F : List Found) : Prop where
  ext : ∃ Z, F = X.2 ++ Z
  hit : ∀ j : Nat, X.1 = j → i ≤ j ∧ (∃ f, X.2[j]? = some f ∧ d f.parts = true) ∧ ∀ (k : Nat) (f : Found), i ≤ k → k < j → X.2[k]? = some f → d f.parts = false
  miss : X.1 = -1 → F = X.2 ∧ ∀ (k : Nat) (f : Found), i ≤ k → k < i + n → X.2[k]? = some f → d f.parts = false
theorem seek_d (r : Row) (d : List Part → Bool) : ∀ (n i : Nat) (all : List Found), Stops d n i (r.seek (-1) d n i all) (r.seek (-1) (fun _ => false) n i all).2
  | 0, i, all => ⟨⟨[], by simp [Row.seek]⟩, fun j h => by simp only [Row.seek] at h; omega, fun _ => ⟨rfl, fun k f h1 h2 => by omega⟩⟩
  | n + 1, i, all => by
    obtain ⟨Z0, hZ0⟩ := seek_ext (r := r) (most := -1) (d := fun _ => false) (n + 1) i all
    unfold Row.seek at hZ0 ⊢
    cases ho : all[i]? with
    | none =>
      simp only
      refine ⟨⟨[], by simp⟩, fun j h => by simp only at h; omega, fun _ => ⟨rfl, fun k f h1 h2 h3 => ?_⟩⟩
      rw [List.getElem?_eq_none_iff] at ho
      have := (List.getElem?_eq_some_iff.1 h3).1
      simp only at this
      omega
    | some own =>
      rw [ho] at hZ0
      have hm : ¬ (own.many : Int) = -1 := by omega
      simp only [Bool.false_eq_true, if_false, if_neg hm] at hZ0 ⊢
      by_cases hd : d own.parts = true
      · rw [if_pos hd]
        refine ⟨⟨Z0, hZ0⟩, fun j h => ?_, fun h => by simp only at h; omega⟩
        simp only at h
        have : j = i := by omega
        subst this
        exact ⟨Nat.le_refl _, ⟨own, ho, hd⟩, fun k f h1 h2 => by omega⟩
      · rw [if_neg hd]
        have hd := Bool.eq_false_iff.2 hd
        have ih := seek_d r d n (i + 1) (r.sorted.foldl (r.next i own) all)
        have hat := seek_at (r := r) (most := -1) (d := d) (n := n) (i := i + 1) (fold_at (r := r) (i := i) (own := own) r.sorted all ho)
        refine ⟨ih.ext, fun j h => ?_, fun h => ?_⟩
        · obtain ⟨h1, h2, h3⟩ := ih.hit j h
          refine ⟨by omega, h2, fun k f k1 k2 k3 => ?_⟩
          by_cases e : k = i
          · subst e; rw [hat] at k3; cases k3; exact hd
          · exact h3 k f (by omega) k2 k3
        · obtain ⟨h1, h2⟩ := ih.miss h
          refine ⟨h1, fun k f k1 k2 k3 => ?_⟩
          by_cases e : k = i
          · subst e; rw [hat] at k3; cases k3; exact hd
          · exact h2 k f (by omega) (by omega) k3
theorem find_at (P : RF → Bool) : ∀ (l : List RF) (j : Nat) (g : RF), l[j]? = some g → P g = true → (∀ (k : Nat) (x : RF), k < j → l[k]? = some x → P x = false) → l.find? P = some g
  | [], j, g, h, _, _ => by simp at h
  | x :: l, 0, g, h, hP, _ => by
    simp at h; subst h
    simp [hP]
  | x :: l, j + 1, g, h, hP, hk => by
    have h0 := hk 0 x (by omega) rfl
    rw [List.find?_cons, h0]
    exact find_at P l j g (by simpa using h) hP fun k y hlt hy => hk (k + 1) y (by omega) (by simpa using hy)
theorem few_rfew (r : Row) (hr : r.small) : r.few = r.rfew := by
  unfold Row.few Row.rfew
  by_cases hc : r.check.2.2 = 0
  · rw [if_pos hc, if_pos hc]
    have hv := r.valid_iff hc
    have h5 := check_len hc
    obtain ⟨hI, S⟩ := reach1 hv hr
    have hs := seek_ok r (-1) (fun p => decide ((r.wrong p).length = 0)) 248833 0 [firstF r.parts] (firstF_ok hv.parts)
    have hd := seek_d r (fun p => decide ((r.wrong p).length = 0)) 248833 0 [firstF r.parts]
    have hb := hI.ok.bound
    have hP : ∀ (k : Nat) (f : Found), (r.reach (-1))[k]? = some f → ∃ g, (r.rf 100000)[k]? = some g ∧ g.2 = pathTo (r.reach (-1)) k ∧ decide (g.1.bad.length = 0) = decide ((r.wrong f.parts).length = 0) := fun k f hf =>
      ⟨_, S.at_ k f hf, rfl, by simp only; rw [bad_with h5 (hI.ok.one f (List.mem_of_getElem? hf)).1]⟩
    unfold Row.fewP Row.found rfewF
    have hF : r.reach (-1) = (r.seek (-1) (fun _ => false) 248833 0 [firstF r.parts]).2 := rfl
    rw [← hF] at hd
    generalize r.seek (-1) (fun p => decide ((r.wrong p).length = 0)) 248833 0 [firstF r.parts] = X at *
    generalize r.reach (-1) = F at *
    rcases hs.2 with e | ⟨j, e, hj⟩
    · have hlt : X.1 < 0 := by omega
      simp only [if_pos hlt, Bool.false_eq_true, if_false]
      obtain ⟨rfl, hm⟩ := hd.miss e
      have hn : (r.rf 100000).find? (fun f => decide (f.1.bad.length = 0)) = none := by
        rw [List.find?_eq_none]
        intro g hg
        obtain ⟨k, hk⟩ := List.mem_iff_getElem?.1 hg
        have hkl := (List.getElem?_eq_some_iff.1 hk).1
        rw [S.len] at hkl
        obtain ⟨f, hf⟩ : ∃ f, X.2[k]? = some f := ⟨X.2[k], by simp [hkl]⟩
        obtain ⟨g', hg', _, hd'⟩ := hP k f hf
        rw [hk] at hg'; cases hg'
        rw [hd', hm k f (Nat.zero_le _) (by omega) hf]
        simp
      rw [hn]
    · obtain ⟨_, ⟨f, hf, hdf⟩, hlt⟩ := hd.hit j e
      obtain ⟨Z, hZ⟩ := hd.ext
      have hfF : ∀ (k : Nat) (x : Found), X.2[k]? = some x → F[k]? = some x := fun k x hx => by
        rw [hZ, List.getElem?_append_left (List.getElem?_eq_some_iff.1 hx).1]; exact hx
      obtain ⟨g, hg, hg2, hgd⟩ := hP j f (hfF j f hf)
      have hfind : (r.rf 100000).find? (fun f => decide (f.1.bad.length = 0)) = some g := by
        refine find_at _ _ j g hg (by rw [hgd]; exact hdf) fun k x hk hx => ?_
        obtain ⟨y, hy⟩ : ∃ y, X.2[k]? = some y := ⟨X.2[k]'(by omega), by simp [show k < X.2.length by omega]⟩
        obtain ⟨g', hg', _, hd'⟩ := hP k y (hfF k y hy)
        rw [hx] at hg'; cases hg'
        rw [hd']; exact hlt k y (Nat.zero_le _) hk hy
      have hnl : ¬ X.1 < 0 := by omega
      simp only [if_neg hnl, if_true, hfind]
      rw [hg2, e, Int.toNat_natCast, hZ, pathTo_app hs.1 Z hj]
  · rw [if_neg hc, if_neg hc]
theorem mostF_best (g : Found → Nat) : ∀ (l : List Found) (i : Nat) (acc : Int × Int), 1 ≤ i → mostF g i acc l = bestP acc (l.map fun f => ((g f : Int), (f.many : Int)))
  | [], i, acc, _ => rfl
  | f :: l, i, acc, hi => by
    have hne : ¬ i = 0 := by omega
    simp only [mostF, List.map_cons, bestP, hne, false_or]
    exact mostF_best g l (i + 1) _ (by omega)
theorem most_rmost (r : Row) (hr : r.small) : r.most = r.rmost := by
  unfold Row.most Row.rmost
  by_cases hc : r.check.2.2 = 0
  · rw [if_pos hc, if_pos hc]
    have hv := r.valid_iff hc
    have h5 := check_len hc
    obtain ⟨hI, S⟩ := reach1 hv hr
    have h0 : (r.reach (-1))[0]? = some (firstF r.parts) := seek_at rfl
    have hmap : (r.rf 100000).map num2 = (r.reach (-1)).map fun f => (((r.wrong f.parts).length : Int), (f.many : Int)) := by
      refine List.ext_getElem? fun j => ?_
      rw [List.getElem?_map, List.getElem?_map]
      cases hf : (r.reach (-1))[j]? with
      | none => rw [S.none hf]; rfl
      | some f =>
        rw [S.at_ j f hf]
        simp only [Option.map_some, num2]
        rw [bad_with h5 (hI.ok.one f (List.mem_of_getElem? hf)).1, S.many j f hf]
    rw [hmap]
    generalize r.reach (-1) = F at *
    cases F with
    | nil => simp at h0
    | cons f l =>
      simp at h0
      have hb : mostF (fun f => (r.wrong f.parts).length) 0 (0, 0) (f :: l) = bestP ((r.bad.length : Int), 0) (((f :: l).map fun f => (((r.wrong f.parts).length : Int), (f.many : Int))).drop 1) := by
        simp only [mostF, true_or, if_true, List.map_cons, List.drop_succ_cons, List.drop_zero]
        rw [mostF_best _ l 1 _ (Nat.le_refl _), h0]
        show bestP (((r.wrong r.parts).length : Int), ((0 : Nat) : Int)) _ = _
        rw [wrong_bad h5]
        rfl
      rw [hb]
  · rw [if_neg hc, if_neg hc]
theorem reachN_r (r : Row) (hr : r.small) (n : Int) : r.reachN n = r.rreachN n := by
  unfold Row.reachN Row.rreachN
  by_cases hc : r.check.2.2 = 0
  · rw [if_pos hc, if_pos hc, within_out]
    by_cases ho : outside 0 20 n = true
    · rw [if_pos ho, ho]; rfl
    · have ho := Bool.eq_false_iff.2 ho
      rw [ho]
      simp only [Bool.false_eq_true, if_false, Bool.not_false, if_true]
      have hn := (outside_false).1 ho
      obtain ⟨m, rfl⟩ : ∃ m : Nat, n = m := ⟨n.toNat, by omega⟩
      rw [(reach2 (r.valid_iff hc) hr m).len]
  · rw [if_neg hc, if_neg hc]
theorem firstFrom_all {α : Type} (g : Nat → α → Int) : ∀ (l : List α) (i : Nat), (∀ (j : Nat) (x : α), l[j]? = some x → g (i + j) x = 0) → (firstFrom g i l).2 = 0
  | [], i, _ => rfl
  | x :: l, i, h => by
    have h0 := h 0 x rfl
    rw [Nat.add_zero] at h0
    simp only [firstFrom, h0, if_true]
    refine firstFrom_all g l (i + 1) fun j y hy => ?_
    rw [show i + 1 + j = i + (j + 1) by omega]
    exact h (j + 1) y (by simpa using hy)
theorem plus_check {r : Row} (hc : r.check.2.2 = 0) {a b : Int} (ho : (outside 0 r.last a || outside 0 r.last b) = false) (hlt : ¬ b ≤ a) : (r.plus ⟨a, b⟩).check.2.2 = 0 := by
  have hv := r.valid_iff hc
  unfold Row.plus
  split
  · exact hc
  · rename_i hn
    have h5 : ¬ (5 : Int) < r.figs.length := by have := check_len hc; omega
    have hs : (Row.stpsErr { r with beside := r.beside ++ [⟨a, b⟩] }).2 = 0 := by
      refine firstFrom_all _ _ 0 fun j s hs => ?_
      rw [Nat.zero_add]
      simp only at hs ⊢
      by_cases hj : j < r.beside.length
      · rw [List.getElem?_append_left hj] at hs
        rw [List.take_append_of_le_length (by omega)]
        exact hv.stp j s hs
      · have hl := (List.getElem?_eq_some_iff.1 hs).1
        simp at hl
        have hj : j = r.beside.length := by omega
        subst hj
        simp at hs
        subst hs
        rw [List.take_left]
        unfold stpErr
        rw [if_neg (by show ¬ (outside 0 r.last a || outside 0 r.last b) = true; rw [ho]; simp), if_neg hlt, if_neg hn]
    unfold Row.check at hc ⊢
    have hf : (Row.figsErr { r with beside := r.beside ++ [⟨a, b⟩] }) = r.figsErr := rfl
    have hl : (Row.last { r with beside := r.beside ++ [⟨a, b⟩] }) = r.last := rfl
    rw [hf, hs, hl]
    rw [if_neg h5] at hc ⊢
    split at hc
    · rename_i h1; exact absurd hc h1
    · rename_i h1
      rw [if_neg h1, if_neg (by simp)]
      split at hc
      · rename_i h2; exact absurd hc h2
      · exact hc
theorem fewP_none (r : Row) (p : List Part) (h : (r.fewP p).2 = false) : (r.fewP p).1 = [] := by
  unfold Row.fewP at *
  split
  · rfl
  · rename_i hn; rw [if_neg hn] at h; simp at h
theorem gain_r (r : Row) (hr : r.small) (a b : Int) : r.gain a b = r.rgain a b := by
  unfold Row.gain Row.rgain
  by_cases hc : r.check.2.2 = 0
  · rw [if_pos hc, if_pos hc]
    split
    · rfl
    · rename_i ho
      have ho := Bool.eq_false_iff.2 ho
      split
      · rfl
      · rename_i hlt
        have hv := r.valid_iff hc
        rw [← few_rfew r hr, ← few_rfew _ (Row.plus_small hr hv.ten ⟨a, b⟩)]
        have hp : (r.plus ⟨a, b⟩).few.1 = ((r.plus ⟨a, b⟩).fewP r.parts).1 := by
          have hparts : (r.plus ⟨a, b⟩).parts = r.parts := by
            unfold Row.plus
            split <;> rfl
          unfold Row.few
          rw [if_pos (plus_check hc ho hlt), hparts]
          split
          · rfl
          · rename_i hf
            rw [fewP_none _ _ (Bool.eq_false_iff.2 hf)]
        rw [hp]
        unfold Row.few
        rw [if_pos hc]
        split
        · rw [if_pos rfl]
        · rw [if_neg (by simp)]
  · rw [if_neg hc, if_neg hc]
end Go.Proofs.Ytmggofcaeolaiaa
namespace Go.Proofs.Ytmggofcaeolaiaa
open Go.Am Go.Proofs Go
set_option maxRecDepth 100000 in
theorem MendFewest_c (r : Row) (hr : r.small) : PureA Try.prog 4 [rowA r] (boolA true) := by
  have h1 := Few_c r hr
  have h2 := RefFew_c r hr
  have h3 := Most_c r hr
  have h4 := RefMost_c r hr
  have hl := rfew_len r
  rw [few_rfew r hr] at h1
  rw [most_rmost r hr] at h3
  have aw := Awake_c
  unfold stpsErrA at h1 h2
  unfold triA at h3 h4
  generalize r.rfew = F at *
  generalize r.rmost = M at *
  obtain ⟨F1, F2⟩ := F
  obtain ⟨M1, M2, M3⟩ := M
  simp only at *
  have hq : PureA Try.prog 27 [stpsA F1, stpsA F1] (boolA true) := by
    have := equal_c F1 F1 (by omega) (by omega)
    rw [eqAll_self (by intro s; simp)] at this
    exact this
  have e1 : decide (F2 = F2) = true := by simp
  have e2 : decide (M1 = M1) = true := by simp
  have e3 : decide (M2 = M2) = true := by simp
  have e4 : decide (M3 = M3) = true := by simp
  refine pureA_codeB tabOk { l := 0, f := 4 } mixed call_4 Try.func4 (by kernel_rfl) ?_
  conv => whnf
  repeat (any_goals (first | exact falseI | (refine brP_dec (fun _ => ?_) (fun _ => ?_) <;> first | (exfalso; omega) | conv => whnf) | (refine brP_ndec (fun _ => ?_) (fun _ => ?_) <;> first | (exfalso; omega) | conv => whnf) | ((first | refine callP_a h1 ?_ | refine callP_a h2 ?_ | refine callP_a hq ?_ | rw [e1] | rw [e2] | rw [e3] | rw [e4] | refine callP_a h3 ?_ | refine callP_a h4 ?_ | refine callP_a aw ?_ | refine And.intro (DrawOk.mk (by kernel_rfl)) ?_ | refine okI ?_ | refine brP_true (Nat.beq_refl _) ?_ | refine brP_intro (fun _ => ?_) (fun _ => ?_) | refine bndI ?_ | intro _) <;> conv => whnf)))
  all_goals first | ((refine ⟨⟨?_⟩, trivial⟩; rfl)) | skip
set_option maxRecDepth 100000 in
theorem MendReach_c (r : Row) (hr : r.small) (n a b : Int) (hn : inI n) : PureA Try.prog 5 [rowA r, intA n, .agg [intA a, intA b]] (boolA true) := by
  have h1 := Reach_c r hr n hn
  have h2 := RefReach_c r hr n hn
  have h3 := Gain_c r hr a b
  have h4 := RefGain_c r hr a b
  rw [reachN_r r hr n] at h1
  rw [gain_r r hr a b] at h3
  have aw := Awake_c
  generalize r.rreachN n = N at *
  generalize r.rgain a b = G at *
  obtain ⟨N1, N2⟩ := N
  obtain ⟨G1, G2⟩ := G
  simp only at *
  have e1 : decide (N1 = N1) = true := by simp
  have e2 : decide (N2 = N2) = true := by simp
  have e3 : decide (G1 = G1) = true := by simp
  have e4 : decide (G2 = G2) = true := by simp
  refine pureA_codeB tabOk { l := 0, f := 5 } mixed call_5 Try.func5 (by kernel_rfl) ?_
  conv => whnf
  repeat (any_goals (first | exact falseI | (refine brP_dec (fun _ => ?_) (fun _ => ?_) <;> first | (exfalso; omega) | conv => whnf) | (refine brP_ndec (fun _ => ?_) (fun _ => ?_) <;> first | (exfalso; omega) | conv => whnf) | ((first | refine callP_a h1 ?_ | refine callP_a h2 ?_ | rw [e1] | rw [e2] | rw [e3] | rw [e4] | refine callP_a h3 ?_ | refine callP_a h4 ?_ | refine callP_a aw ?_ | refine And.intro (DrawOk.mk (by kernel_rfl)) ?_ | refine okI ?_ | refine brP_true (Nat.beq_refl _) ?_ | refine brP_intro (fun _ => ?_) (fun _ => ?_) | refine bndI ?_ | intro _) <;> conv => whnf)))
  all_goals first | ((refine ⟨⟨?_⟩, trivial⟩; rfl)) | skip
end Go.Proofs.Ytmggofcaeolaiaa
