/- Part 7 of the texts that the last one stands on. -/
import Derived.Test.YtmggofcaeolaiaaA6
set_option linter.unusedVariables false
set_option linter.unusedSimpArgs false
namespace Go.Proofs.Ytmggofcaeolaiaa
open Go.Am Go.Proofs Go
theorem with49_c (r : Row) (hr : r.small) (a b : Int) : PureA Try.prog 49 [rowA r, intA a, intA b] (rowA (r.plus ⟨a, b⟩)) := by
  have hb := hr.2.1
  have hc := has_c r.beside ⟨a, b⟩ hb
  unfold Row.plus
  generalize (r.beside.any ((⟨a, b⟩ : Stp) == ·)) = w at *
  cases w
  · rw [if_neg (by simp)]
    refine pureA_codeB tabOk { l := 0, f := 49 } mixed call_49 Try.func49 (by kernel_rfl) ?_
    conv => whnf
    repeat (any_goals (first | exact falseI | (refine brP_dec (fun _ => ?_) (fun _ => ?_) <;> first | (exfalso; omega) | conv => whnf) | (refine brP_ndec (fun _ => ?_) (fun _ => ?_) <;> first | (exfalso; omega) | conv => whnf) | ((first | refine callP_a hc ?_ | refine And.intro (DrawOk.mk (by kernel_rfl)) ?_ | refine okI ?_ | refine brP_true (Nat.beq_refl _) ?_ | refine brP_intro (fun _ => ?_) (fun _ => ?_) | refine bndI ?_ | intro _) <;> conv => whnf)))
    (refine ⟨⟨?_⟩, trivial⟩; simp [oneOf, rowA, figsA, stpsA, intA, stpA])
  · rw [if_pos rfl]
    refine pureA_codeB tabOk { l := 0, f := 49 } mixed call_49 Try.func49 (by kernel_rfl) ?_
    conv => whnf
    repeat (any_goals (first | exact falseI | (refine brP_dec (fun _ => ?_) (fun _ => ?_) <;> first | (exfalso; omega) | conv => whnf) | (refine brP_ndec (fun _ => ?_) (fun _ => ?_) <;> first | (exfalso; omega) | conv => whnf) | ((first | refine callP_a hc ?_ | refine And.intro (DrawOk.mk (by kernel_rfl)) ?_ | refine okI ?_ | refine brP_true (Nat.beq_refl _) ?_ | refine brP_intro (fun _ => ?_) (fun _ => ?_) | refine bndI ?_ | intro _) <;> conv => whnf)))
    (refine ⟨⟨?_⟩, trivial⟩; rfl)
theorem Row.plus_small {r : Row} (hr : r.small) (h10 : r.beside.length ≤ 10) (s : Stp) : (r.plus s).small := by
  obtain ⟨h1, h2, h3⟩ := hr
  unfold Row.plus
  split
  · exact ⟨h1, h2, h3⟩
  · exact ⟨h1, by simp; omega, h3⟩
def Row.rgain (r : Row) (a b : Int) : Int × Int :=
  if r.check.2.2 = 0 then if (outside 0 r.last a || outside 0 r.last b) = true then (0, 4) else if b ≤ a then (0, 2) else
    if r.rfew.2 = 0 then ((r.rfew.1.length : Int) - (r.plus ⟨a, b⟩).rfew.1.length, 0) else (0, r.rfew.2)
  else (0, r.check.2.2)
theorem within_out (n l m : Int) : within n l m = !outside l m n := by
  unfold within outside
  rw [Bool.eq_iff_iff]
  simp
theorem RefGain_c (r : Row) (hr : r.small) (a b : Int) : PureA Try.prog 33 [rowA r, intA a, intA b] (.tuple [intA (r.rgain a b).1, intA (r.rgain a b).2]) := by
  have hk := refCheck_c r hr
  unfold triA at hk
  have hl : r.last = ((r.figs.map figA).length : Int) - 1 := by simp [Row.last]
  have hwa := within_c a 0 r.last
  have hwb := within_c b 0 r.last
  have hsm := hr.1
  unfold Row.rgain
  rw [within_out] at hwa hwb
  rw [hl] at hwa hwb ⊢
  by_cases hc : r.check.2.2 = 0
  · rw [if_pos hc]
    rw [hc] at hk
    have hv := r.valid_iff hc
    have hf := RefFew_c r hr
    have hfl := rfew_len r
    have hp := with49_c r hr a b
    have hps := Row.plus_small hr hv.ten ⟨a, b⟩
    have hpf := RefFew_c (r.plus ⟨a, b⟩) hps
    have hpl := rfew_len (r.plus ⟨a, b⟩)
    generalize (r.plus ⟨a, b⟩).rfew = P at *
    generalize r.rfew = F at *
    generalize r.plus ⟨a, b⟩ = Q at *
    obtain ⟨F1, F2⟩ := F
    obtain ⟨P1, P2⟩ := P
    unfold stpsErrA at hf hpf
    simp only at hf hpf hfl hpl ⊢
    generalize outside 0 (((r.figs.map figA).length : Int) - 1) a = oa at *
    generalize outside 0 (((r.figs.map figA).length : Int) - 1) b = ob at *
    cases oa
    · cases ob
      · simp only [Bool.or_false, Bool.false_eq_true, if_false]
        by_cases hlt : b ≤ a
        · rw [if_pos hlt]
          refine pureA_codeB tabOk { l := 0, f := 33 } mixed call_33 Try.func33 (by kernel_rfl) ?_
          conv => whnf
          repeat (any_goals (first | exact falseI | (refine brP_dec (fun _ => ?_) (fun _ => ?_) <;> first | (exfalso; omega) | conv => whnf) | (refine brP_ndec (fun _ => ?_) (fun _ => ?_) <;> first | (exfalso; omega) | conv => whnf) | ((first | refine callP_a hk ?_ | refine callP_a hwa ?_ | refine callP_a hwb ?_ | refine And.intro (DrawOk.mk (by kernel_rfl)) ?_ | refine okI ?_ | refine brP_true (Nat.beq_refl _) ?_ | refine brP_intro (fun _ => ?_) (fun _ => ?_) | refine bndI ?_ | intro _) <;> conv => whnf)))
          all_goals first | ((refine ⟨⟨?_⟩, trivial⟩; rfl)) | skip
        · rw [if_neg hlt]
          by_cases hF : F2 = 0
          · rw [if_pos hF]
            subst hF
            refine pureA_codeB tabOk { l := 0, f := 33 } mixed call_33 Try.func33 (by kernel_rfl) ?_
            conv => whnf
            repeat (any_goals (first | exact falseI | (refine brP_dec (fun _ => ?_) (fun _ => ?_) <;> first | (exfalso; omega) | conv => whnf) | (refine brP_ndec (fun _ => ?_) (fun _ => ?_) <;> first | (exfalso; omega) | conv => whnf) | ((first | refine callP_a hk ?_ | refine callP_a hwa ?_ | refine callP_a hwb ?_ | refine callP_a hf ?_ | refine callP_a hp ?_ | refine callP_a hpf ?_ | refine And.intro (DrawOk.mk (by kernel_rfl)) ?_ | refine okI ?_ | refine brP_true (Nat.beq_refl _) ?_ | refine brP_intro (fun _ => ?_) (fun _ => ?_) | refine bndI ?_ | intro _) <;> conv => whnf)))
            all_goals first | ((refine ⟨⟨?_⟩, trivial⟩; simp [oneOf, intA])) | skip
          · rw [if_neg hF]
            refine pureA_codeB tabOk { l := 0, f := 33 } mixed call_33 Try.func33 (by kernel_rfl) ?_
            conv => whnf
            repeat (any_goals (first | exact falseI | (refine brP_dec (fun _ => ?_) (fun _ => ?_) <;> first | (exfalso; omega) | conv => whnf) | (refine brP_ndec (fun _ => ?_) (fun _ => ?_) <;> first | (exfalso; omega) | conv => whnf) | ((first | refine callP_a hk ?_ | refine callP_a hwa ?_ | refine callP_a hwb ?_ | refine callP_a hf ?_ | refine callP_a hp ?_ | refine callP_a hpf ?_ | refine And.intro (DrawOk.mk (by kernel_rfl)) ?_ | refine okI ?_ | refine brP_true (Nat.beq_refl _) ?_ | refine brP_intro (fun _ => ?_) (fun _ => ?_) | refine bndI ?_ | intro _) <;> conv => whnf)))
            all_goals first | ((refine ⟨⟨?_⟩, trivial⟩; rfl)) | skip
      · simp only [Bool.or_true, if_true]
        refine pureA_codeB tabOk { l := 0, f := 33 } mixed call_33 Try.func33 (by kernel_rfl) ?_
        conv => whnf
        repeat (any_goals (first | exact falseI | (refine brP_dec (fun _ => ?_) (fun _ => ?_) <;> first | (exfalso; omega) | conv => whnf) | (refine brP_ndec (fun _ => ?_) (fun _ => ?_) <;> first | (exfalso; omega) | conv => whnf) | ((first | refine callP_a hk ?_ | refine callP_a hwa ?_ | refine callP_a hwb ?_ | refine And.intro (DrawOk.mk (by kernel_rfl)) ?_ | refine okI ?_ | refine brP_true (Nat.beq_refl _) ?_ | refine brP_intro (fun _ => ?_) (fun _ => ?_) | refine bndI ?_ | intro _) <;> conv => whnf)))
        all_goals first | ((refine ⟨⟨?_⟩, trivial⟩; rfl)) | skip
    · simp only [Bool.true_or, if_true]
      refine pureA_codeB tabOk { l := 0, f := 33 } mixed call_33 Try.func33 (by kernel_rfl) ?_
      conv => whnf
      repeat (any_goals (first | exact falseI | (refine brP_dec (fun _ => ?_) (fun _ => ?_) <;> first | (exfalso; omega) | conv => whnf) | (refine brP_ndec (fun _ => ?_) (fun _ => ?_) <;> first | (exfalso; omega) | conv => whnf) | ((first | refine callP_a hk ?_ | refine callP_a hwa ?_ | refine callP_a hwb ?_ | refine And.intro (DrawOk.mk (by kernel_rfl)) ?_ | refine okI ?_ | refine brP_true (Nat.beq_refl _) ?_ | refine brP_intro (fun _ => ?_) (fun _ => ?_) | refine bndI ?_ | intro _) <;> conv => whnf)))
      all_goals first | ((refine ⟨⟨?_⟩, trivial⟩; rfl)) | skip
  · rw [if_neg hc]
    generalize r.check = c at *
    obtain ⟨c1, c2, c3⟩ := c
    simp only at hk hc ⊢
    refine pureA_codeB tabOk { l := 0, f := 33 } mixed call_33 Try.func33 (by kernel_rfl) ?_
    conv => whnf
    repeat (any_goals (first | exact falseI | (refine brP_dec (fun _ => ?_) (fun _ => ?_) <;> first | (exfalso; omega) | conv => whnf) | (refine brP_ndec (fun _ => ?_) (fun _ => ?_) <;> first | (exfalso; omega) | conv => whnf) | ((first | refine callP_a hk ?_ | refine And.intro (DrawOk.mk (by kernel_rfl)) ?_ | refine okI ?_ | refine brP_true (Nat.beq_refl _) ?_ | refine brP_intro (fun _ => ?_) (fun _ => ?_) | refine bndI ?_ | intro _) <;> conv => whnf)))
    (refine ⟨⟨?_⟩, trivial⟩; rfl)
end Go.Proofs.Ytmggofcaeolaiaa
namespace Go.Proofs.Ytmggofcaeolaiaa
open Go.Am Go.Proofs Go
theorem bad_zip : ∀ (l : List Fig) (p : List Part) (k : Nat) (P : List Part), l.length ≤ p.length → (∀ j, P.getD (k + j) zeroP = p.getD j zeroP) → selFrom (fun _ f => !f.right) k (zipW l p) = selFrom (fun i f => isWrong f (P.getD i zeroP)) k l
  | [], p, k, P, _, _ => by cases p <;> rfl
  | f :: l, [], _, _, h, _ => by simp at h
  | f :: l, q :: p, k, P, h, hP => by
    have h0 : P.getD k zeroP = q := hP 0
    have ih := bad_zip l p (k + 1) P (by simpa using h) fun j => by
      have := hP (j + 1)
      rw [show k + 1 + j = k + (j + 1) by omega, this]; rfl
    have e : isWrong f (P.getD k zeroP) = !(⟨f.name, q.kind, q.broken, f.wants⟩ : Fig).right := by
      rw [h0]
      exact isWrong_part ⟨f.name, q.kind, q.broken, f.wants⟩
    simp only [zipW, selFrom, e, ih]
theorem bad_with {r : Row} (h5 : r.figs.length ≤ 5) {p : List Part} (hp : p.length = 5) : (r.with p).bad = r.wrong p :=
  bad_zip r.figs p 0 p (by omega) fun j => by rw [Nat.zero_add]
theorem sim0 (r : Row) : Sim r [firstF r.parts] [(r, [])] := by
  have hp : pathTo [firstF r.parts] 0 = [] := by simp [pathTo, pathF, firstF]
  refine ⟨rfl, fun j f hf => ?_, fun j f hf => ?_⟩
  · cases j with
    | zero =>
      simp at hf; subst hf
      show some (r, []) = some (r.with r.parts, _)
      rw [r.with_parts, hp]
    | succ j => simp at hf
  · cases j with
    | zero => simp at hf; subst hf; rw [hp]; rfl
    | succ j => simp at hf
theorem inv0 {r : Row} (hv : r.Valid) : Inv r [firstF r.parts] := by
  refine ⟨firstF_ok hv.parts, fun f hf => ?_, fun f hf q hq => ?_⟩
  · simp at hf; subst hf; rfl
  · simp at hf; subst hf; exact List.mem_map_of_mem hq
theorem asc0 (p : List Part) : ∀ own, [firstF p][0]? = some own → Asc [firstF p] own.many := fun own ho => by
  simp at ho; subst ho
  exact ⟨by simp, fun f hf => by simp at hf; subst hf; simp⟩
theorem reach1 {r : Row} (hv : r.Valid) (hr : r.small) : Inv r (r.reach (-1)) ∧ Sim r (r.reach (-1)) (r.rf 100000) :=
  full1 hv hr 248833 0 _ _ (inv0 hv) (sim0 r) (asc0 r.parts)
theorem reach2 {r : Row} (hv : r.Valid) (hr : r.small) (m : Nat) : Sim r (r.reach m) (r.rf m) :=
  (full2 hv hr m 248833 0 _ _ (inv0 hv) (sim0 r) (asc0 r.parts) (fun f hf => by simp at hf; subst hf; simp [firstF])).2
theorem fold_at {r : Row} {i j : Nat} {own f : Found} : ∀ (l : List Stp) (all : List Found), all[j]? = some f → (l.foldl (r.next i own) all)[j]? = some f
  | [], all, h => h
  | s :: l, all, h => by
    simp only [List.foldl_cons]
    exact fold_at l _ (next_at s h)
theorem fold_ext {r : Row} {i : Nat} {own : Found} : ∀ (l : List Stp) (all : List Found), ∃ Z, l.foldl (r.next i own) all = all ++ Z
  | [], all => ⟨[], by simp⟩
  | s :: l, all => by
    simp only [List.foldl_cons]
    obtain ⟨Z, hZ⟩ := fold_ext (r := r) (i := i) (own := own) l (r.next i own all s)
    rw [hZ]
    unfold Row.next
    split
    · exact ⟨_ :: Z, by rw [List.append_assoc]; rfl⟩
    · exact ⟨Z, rfl⟩
theorem seek_ext {r : Row} {most : Int} {d : List Part → Bool} : ∀ (n i : Nat) (all : List Found), ∃ Z, (r.seek most d n i all).2 = all ++ Z
  | 0, i, all => ⟨[], by simp [Row.seek]⟩
  | n + 1, i, all => by
    unfold Row.seek
    split
    · exact ⟨[], by simp⟩
    · split
      · exact ⟨[], by simp⟩
      · split
        · exact seek_ext n (i + 1) all
        · rename_i own _ _ _
          obtain ⟨Z, hZ⟩ := fold_ext (r := r) (i := i) (own := own) r.sorted all
          obtain ⟨Y, hY⟩ := seek_ext (r := r) (most := most) (d := d) n (i + 1) (r.sorted.foldl (r.next i own) all)
          exact ⟨Z ++ Y, by rw [hY, hZ, List.append_assoc]⟩
theorem seek_at {r : Row} {most : Int} {d : List Part → Bool} {n i j : Nat} {all : List Found} {f : Found} (h : all[j]? = some f) : (r.seek most d n i all).2[j]? = some f := by
  obtain ⟨Z, hZ⟩ := seek_ext (r := r) (most := most) (d := d) n i all
  rw [hZ, List.getElem?_append_left (List.getElem?_eq_some_iff.1 h).1]; exact h
structure Stops (d : List Part → Bool) (n i : Nat) (X : Int × List Found) (F : List Found) : Prop where
  ext : ∃ Z, F = X.2 ++ Z
  hit : ∀ j : Nat, X.1 = j → i ≤ j ∧ (∃ f, X.2[j]? = some f ∧ d f.parts = true) ∧ ∀ (k : Nat) (f : Found), i ≤ k → k < j → X.2[k]? = some f → d f.parts = false
  miss : X.1 = -1 → F = X.2 ∧ ∀ (k : Nat) (f : Found), i ≤ k → k < i + n → X.2[k]? = some f → d f.parts = false
theorem seek_d (r : Row) (d : List Part → Bool) : ∀ (n i : Nat) (all : List Found), Stops d n i (r.seek (-1) d n i all) (r.seek (-1) (fun _ => false) n i all).2
  | 0, i, all => ⟨⟨[], by simp [Row.seek]⟩, fun j h => by simp only [Row.seek] at h; omega, fun _ => ⟨rfl, fun k f h1 h2 => by omega⟩⟩
  | n + 1, i, all => by
    obtain ⟨Z0, hZ0⟩ := seek_ext (r := r) (most := -1) (d := fun _ => false) (n + 1) i all
    unfold Row.seek at hZ0 ⊢
    cases ho : all[i]? with
    | none =>
      simp only
      refine ⟨⟨[], by simp⟩, fun j h => by simp only at h; omega, fun _ => ⟨rfl, fun k f h1 h2 h3 => ?_⟩⟩
      rw [List.getElem?_eq_none_iff] at ho
      have := (List.getElem?_eq_some_iff.1 h3).1
      simp only at this
      omega
    | some own =>
      rw [ho] at hZ0
      have hm : ¬ (own.many : Int) = -1 := by omega
      simp only [Bool.false_eq_true, if_false, if_neg hm] at hZ0 ⊢
      by_cases hd : d own.parts = true
      · rw [if_pos hd]
        refine ⟨⟨Z0, hZ0⟩, fun j h => ?_, fun h => by simp only at h; omega⟩
        simp only at h
        have : j = i := by omega
        subst this
        exact ⟨Nat.le_refl _, ⟨own, ho, hd⟩, fun k f h1 h2 => by omega⟩
      · rw [if_neg hd]
        have hd := Bool.eq_false_iff.2 hd
        have ih := seek_d r d n (i + 1) (r.sorted.foldl (r.next i own) all)
        have hat := seek_at (r := r) (most := -1) (d := d) (n := n) (i := i + 1) (fold_at (r := r) (i := i) (own := own) r.sorted all ho)
        refine ⟨ih.ext, fun j h => ?_, fun h => ?_⟩
        · obtain ⟨h1, h2, h3⟩ := ih.hit j h
          refine ⟨by omega, h2, fun k f k1 k2 k3 => ?_⟩
          by_cases e : k = i
          · subst e; rw [hat] at k3; cases k3; exact hd
          · exact h3 k f (by omega) k2 k3
        · obtain ⟨h1, h2⟩ := ih.miss h
          refine ⟨h1, fun k f k1 k2 k3 => ?_⟩
          by_cases e : k = i
          · subst e; rw [hat] at k3; cases k3; exact hd
          · exact h2 k f (by omega) (by omega) k3
theorem find_at (P : RF → Bool) : ∀ (l : List RF) (j : Nat) (g : RF), l[j]? = some g → P g = true → (∀ (k : Nat) (x : RF), k < j → l[k]? = some x → P x = false) → l.find? P = some g
  | [], j, g, h, _, _ => by simp at h
  | x :: l, 0, g, h, hP, _ => by
    simp at h; subst h
    simp [hP]
  | x :: l, j + 1, g, h, hP, hk => by
    have h0 := hk 0 x (by omega) rfl
    rw [List.find?_cons, h0]
    exact find_at P l j g (by simpa using h) hP fun k y hlt hy => hk (k + 1) y (by omega) (by simpa using hy)
theorem few_rfew (r : Row) (hr : r.small) : r.few = r.rfew := by
  unfold Row.few Row.rfew
  by_cases hc : r.check.2.2 = 0
  · rw [if_pos hc, if_pos hc]
    have hv := r.valid_iff hc
    have h5 := check_len hc
    obtain ⟨hI, S⟩ := reach1 hv hr
    have hs := seek_ok r (-1) (fun p => decide ((r.wrong p).length = 0)) 248833 0 [firstF r.parts] (firstF_ok hv.parts)
    have hd := seek_d r (fun p => decide ((r.wrong p).length = 0)) 248833 0 [firstF r.parts]
    have hb := hI.ok.bound
    have hP : ∀ (k : Nat) (f : Found), (r.reach (-1))[k]? = some f → ∃ g, (r.rf 100000)[k]? = some g ∧ g.2 = pathTo (r.reach (-1)) k ∧ decide (g.1.bad.length = 0) = decide ((r.wrong f.parts).length = 0) := fun k f hf =>
      ⟨_, S.at_ k f hf, rfl, by simp only; rw [bad_with h5 (hI.ok.one f (List.mem_of_getElem? hf)).1]⟩
    unfold Row.fewP Row.found rfewF
    have hF : r.reach (-1) = (r.seek (-1) (fun _ => false) 248833 0 [firstF r.parts]).2 := rfl
    rw [← hF] at hd
    generalize r.seek (-1) (fun p => decide ((r.wrong p).length = 0)) 248833 0 [firstF r.parts] = X at *
    generalize r.reach (-1) = F at *
    rcases hs.2 with e | ⟨j, e, hj⟩
    · have hlt : X.1 < 0 := by omega
      simp only [if_pos hlt, Bool.false_eq_true, if_false]
      obtain ⟨rfl, hm⟩ := hd.miss e
      have hn : (r.rf 100000).find? (fun f => decide (f.1.bad.length = 0)) = none := by
        rw [List.find?_eq_none]
        intro g hg
        obtain ⟨k, hk⟩ := List.mem_iff_getElem?.1 hg
        have hkl := (List.getElem?_eq_some_iff.1 hk).1
        rw [S.len] at hkl
        obtain ⟨f, hf⟩ : ∃ f, X.2[k]? = some f := ⟨X.2[k], by simp [hkl]⟩
        obtain ⟨g', hg', _, hd'⟩ := hP k f hf
        rw [hk] at hg'; cases hg'
        rw [hd', hm k f (Nat.zero_le _) (by omega) hf]
        simp
      rw [hn]
    · obtain ⟨_, ⟨f, hf, hdf⟩, hlt⟩ := hd.hit j e
      obtain ⟨Z, hZ⟩ := hd.ext
      have hfF : ∀ (k : Nat) (x : Found), X.2[k]? = some x → F[k]? = some x := fun k x hx => by
        rw [hZ, List.getElem?_append_left (List.getElem?_eq_some_iff.1 hx).1]; exact hx
      obtain ⟨g, hg, hg2, hgd⟩ := hP j f (hfF j f hf)
      have hfind : (r.rf 100000).find? (fun f => decide (f.1.bad.length = 0)) = some g := by
        refine find_at _ _ j g hg (by rw [hgd]; exact hdf) fun k x hk hx => ?_
        obtain ⟨y, hy⟩ : ∃ y, X.2[k]? = some y := ⟨X.2[k]'(by omega), by simp [show k < X.2.length by omega]⟩
        obtain ⟨g', hg', _, hd'⟩ := hP k y (hfF k y hy)
        rw [hx] at hg'; cases hg'
        rw [hd']; exact hlt k y (Nat.zero_le _) hk hy
      have hnl : ¬ X.1 < 0 := by omega
      simp only [if_neg hnl, if_true, hfind]
      rw [hg2, e, Int.toNat_natCast, hZ, pathTo_app hs.1 Z hj]
  · rw [if_neg hc, if_neg hc]
theorem mostF_best (g : Found → Nat) : ∀ (l : List Found) (i : Nat) (acc : Int × Int), 1 ≤ i → mostF g i acc l = bestP acc (l.map fun f => ((g f : Int), (f.many : Int)))
  | [], i, acc, _ => rfl
  | f :: l, i, acc, hi => by
    have hne : ¬ i = 0 := by omega
    simp only [mostF, List.map_cons, bestP, hne, false_or]
    exact mostF_best g l (i + 1) _ (by omega)
theorem most_rmost (r : Row) (hr : r.small) : r.most = r.rmost := by
  unfold Row.most Row.rmost
  by_cases hc : r.check.2.2 = 0
  · rw [if_pos hc, if_pos hc]
    have hv := r.valid_iff hc
    have h5 := check_len hc
    obtain ⟨hI, S⟩ := reach1 hv hr
    have h0 : (r.reach (-1))[0]? = some (firstF r.parts) := seek_at rfl
    have hmap : (r.rf 100000).map num2 = (r.reach (-1)).map fun f => (((r.wrong f.parts).length : Int), (f.many : Int)) := by
      refine List.ext_getElem? fun j => ?_
      rw [List.getElem?_map, List.getElem?_map]
      cases hf : (r.reach (-1))[j]? with
      | none => rw [S.none hf]; rfl
      | some f =>
        rw [S.at_ j f hf]
        simp only [Option.map_some, num2]
        rw [bad_with h5 (hI.ok.one f (List.mem_of_getElem? hf)).1, S.many j f hf]
    rw [hmap]
    generalize r.reach (-1) = F at *
    cases F with
    | nil => simp at h0
    | cons f l =>
      simp at h0
      have hb : mostF (fun f => (r.wrong f.parts).length) 0 (0, 0) (f :: l) = bestP ((r.bad.length : Int), 0) (((f :: l).map fun f => (((r.wrong f.parts).length : Int), (f.many : Int))).drop 1) := by
        simp only [mostF, true_or, if_true, List.map_cons, List.drop_succ_cons, List.drop_zero]
        rw [mostF_best _ l 1 _ (Nat.le_refl _), h0]
        show bestP (((r.wrong r.parts).length : Int), ((0 : Nat) : Int)) _ = _
        rw [wrong_bad h5]
        rfl
      rw [hb]
  · rw [if_neg hc, if_neg hc]
theorem reachN_r (r : Row) (hr : r.small) (n : Int) : r.reachN n = r.rreachN n := by
  unfold Row.reachN Row.rreachN
  by_cases hc : r.check.2.2 = 0
  · rw [if_pos hc, if_pos hc, within_out]
    by_cases ho : outside 0 20 n = true
    · rw [if_pos ho, ho]; rfl
    · have ho := Bool.eq_false_iff.2 ho
      rw [ho]
      simp only [Bool.false_eq_true, if_false, Bool.not_false, if_true]
      have hn := (outside_false).1 ho
      obtain ⟨m, rfl⟩ : ∃ m : Nat, n = m := ⟨n.toNat, by omega⟩
      rw [(reach2 (r.valid_iff hc) hr m).len]
  · rw [if_neg hc, if_neg hc]
theorem firstFrom_all {α : Type} (g : Nat → α → Int) : ∀ (l : List α) (i : Nat), (∀ (j : Nat) (x : α), l[j]? = some x → g (i + j) x = 0) → (firstFrom g i l).2 = 0
  | [], i, _ => rfl
  | x :: l, i, h => by
    have h0 := h 0 x rfl
    rw [Nat.add_zero] at h0
    simp only [firstFrom, h0, if_true]
    refine firstFrom_all g l (i + 1) fun j y hy => ?_
    rw [show i + 1 + j = i + (j + 1) by omega]
    exact h (j + 1) y (by simpa using hy)
theorem plus_check {r : Row} (hc : r.check.2.2 = 0) {a b : Int} (ho : (outside 0 r.last a || outside 0 r.last b) = false) (hlt : ¬ b ≤ a) : (r.plus ⟨a, b⟩).check.2.2 = 0 := by
  have hv := r.valid_iff hc
  unfold Row.plus
  split
  · exact hc
  · rename_i hn
    have h5 : ¬ (5 : Int) < r.figs.length := by have := check_len hc; omega
    have hs : (Row.stpsErr { r with beside := r.beside ++ [⟨a, b⟩] }).2 = 0 := by
      refine firstFrom_all _ _ 0 fun j s hs => ?_
      rw [Nat.zero_add]
      simp only at hs ⊢
      by_cases hj : j < r.beside.length
      · rw [List.getElem?_append_left hj] at hs
        rw [List.take_append_of_le_length (by omega)]
        exact hv.stp j s hs
      · have hl := (List.getElem?_eq_some_iff.1 hs).1
        simp at hl
        have hj : j = r.beside.length := by omega
        subst hj
        simp at hs
        subst hs
        rw [List.take_left]
        unfold stpErr
        rw [if_neg (by show ¬ (outside 0 r.last a || outside 0 r.last b) = true; rw [ho]; simp), if_neg hlt, if_neg hn]
    unfold Row.check at hc ⊢
    have hf : (Row.figsErr { r with beside := r.beside ++ [⟨a, b⟩] }) = r.figsErr := rfl
    have hl : (Row.last { r with beside := r.beside ++ [⟨a, b⟩] }) = r.last := rfl
    rw [hf, hs, hl]
    rw [if_neg h5] at hc ⊢
    split at hc
    · rename_i h1; exact absurd hc h1
    · rename_i h1
      rw [if_neg h1, if_neg (by simp)]
      split at hc
      · rename_i h2; exact absurd hc h2
      · exact hc
theorem fewP_none (r : Row) (p : List Part) (h : (r.fewP p).2 = false) : (r.fewP p).1 = [] := by
  unfold Row.fewP at *
  split
  · rfl
  · rename_i hn; rw [if_neg hn] at h; simp at h
theorem gain_r (r : Row) (hr : r.small) (a b : Int) : r.gain a b = r.rgain a b := by
  unfold Row.gain Row.rgain
  by_cases hc : r.check.2.2 = 0
  · rw [if_pos hc, if_pos hc]
    split
    · rfl
    · rename_i ho
      have ho := Bool.eq_false_iff.2 ho
      split
      · rfl
      · rename_i hlt
        have hv := r.valid_iff hc
        rw [← few_rfew r hr, ← few_rfew _ (Row.plus_small hr hv.ten ⟨a, b⟩)]
        have hp : (r.plus ⟨a, b⟩).few.1 = ((r.plus ⟨a, b⟩).fewP r.parts).1 := by
          have hparts : (r.plus ⟨a, b⟩).parts = r.parts := by
            unfold Row.plus
            split <;> rfl
          unfold Row.few
          rw [if_pos (plus_check hc ho hlt), hparts]
          split
          · rfl
          · rename_i hf
            rw [fewP_none _ _ (Bool.eq_false_iff.2 hf)]
        rw [hp]
        unfold Row.few
        rw [if_pos hc]
        split
        · rw [if_pos rfl]
        · rw [if_neg (by simp)]
  · rw [if_neg hc, if_neg hc]
end Go.Proofs.Ytmggofcaeolaiaa
namespace Go.Proofs.Ytmggofcaeolaiaa
open Go.Am Go.Proofs Go
set_option maxRecDepth 100000 in
theorem MendFewest_c (r : Row) (hr : r.small) : PureA Try.prog 4 [rowA r] (boolA true) := by
  have h1 := Few_c r hr
  have h2 := RefFew_c r hr
  have h3 := Most_c r hr
  have h4 := RefMost_c r hr
  have hl := rfew_len r
  rw [few_rfew r hr] at h1
  rw [most_rmost r hr] at h3
  have aw := Awake_c
  unfold stpsErrA at h1 h2
  unfold triA at h3 h4
  generalize r.rfew = F at *
  generalize r.rmost = M at *
  obtain ⟨F1, F2⟩ := F
  obtain ⟨M1, M2, M3⟩ := M
  simp only at *
  have hq : PureA Try.prog 27 [stpsA F1, stpsA F1] (boolA true) := by
    have := equal_c F1 F1 (by omega) (by omega)
    rw [eqAll_self (by intro s; simp)] at this
    exact this
  have e1 : decide (F2 = F2) = true := by simp
  have e2 : decide (M1 = M1) = true := by simp
  have e3 : decide (M2 = M2) = true := by simp
  have e4 : decide (M3 = M3) = true := by simp
  refine pureA_codeB tabOk { l := 0, f := 4 } mixed call_4 Try.func4 (by kernel_rfl) ?_
  conv => whnf
  repeat (any_goals (first | exact falseI | (refine brP_dec (fun _ => ?_) (fun _ => ?_) <;> first | (exfalso; omega) | conv => whnf) | (refine brP_ndec (fun _ => ?_) (fun _ => ?_) <;> first | (exfalso; omega) | conv => whnf) | ((first | refine callP_a h1 ?_ | refine callP_a h2 ?_ | refine callP_a hq ?_ | rw [e1] | rw [e2] | rw [e3] | rw [e4] | refine callP_a h3 ?_ | refine callP_a h4 ?_ | refine callP_a aw ?_ | refine And.intro (DrawOk.mk (by kernel_rfl)) ?_ | refine okI ?_ | refine brP_true (Nat.beq_refl _) ?_ | refine brP_intro (fun _ => ?_) (fun _ => ?_) | refine bndI ?_ | intro _) <;> conv => whnf)))
  all_goals first | ((refine ⟨⟨?_⟩, trivial⟩; rfl)) | skip
set_option maxRecDepth 100000 in
theorem MendReach_c (r : Row) (hr : r.small) (n a b : Int) (hn : inI n) : PureA Try.prog 5 [rowA r, intA n, .agg [intA a, intA b]] (boolA true) := by
  have h1 := Reach_c r hr n hn
  have h2 := RefReach_c r hr n hn
  have h3 := Gain_c r hr a b
  have h4 := RefGain_c r hr a b
  rw [reachN_r r hr n] at h1
  rw [gain_r r hr a b] at h3
  have aw := Awake_c
  generalize r.rreachN n = N at *
  generalize r.rgain a b = G at *
  obtain ⟨N1, N2⟩ := N
  obtain ⟨G1, G2⟩ := G
  simp only at *
  have e1 : decide (N1 = N1) = true := by simp
  have e2 : decide (N2 = N2) = true := by simp
  have e3 : decide (G1 = G1) = true := by simp
  have e4 : decide (G2 = G2) = true := by simp
  refine pureA_codeB tabOk { l := 0, f := 5 } mixed call_5 Try.func5 (by kernel_rfl) ?_
  conv => whnf
  repeat (any_goals (first | exact falseI | (refine brP_dec (fun _ => ?_) (fun _ => ?_) <;> first | (exfalso; omega) | conv => whnf) | (refine brP_ndec (fun _ => ?_) (fun _ => ?_) <;> first | (exfalso; omega) | conv => whnf) | ((first | refine callP_a h1 ?_ | refine callP_a h2 ?_ | rw [e1] | rw [e2] | rw [e3] | rw [e4] | refine callP_a h3 ?_ | refine callP_a h4 ?_ | refine callP_a aw ?_ | refine And.intro (DrawOk.mk (by kernel_rfl)) ?_ | refine okI ?_ | refine brP_true (Nat.beq_refl _) ?_ | refine brP_intro (fun _ => ?_) (fun _ => ?_) | refine bndI ?_ | intro _) <;> conv => whnf)))
  all_goals first | ((refine ⟨⟨?_⟩, trivial⟩; rfl)) | skip
end Go.Proofs.Ytmggofcaeolaiaa
namespace Go.Proofs.Ytmggofcaeolaiaa
open Go.Am Go.Proofs Go
theorem after_append : ∀ (u v : List Stp) (r : Row), r.after (u ++ v) = if (r.after u).2 = 0 then (r.after u).1.after v else r.after u
  | [], v, r => by simp [Row.after]
  | s :: u, v, r => by
    by_cases h : (r.one s).2 = 0
    · simp only [List.cons_append, Row.after, if_pos h]
      exact after_append u v _
    · simp only [List.cons_append, Row.after, if_neg h]
theorem after_snoc {u : List Stp} {s : Stp} {r : Row} (h : (r.after (u ++ [s])).2 = 0) : (r.after u).2 = 0 ∧ ((r.after u).1.one s).2 = 0 ∧ r.after (u ++ [s]) = (((r.after u).1.one s).1, 0) := by
  rw [after_append] at h ⊢
  by_cases hu : (r.after u).2 = 0
  · rw [if_pos hu] at h ⊢
    refine ⟨hu, ?_⟩
    simp only [Row.after] at h ⊢
    by_cases h1 : ((r.after u).1.one s).2 = 0
    · rw [if_pos h1]; exact ⟨h1, rfl⟩
    · rw [if_neg h1] at h; exact absurd h h1
  · rw [if_neg hu] at h; exact absurd h hu
theorem snoc_after {u : List Stp} {s : Stp} {r q : Row} (h : r.after u = (q, 0)) (h1 : (q.one s).2 = 0) : r.after (u ++ [s]) = ((q.one s).1, 0) := by
  rw [after_append, h]
  simp only [if_true, Row.after]
  rw [if_pos h1]
theorem look_eq {r a b : Row} (ha : r.Kept a) (hb : r.Kept b) (oa : hasOk a) (ob : hasOk b) (h : a.look = b.look) : a = b := by
  have hp := (look_inj a.figs b.figs 0 0 (by rw [ha.len, hb.len]) oa ob h).2
  have hf : a.figs = b.figs := by
    refine List.ext_getElem? fun i => ?_
    by_cases hi : i < r.figs.length
    · obtain ⟨f, hf⟩ : ∃ f, a.figs[i]? = some f := ⟨a.figs[i]'(by rw [ha.len]; exact hi), by simp [show i < a.figs.length by rw [ha.len]; exact hi]⟩
      obtain ⟨g, hg⟩ : ∃ g, b.figs[i]? = some g := ⟨b.figs[i]'(by rw [hb.len]; exact hi), by simp [show i < b.figs.length by rw [hb.len]; exact hi]⟩
      obtain ⟨x, hx, e1, e2⟩ := ha.names i f hf
      obtain ⟨y, hy, e3, e4⟩ := hb.names i g hg
      rw [hx] at hy; cases hy
      have e5 : (a.figs.map Fig.part)[i]? = (b.figs.map Fig.part)[i]? := by rw [hp]
      rw [List.getElem?_map, List.getElem?_map, hf, hg] at e5
      simp only [Option.map_some, Option.some.injEq, Fig.part, Part.mk.injEq] at e5
      rw [hf, hg]
      obtain ⟨n, h1, b1, w⟩ := f
      obtain ⟨n', h1', b1', w'⟩ := g
      simp only at e1 e2 e3 e4 e5
      rw [e1, e2, e5.1, e5.2, e3, e4]
    · rw [List.getElem?_eq_none (by rw [ha.len]; omega), List.getElem?_eq_none (by rw [hb.len]; omega)]
  have hbe : a.beside = b.beside := ha.beside.trans hb.beside.symm
  have hbn : a.bench = b.bench := ha.bench.trans hb.bench.symm
  obtain ⟨f, x, y⟩ := a
  obtain ⟨f', x', y'⟩ := b
  simp only at hf hbe hbn
  rw [hf, hbe, hbn]
def lexlt : List Stp → List Stp → Prop
  | x :: u, y :: v => x.lt y ∨ (x = y ∧ lexlt u v)
  | _, _ => False
def wlt (u v : List Stp) : Prop := u.length < v.length ∨ (u.length = v.length ∧ lexlt u v)
def wle (u v : List Stp) : Prop := u = v ∨ wlt u v
theorem Stp.lt_trans {s t u : Stp} (h : s.lt t) (k : t.lt u) : s.lt u := by
  unfold Stp.lt at *; omega
theorem lexlt_trans : ∀ {u v w : List Stp}, lexlt u v → lexlt v w → lexlt u w
  | x :: u, y :: v, z :: w, h, k => by
    rcases h with h | ⟨rfl, h⟩
    · rcases k with k | ⟨rfl, k⟩
      · exact .inl (Stp.lt_trans h k)
      · exact .inl h
    · rcases k with k | ⟨rfl, k⟩
      · exact .inl k
      · exact .inr ⟨rfl, lexlt_trans h k⟩
  | [], _, _, h, _ => h.elim
  | _ :: _, [], _, h, _ => h.elim
  | _ :: _, _ :: _, [], _, k => k.elim
theorem lexlt_append : ∀ {u v : List Stp} (a b : List Stp), lexlt u v → lexlt (u ++ a) (v ++ b)
  | x :: u, y :: v, a, b, h => by
    rcases h with h | ⟨rfl, h⟩
    · exact .inl h
    · exact .inr ⟨rfl, lexlt_append a b h⟩
  | [], _, _, _, h => h.elim
  | _ :: _, [], _, _, h => h.elim
theorem lexlt_snoc {s t : Stp} (h : s.lt t) : ∀ u : List Stp, lexlt (u ++ [s]) (u ++ [t])
  | [] => .inl h
  | x :: u => .inr ⟨rfl, lexlt_snoc h u⟩
theorem lexlt_irrefl : ∀ {u : List Stp}, ¬ lexlt u u
  | [], h => h
  | x :: u, h => by
    rcases h with h | ⟨_, h⟩
    · exact Stp.lt_asymm h h
    · exact lexlt_irrefl h
theorem wlt_trans {u v w : List Stp} (h : wlt u v) (k : wlt v w) : wlt u w := by
  rcases h with h | ⟨e, h⟩
  · rcases k with k | ⟨e', _⟩
    · exact .inl (by omega)
    · exact .inl (by omega)
  · rcases k with k | ⟨e', k⟩
    · exact .inl (by omega)
    · exact .inr ⟨by omega, lexlt_trans h k⟩
theorem wle_trans {u v w : List Stp} (h : wle u v) (k : wle v w) : wle u w := by
  rcases h with rfl | h
  · exact k
  · rcases k with rfl | k
    · exact .inr h
    · exact .inr (wlt_trans h k)
theorem wlt_irrefl {u : List Stp} : ¬ wlt u u := by
  rintro (h | ⟨_, h⟩)
  · omega
  · exact lexlt_irrefl h
theorem wle_len {u v : List Stp} (h : wle u v) : u.length ≤ v.length := by
  rcases h with rfl | h | ⟨e, _⟩
  · exact Nat.le_refl _
  · omega
  · omega
theorem wlt_snoc {u v : List Stp} (h : wlt u v) (s t : Stp) : wlt (u ++ [s]) (v ++ [t]) := by
  rcases h with h | ⟨e, h⟩
  · exact .inl (by simp; omega)
  · exact .inr ⟨by simp [e], lexlt_append _ _ h⟩
theorem wle_snoc {u v : List Stp} (h : wle u v) (s : Stp) : wle (u ++ [s]) (v ++ [s]) := by
  rcases h with rfl | h
  · exact .inl rfl
  · exact .inr (wlt_snoc h s s)
structure Bfs (r : Row) (L : List Stp) (most : Int) (i : Nat) (T : List Stp) (all : List RF) : Prop where
  ok : RfOk r all
  path : ∀ f ∈ all, r.after f.2 = (f.1, 0) ∧ ∀ s ∈ f.2, s ∈ L
  ord : (all.map (·.2)).Pairwise wlt
  closed : ∀ (k : Nat) (f : RF), k < i → all[k]? = some f → ∀ s ∈ L, (f.1.one s).2 = 0 → ∃ g ∈ all, g.1 = (f.1.one s).1 ∧ wle g.2 (f.2 ++ [s])
  part : ∀ own, all[i]? = some own → ∀ s ∈ T, (own.1.one s).2 = 0 → ∃ g ∈ all, g.1 = (own.1.one s).1 ∧ wle g.2 (own.2 ++ [s])
  src : ∀ f ∈ all, f.2 = [] ∨ ∃ (k : Nat) (g : RF) (t : Stp), all[k]? = some g ∧ f.2 = g.2 ++ [t] ∧ (k < i ∨ (k = i ∧ t ∈ T))
  proc : ∀ (k : Nat) (f : RF), k < i → all[k]? = some f → (f.2.length : Int) ≠ most
  own : T ≠ [] → ∀ f, all[i]? = some f → (f.2.length : Int) ≠ most
theorem ord_at {all : List RF} (h : (all.map (·.2)).Pairwise wlt) {i j : Nat} {f g : RF} (hij : i < j) (hf : all[i]? = some f) (hg : all[j]? = some g) : wlt f.2 g.2 := by
  obtain ⟨hj, ej⟩ := List.getElem?_eq_some_iff.1 hg
  obtain ⟨hi, ei⟩ := List.getElem?_eq_some_iff.1 hf
  have := List.pairwise_iff_getElem.1 h i j (by simpa using hi) (by simpa using hj) hij
  simpa [ei, ej] using this
theorem Bfs.next {r : Row} {L T : List Stp} {most : Int} {i : Nat} {all : List RF} {own : RF} {s : Stp} (h : Bfs r L most i T all) (ho : all[i]? = some own) (hT : ∀ t ∈ T, t.lt s) (hs : s ∈ L) (hmo : (own.2.length : Int) ≠ most) : Bfs r L most i (T ++ [s]) (rfNext own all s) := by
  have hm := List.mem_of_getElem? ho
  have hok := h.ok.next hm s
  have hkq := h.ok.kept own hm
  have hat : ∀ (k : Nat) (f : RF), all[k]? = some f → (rfNext own all s)[k]? = some f := fun k f hf => rfNext_at s hf
  by_cases hc : (own.1.one s).2 = 0 ∧ (all.any fun f => decide (f.1.look = (own.1.one s).1.look)) = false
  · have e : rfNext own all s = all ++ [((own.1.one s).1, own.2 ++ [s])] := by unfold rfNext; rw [if_pos hc]
    rw [e] at hok hat ⊢
    refine ⟨hok.1, fun f hf => ?_, ?_, fun k f hk hf s' hs' he => ?_, fun own' ho' s' hs' he => ?_, fun f hf => ?_, fun k f hk hf => ?_, fun _ f hf => ?_⟩
    · rcases List.mem_append.1 hf with hf | hf
      · exact h.path f hf
      · simp at hf; subst hf
        refine ⟨snoc_after (h.path own hm).1 hc.1, fun t ht => ?_⟩
        rcases List.mem_append.1 ht with ht | ht
        · exact (h.path own hm).2 t ht
        · simp at ht; subst ht; exact hs
    · rw [List.map_append, List.pairwise_append]
      refine ⟨h.ord, by simp, fun a ha b hb => ?_⟩
      simp at hb; subst hb
      obtain ⟨f, hf, rfl⟩ := List.mem_map.1 ha
      rcases h.src f hf with e | ⟨k, g, t, hg, e, hk | ⟨rfl, ht⟩⟩
      · exact .inl (by rw [e]; simp)
      · rw [e]; exact wlt_snoc (ord_at h.ord hk hg ho) t s
      · rw [ho] at hg; cases hg
        rw [e]
        exact .inr ⟨by simp, lexlt_snoc (hT t ht) own.2⟩
    · have hfl : k < all.length := by have := (List.getElem?_eq_some_iff.1 ho).1; omega
      rw [List.getElem?_append_left hfl] at hf
      obtain ⟨g, hg, e1, e2⟩ := h.closed k f hk hf s' hs' he
      exact ⟨g, List.mem_append_left _ hg, e1, e2⟩
    · rw [hat i own ho] at ho'
      cases ho'
      rcases List.mem_append.1 hs' with hs' | hs'
      · obtain ⟨g, hg, e1, e2⟩ := h.part own ho s' hs' he
        exact ⟨g, List.mem_append_left _ hg, e1, e2⟩
      · simp at hs'; subst hs'
        exact ⟨((own.1.one s').1, own.2 ++ [s']), List.mem_append_right _ (by simp), rfl, .inl rfl⟩
    · rcases List.mem_append.1 hf with hf | hf
      · rcases h.src f hf with e | ⟨k, g, t, hg, e, hk | ⟨hk, ht⟩⟩
        · exact .inl e
        · exact .inr ⟨k, g, t, hat k g hg, e, .inl hk⟩
        · exact .inr ⟨k, g, t, hat k g hg, e, .inr ⟨hk, List.mem_append_left _ ht⟩⟩
      · simp at hf; subst hf
        exact .inr ⟨i, own, s, hat i own ho, rfl, .inr ⟨rfl, by simp⟩⟩
    · have hfl : k < all.length := by have := (List.getElem?_eq_some_iff.1 ho).1; omega
      rw [List.getElem?_append_left hfl] at hf
      exact h.proc k f hk hf
    · rw [hat i own ho] at hf; cases hf; exact hmo
  · have e : rfNext own all s = all := by unfold rfNext; rw [if_neg hc]
    rw [e]
    refine ⟨h.ok, h.path, h.ord, h.closed, fun own' ho' s' hs' he => ?_, fun f hf => ?_, h.proc, fun _ f hf => by rw [ho] at hf; cases hf; exact hmo⟩
    · rw [ho] at ho'; cases ho'
      rcases List.mem_append.1 hs' with hs' | hs'
      · exact h.part own ho s' hs' he
      · simp at hs'; subst hs'
        have ha : (all.any fun f => decide (f.1.look = (own.1.one s').1.look)) = true := by
          cases hx : (all.any fun f => decide (f.1.look = (own.1.one s').1.look)) with
          | true => rfl
          | false => exact absurd ⟨he, hx⟩ hc
        obtain ⟨g, hg, eg⟩ := List.any_eq_true.1 ha
        have eg : g.1.look = (own.1.one s').1.look := by simpa using eg
        have hk1 := h.ok.kept g hg
        refine ⟨g, hg, look_eq hk1.1 (hkq.1.trans (own.1.one_kept s')) hk1.2 (one_has hkq.2 s') eg, ?_⟩
        rcases h.src g hg with e | ⟨k, g', t, hg', e, hk | ⟨rfl, ht⟩⟩
        · exact .inr (.inl (by rw [e]; simp))
        · rw [e]; exact .inr (wlt_snoc (ord_at h.ord hk hg' ho) t s')
        · rw [ho] at hg'; cases hg'
          rw [e]
          exact .inr (.inr ⟨by simp, lexlt_snoc (hT t ht) own.2⟩)
    · rcases h.src f hf with e | ⟨k, g, t, hg, e, hk | ⟨hk, ht⟩⟩
      · exact .inl e
      · exact .inr ⟨k, g, t, hg, e, .inl hk⟩
      · exact .inr ⟨k, g, t, hg, e, .inr ⟨hk, List.mem_append_left _ ht⟩⟩
theorem Bfs.fold {r : Row} {L : List Stp} {most : Int} {i : Nat} {own : RF} (hmo : (own.2.length : Int) ≠ most) : ∀ (rest T : List Stp) (all : List RF), Bfs r L most i T all → all[i]? = some own → (T ++ rest).Pairwise Stp.lt → (∀ s ∈ rest, s ∈ L) →
    Bfs r L most i (T ++ rest) (rest.foldl (rfNext own) all) ∧ (rest.foldl (rfNext own) all)[i]? = some own
  | [], T, all, h, ho, _, _ => by simpa using ⟨h, ho⟩
  | s :: rest, T, all, h, ho, hp, hL => by
    have hT : ∀ t ∈ T, t.lt s := fun t ht => (List.pairwise_append.1 hp).2.2 t ht s (by simp)
    have h1 := h.next ho hT (hL s (by simp)) hmo
    have := Bfs.fold hmo rest (T ++ [s]) _ h1 (rfNext_at s ho) (by simpa using hp) fun x hx => hL x (List.mem_cons_of_mem _ hx)
    simpa using this
theorem Bfs.done {r : Row} {L : List Stp} {most : Int} {i : Nat} {all : List RF} (h : Bfs r L most i L all) (hmo : ∀ f, all[i]? = some f → (f.2.length : Int) ≠ most) : Bfs r L most (i + 1) [] all := by
  refine ⟨h.ok, h.path, h.ord, fun k f hk hf s hs he => ?_, fun own ho s hs => by simp at hs, fun f hf => ?_, fun k f hk hf => ?_, fun hne => absurd rfl hne⟩
  · by_cases e : k = i
    · subst e; exact h.part f hf s hs he
    · exact h.closed k f (by omega) hf s hs he
  · rcases h.src f hf with e | ⟨k, g, t, hg, e, hk | ⟨hk, _⟩⟩
    · exact .inl e
    · exact .inr ⟨k, g, t, hg, e, .inl (by omega)⟩
    · exact .inr ⟨k, g, t, hg, e, .inl (by omega)⟩
  · by_cases e : k = i
    · subst e; exact hmo f hf
    · exact h.proc k f (by omega) hf
theorem rfSeek_bfs {r : Row} {L : List Stp} (h5 : r.figs.length ≤ 5) (hL : L.Pairwise Stp.lt) {most : Int} : ∀ (n i : Nat) (all : List RF), Bfs r L most i [] all → 248833 ≤ n + i →
    ∃ i', Bfs r L most i' [] (rfSeek L most n i all) ∧ ∀ f, (rfSeek L most n i all)[i']? = some f → (f.2.length : Int) = most
  | 0, i, all, h, hn => ⟨i, h, fun f hf => by
      have := (List.getElem?_eq_some_iff.1 hf).1
      have hb := h.ok.bound h5
      simp only [rfSeek] at this
      omega⟩
  | n + 1, i, all, h, hn => by
    unfold rfSeek
    cases ho : all[i]? with
    | none => exact ⟨i, h, fun f hf => by simp only at hf; rw [ho] at hf; cases hf⟩
    | some own =>
      simp only
      by_cases e : (own.2.length : Int) = most
      · rw [if_pos e]
        exact ⟨i, h, fun f hf => by rw [ho] at hf; cases hf; exact e⟩
      · rw [if_neg e]
        have h1 := Bfs.fold e L [] all h ho (by simpa using hL) fun s hs => hs
        have h2 : Bfs r L most i L (L.foldl (rfNext own) all) := by simpa using h1.1
        exact rfSeek_bfs h5 hL n (i + 1) _ (h2.done fun f hf => by rw [h1.2] at hf; cases hf; exact e) (by omega)
structure Finds (r : Row) (most : Int) (all : List RF) : Prop where
  ok : RfOk r all
  path : ∀ f ∈ all, r.after f.2 = (f.1, 0) ∧ ∀ s ∈ f.2, s ∈ r.steps
  ord : (all.map (·.2)).Pairwise wlt
  top : 0 ≤ most → ∀ f ∈ all, (f.2.length : Int) ≤ most
  each : ∀ (w : List Stp), (∀ s ∈ w, s ∈ r.steps) → (r.after w).2 = 0 → ((w.length : Int) ≤ most ∨ ∀ f ∈ all, (f.2.length : Int) ≠ most) → ∃ g ∈ all, g.1 = (r.after w).1 ∧ wle g.2 w
theorem rf_finds {r : Row} (hv : r.Valid) (most : Int) : Finds r most (r.rf most) := by
  have h0 : Bfs r r.steps most 0 [] [(r, [])] := by
    refine ⟨rfOk_first hv.has, fun f hf => ?_, by simp, fun k f hk => by omega, fun own _ s hs => by simp at hs, fun f hf => ?_, fun k f hk => by omega, fun hne => absurd rfl hne⟩
    · simp at hf; subst hf; exact ⟨rfl, fun s hs => by simp at hs⟩
    · simp at hf; subst hf; exact .inl rfl
  have hord : r.steps.Pairwise Stp.lt := stepsFrom_ord r r.figs.length 0
  obtain ⟨i, h, hst⟩ := rfSeek_bfs hv.len hord (most := most) 248833 0 _ h0 (by omega)
  have hhead := rf_head r most
  unfold Row.rf at hhead ⊢
  generalize rfSeek r.steps most 248833 0 [(r, [])] = all at *
  have htop : 0 ≤ most → ∀ (j : Nat) (f : RF), all[j]? = some f → (f.2.length : Int) ≤ most := by
    intro h0 j
    induction j using Nat.strongRecOn with
    | _ j ih =>
      intro f hf
      rcases h.src f (List.mem_of_getElem? hf) with e | ⟨k, g, t, hg, e, hk | ⟨_, ht⟩⟩
      · rw [e]; exact h0
      · have hlt : k < j := by
          rcases Nat.lt_trichotomy k j with hlt | rfl | hlt
          · exact hlt
          · rw [hf] at hg; cases hg
            have := congrArg List.length e
            simp only [List.length_append, List.length_cons, List.length_nil] at this
            omega
          · have := wle_len (.inr (ord_at h.ord hlt hf hg))
            rw [e] at this
            simp only [List.length_append, List.length_cons, List.length_nil] at this
            omega
        have h1 := ih k hlt g hg
        have h2 := h.proc k g hk hg
        rw [e]
        simp only [List.length_append, List.length_cons, List.length_nil]
        omega
      · simp at ht
  refine ⟨h.ok, h.path, h.ord, fun h0 f hf => ?_, fun w => ?_⟩
  · obtain ⟨j, hj⟩ := List.mem_iff_getElem?.1 hf
    exact htop h0 j f hj
  generalize hn : w.length = n
  induction n generalizing w with
  | zero =>
    intro _ _ _
    have : w = [] := List.length_eq_zero_iff.1 hn
    subst this
    exact ⟨_, List.mem_of_getElem? hhead, rfl, .inl rfl⟩
  | succ n ih =>
    intro hw hok hm
    have hne : w ≠ [] := by intro e; subst e; simp at hn
    obtain ⟨u, s, rfl⟩ : ∃ u s, w = u ++ [s] := ⟨w.dropLast, w.getLast hne, (List.dropLast_concat_getLast hne).symm⟩
    have hu : u.length = n := by simpa using hn
    obtain ⟨h1, h2, h3⟩ := after_snoc hok
    obtain ⟨g, hg, e1, e2⟩ := ih u hu (fun x hx => hw x (List.mem_append_left _ hx)) h1 (hm.imp (fun h => by omega) id)
    obtain ⟨k, hk⟩ := List.mem_iff_getElem?.1 hg
    have hlen := wle_len e2
    have hki : k < i := by
      by_cases hki : k < i
      · exact hki
      · exfalso
        have hkl := (List.getElem?_eq_some_iff.1 hk).1
        obtain ⟨f, hf⟩ : ∃ f, all[i]? = some f := ⟨all[i]'(by omega), by simp [show i < all.length by omega]⟩
        have hfm := hst f hf
        rcases hm with hm | hm
        · rcases Nat.eq_or_lt_of_le (Nat.le_of_not_lt hki) with e | hlt
          · subst e; rw [hf] at hk; cases hk; omega
          · have := wle_len (.inr (ord_at h.ord hlt hf hk)); omega
        · exact hm f (List.mem_of_getElem? hf) hfm
    rw [← e1] at h2
    obtain ⟨g', hg', e3, e4⟩ := h.closed k g hki hk s (hw s (by simp)) h2
    exact ⟨g', hg', by rw [e3, e1, h3], wle_trans e4 (wle_snoc e2 s)⟩
theorem nodup_sub : ∀ (l m : List Int), l.Nodup → (∀ x ∈ l, x ∈ m) → l.length ≤ m.length
  | [], m, _, _ => Nat.zero_le _
  | x :: l, m, hn, h => by
    obtain ⟨h1, h2⟩ := List.nodup_cons.1 hn
    have hx := h x (List.mem_cons_self ..)
    have := nodup_sub l (m.erase x) h2 fun y hy => (List.mem_erase_of_ne (fun e : y = x => h1 (by rw [← e]; exact hy))).2 (h y (List.mem_cons_of_mem _ hy))
    rw [List.length_erase_of_mem hx] at this
    have hp := List.length_pos_of_mem hx
    simp only [List.length_cons]
    omega
theorem rf_mono {r : Row} (hv : r.Valid) {n m : Nat} (h : n ≤ m) : (r.rf n).length ≤ (r.rf m).length := by
  have F := rf_finds hv (n : Int)
  have G := rf_finds hv (m : Int)
  have := nodup_sub ((r.rf n).map (·.1.look)) ((r.rf m).map (·.1.look)) F.ok.nodup fun x hx => by
    obtain ⟨f, hf, rfl⟩ := List.mem_map.1 hx
    have hp := F.path f hf
    have hl := F.top (by omega) f hf
    obtain ⟨g, hg, e, _⟩ := G.each f.2 hp.2 (by rw [hp.1]) (.inl (by omega))
    rw [hp.1] at e
    exact List.mem_map.2 ⟨g, hg, by rw [e]⟩
  simpa using this
theorem rf_more {r : Row} (hv : r.Valid) (n : Nat) : (r.rf (n + 1 : Nat)).length ≤ 1 + (r.rf n).length * r.steps.length := by
  have F := rf_finds hv (n : Int)
  have G := rf_finds hv ((n + 1 : Nat) : Int)
  have := nodup_sub ((r.rf (n + 1 : Nat)).map (·.1.look)) (r.look :: (r.rf n).flatMap fun g => r.steps.map fun s => (g.1.one s).1.look) G.ok.nodup fun x hx => by
    obtain ⟨f, hf, rfl⟩ := List.mem_map.1 hx
    have hp := G.path f hf
    have hl := G.top (by omega) f hf
    by_cases hne : f.2 = []
    · have h1 := hp.1
      rw [hne] at h1
      have : f.1 = r := by rw [Row.after] at h1; exact (congrArg Prod.fst h1).symm
      rw [this]; exact List.mem_cons_self ..
    · obtain ⟨u, s, e⟩ : ∃ u s, f.2 = u ++ [s] := ⟨f.2.dropLast, f.2.getLast hne, (List.dropLast_concat_getLast hne).symm⟩
      rw [e] at hp hl
      obtain ⟨h1, h2, h3⟩ := after_snoc (by rw [hp.1])
      obtain ⟨g, hg, eg, _⟩ := F.each u (fun s hs => hp.2 s (List.mem_append_left _ hs)) h1 (.inl (by simp at hl; omega))
      refine List.mem_cons_of_mem _ (List.mem_flatMap.2 ⟨g, hg, List.mem_map.2 ⟨s, hp.2 s (by simp), ?_⟩⟩)
      rw [eg]
      have := hp.1.symm.trans h3
      rw [congrArg Prod.fst this]
  have hlen : ∀ l : List RF, (l.flatMap fun g => r.steps.map fun s => (g.1.one s).1.look).length = l.length * r.steps.length := by
    intro l
    induction l with
    | nil => simp
    | cons x l ih => rw [List.flatMap_cons, List.length_append, ih, List.length_map, List.length_cons, Nat.succ_mul]; omega
  rw [List.length_cons, hlen, List.length_map] at this
  omega
theorem rf_zero {r : Row} (hv : r.Valid) : (r.rf 0).length = 1 := by
  have h0 := rf_head r 0
  unfold Row.rf at h0 ⊢
  unfold rfSeek
  rfl
end Go.Proofs.Ytmggofcaeolaiaa
namespace Go.Proofs.Ytmggofcaeolaiaa
open Go.Am Go.Proofs Go
theorem valid41_c (r : Row) (hr : r.small) : PureA Try.prog 41 [rowA r] (boolA (decide (r.check.2.2 = 0))) := by
  have hk := refCheck_c r hr
  unfold triA at hk
  generalize r.check = c at *
  obtain ⟨c1, c2, c3⟩ := c
  simp only at hk ⊢
  refine pureA_codeB tabOk { l := 0, f := 41 } mixed call_41 Try.func41 (by kernel_rfl) ?_
  conv => whnf
  repeat (any_goals (first | exact falseI | (refine brP_dec (fun _ => ?_) (fun _ => ?_) <;> first | (exfalso; omega) | conv => whnf) | (refine brP_ndec (fun _ => ?_) (fun _ => ?_) <;> first | (exfalso; omega) | conv => whnf) | ((first | refine callP_a hk ?_ | refine And.intro (DrawOk.mk (by kernel_rfl)) ?_ | refine okI ?_ | refine brP_true (Nat.beq_refl _) ?_ | refine brP_intro (fun _ => ?_) (fun _ => ?_) | refine bndI ?_ | intro _) <;> conv => whnf)))
  (refine ⟨⟨?_⟩, trivial⟩; rfl)
theorem steps_beside {r : Row} (hv : r.Valid) : r.steps.length ≤ r.beside.length + 1 := by
  rw [← hv.sorted]
  unfold Row.sorted
  split
  · rw [List.length_take]; omega
  · rw [srt, srtI_len]; simp
def reachA (n e : Int) : AV := .tuple [intA n, intA e]
theorem Reach_ok (r : Row) (hr : r.small) (hc : r.check.2.2 = 0) (n : Nat) (hn : n ≤ 20) : PureA Try.prog 30 [rowA r, intA n] (.tuple [intA (r.rf n).length, intA 0]) := by
  have h := Reach_c r hr n (by simp only [inI]; omega)
  rw [reachN_r r hr] at h
  have hw : within (n : Int) 0 20 = true := by unfold within; simp; omega
  unfold Row.rreachN at h
  rw [if_pos hc, if_pos hw] at h
  exact h
set_option maxRecDepth 100000 in
theorem MendReached_c (r : Row) (hr : r.small) (k : Nat) (hk : k ≤ 255) : PureA Try.prog 12 [rowA r, .v (.int .u8 k)] (boolA true) := by
  have hva := valid41_c r hr
  have aw := Awake_c
  by_cases hc : r.check.2.2 = 0
  · have hv := r.valid_iff hc
    rw [decide_eq_true hc] at hva
    have h0 := Reach_ok r hr hc 0 (by omega)
    have h1 := Reach_ok r hr hc (k % 20) (by omega)
    have h2 := Reach_ok r hr hc (k % 20 + 1) (by omega)
    have z0 : (r.rf ((0 : Nat) : Int)).length = 1 := rf_zero hv
    have m0 := rf_mono hv (n := 0) (m := k % 20) (by omega)
    have m1 := rf_mono hv (n := k % 20) (m := k % 20 + 1) (by omega)
    have m2 := rf_more hv (k % 20)
    have hb := (rf_ok hv ((k % 20 : Nat) : Int)).bound hv.len
    have hs := steps_beside hv
    have h10 := hv.ten
    rw [z0] at h0 m0
    generalize (r.rf ((k % 20 : Nat) : Int)).length = N at *
    generalize (r.rf ((k % 20 + 1 : Nat) : Int)).length = M at *
    have hM : M ≤ 1 + N * (r.beside.length + 1) := Nat.le_trans m2 (by have := Nat.mul_le_mul_left N hs; omega)
    have hP : N * (r.beside.length + 1) ≤ 248832 * 11 := Nat.mul_le_mul hb (by omega)
    obtain ⟨P, hPe⟩ : ∃ P, P = N * (r.beside.length + 1) := ⟨_, rfl⟩
    have hT : (k : Int).tmod 20 = ((k % 20 : Nat) : Int) := rfl
    have h1 : PureA Try.prog 30 [rowA r, intA ((k : Int).tmod 20)] (.tuple [intA N, intA 0]) := h1
    have h2 : PureA Try.prog 30 [rowA r, intA ((k : Int).tmod 20 + 1)] (.tuple [intA M, intA 0]) := h2
    have hT1 : 0 ≤ (k : Int).tmod 20 ∧ (k : Int).tmod 20 ≤ 19 := by rw [hT]; omega
    have hPi : (N : Int) * (((r.beside.map stpA).length : Int) + 1) = (P : Int) := by rw [hPe, List.length_map]; rfl
    refine pureA_codeB tabOk { l := 0, f := 12 } mixed call_12 Try.func12 (by kernel_rfl) ?_
    conv => whnf
    repeat (any_goals (first | exact falseI | (refine brP_dec (fun _ => ?_) (fun _ => ?_) <;> first | (exfalso; omega) | conv => whnf) | (refine brP_ndec (fun _ => ?_) (fun _ => ?_) <;> first | (exfalso; omega) | conv => whnf) | ((first | refine callP_a h0 ?_ | refine callP_a hva ?_ | refine callP_a h1 ?_ | refine callP_a h2 ?_ | refine callP_a aw ?_ | refine And.intro (DrawOk.mk (by kernel_rfl)) ?_ | refine okI ?_ | refine brP_true (Nat.beq_refl _) ?_ | refine brP_intro (fun _ => ?_) (fun _ => ?_) | refine bndI ?_ | intro _) <;> conv => whnf)))
    all_goals first | ((refine ⟨⟨?_⟩, trivial⟩; rfl)) | skip
  · rw [decide_eq_false hc] at hva
    have h0 := Reach_c r hr 0 (by decide)
    unfold Row.reachN at h0
    rw [if_neg hc] at h0
    generalize r.check = c at *
    obtain ⟨c1, c2, c3⟩ := c
    simp only at hc h0
    refine pureA_codeB tabOk { l := 0, f := 12 } mixed call_12 Try.func12 (by kernel_rfl) ?_
    conv => whnf
    repeat (any_goals (first | exact falseI | (refine brP_dec (fun _ => ?_) (fun _ => ?_) <;> first | (exfalso; omega) | conv => whnf) | (refine brP_ndec (fun _ => ?_) (fun _ => ?_) <;> first | (exfalso; omega) | conv => whnf) | ((first | refine callP_a h0 ?_ | refine callP_a hva ?_ | refine callP_a aw ?_ | refine And.intro (DrawOk.mk (by kernel_rfl)) ?_ | refine okI ?_ | refine brP_true (Nat.beq_refl _) ?_ | refine brP_intro (fun _ => ?_) (fun _ => ?_) | refine bndI ?_ | intro _) <;> conv => whnf)))
    all_goals first | ((refine ⟨⟨?_⟩, trivial⟩; rfl)) | skip
end Go.Proofs.Ytmggofcaeolaiaa
namespace Go.Proofs.Ytmggofcaeolaiaa
open Go.Am Go.Proofs Go
theorem one_ok_step {r q : Row} (hv : r.Valid) (hk : r.Kept q) {s : Stp} (h : (q.one s).2 = 0) : s ∈ r.steps := by
  rw [hv.mem_steps]
  unfold Row.one at h
  split at h
  · rename_i hc
    obtain ⟨a, b⟩ := s
    simp only [hk.bench] at hc
    refine .inr ⟨?_, hc.2.2⟩
    rw [Stp.mk.injEq]
    exact ⟨hc.1, hc.2.1⟩
  · split at h
    · rename_i hc
      rw [hk.beside] at hc
      obtain ⟨x, hx, e⟩ := List.any_eq_true.1 hc
      have e : s = x := by simpa using e
      exact .inl (e ▸ hx)
    · simp at h
theorem after_steps {r : Row} (hv : r.Valid) : ∀ (w : List Stp) (q : Row), r.Kept q → (q.after w).2 = 0 → ∀ s ∈ w, s ∈ r.steps
  | [], q, _, _, s, hs => by simp at hs
  | x :: w, q, hk, h, s, hs => by
    simp only [Row.after] at h
    by_cases h1 : (q.one x).2 = 0
    · rw [if_pos h1] at h
      rcases List.mem_cons.1 hs with e | hs
      · subst e; exact one_ok_step hv hk h1
      · exact after_steps hv w _ (hk.trans (q.one_kept x)) h s hs
    · rw [if_neg h1] at h; exact absurd h h1
theorem full_each {r : Row} (hv : r.Valid) (hr : r.small) (w : List Stp) (h : (r.after w).2 = 0) : ∃ g ∈ r.rf 100000, g.1 = (r.after w).1 ∧ wle g.2 w := by
  have F := rf_finds hv 100000
  obtain ⟨hI, S⟩ := reach1 hv hr
  have hb := hI.bound hv.parts.1
  refine F.each w (after_steps hv w r (.refl r) h) h (.inr fun f hf => ?_)
  have := F.ok.many f hf
  rw [S.len] at this
  omega
structure IsFew (r : Row) (l : List Stp) : Prop where
  can : (r.after l).2 = 0
  good : (r.after l).1.bad.length = 0
  least : ∀ w, (r.after w).2 = 0 → (r.after w).1.bad.length = 0 → wle l w
theorem rfew_spec {r : Row} (hc : r.check.2.2 = 0) (hr : r.small) : (r.rfew.2 = 0 ∧ IsFew r r.rfew.1) ∨ (r.rfew = ([], 9) ∧ ∀ w, (r.after w).2 = 0 → (r.after w).1.bad.length ≠ 0) := by
  have hv := r.valid_iff hc
  have F := rf_finds hv 100000
  have E := fun w h => full_each hv hr w h
  unfold Row.rfew
  rw [if_pos hc]
  generalize r.rf 100000 = all at *
  unfold rfewF
  cases hf : all.find? (fun f => decide (f.1.bad.length = 0)) with
  | none =>
    refine .inr ⟨rfl, fun w h hb => ?_⟩
    obtain ⟨g, hg, e, _⟩ := E w h
    have := List.find?_eq_none.1 hf g hg
    rw [e] at this
    simp [hb] at this
  | some f =>
    refine .inl ⟨rfl, ?_⟩
    have hfm := List.mem_of_find?_eq_some hf
    have hfb := List.find?_some hf
    have hp := (F.path f hfm).1
    refine ⟨by rw [hp], by rw [hp]; simpa using hfb, fun w h hb => ?_⟩
    obtain ⟨g, hg, e, hle⟩ := E w h
    refine wle_trans ?_ hle
    obtain ⟨_, xs, ys, he, hno⟩ := List.find?_eq_some_iff_append.1 hf
    rw [he] at hg
    rcases List.mem_append.1 hg with h1 | h1
    · have := hno g h1
      rw [e] at this
      simp [hb] at this
    · rcases List.mem_cons.1 h1 with h1 | h1
      · rw [h1]; exact .inl rfl
      · have ho := F.ord
        rw [he, List.map_append, List.map_cons] at ho
        have := (List.pairwise_append.1 ho).2.1
        exact .inr ((List.pairwise_cons.1 this).1 g.2 (List.mem_map.2 ⟨g, h1, rfl⟩))
theorem bestP_le : ∀ (l : List (Int × Int)) (a : Int × Int), (bestP a l).1 ≤ a.1 ∧ ∀ x ∈ l, (bestP a l).1 ≤ x.1
  | [], a => ⟨Int.le_refl _, fun x hx => by simp at hx⟩
  | y :: l, a => by
    have ih := bestP_le l (if y.1 < a.1 then y else a)
    simp only [bestP]
    by_cases h : y.1 < a.1
    · rw [if_pos h] at ih ⊢
      exact ⟨by omega, fun x hx => by
        rcases List.mem_cons.1 hx with e | hx
        · subst e; exact ih.1
        · exact ih.2 x hx⟩
    · rw [if_neg h] at ih ⊢
      exact ⟨ih.1, fun x hx => by
        rcases List.mem_cons.1 hx with e | hx
        · subst e; omega
        · exact ih.2 x hx⟩
theorem bestP_mem : ∀ (l : List (Int × Int)) (a : Int × Int), bestP a l ∈ a :: l
  | [], a => by simp [bestP]
  | y :: l, a => by
    have ih := bestP_mem l (if y.1 < a.1 then y else a)
    simp only [bestP]
    rcases List.mem_cons.1 ih with e | h
    · rw [e]; split <;> simp
    · exact List.mem_cons_of_mem _ (List.mem_cons_of_mem _ h)
theorem bestP_first : ∀ (l : List (Int × Int)) (a : Int × Int), (a :: l).Pairwise (fun x y => x.2 ≤ y.2) → ∀ x ∈ a :: l, x.1 = (bestP a l).1 → (bestP a l).2 ≤ x.2
  | [], a, _, x, hx, _ => by simp at hx; subst hx; exact Int.le_refl _
  | y :: l, a, hp, x, hx, he => by
    obtain ⟨h1, h2⟩ := List.pairwise_cons.1 hp
    simp only [bestP] at he ⊢
    by_cases h : y.1 < a.1
    · rw [if_pos h] at he ⊢
      rcases List.mem_cons.1 hx with e | hx
      · subst e
        have := (bestP_le l y).1
        omega
      · exact bestP_first l y h2 x hx he
    · rw [if_neg h] at he ⊢
      have hp' : (a :: l).Pairwise (fun x y => x.2 ≤ y.2) := List.pairwise_cons.2 ⟨fun z hz => h1 z (List.mem_cons_of_mem _ hz), (List.pairwise_cons.1 h2).2⟩
      rcases List.mem_cons.1 hx with e | hx
      · subst e; exact bestP_first l x hp' x (List.mem_cons_self ..) he
      · rcases List.mem_cons.1 hx with e | hx
        · subst e
          have h3 := (bestP_le l a).1
          have h4 : a.1 = (bestP a l).1 := by omega
          have := bestP_first l a hp' a (List.mem_cons_self ..) h4
          have := h1 x (List.mem_cons_self ..)
          omega
        · exact bestP_first l a hp' x (List.mem_cons_of_mem _ hx) he
structure IsMost (r : Row) (m : Int × Int × Int) : Prop where
  ok : m.2.2 = 0
  some_ : ∃ w, (r.after w).2 = 0 ∧ ((r.after w).1.bad.length : Int) = m.1 ∧ (w.length : Int) = m.2.1
  least : ∀ w, (r.after w).2 = 0 → m.1 ≤ (r.after w).1.bad.length ∧ (((r.after w).1.bad.length : Int) = m.1 → m.2.1 ≤ w.length)
theorem rmost_spec {r : Row} (hc : r.check.2.2 = 0) (hr : r.small) : IsMost r r.rmost := by
  have hv := r.valid_iff hc
  have F := rf_finds hv 100000
  have E := fun w h => full_each hv hr w h
  have h0 := rf_head r 100000
  unfold Row.rmost
  rw [if_pos hc]
  generalize r.rf 100000 = all at *
  obtain ⟨l, rfl⟩ : ∃ l, all = (r, []) :: l := by
    cases all with
    | nil => simp at h0
    | cons x l => simp at h0; exact ⟨l, by rw [h0]⟩
  have e : (((r, []) :: l : List RF).map num2).drop 1 = l.map num2 := rfl
  rw [e]
  have hmap : ((r.bad.length : Int), (0 : Int)) :: l.map num2 = ((r, []) :: l : List RF).map num2 := rfl
  have hord : (((r.bad.length : Int), (0 : Int)) :: l.map num2).Pairwise (fun x y => x.2 ≤ y.2) := by
    rw [hmap, List.pairwise_map]
    have := F.ord
    rw [List.pairwise_map] at this
    exact this.imp fun h => by
      have := wle_len (.inr h)
      simp only [num2]; omega
  refine ⟨rfl, ?_, fun w h => ?_⟩
  · have := bestP_mem (l.map num2) ((r.bad.length : Int), 0)
    rw [hmap] at this
    obtain ⟨f, hf, e⟩ := List.mem_map.1 this
    have hp := (F.path f hf).1
    refine ⟨f.2, by rw [hp], ?_, ?_⟩
    · rw [hp, ← e]; rfl
    · rw [← e]; rfl
  · obtain ⟨g, hg, eg, hle⟩ := E w h
    have hgm : num2 g ∈ ((r.bad.length : Int), (0 : Int)) :: l.map num2 := by rw [hmap]; exact List.mem_map.2 ⟨g, hg, rfl⟩
    have h1 : (bestP ((r.bad.length : Int), 0) (l.map num2)).1 ≤ (num2 g).1 := by
      rcases List.mem_cons.1 hgm with e | hm
      · rw [e]; exact (bestP_le _ _).1
      · exact (bestP_le _ _).2 _ hm
    have e1 : (num2 g).1 = ((r.after w).1.bad.length : Int) := by rw [← eg]; rfl
    rw [e1] at h1
    refine ⟨h1, fun he => ?_⟩
    have h2 := bestP_first _ _ hord (num2 g) hgm (by rw [e1]; exact he)
    have h3 := wle_len hle
    have h4 : (num2 g).2 = (g.2.length : Int) := rfl
    simp only at h2 ⊢
    omega
end Go.Proofs.Ytmggofcaeolaiaa
namespace Go.Proofs.Ytmggofcaeolaiaa
open Go.Am Go.Proofs Go
structure Sub (u v : Row) : Prop where
  figs : v.figs = u.figs
  bench : v.bench = u.bench
  beside : ∀ t : Stp, u.beside.any (t == ·) = true → v.beside.any (t == ·) = true
theorem Sub.one {u v : Row} (h : Sub u v) {t : Stp} (ho : (u.one t).2 = 0) : (v.one t).2 = 0 ∧ Sub (u.one t).1 (v.one t).1 := by
  unfold Row.one at ho ⊢
  rw [h.bench, h.figs]
  split at ho
  · rename_i hc
    rw [if_pos hc, if_pos hc]
    split at ho
    · rename_i hb
      rw [if_pos hb, if_pos hb]
      exact ⟨rfl, rfl, rfl, h.beside⟩
    · simp at ho
  · rename_i hc
    rw [if_neg hc, if_neg hc]
    split at ho
    · rename_i hb
      rw [if_pos hb, if_pos (h.beside t hb)]
      exact ⟨rfl, rfl, rfl, h.beside⟩
    · simp at ho
theorem Sub.after : ∀ {w : List Stp} {u v : Row}, Sub u v → (u.after w).2 = 0 → (v.after w).2 = 0 ∧ (v.after w).1.figs = (u.after w).1.figs
  | [], u, v, h, _ => ⟨rfl, h.figs⟩
  | t :: w, u, v, h, ho => by
    simp only [Row.after] at ho ⊢
    by_cases h1 : (u.one t).2 = 0
    · obtain ⟨h2, h3⟩ := h.one h1
      rw [if_pos h1] at ho ⊢
      rw [if_pos h2]
      exact h3.after ho
    · rw [if_neg h1] at ho; exact absurd ho h1
theorem plus_sub (r : Row) (s : Stp) : Sub r (r.plus s) := by
  unfold Row.plus
  split
  · exact ⟨rfl, rfl, fun t h => h⟩
  · exact ⟨rfl, rfl, fun t h => by
      obtain ⟨x, hx, e⟩ := List.any_eq_true.1 h
      exact List.any_eq_true.2 ⟨x, List.mem_append_left _ hx, e⟩⟩
theorem bad_figs {a b : Row} (h : a.figs = b.figs) : a.bad = b.bad := by unfold Row.bad; rw [h]
theorem most_few {q : Row} (hc : q.check.2.2 = 0) (hq : q.small) (hf : q.rfew.2 = 0) : q.rmost = (0, (q.rfew.1.length : Int), 0) := by
  have hM := rmost_spec hc hq
  rcases rfew_spec hc hq with ⟨_, hF⟩ | ⟨e, _⟩
  · obtain ⟨h1, h2⟩ := hM.least _ hF.can
    obtain ⟨w, hw, hw1, hw2⟩ := hM.some_
    have hok := hM.ok
    generalize q.rmost = M at *
    obtain ⟨M1, M2, M3⟩ := M
    simp only at *
    have hg := hF.good
    have e1 : M1 = 0 := by omega
    have h3 := hF.least w hw (by omega)
    have h4 := wle_len h3
    have h5 := h2 (by omega)
    rw [e1, hok, show M2 = (q.rfew.1.length : Int) by omega]
  · rw [e] at hf; simp at hf
theorem saved {r : Row} (hc : r.check.2.2 = 0) (hr : r.small) {a b : Int} (ho : (outside 0 r.last a || outside 0 r.last b) = false) (hlt : ¬ b ≤ a) (hf : r.rfew.2 = 0) :
    (r.plus ⟨a, b⟩).rfew.2 = 0 ∧ (r.plus ⟨a, b⟩).rfew.1.length ≤ r.rfew.1.length := by
  have hv := r.valid_iff hc
  have hc2 := plus_check hc ho hlt
  have hr2 := Row.plus_small hr hv.ten ⟨a, b⟩
  have hs := plus_sub r ⟨a, b⟩
  rcases rfew_spec hc hr with ⟨_, hF⟩ | ⟨e, _⟩
  · obtain ⟨h1, h2⟩ := hs.after hF.can
    have h3 : ((r.plus ⟨a, b⟩).after r.rfew.1).1.bad.length = 0 := by rw [bad_figs h2]; exact hF.good
    rcases rfew_spec hc2 hr2 with ⟨e, hG⟩ | ⟨_, hn⟩
    · exact ⟨e, wle_len (hG.least _ h1 h3)⟩
    · exact absurd h3 (hn _ h1)
  · rw [e] at hf; simp at hf
theorem plus_has {r : Row} {s : Stp} (h : r.beside.any (s == ·) = true) : r.plus s = r := by
  unfold Row.plus; rw [if_pos h]
end Go.Proofs.Ytmggofcaeolaiaa
namespace Go.Proofs.Ytmggofcaeolaiaa
open Go.Am Go.Proofs Go
theorem Gain_r (r : Row) (hr : r.small) (a b : Int) : PureA Try.prog 32 [rowA r, intA a, intA b] (.tuple [intA (r.rgain a b).1, intA (r.rgain a b).2]) := by
  have := Gain_c r hr a b
  rw [gain_r r hr a b] at this
  exact this
theorem Few_r (r : Row) (hr : r.small) : PureA Try.prog 25 [rowA r] (.tuple [stpsA r.rfew.1, intA r.rfew.2]) := by
  have := Few_c r hr
  rw [few_rfew r hr] at this
  exact this
theorem Most_r (r : Row) (hr : r.small) : PureA Try.prog 28 [rowA r] (.tuple [intA r.rmost.1, intA r.rmost.2.1, intA r.rmost.2.2]) := by
  have := Most_c r hr
  rw [most_rmost r hr] at this
  exact this
theorem tmod_two {m n : Int} (h0 : 0 ≤ m) (h2 : 2 ≤ n) (h5 : n ≤ 5) (hm : m < 2 * n) : (m.tmod n = m ∧ m < n) ∨ (m.tmod n = m - n ∧ n ≤ m) := by
  rw [Int.tmod_eq_emod_of_nonneg h0]
  have h : n = 2 ∨ n = 3 ∨ n = 4 ∨ n = 5 := by omega
  rcases h with rfl | rfl | rfl | rfl <;> omega
set_option maxRecDepth 100000 in
theorem MendSaved_c (r : Row) (hr : r.small) (x y : Nat) (hx : x ≤ 255) (hy : y ≤ 255) : PureA Try.prog 13 [rowA r, .agg [.v (.int .u8 x), .v (.int .u8 y)]] (boolA true) := by
  have hva := valid41_c r hr
  have aw := Awake_c
  have hg := Gain_r r hr
  have hsm := hr.1
  by_cases hc : r.check.2.2 = 0
  · have hv := r.valid_iff hc
    have h5 := check_len hc
    rw [decide_eq_true hc] at hva
    by_cases h2 : r.figs.length < 2
    · have h0 := hg 0 1
      have he : r.rgain 0 1 = (0, 4) := by
        unfold Row.rgain
        rw [if_pos hc, if_pos]
        have : outside 0 r.last 1 = true := by unfold outside Row.last; simp; omega
        rw [this]; simp
      rw [he] at h0
      have hln : (r.figs.map figA).length < 2 := by rw [List.length_map]; exact h2
      refine pureA_codeB tabOk { l := 0, f := 13 } mixed call_13 Try.func13 (by kernel_rfl) ?_
      conv => whnf
      repeat (any_goals (first | exact falseI | (refine brP_dec (fun _ => ?_) (fun _ => ?_) <;> first | (exfalso; omega) | conv => whnf) | (refine brP_ndec (fun _ => ?_) (fun _ => ?_) <;> first | (exfalso; omega) | conv => whnf) | ((first | refine callP_a hva ?_ | refine callP_a h0 ?_ | refine callP_a aw ?_ | refine And.intro (DrawOk.mk (by kernel_rfl)) ?_ | refine okI ?_ | refine brP_true (Nat.beq_refl _) ?_ | refine brP_intro (fun _ => ?_) (fun _ => ?_) | refine bndI ?_ | intro _) <;> conv => whnf)))
      all_goals first | ((refine ⟨⟨?_⟩, trivial⟩; rfl)) | skip
    · have h2 : 2 ≤ r.figs.length := by omega
      have hln : 2 ≤ ((r.figs.map figA).length : Int) := by rw [List.length_map]; omega
      have hl5 : ((r.figs.map figA).length : Int) ≤ 5 := by rw [List.length_map]; omega
      have hll : r.last = ((r.figs.map figA).length : Int) - 1 := by simp [Row.last]
      have hA : 0 ≤ ((x : Int).tmod ((r.figs.map figA).length : Int)) ∧ ((x : Int).tmod ((r.figs.map figA).length : Int)) < ((r.figs.map figA).length : Int) := ⟨Int.tmod_nonneg _ (by omega), Int.tmod_lt_of_pos _ (by omega)⟩
      have hB : 0 ≤ ((y : Int).tmod (((r.figs.map figA).length : Int) - 1)) ∧ ((y : Int).tmod (((r.figs.map figA).length : Int) - 1)) < ((r.figs.map figA).length : Int) - 1 := ⟨Int.tmod_nonneg _ (by omega), Int.tmod_lt_of_pos _ (by omega)⟩
      have hC := tmod_two (m := ((x : Int).tmod ((r.figs.map figA).length : Int)) + 1 + ((y : Int).tmod (((r.figs.map figA).length : Int) - 1))) (n := ((r.figs.map figA).length : Int)) (by omega) hln hl5 (by omega)
      have hG := hg (min ((x : Int).tmod ((r.figs.map figA).length : Int)) ((((x : Int).tmod ((r.figs.map figA).length : Int)) + 1 + ((y : Int).tmod (((r.figs.map figA).length : Int) - 1))).tmod ((r.figs.map figA).length : Int))) (max ((x : Int).tmod ((r.figs.map figA).length : Int)) ((((x : Int).tmod ((r.figs.map figA).length : Int)) + 1 + ((y : Int).tmod (((r.figs.map figA).length : Int) - 1))).tmod ((r.figs.map figA).length : Int)))
      have hP := with49_c r hr (min ((x : Int).tmod ((r.figs.map figA).length : Int)) ((((x : Int).tmod ((r.figs.map figA).length : Int)) + 1 + ((y : Int).tmod (((r.figs.map figA).length : Int) - 1))).tmod ((r.figs.map figA).length : Int))) (max ((x : Int).tmod ((r.figs.map figA).length : Int)) ((((x : Int).tmod ((r.figs.map figA).length : Int)) + 1 + ((y : Int).tmod (((r.figs.map figA).length : Int) - 1))).tmod ((r.figs.map figA).length : Int)))
      have hH := has_c r.beside ⟨min ((x : Int).tmod ((r.figs.map figA).length : Int)) ((((x : Int).tmod ((r.figs.map figA).length : Int)) + 1 + ((y : Int).tmod (((r.figs.map figA).length : Int) - 1))).tmod ((r.figs.map figA).length : Int)), max ((x : Int).tmod ((r.figs.map figA).length : Int)) ((((x : Int).tmod ((r.figs.map figA).length : Int)) + 1 + ((y : Int).tmod (((r.figs.map figA).length : Int) - 1))).tmod ((r.figs.map figA).length : Int))⟩ hr.2.1
      have hps := Row.plus_small hr hv.ten ⟨min ((x : Int).tmod ((r.figs.map figA).length : Int)) ((((x : Int).tmod ((r.figs.map figA).length : Int)) + 1 + ((y : Int).tmod (((r.figs.map figA).length : Int) - 1))).tmod ((r.figs.map figA).length : Int)), max ((x : Int).tmod ((r.figs.map figA).length : Int)) ((((x : Int).tmod ((r.figs.map figA).length : Int)) + 1 + ((y : Int).tmod (((r.figs.map figA).length : Int) - 1))).tmod ((r.figs.map figA).length : Int))⟩
      have hF := Few_r r hr
      have hQ := Few_r _ hps
      have hM := Most_r _ hps
      have hab : 0 ≤ min ((x : Int).tmod ((r.figs.map figA).length : Int)) ((((x : Int).tmod ((r.figs.map figA).length : Int)) + 1 + ((y : Int).tmod (((r.figs.map figA).length : Int) - 1))).tmod ((r.figs.map figA).length : Int)) ∧ min ((x : Int).tmod ((r.figs.map figA).length : Int)) ((((x : Int).tmod ((r.figs.map figA).length : Int)) + 1 + ((y : Int).tmod (((r.figs.map figA).length : Int) - 1))).tmod ((r.figs.map figA).length : Int)) < max ((x : Int).tmod ((r.figs.map figA).length : Int)) ((((x : Int).tmod ((r.figs.map figA).length : Int)) + 1 + ((y : Int).tmod (((r.figs.map figA).length : Int) - 1))).tmod ((r.figs.map figA).length : Int)) ∧ max ((x : Int).tmod ((r.figs.map figA).length : Int)) ((((x : Int).tmod ((r.figs.map figA).length : Int)) + 1 + ((y : Int).tmod (((r.figs.map figA).length : Int) - 1))).tmod ((r.figs.map figA).length : Int)) ≤ r.last := by rw [hll]; omega
      have ho : (outside 0 r.last (min ((x : Int).tmod ((r.figs.map figA).length : Int)) ((((x : Int).tmod ((r.figs.map figA).length : Int)) + 1 + ((y : Int).tmod (((r.figs.map figA).length : Int) - 1))).tmod ((r.figs.map figA).length : Int))) || outside 0 r.last (max ((x : Int).tmod ((r.figs.map figA).length : Int)) ((((x : Int).tmod ((r.figs.map figA).length : Int)) + 1 + ((y : Int).tmod (((r.figs.map figA).length : Int) - 1))).tmod ((r.figs.map figA).length : Int)))) = false := by
        rw [Bool.or_eq_false_iff, outside_false, outside_false]; omega
      have hlt : ¬ max ((x : Int).tmod ((r.figs.map figA).length : Int)) ((((x : Int).tmod ((r.figs.map figA).length : Int)) + 1 + ((y : Int).tmod (((r.figs.map figA).length : Int) - 1))).tmod ((r.figs.map figA).length : Int)) ≤ min ((x : Int).tmod ((r.figs.map figA).length : Int)) ((((x : Int).tmod ((r.figs.map figA).length : Int)) + 1 + ((y : Int).tmod (((r.figs.map figA).length : Int) - 1))).tmod ((r.figs.map figA).length : Int)) := by omega
      have hpc := plus_check hc ho hlt
      have hsv := saved hc hr ho hlt
      have hmf := most_few hpc hps
      have hhas := plus_has (r := r) (s := ⟨min ((x : Int).tmod ((r.figs.map figA).length : Int)) ((((x : Int).tmod ((r.figs.map figA).length : Int)) + 1 + ((y : Int).tmod (((r.figs.map figA).length : Int) - 1))).tmod ((r.figs.map figA).length : Int)), max ((x : Int).tmod ((r.figs.map figA).length : Int)) ((((x : Int).tmod ((r.figs.map figA).length : Int)) + 1 + ((y : Int).tmod (((r.figs.map figA).length : Int) - 1))).tmod ((r.figs.map figA).length : Int))⟩)
      have hge : r.rgain (min ((x : Int).tmod ((r.figs.map figA).length : Int)) ((((x : Int).tmod ((r.figs.map figA).length : Int)) + 1 + ((y : Int).tmod (((r.figs.map figA).length : Int) - 1))).tmod ((r.figs.map figA).length : Int))) (max ((x : Int).tmod ((r.figs.map figA).length : Int)) ((((x : Int).tmod ((r.figs.map figA).length : Int)) + 1 + ((y : Int).tmod (((r.figs.map figA).length : Int) - 1))).tmod ((r.figs.map figA).length : Int))) = if r.rfew.2 = 0 then ((r.rfew.1.length : Int) - (r.plus ⟨min ((x : Int).tmod ((r.figs.map figA).length : Int)) ((((x : Int).tmod ((r.figs.map figA).length : Int)) + 1 + ((y : Int).tmod (((r.figs.map figA).length : Int) - 1))).tmod ((r.figs.map figA).length : Int)), max ((x : Int).tmod ((r.figs.map figA).length : Int)) ((((x : Int).tmod ((r.figs.map figA).length : Int)) + 1 + ((y : Int).tmod (((r.figs.map figA).length : Int) - 1))).tmod ((r.figs.map figA).length : Int))⟩).rfew.1.length, 0) else (0, r.rfew.2) := by
        unfold Row.rgain
        rw [if_pos hc, if_neg (by rw [ho]; simp), if_neg hlt]
      rw [hge] at hG
      generalize hq : r.plus ⟨min ((x : Int).tmod ((r.figs.map figA).length : Int)) ((((x : Int).tmod ((r.figs.map figA).length : Int)) + 1 + ((y : Int).tmod (((r.figs.map figA).length : Int) - 1))).tmod ((r.figs.map figA).length : Int)), max ((x : Int).tmod ((r.figs.map figA).length : Int)) ((((x : Int).tmod ((r.figs.map figA).length : Int)) + 1 + ((y : Int).tmod (((r.figs.map figA).length : Int) - 1))).tmod ((r.figs.map figA).length : Int))⟩ = q at *
      by_cases hf : r.rfew.2 = 0
      · obtain ⟨hf2, hle⟩ := hsv hf
        rw [hmf hf2] at hM
        rw [if_pos hf] at hG
        rw [hf] at hF
        rw [hf2] at hQ
        simp only at hG hF hQ hM
        have hhas : r.beside.any ((⟨min ((x : Int).tmod ((r.figs.map figA).length : Int)) ((((x : Int).tmod ((r.figs.map figA).length : Int)) + 1 + ((y : Int).tmod (((r.figs.map figA).length : Int) - 1))).tmod ((r.figs.map figA).length : Int)), max ((x : Int).tmod ((r.figs.map figA).length : Int)) ((((x : Int).tmod ((r.figs.map figA).length : Int)) + 1 + ((y : Int).tmod (((r.figs.map figA).length : Int) - 1))).tmod ((r.figs.map figA).length : Int))⟩ : Stp) == ·) = true → q.rfew.1 = r.rfew.1 := fun h => by rw [hhas h]
        have hfl := rfew_len r
        clear hmf hsv hge hpc hq
        generalize q.rfew.1 = P1 at *
        generalize r.rfew.1 = F1 at *
        have e1 : (F1.map stpA).length = F1.length := List.length_map _
        have e2 : (P1.map stpA).length = P1.length := List.length_map _
        have hG : PureA Try.prog 32 [rowA r, intA (min ((x : Int).tmod ((r.figs.map figA).length : Int)) ((((x : Int).tmod ((r.figs.map figA).length : Int)) + 1 + ((y : Int).tmod (((r.figs.map figA).length : Int) - 1))).tmod ((r.figs.map figA).length : Int))), intA (max ((x : Int).tmod ((r.figs.map figA).length : Int)) ((((x : Int).tmod ((r.figs.map figA).length : Int)) + 1 + ((y : Int).tmod (((r.figs.map figA).length : Int) - 1))).tmod ((r.figs.map figA).length : Int)))] (.tuple [intA (((F1.map stpA).length : Int) - (P1.map stpA).length), intA 0]) := by rw [e1, e2]; exact hG
        have hM : PureA Try.prog 28 [rowA q] (.tuple [intA 0, intA ((P1.map stpA).length : Int), intA 0]) := by rw [e2]; exact hM
        have hle : (P1.map stpA).length ≤ (F1.map stpA).length := by rw [e1, e2]; exact hle
        have hFl : (F1.map stpA).length ≤ 248832 := by rw [e1]; exact hfl
        generalize r.beside.any ((⟨min ((x : Int).tmod ((r.figs.map figA).length : Int)) ((((x : Int).tmod ((r.figs.map figA).length : Int)) + 1 + ((y : Int).tmod (((r.figs.map figA).length : Int) - 1))).tmod ((r.figs.map figA).length : Int)), max ((x : Int).tmod ((r.figs.map figA).length : Int)) ((((x : Int).tmod ((r.figs.map figA).length : Int)) + 1 + ((y : Int).tmod (((r.figs.map figA).length : Int) - 1))).tmod ((r.figs.map figA).length : Int))⟩ : Stp) == ·) = w at *
        cases w
        · refine pureA_codeB tabOk { l := 0, f := 13 } mixed call_13 Try.func13 (by kernel_rfl) ?_
          conv => whnf
          repeat (any_goals (first | exact falseI | (refine brP_dec (fun _ => ?_) (fun _ => ?_) <;> first | (exfalso; omega) | conv => whnf) | (refine brP_ndec (fun _ => ?_) (fun _ => ?_) <;> first | (exfalso; omega) | conv => whnf) | ((first | refine callP_a hva ?_ | refine callP_a hG ?_ | refine callP_a hF ?_ | refine callP_a hP ?_ | refine callP_a hQ ?_ | refine callP_a hM ?_ | refine callP_a hH ?_ | refine callP_a aw ?_ | refine And.intro (DrawOk.mk (by kernel_rfl)) ?_ | refine okI ?_ | refine brP_true (Nat.beq_refl _) ?_ | refine brP_intro (fun _ => ?_) (fun _ => ?_) | refine bndI ?_ | intro _) <;> conv => whnf)))
          all_goals first | ((refine ⟨⟨?_⟩, trivial⟩; rfl)) | skip
        · have := hhas rfl
          subst this
          refine pureA_codeB tabOk { l := 0, f := 13 } mixed call_13 Try.func13 (by kernel_rfl) ?_
          conv => whnf
          repeat (any_goals (first | exact falseI | (refine brP_dec (fun _ => ?_) (fun _ => ?_) <;> first | (exfalso; omega) | conv => whnf) | (refine brP_ndec (fun _ => ?_) (fun _ => ?_) <;> first | (exfalso; omega) | conv => whnf) | ((first | refine callP_a hva ?_ | refine callP_a hG ?_ | refine callP_a hF ?_ | refine callP_a hP ?_ | refine callP_a hQ ?_ | refine callP_a hM ?_ | refine callP_a hH ?_ | refine callP_a aw ?_ | refine And.intro (DrawOk.mk (by kernel_rfl)) ?_ | refine okI ?_ | refine brP_true (Nat.beq_refl _) ?_ | refine brP_intro (fun _ => ?_) (fun _ => ?_) | refine bndI ?_ | intro _) <;> conv => whnf)))
          all_goals first | ((refine ⟨⟨?_⟩, trivial⟩; rfl)) | skip
      · rcases rfew_spec hc hr with ⟨e, _⟩ | ⟨e, _⟩
        · exact absurd e hf
        · rw [if_neg hf, e] at hG
          rw [e] at hF
          simp only at hG hF
          refine pureA_codeB tabOk { l := 0, f := 13 } mixed call_13 Try.func13 (by kernel_rfl) ?_
          conv => whnf
          repeat (any_goals (first | exact falseI | (refine brP_dec (fun _ => ?_) (fun _ => ?_) <;> first | (exfalso; omega) | conv => whnf) | (refine brP_ndec (fun _ => ?_) (fun _ => ?_) <;> first | (exfalso; omega) | conv => whnf) | ((first | refine callP_a hva ?_ | refine callP_a hG ?_ | refine callP_a hF ?_ | refine callP_a aw ?_ | refine And.intro (DrawOk.mk (by kernel_rfl)) ?_ | refine okI ?_ | refine brP_true (Nat.beq_refl _) ?_ | refine brP_intro (fun _ => ?_) (fun _ => ?_) | refine bndI ?_ | intro _) <;> conv => whnf)))
          all_goals first | ((refine ⟨⟨?_⟩, trivial⟩; rfl)) | skip
  · have h0 := hg 0 1
    have he : r.rgain 0 1 = (0, r.check.2.2) := by
      unfold Row.rgain
      rw [if_neg hc]
    rw [he] at h0
    rw [decide_eq_false hc] at hva
    generalize r.check = c at *
    obtain ⟨c1, c2, c3⟩ := c
    simp only at hc h0
    refine pureA_codeB tabOk { l := 0, f := 13 } mixed call_13 Try.func13 (by kernel_rfl) ?_
    conv => whnf
    repeat (any_goals (first | exact falseI | (refine brP_dec (fun _ => ?_) (fun _ => ?_) <;> first | (exfalso; omega) | conv => whnf) | (refine brP_ndec (fun _ => ?_) (fun _ => ?_) <;> first | (exfalso; omega) | conv => whnf) | ((first | refine callP_a hva ?_ | refine callP_a h0 ?_ | refine callP_a aw ?_ | refine And.intro (DrawOk.mk (by kernel_rfl)) ?_ | refine okI ?_ | refine brP_true (Nat.beq_refl _) ?_ | refine brP_intro (fun _ => ?_) (fun _ => ?_) | refine bndI ?_ | intro _) <;> conv => whnf)))
    all_goals first | ((refine ⟨⟨?_⟩, trivial⟩; rfl)) | skip
end Go.Proofs.Ytmggofcaeolaiaa
