/- Layer 11: MendSaved returns true for every row of bulk at most 1048576 and every pair of numbers, and leaves its arguments as they were. -/
import Derived.Test.YtmggofcaeolaiaaA7
set_option linter.unusedVariables false
set_option linter.unusedSimpArgs false
namespace Go.Proofs.Ytmggofcaeolaiaa.mendSaved
open Go.Am Go.Proofs Go Go.ChangeShapes Go.WideShapes Go.ChangeAt Go.RowKit
set_option linter.unusedVariables false
theorem cells63 : Try.prog.cellsOf 63 = 2 := by kernel_rfl
theorem cells5 : Try.prog.cellsOf 5 = 1 := by kernel_rfl
theorem two {α : Type} {l : List α} (h : l.length = 2) : ∃ a b, l = [a, b] := by
  match l, h with
  | [a, b], _ => exact ⟨a, b, rfl⟩
set_option maxRecDepth 100000 in
theorem bytes_read {H : Type} {enc : TypeId × Value → H} {sp : Nat → Bool} {held : Bool} {W : World} {r : Reach} {b0 : Nat} {v : Value} {d : DataW H} {ps : List MemPlace} (hk : Value.okWide Try.prog W r b0 63 v) (h : DataW.Trod enc Try.prog W 0 sp held 63 v d ps) : ∃ a b : Nat, a ≤ 255 ∧ b ≤ 255 ∧ v = .agg #[.int .u8 a, .int .u8 b] := by
  simp only [Value.okWide, Try.underlying63] at hk
  obtain ⟨vs, rfl, hsz, _⟩ := hk
  rw [cells63] at hsz
  obtain ⟨fuel, hf⟩ := h
  obtain ⟨l⟩ := vs
  obtain ⟨c0, c1, rfl⟩ := two (by simpa using hsz)
  obtain ⟨xs, n, rfl, e, hl, hx, hfs⟩ := DataW.trod_array Try.underlying63 hf
  obtain ⟨x0, x1, rfl⟩ := two hx
  have h0 := hfs 0 (by decide)
  have h1 := hfs 1 (by decide)
  rw [cells5] at h0 h1
  have h0 : DataW.trod enc Try.prog W 0 sp held n 5 [c0] = some x0 := h0
  have h1 : DataW.trod enc Try.prog W 0 sp held n 5 [c1] = some x1 := h1
  obtain ⟨a, e0, _, w0⟩ := DataW.trod_int Try.underlying5 h0
  obtain ⟨b, e1, _, w1⟩ := DataW.trod_int Try.underlying5 h1
  simp at e0 e1
  subst e0 e1
  have b0 := bounds_u8 w0
  have b1 := bounds_u8 w1
  exact ⟨a.toNat, b.toNat, by omega, by omega, by rw [Int.toNat_of_nonneg b0.1, Int.toNat_of_nonneg b1.1]⟩
set_option maxRecDepth 100000 in
theorem contract (H : Type) (enc : TypeId × Value → H) (W : World) (base : Nat) (args : Array Value) (ds gs : List (DataW H)) (before : List MemPlace)
    (hval : ∀ (j : Nat) t v, Try.f13.params[j]? = some t → args[j]? = some v → Value.okWide Try.prog W .any base t v)
    (hW : DataW.Whole enc Try.prog Try.f13.params.toList Rows.mendSavedSpec.vars false W args.toList ds gs before) (hk : Rows.uptoSmall H (ds ++ gs) = true) :
    Calls Try.prog 13 args W fun e W' => ∃ v, e = .returned v ∧ Rows.mendSavedSpec.post enc Try.prog Try.f13 false true false false W args v W' := by
  have hW' := hW
  obtain ⟨p, q, hA0, hV, rfl, hfz, hnd⟩ := hW
  have hA : DataW.TrodAll enc Try.prog W 0 (fun _ => true) true Try.f13.params.toList args.toList ds p := hA0
  rw [Try.params13] at hA hval
  obtain ⟨v0, vs0, d0, ds0, p0, q0, hargs, rfl, rfl, h0, r0⟩ := trodAll_cons hA
  obtain ⟨v1, vs1, d1, ds1, p1, q1, rfl, rfl, rfl, h1, r1⟩ := trodAll_cons r0
  obtain ⟨rfl, rfl, rfl⟩ := trodAll_nil r1
  obtain rfl : args = #[v0, v1] := by cases args; simp_all
  obtain ⟨rfl, rfl⟩ := trodVars_none hV
  obtain ⟨r, hr, hbench, hr0⟩ := row_read (hval 0 25 v0 rfl rfl) h0
  obtain ⟨x, y, hx5, hy5, rfl⟩ := bytes_read (hval 1 63 v1 rfl rfl) h1
  clear hA0
  simp only [List.append_nil] at hW' hk
  have hb := bulk_bound hk
  have b0 := bulk_part (d := d0) (l := [d0, d1]) (by simp)
  have hlt0 : ∀ x ∈ p0, x.block < W.heap.size := fun x hx => by simpa using hW'.lt x (by simp [hx])
  have hlt1 : ∀ x ∈ p1, x.block < W.heap.size := fun x hx => by simpa using hW'.lt x (by simp [hx])
  have hc := MendSaved_c r ⟨by omega, by omega, fun f hf => by have := hr.2.2 f hf; omega⟩ x y hx5 hy5
  refine (law_calls (cargs := #[v0, .agg #[.int .u8 x, .int .u8 y]]) hc ⟨rfl, fun i x y hx hy => ?_⟩).mono fun e W' ⟨he, hbel⟩ => ?_
  · match i with
    | 0 => simp at hx hy; subst hx hy; exact hr0
    | 1 =>
      simp at hx hy; subst hx hy
      refine PRel.agg rfl (fun i x y hx hy => ?_) (fun y hy => ?_)
      · match i with
        | 0 => simp at hx hy; subst hx hy; exact .v _
        | 1 => simp at hx hy; subst hx hy; exact .v _
        | i + 2 => simp at hx
      · simp at hy
        rcases hy with rfl | rfl <;> rfl
    | i + 2 => simp at hx
  subst he
  refine ⟨_, rfl, [d0, d1], [], p0 ++ p1, [], p0 ++ p1, [], by simpa using hW', trodAll_cons_mk (shut_bool Try.underlying4 _) trodAll_mk0, ?_, rfl, kept_of_below hbel, fun h => by cases h⟩
  exact trodAll_mk2 (Below.trod laidOut (by kernel_rfl) (of_decide_eq_true (by kernel_rfl)) h0 hbel hlt0) (Below.trod laidOut (by kernel_rfl) (of_decide_eq_true (by kernel_rfl)) h1 hbel hlt1)
set_option maxRecDepth 100000 in
theorem lifted (os : Os) (started : os.Started) (H : Type) (enc : TypeId × Value → H) (F : Stop.Interp) :
    ReturnsInHanded {} Try.checked os 13 .any ((Rows.OpenSpec.upto Rows.mendSavedSpec).pre6 enc Try.prog Try.f13 Rows.mendSavedUptoRow.domain false) (((Rows.OpenSpec.upto Rows.mendSavedSpec).at F).post enc Try.prog Try.f13 false true false false) := by
  refine returnsInHanded_of_cond (C := Try.checked) (s := Rows.OpenSpec.upto Rows.mendSavedSpec) (k := Rows.uptoSmall) rfl own started (by kernel_rfl) Try.func13
    (OpenSpec.witness (enc := enc) (C := Try.checked) (s := Rows.OpenSpec.upto Rows.mendSavedSpec) (k := Rows.uptoSmall) rfl false ⟨#[], #[.agg #[.slice none 0 0, .slice none 0 0, .int .i64 0], .agg #[.int .u8 0, .int .u8 0]], []⟩ 8 (by kernel_rfl) (by kernel_rfl) (by kernel_rfl)
      (x := ([.agg [.nil, .nil, .lit (.int .i64 0)], .agg [.lit (.int .u8 0), .lit (.int .u8 0)]], [], [])) (by kernel_rfl) rfl (by kernel_rfl)) ?_
  intro W base args ds gs before hval hW _ hk _
  exact contract H enc W base args ds gs before hval hW hk
theorem over : Rows.mendSavedUptoRow.holds Try.pinned (Rows.OpenSpec.upto Rows.mendSavedSpec) :=
  OpenClaim.holds_of_cond 13 Try.f13 rfl rfl rfl rfl rfl rfl rfl ⟨rfl, rfl, rfl, rfl, rfl⟩ rfl rfl rfl rfl rfl (by kernel_rfl) Try.func13 (by kernel_rfl)
    (of_decide_eq_true (by kernel_rfl)) (by unfold Func.isWrapper; first | (rw [if_pos (by decide +kernel)]; kernel_rfl) | (rw [if_neg (by decide +kernel)]; exact ⟨rfl, rfl⟩))
    (fun os started H enc _ F => lifted os started H enc F)
theorem proved : Rows.MendSavedUptoSaid := over
end Go.Proofs.Ytmggofcaeolaiaa.mendSaved
