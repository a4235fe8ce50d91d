/- Part 7 of the texts that the last one stands on. -/
import Derived.Test.YtbpiibdcncfphaaDoorA6
set_option linter.unusedVariables false
set_option linter.unusedSimpArgs false
namespace Go.Proofs.YtbpiibdcncfphaaDoor
open Go.Am Go.Proofs Go
theorem eqL3 (a b c : Int) : eqL [.int .i64 a, .int .i64 b, .int .i64 c] [.int .i64 a, .int .i64 b, .int .i64 c] = true := by simp [eqL, eqC]
def mixedA (l : List Int) (a : Amt) : AV := .agg [intsA l, intA a.b, intA a.t, intA a.c]
set_option maxHeartbeats 4000000 in
theorem WaxMelts_c (s : Store) (n : Int) (l : List Int) (add : Amt) (hr : s.small) (hl : l.length ≤ 1048576) : PureA Tryd.prog 3 [storeA s, intA n, mixedA l add] (boolA true) := by
  have c1 := check_c s hr
  have c2 := refCheck_c s hr
  have m1 := melted_c s n hr
  have m2 := refMelted_c s n hr
  have k1 := kettle_c s l add hr hl
  have k2 := refKettle_c s l add hr hl
  have aw := Awake_c
  have hm : ∃ a e, s.meltedA n = .tuple [amtA a, intA e] := by
    unfold Store.meltedA
    split
    · exact ⟨_, _, rfl⟩
    · split
      · exact ⟨_, _, rfl⟩
      · exact ⟨_, _, rfl⟩
  have m2 : PureA Tryd.prog 15 [storeA s, intA n] (s.meltedA n) := m2
  obtain ⟨a, e, hm⟩ := hm
  rw [hm] at m1 m2
  unfold triA at c1 c2
  unfold pairA at k1 k2
  generalize s.check = c at *
  generalize s.kettle l add = k at *
  obtain ⟨x1, x2, x3⟩ := c
  obtain ⟨⟨y1, y2, y3⟩, y4⟩ := k
  obtain ⟨a1, a2, a3⟩ := a
  refine pureA_codeB tabOk { l := 0, f := 3 } mixed call_3 Tryd.func3 (by kernel_rfl) ?_
  conv => whnf
  repeat (any_goals (first | exact falseI | ((first | refine bd ?_ ?_ | refine bn ?_ ?_) <;> intro _ <;> first | (exfalso; omega) | conv => whnf) | ((first | refine brP_true (eqL3 _ _ _) ?_ | refine brP_not (brP_true (eqL3 _ _ _) ?_) | refine callP_a c1 ?_ | refine callP_a c2 ?_ | refine callP_a m1 ?_ | refine callP_a m2 ?_ | refine callP_a k1 ?_ | refine callP_a k2 ?_ | refine callP_a aw ?_ | refine dI ?_ | refine okI ?_ | refine bt ?_ | refine bi (fun _ => ?_) (fun _ => ?_) | refine bndI ?_ | intro _) <;> conv => whnf)))
  (refine ⟨⟨?_⟩, trivial⟩; rfl)
theorem WaxSuits_c (s : Store) (l : List Int) (add : Amt) (hr : s.small) (hl : l.length ≤ 1048576) : PureA Tryd.prog 4 [storeA s, mixedA l add] (boolA true) := by
  have k1 := suits_c s l add hr hl
  have k2 := refSuits_c s l add hr hl
  have aw := Awake_c
  unfold pairI at k1 k2
  generalize s.suits l add = r at *
  refine pureA_codeB tabOk { l := 0, f := 4 } mixed call_4 Tryd.func4 (by kernel_rfl) ?_
  conv => whnf
  repeat (any_goals (first | exact falseI | ((first | refine bd ?_ ?_ | refine bn ?_ ?_) <;> intro _ <;> first | (exfalso; omega) | conv => whnf) | ((first | refine callP_a k1 ?_ | refine callP_a k2 ?_ | refine callP_a aw ?_ | refine dI ?_ | refine okI ?_ | refine bt ?_ | refine bi (fun _ => ?_) (fun _ => ?_) | refine bndI ?_ | intro _) <;> conv => whnf)))
  (refine ⟨⟨?_⟩, trivial⟩; rfl)
theorem WaxKnown_c : PureA Tryd.prog 5 [] (boolA true) := by
  have s1 := storeD_c false
  have hs := storeD_small false
  have m := melted_c (storeD false) 2 hs
  have em : (storeD false).meltedA 2 = .tuple [amtA ⟨9, 1, 2⟩, intA 0] := rfl
  rw [em] at m
  have k := kettleN_c (storeD false) ⟨10, 4, 2⟩ hs
  have ek : (storeD false).kettle [] ⟨10, 4, 2⟩ = (⟨10, 4, 2⟩, 0) := by decide +kernel
  rw [ek] at k
  have u := untilTop_c (storeD false) hs
  rw [ev_until2] at u
  have aw := Awake_c
  clear hs em ek
  refine pureA_codeB tabOk { l := 0, f := 5 } mixed call_5 Tryd.func5 (by kernel_rfl) ?_
  conv => whnf
  repeat (any_goals (first | exact falseI | ((first | refine bd ?_ ?_ | refine bn ?_ ?_) <;> intro _ <;> first | (exfalso; omega) | conv => whnf) | ((first | refine callP_a s1 ?_ | refine callP_a (ounces_c _ _ _) ?_ | refine callP_a m ?_ | refine callP_a k ?_ | refine callP_a u ?_ | refine callP_a aw ?_ | refine dI ?_ | refine okI ?_ | refine bt ?_ | refine bi (fun _ => ?_) (fun _ => ?_) | refine bndI ?_ | intro _) <;> conv => whnf)))
  (refine ⟨⟨?_⟩, trivial⟩; rfl)
end Go.Proofs.YtbpiibdcncfphaaDoor
namespace Go.Proofs.YtbpiibdcncfphaaDoor
open Go.Am Go.Proofs Go Go.ChangeShapes Go.WideShapes Go.RowKit
section
variable {H : Type} {enc : TypeId × Value → H} {W : World} {sp : Nat → Bool} {held : Bool}
theorem int_fit (b : Nat) (vs : List Value) (h : Fit b [.int .i64] vs) : ∃ y : Int, (intA y).cells = vs.map .v ∧ True := by
  match vs, h with
  | [.int k m], h =>
    obtain ⟨⟨rfl, _⟩, _⟩ := h
    exact ⟨m, rfl, trivial⟩
theorem leavesI : leaves Tryd.prog 6 3 = some [.int .i64] := by kernel_rfl
theorem types30 : Tryd.prog.cellTypes Tryd.prog.depth 30 = some [28, 3, 3, 3] := by kernel_rfl
theorem cells30 : Tryd.prog.cellsOf 30 = 4 := by kernel_rfl
theorem cells28 : Tryd.prog.cellsOf 28 = 1 := by kernel_rfl
theorem two {α : Type} {l : List α} (h : l.length = 2) : ∃ a b, l = [a, b] :=
  match l, h with
  | [a, b], _ => ⟨a, b, rfl⟩
set_option maxRecDepth 100000 in
theorem mixed_read {r : Reach} {b0 : Nat} {v : Value} {d : DataW H} {ps : List MemPlace} (hk : Value.okWide Tryd.prog W r b0 30 v) (h : DataW.Trod enc Tryd.prog W 0 sp held 30 v d ps) :
    ∃ (l : List Int) (a : Amt), l.length ≤ Rows.uptoBulk d ∧ PRel W (lies W) (mixedA l a) v := by
  simp only [Value.okWide, Tryd.underlying30] at hk
  obtain ⟨vs, rfl, hsz, ts, hts, _, hcell⟩ := hk
  rw [types30] at hts
  simp only [Option.some.injEq] at hts
  subst hts
  rw [cells30] at hsz
  obtain ⟨fuel, hf⟩ := h
  obtain ⟨l⟩ := vs
  obtain ⟨c0, c1, c2, c3, rfl⟩ := four (by simpa using hsz)
  obtain ⟨xs, n, rfl, e, hl, hx, hfs⟩ := DataW.trod_struct Tryd.underlying30 hf
  obtain ⟨x0, x1, rfl⟩ := two hx
  have h0 : DataW.trod enc Tryd.prog W 0 sp held n 28 (([c0, c1, c2, c3].drop 0).take (Tryd.prog.cellsOf 28)) = some x0 := hfs 0 _ rfl
  have h1 : DataW.trod enc Tryd.prog W 0 sp held n 23 (([c0, c1, c2, c3].drop 1).take (Tryd.prog.cellsOf 23)) = some x1 := hfs 1 _ rfl
  rw [cells28] at h0
  rw [cells23] at h1
  obtain ⟨u0, hu0, k0⟩ := hcell 0 c0 rfl
  simp at hu0
  subst hu0
  have f1 := leaves_fit 6 leaves23 h1
  obtain ⟨l, a1, a2, a3, a4⟩ := slice_read (ls := [.int .i64]) (A := intA) (good := fun _ _ => True) Tryd.underlying28 cells3 leavesI int_fit (fun _ _ _ _ g => g) k0 h0
  match c1, c2, c3, f1 with
  | .int _ a, .int _ b, .int _ c, f1 =>
    obtain ⟨⟨rfl, _⟩, ⟨rfl, _⟩, ⟨rfl, _⟩, _⟩ := f1
    simp only [Prod.mk.injEq] at e
    obtain ⟨rfl, _⟩ := e
    have hb := bulk_agg ([x0, x1].map (·.1))
    have p0 := bulk_part (d := x0.1) (l := [x0, x1].map (·.1)) (by simp)
    refine ⟨l, ⟨a, b, c⟩, by omega, ?_⟩
    refine PRel.agg rfl (fun i x y hx hy => ?_) (fun y hy => ?_)
    · match i with
      | 0 => simp at hx hy; subst hx hy; exact a3
      | 1 => simp at hx hy; subst hx hy; exact .v _
      | 2 => simp at hx hy; subst hx hy; exact .v _
      | 3 => simp at hx hy; subst hx hy; exact .v _
      | i + 4 => simp at hx
    · simp at hy
      rcases hy with rfl | rfl | rfl | rfl
      · exact a4
      · rfl
      · rfl
      · rfl
end
end Go.Proofs.YtbpiibdcncfphaaDoor
