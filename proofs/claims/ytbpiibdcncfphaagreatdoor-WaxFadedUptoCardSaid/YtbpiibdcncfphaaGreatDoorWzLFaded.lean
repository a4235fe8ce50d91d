/- Layer 2: WaxFaded returns true for every store and day by a number of bulk at most 1048576, and leaves its arguments as they were. -/
import Derived.Test.YtbpiibdcncfphaaGreatDoorCards
import Derived.Test.YtbpiibdcncfphaaGreatDoorTie
import Derived.SevenTiedAt
import Derived.Test.YtbpiibdcncfphaaGreatDoorA7
set_option linter.unusedVariables false
set_option linter.unusedSimpArgs false
namespace Go.Proofs.YtbpiibdcncfphaaGreatDoor.waxFaded
open Go.Am Go.Proofs Go Go.ChangeShapes Go.WideShapes Go.ChangeAt Go.RowKit
set_option linter.unusedVariables false
set_option maxRecDepth 100000 in
theorem contract (H : Type) (enc : TypeId × Value→H) (W : World) (base : Nat) (args : Array Value) (ds gs : List (DataW H)) (before : List MemPlace)
    (hval : ∀ (j : Nat) t v, Tryz.f5.params[j]? = some t→args[j]? = some v→Value.okWide Tryz.prog W .any base t v)
    (hW : DataW.Whole enc Tryz.prog Tryz.f5.params.toList Rows.waxFadedSpec.vars false W args.toList ds gs before) (hk : Rows.uptoSmall H (ds++gs) = true) (hL : laidMetH Tryz.prog Rows.waxFadedUptoRow.laid W) :
    Calls Tryz.prog 5 args W fun e W'=>∃ v, e = .returned v∧Rows.waxFadedSpec.post enc Tryz.prog Tryz.f5 false true false false W args v W':=by
  have hW':=hW
  obtain ⟨p, q, hA0, hV, rfl, hfz, hnd⟩:=hW
  have hA : DataW.TrodAll enc Tryz.prog W 0 (fun _=>true) true Tryz.f5.params.toList args.toList ds p:=hA0
  rw [Tryz.params5] at hA hval
  obtain ⟨v0, vs0, d0, ds0, p0, q0, hargs, rfl, rfl, h0, r0⟩:=trodAll_cons hA
  obtain ⟨v1, vs1, d1, ds1, p1, q1, rfl, rfl, rfl, h1, r1⟩:=trodAll_cons r0
  obtain ⟨rfl, rfl, rfl⟩:=trodAll_nil r1
  obtain rfl : args = #[v0, v1]:=by cases args;simp_all
  obtain ⟨rfl, rfl⟩:=trodVars_none hV
  obtain ⟨s, hs, hr0⟩:=store_read (hval 0 27 v0 rfl rfl) h0
  obtain ⟨n, rfl, _, _, hn16⟩:=open_int Tryz.underlying45 (hval 1 45 v1 rfl rfl) h1
  replace hn16:=bounds_u16 hn16
  clear hA0
  simp only [List.append_nil] at hW' hk
  have hb:=bulk_bound hk
  have b0:=bulk_part (d:=d0) (l:=[d0, d1]) (by simp)
  have b1:=bulk_part (d:=d1) (l:=[d0, d1]) (by simp)
  have hlt0 : ∀ x ∈ p0, x.block < W.heap.size:=fun x hx=>by simpa using hW'.lt x (by simp [hx])
  have hlt1 : ∀ x ∈ p1, x.block < W.heap.size:=fun x hx=>by simpa using hW'.lt x (by simp [hx])
  have hc:=WaxFaded_c s n ⟨by omega, by omega, fun h hh=>by have:=hs.2.2.1 h hh;omega, fun o ho=>by have:=hs.2.2.2 o ho;omega⟩ hn16
  refine (law_calls (cargs:=#[v0, .int .u16 n]) (glob_ok hL) hc ⟨rfl, fun i x y hx hy=>?_⟩).mono fun e W' ⟨he, hbel⟩=>?_
  · match i with
    | 0 =>
      simp at hx hy;subst hx hy
      exact hr0
    | 1 =>
      simp at hx hy;subst hx hy
      exact .v _
    | i + 2=>simp at hx
  subst he
  refine ⟨_, rfl, [d0, d1], [], p0++p1, [], p0++p1, [], by simpa using hW', trodAll_cons_mk (shut_bool Tryz.underlying4 _) trodAll_mk0, ?_, rfl, kept_of_below hbel, fun h=>by cases h⟩
  exact trodAll_mk2 (Below.trod laidOut (by kernel_rfl) (of_decide_eq_true (by kernel_rfl)) h0 hbel hlt0) (Below.trod laidOut (by kernel_rfl) (of_decide_eq_true (by kernel_rfl)) h1 hbel hlt1)
noncomputable def laidWorld (os : Os) : World :=
  { World.holding Tryz.prog os ⟨#[], #[], []⟩ with heap:=(((World.holding Tryz.prog os ⟨#[], #[], []⟩).heap).modify 0 fun|.cells _ t frozen=>.cells (tab0.map fun z=>Value.int .u8 z).toArray t frozen|o=>o).modify 1 fun|.cells _ t frozen=>.cells (tab1.map fun z=>Value.int .u8 z).toArray t frozen|o=>o }
theorem laid_met (os : Os) : laidMet Tryz.prog Rows.waxFadedUptoRow.laid ((laidWorld os).forCall (fun _ _=>0) ⟨#[], #[.agg #[.int .i64 0, .int .i64 0, .int .i64 0, .int .i64 0, .slice none 0 0, .slice none 0 0], .int .u16 0], []⟩).memory :=
  laidMet_of_run' 8 (by kernel_rfl) (by kernel_rfl)
theorem reads (os : Os) {H : Type} (enc : TypeId × Value→H) : ∃ places, DataW.whole enc Tryz.prog ((laidWorld os).forCall (fun _ _=>0) ⟨#[], #[.agg #[.int .i64 0, .int .i64 0, .int .i64 0, .int .i64 0, .slice none 0 0, .slice none 0 0], .int .u16 0], []⟩).memory Tryz.f5.params.toList Rows.waxFadedSpec.vars false (#[.agg #[.int .i64 0, .int .i64 0, .int .i64 0, .int .i64 0, .slice none 0 0, .slice none 0 0], .int .u16 0] : Array Value).toList 8 = some ([.agg [.agg [.lit (.int .i64 0), .lit (.int .i64 0), .lit (.int .i64 0)], .lit (.int .i64 0), .nil, .nil], .lit (.int .u16 0)], [], places) :=
  ⟨[], by kernel_rfl⟩
set_option maxRecDepth 100000 in
theorem lifted (os : Os) (started : os.Started) (H : Type) (enc : TypeId × Value→H) (F : Stop.Interp) :
    ReturnsInHanded {} Tryz.checked os 5 .any ((Rows.OpenSpec.upto Rows.waxFadedSpec).preRow enc Tryz.prog Tryz.f5 Rows.waxFadedUptoRow.domain false Rows.waxFadedUptoRow.laid) (((Rows.OpenSpec.upto Rows.waxFadedSpec).at F).post enc Tryz.prog Tryz.f5 false true false false):=by
  obtain ⟨places, hx⟩:=reads os enc
  refine returnsInHanded_of_row (C:=Tryz.checked) (s:=Rows.OpenSpec.upto Rows.waxFadedSpec) own started (by kernel_rfl) Tryz.func5
    (witness_row_at (enc:=enc) (C:=Tryz.checked) false (laidWorld os) #[.agg #[.int .i64 0, .int .i64 0, .int .i64 0, .int .i64 0, .slice none 0 0, .slice none 0 0], .int .u16 0] rfl (by kernel_rfl) (by kernel_rfl) (by kernel_rfl)
      (OpenSpec.preRow_of_cond 8 hx (by kernel_rfl) (fun k hk=>by cases hk;kernel_rfl) (by kernel_rfl) (laid_met os))) ?_
  intro W base args ds gs before hval hW _ hcond _ hL _ _
  exact contract H enc W base args ds gs before hval hW (hcond _ rfl) hL
theorem over : Rows.waxFadedUptoRow.holds Tryz.pinned (Rows.OpenSpec.upto Rows.waxFadedSpec) :=
  OpenClaim.holds_of_cond 5 Tryz.f5 rfl rfl rfl rfl rfl rfl rfl ⟨rfl, rfl, rfl, rfl, rfl⟩ rfl rfl rfl rfl rfl (by kernel_rfl) Tryz.func5 (by kernel_rfl)
    (of_decide_eq_true (by kernel_rfl)) (by unfold Func.isWrapper;first|(rw [if_pos (by decide +kernel)];kernel_rfl)|(rw [if_neg (by decide +kernel)];exact ⟨rfl, rfl⟩))
    (fun os started H enc _ F=>by rw [OpenClaim.pre_eq_preRow];exact lifted os started H enc F)
theorem plain (f : FuncId) (fn : Func) (hf : Tryz.pinned.checked.prog.funcNamed "ceroplast/ceroplastlaw02.WaxFaded" = some f) (hfn : Tryz.pinned.checked.prog.funcs[f]? = some fn) :
    false = Tryz.pinned.checked.prog.looks []∧∀ (j : Nat) t, fn.params[j]? = some t→Tryz.pinned.checked.prog.wantsStandIn t = false:=by
  obtain rfl : f = 5:=Option.some.inj ((show Tryz.prog.funcNamed "ceroplast/ceroplastlaw02.WaxFaded" = some 5 by kernel_rfl).symm.trans hf) |>.symm
  obtain rfl : fn = Tryz.f5:=(Option.some.inj (Tryz.func5.symm.trans hfn)).symm
  refine ⟨by kernel_rfl, fun j t ht=>?_⟩
  rw [Tryz.params5] at ht
  have hm:=Array.mem_of_getElem? ht
  simp at hm
  rcases hm with rfl|rfl
  · exact (show Tryz.prog.wantsStandIn 27 = false by kernel_rfl)
  · exact (show Tryz.prog.wantsStandIn 45 = false by kernel_rfl)
theorem proved : Rows.WaxFadedUptoCardSaid :=
  Claim7.holds_tied_plain_at .later [] _ _ _ _ over (fun _ h=>by cases h) (by kernel_rfl) (fun _ h=>by cases h) waxFadedUpto_row_tie rfl ⟨rfl, rfl⟩ (by kernel_rfl) rfl plain (by kernel_rfl)
end Go.Proofs.YtbpiibdcncfphaaGreatDoor.waxFaded
