/- Layer 2: WaxMore returns true for every store, further things and heads by bits of bulk at most 1048576, and leaves its arguments as they were. -/
import Derived.Test.YtbpiibdcncfphaaDoorCards
import Derived.Test.YtbpiibdcncfphaaDoorTie
import Derived.SevenTiedAt
import Derived.Test.YtbpiibdcncfphaaDoorA7
set_option linter.unusedVariables false
set_option linter.unusedSimpArgs false
namespace Go.Proofs.YtbpiibdcncfphaaDoor.waxMore
open Go.Am Go.Proofs Go Go.ChangeShapes Go.WideShapes Go.ChangeAt Go.RowKit
set_option linter.unusedVariables false
set_option maxRecDepth 100000 in
theorem contract (H : Type) (enc : TypeId × Value→H) (W : World) (base : Nat) (args : Array Value) (ds gs : List (DataW H)) (before : List MemPlace)
    (hval : ∀ (j : Nat) t v, Tryd.f10.params[j]? = some t→args[j]? = some v→Value.okWide Tryd.prog W .any base t v)
    (hW : DataW.Whole enc Tryd.prog Tryd.f10.params.toList Rows.waxMoreSpec.vars false W args.toList ds gs before) (hk : Rows.uptoSmall H (ds++gs) = true) (hL : laidMetH Tryd.prog Rows.waxMoreUptoRow.laid W) :
    Calls Tryd.prog 10 args W fun e W'=>∃ v, e = .returned v∧Rows.waxMoreSpec.post enc Tryd.prog Tryd.f10 false true false false W args v W':=by
  have hW':=hW
  obtain ⟨p, q, hA0, hV, rfl, hfz, hnd⟩:=hW
  have hA : DataW.TrodAll enc Tryd.prog W 0 (fun _=>true) true Tryd.f10.params.toList args.toList ds p:=hA0
  rw [Tryd.params10] at hA hval
  obtain ⟨v0, vs0, d0, ds0, p0, q0, hargs, rfl, rfl, h0, r0⟩:=trodAll_cons hA
  obtain ⟨v1, vs1, d1, ds1, p1, q1, rfl, rfl, rfl, h1, r1⟩:=trodAll_cons r0
  obtain ⟨v2, vs2, d2, ds2, p2, q2, rfl, rfl, rfl, h2, r2⟩:=trodAll_cons r1
  obtain ⟨rfl, rfl, rfl⟩:=trodAll_nil r2
  obtain rfl : args = #[v0, v1, v2]:=by cases args;simp_all
  obtain ⟨rfl, rfl⟩:=trodVars_none hV
  obtain ⟨s, hs, hr0⟩:=store_read (hval 0 27 v0 rfl rfl) h0
  obtain ⟨x, hxf, hr1⟩:=rich_read (hval 1 74 v1 rfl rfl) h1
  obtain ⟨n, rfl, _, _, hn8⟩:=open_int Tryd.underlying5 (hval 2 5 v2 rfl rfl) h2
  replace hn8:=u8_wf hn8
  clear hA0
  simp only [List.append_nil] at hW' hk
  have hb:=bulk_bound hk
  have b0:=bulk_part (d:=d0) (l:=[d0, d1, d2]) (by simp)
  have b1:=bulk_part (d:=d1) (l:=[d0, d1, d2]) (by simp)
  have b2:=bulk_part (d:=d2) (l:=[d0, d1, d2]) (by simp)
  have hlt0 : ∀ x ∈ p0, x.block < W.heap.size:=fun x hx=>by simpa using hW'.lt x (by simp [hx])
  have hlt1 : ∀ x ∈ p1, x.block < W.heap.size:=fun x hx=>by simpa using hW'.lt x (by simp [hx])
  have hlt2 : ∀ x ∈ p2, x.block < W.heap.size:=fun x hx=>by simpa using hW'.lt x (by simp [hx])
  have hc:=WaxMore_c s x n ⟨by omega, by omega, fun h hh=>by have:=hs.2.2.1 h hh;omega, fun o ho=>by have:=hs.2.2.2 o ho;omega⟩ (hxf (by omega)) hn8
  refine (law_calls (cargs:=#[v0, v1, .int .u8 n]) (glob_ok hL) hc ⟨rfl, fun i x y hx hy=>?_⟩).mono fun e W' ⟨he, hbel⟩=>?_
  · match i with
    | 0 =>
      simp at hx hy;subst hx hy
      exact hr0
    | 1 =>
      simp at hx hy;subst hx hy
      exact hr1
    | 2 =>
      simp at hx hy;subst hx hy
      exact .v _
    | i + 3=>simp at hx
  subst he
  refine ⟨_, rfl, [d0, d1, d2], [], p0++(p1++p2), [], p0++(p1++p2), [], by simpa using hW', trodAll_cons_mk (shut_bool Tryd.underlying4 _) trodAll_mk0, ?_, rfl, kept_of_below hbel, fun h=>by cases h⟩
  exact trodAll_mk3 (Below.trod laidOut (by kernel_rfl) (of_decide_eq_true (by kernel_rfl)) h0 hbel hlt0) (Below.trod laidOut (by kernel_rfl) (of_decide_eq_true (by kernel_rfl)) h1 hbel hlt1) (Below.trod laidOut (by kernel_rfl) (of_decide_eq_true (by kernel_rfl)) h2 hbel hlt2)
noncomputable def laidWorld (os : Os) : World :=
  { World.holding Tryd.prog os ⟨#[], #[], []⟩ with heap:=(((World.holding Tryd.prog os ⟨#[], #[], []⟩).heap).modify 0 fun|.cells _ t frozen=>.cells (tab0.map fun z=>Value.int .u8 z).toArray t frozen|o=>o).modify 1 fun|.cells _ t frozen=>.cells (tab1.map fun z=>Value.int .u8 z).toArray t frozen|o=>o }
theorem laid_met (os : Os) : laidMet Tryd.prog Rows.waxMoreUptoRow.laid ((laidWorld os).forCall (fun _ _=>0) ⟨#[], #[.agg #[.int .i64 0, .int .i64 0, .int .i64 0, .int .i64 0, .slice none 0 0, .slice none 0 0], .agg #[.int .u8 0, .int .u8 0, .int .u8 0, .int .u8 0, .int .u8 0, .int .u8 0, .string ⟨#[]⟩, .int .i64 0, .int .i64 0, .int .i64 0, .int .i64 0, .bool false, .int .u8 0], .int .u8 0], []⟩).memory :=
  laidMet_of_run' 8 (by kernel_rfl) (by kernel_rfl)
theorem reads (os : Os) {H : Type} (enc : TypeId × Value→H) : ∃ places, DataW.whole enc Tryd.prog ((laidWorld os).forCall (fun _ _=>0) ⟨#[], #[.agg #[.int .i64 0, .int .i64 0, .int .i64 0, .int .i64 0, .slice none 0 0, .slice none 0 0], .agg #[.int .u8 0, .int .u8 0, .int .u8 0, .int .u8 0, .int .u8 0, .int .u8 0, .string ⟨#[]⟩, .int .i64 0, .int .i64 0, .int .i64 0, .int .i64 0, .bool false, .int .u8 0], .int .u8 0], []⟩).memory Tryd.f10.params.toList Rows.waxMoreSpec.vars false (#[.agg #[.int .i64 0, .int .i64 0, .int .i64 0, .int .i64 0, .slice none 0 0, .slice none 0 0], .agg #[.int .u8 0, .int .u8 0, .int .u8 0, .int .u8 0, .int .u8 0, .int .u8 0, .string ⟨#[]⟩, .int .i64 0, .int .i64 0, .int .i64 0, .int .i64 0, .bool false, .int .u8 0], .int .u8 0] : Array Value).toList 8 = some ([.agg [.agg [.lit (.int .i64 0), .lit (.int .i64 0), .lit (.int .i64 0)], .lit (.int .i64 0), .nil, .nil], .agg [.agg [.lit (.int .u8 0), .lit (.int .u8 0), .lit (.int .u8 0)], .agg [.lit (.int .u8 0), .lit (.int .u8 0), .lit (.int .u8 0)], .agg [.lit (.string []), .agg [.lit (.int .i64 0), .lit (.int .i64 0), .lit (.int .i64 0)], .lit (.int .i64 0), .lit (.bool false)], .lit (.int .u8 0)], .lit (.int .u8 0)], [], places) :=
  ⟨[], by kernel_rfl⟩
set_option maxRecDepth 100000 in
theorem lifted (os : Os) (started : os.Started) (H : Type) (enc : TypeId × Value→H) (F : Stop.Interp) :
    ReturnsInHanded {} Tryd.checked os 10 .any ((Rows.OpenSpec.upto Rows.waxMoreSpec).preRow enc Tryd.prog Tryd.f10 Rows.waxMoreUptoRow.domain false Rows.waxMoreUptoRow.laid) (((Rows.OpenSpec.upto Rows.waxMoreSpec).at F).post enc Tryd.prog Tryd.f10 false true false false):=by
  obtain ⟨places, hx⟩:=reads os enc
  refine returnsInHanded_of_row (C:=Tryd.checked) (s:=Rows.OpenSpec.upto Rows.waxMoreSpec) own started (by kernel_rfl) Tryd.func10
    (witness_row_at (enc:=enc) (C:=Tryd.checked) false (laidWorld os) #[.agg #[.int .i64 0, .int .i64 0, .int .i64 0, .int .i64 0, .slice none 0 0, .slice none 0 0], .agg #[.int .u8 0, .int .u8 0, .int .u8 0, .int .u8 0, .int .u8 0, .int .u8 0, .string ⟨#[]⟩, .int .i64 0, .int .i64 0, .int .i64 0, .int .i64 0, .bool false, .int .u8 0], .int .u8 0] rfl (by kernel_rfl) (by kernel_rfl) (by kernel_rfl)
      (OpenSpec.preRow_of_cond 8 hx (by kernel_rfl) (fun k hk=>by cases hk;kernel_rfl) (by kernel_rfl) (laid_met os))) ?_
  intro W base args ds gs before hval hW _ hcond _ hL _ _
  exact contract H enc W base args ds gs before hval hW (hcond _ rfl) hL
theorem over : Rows.waxMoreUptoRow.holds Tryd.pinned (Rows.OpenSpec.upto Rows.waxMoreSpec) :=
  OpenClaim.holds_of_cond 10 Tryd.f10 rfl rfl rfl rfl rfl rfl rfl ⟨rfl, rfl, rfl, rfl, rfl⟩ rfl rfl rfl rfl rfl (by kernel_rfl) Tryd.func10 (by kernel_rfl)
    (of_decide_eq_true (by kernel_rfl)) (by unfold Func.isWrapper;first|(rw [if_pos (by decide +kernel)];kernel_rfl)|(rw [if_neg (by decide +kernel)];exact ⟨rfl, rfl⟩))
    (fun os started H enc _ F=>by rw [OpenClaim.pre_eq_preRow];exact lifted os started H enc F)
theorem plain (f : FuncId) (fn : Func) (hf : Tryd.pinned.checked.prog.funcNamed "ceroplast/ceroplastlaw02.WaxMore" = some f) (hfn : Tryd.pinned.checked.prog.funcs[f]? = some fn) :
    false = Tryd.pinned.checked.prog.looks []∧∀ (j : Nat) t, fn.params[j]? = some t→Tryd.pinned.checked.prog.wantsStandIn t = false:=by
  obtain rfl : f = 10:=Option.some.inj ((show Tryd.prog.funcNamed "ceroplast/ceroplastlaw02.WaxMore" = some 10 by kernel_rfl).symm.trans hf) |>.symm
  obtain rfl : fn = Tryd.f10:=(Option.some.inj (Tryd.func10.symm.trans hfn)).symm
  refine ⟨by kernel_rfl, fun j t ht=>?_⟩
  rw [Tryd.params10] at ht
  have hm:=Array.mem_of_getElem? ht
  simp at hm
  rcases hm with rfl|rfl|rfl
  · exact (show Tryd.prog.wantsStandIn 27 = false by kernel_rfl)
  · exact (show Tryd.prog.wantsStandIn 74 = false by kernel_rfl)
  · exact (show Tryd.prog.wantsStandIn 5 = false by kernel_rfl)
theorem proved : Rows.WaxMoreUptoCardSaid :=
  Claim7.holds_tied_plain_at .later [] _ _ _ _ over (fun _ h=>by cases h) (by kernel_rfl) (fun _ h=>by cases h) waxMoreUpto_row_tie rfl ⟨rfl, rfl⟩ (by kernel_rfl) rfl plain (by kernel_rfl)
end Go.Proofs.YtbpiibdcncfphaaDoor.waxMore
