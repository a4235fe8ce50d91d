/- Layer 7: BillTexts returns true for every show, catalogue and string of bulk at most 1048576, and leaves its arguments as they were. -/
import Derived.Test.YtgncapdjheghfaaGreatDoorCards
import Derived.Test.YtgncapdjheghfaaGreatDoorTie
import Derived.SevenTiedAt
import Derived.Test.YtgncapdjheghfaaGreatDoorB9
set_option linter.unusedVariables false
set_option linter.unusedSimpArgs false
namespace Go.Proofs.YtgncapdjheghfaaGreatDoor.billTexts
open Go.Am Go.Proofs Go Go.ChangeShapes Go.WideShapes Go.ChangeAt Go.RowKit
set_option linter.unusedVariables false
set_option maxRecDepth 100000 in
theorem contract(H:Type)(enc:TypeId×Value→H)(W:World)(base:Nat)(args:Array Value)(ds gs:List (DataW H))(before:List MemPlace)
  (hval:∀(j:Nat) t v,Tryz.f6.params[j]?=some t→args[j]?=some v→Value.okWide Tryz.prog W .any base t v)
  (hW:DataW.Whole enc Tryz.prog Tryz.f6.params.toList Rows.billTextsSpec.vars false W args.toList ds gs before) (hk:Rows.uptoSmall H (ds++gs)=true) (hL:laidMetH Tryz.prog Rows.billTextsUptoRow.laid W) :
  Calls Tryz.prog 6 args W fun e W'=>∃v,e = .returned v∧Rows.billTextsSpec.post enc Tryz.prog Tryz.f6 false true false false W args v W':=by
 have hW':=hW
 obtain⟨p,q,hA0,hV,rfl,hfz,hnd⟩:=hW
 have hA:DataW.TrodAll enc Tryz.prog W 0 (fun _=>true) true Tryz.f6.params.toList args.toList ds p:=hA0
 rw[Tryz.params6]at hA hval
 obtain⟨v0,vs0,d0,ds0,p0,q0,hargs,rfl,rfl,h0,r0⟩:=trodAll_cons hA
 obtain⟨v1,vs1,d1,ds1,p1,q1,rfl,rfl,rfl,h1,r1⟩:=trodAll_cons r0
 obtain⟨v2,vs2,d2,ds2,p2,q2,rfl,rfl,rfl,h2,r2⟩:=trodAll_cons r1
 obtain⟨rfl,rfl,rfl⟩:=trodAll_nil r2
 obtain rfl:args=#[v0,v1,v2]:=by cases args;simp_all
 obtain⟨rfl,rfl⟩:=trodVars_none hV
 obtain⟨s,hs,hr0⟩:=oR (hval 0 25 v0 rfl rfl) h0
 obtain⟨c,hc,hr1⟩:=sx (hval 1 26 v1 rfl rfl) h1
 obtain⟨t,rfl,ht⟩:=FQ (hval 2 9 v2 rfl rfl) h2
 clear hA0
 simp only[List.append_nil]at hW' hk
 have hb:=lb hk
 have b0:=cl (d:=d0) (l:=[d0,d1,d2]) (by simp)
 have b1:=cl (d:=d1) (l:=[d0,d1,d2]) (by simp)
 have b2:=cl (d:=d2) (l:=[d0,d1,d2]) (by simp)
 have hlt0:∀x∈p0,x.block<W.heap.size:=fun x hx=>by simpa using hW'.lt x (by simp[hx])
 have hlt1:∀x∈p1,x.block<W.heap.size:=fun x hx=>by simpa using hW'.lt x (by simp[hx])
 have hlt2:∀x∈p2,x.block<W.heap.size:=fun x hx=>by simpa using hW'.lt x (by simp[hx])
 have hc:=uH s c t ⟨by omega,by omega,fun f hf=>by have:=hs.2.2 f hf;omega⟩ (by omega)
 refine(nP (cargs:=#[v0,v1,.string t]) (vE hL) hc ⟨rfl,fun i x y hx hy=>?_⟩).mono fun e W' ⟨he,hbel⟩=>?_
 ·match i with
  | 0 =>
   simp at hx hy;subst hx hy
   exact hr0
  | 1 =>
   simp at hx hy;subst hx hy
   exact hr1
  | 2 =>
   simp at hx hy;subst hx hy
   exact .v _
  | i+3=>simp at hx
 subst he
 refine⟨_,rfl,[d0,d1,d2],[],p0++(p1++p2),[],p0++(p1++p2),[],by simpa using hW',trodAll_cons_mk (shut_bool Tryz.underlying4 _) trodAll_mk0,?_,rfl,ga hbel,fun h=>by cases h⟩
 exact trodAll_mk3 (Below.trod gc (by kernel_rfl) (of_decide_eq_true (by kernel_rfl)) h0 hbel hlt0) (Below.trod gc (by kernel_rfl) (of_decide_eq_true (by kernel_rfl)) h1 hbel hlt1) (Below.trod gc (by kernel_rfl) (of_decide_eq_true (by kernel_rfl)) h2 hbel hlt2)
noncomputable def laidWorld(os:Os):World :=
 { World.holding Tryz.prog os ⟨#[],#[],[]⟩with heap:=((((World.holding Tryz.prog os ⟨#[],#[],[]⟩).heap).modify 2 fun | .cells _ t frozen=> .cells (LP.map fun z=>Value.int .u8 z).toArray t frozen|o=>o).modify 3 fun | .cells _ t frozen=> .cells (LQ.map fun z=>Value.int .u8 z).toArray t frozen|o=>o).modify 1 fun | .cells _ t frozen=> .cells (LR.map fun z=>Value.int .u64 z).toArray t frozen|o=>o}
theorem laid_met(os:Os):laidMet Tryz.prog Rows.billTextsUptoRow.laid ((laidWorld os).forCall (fun _ _=>0) ⟨#[],#[.agg #[.int .i64 0,.slice none 0 0,.slice none 0 0],.slice none 0 0,.string ⟨#[]⟩],[]⟩).memory :=
 laidMet_of_run' 8 (by kernel_rfl) (by kernel_rfl)
theorem reads(os:Os){H:Type}(enc:TypeId×Value→H):∃places,DataW.whole enc Tryz.prog ((laidWorld os).forCall (fun _ _=>0) ⟨#[],#[.agg #[.int .i64 0,.slice none 0 0,.slice none 0 0],.slice none 0 0,.string ⟨#[]⟩],[]⟩).memory Tryz.f6.params.toList Rows.billTextsSpec.vars false (#[.agg #[.int .i64 0,.slice none 0 0,.slice none 0 0],.slice none 0 0,.string ⟨#[]⟩]:Array Value).toList 8=some ([.agg [.lit (.int .i64 0),.nil,.nil],.nil,.lit (.string [])],[],places) :=
 ⟨[],by kernel_rfl⟩
set_option maxRecDepth 100000 in
theorem lifted(os:Os)(started:os.Started)(H:Type)(enc:TypeId×Value→H)(F:Stop.Interp) :
  ReturnsInHanded {} Tryz.checked os 6 .any ((Rows.OpenSpec.upto Rows.billTextsSpec).preRow enc Tryz.prog Tryz.f6 Rows.billTextsUptoRow.domain false Rows.billTextsUptoRow.laid) (((Rows.OpenSpec.upto Rows.billTextsSpec).at F).post enc Tryz.prog Tryz.f6 false true false false):=by
 obtain⟨places,hx⟩:=reads os enc
 refine returnsInHanded_of_row (C:=Tryz.checked) (s:=Rows.OpenSpec.upto Rows.billTextsSpec) own started (by kernel_rfl) Tryz.func6
  (witness_row_at (enc:=enc) (C:=Tryz.checked) false (laidWorld os) #[.agg #[.int .i64 0,.slice none 0 0,.slice none 0 0],.slice none 0 0,.string ⟨#[]⟩] rfl (by kernel_rfl) (by kernel_rfl) (by kernel_rfl)
   (OpenSpec.preRow_of_cond 8 hx (by kernel_rfl) (fun k hk=>by cases hk;kernel_rfl) (by kernel_rfl) (laid_met os))) ?_
 intro W base args ds gs before hval hW _ hcond _ hL _ _
 exact contract H enc W base args ds gs before hval hW (hcond _ rfl) hL
theorem over:Rows.billTextsUptoRow.holds Tryz.pinned (Rows.OpenSpec.upto Rows.billTextsSpec) :=
 OpenClaim.holds_of_cond 6 Tryz.f6 rfl rfl rfl rfl rfl rfl rfl ⟨rfl,rfl,rfl,rfl,rfl⟩ rfl rfl rfl rfl rfl (by kernel_rfl) Tryz.func6 (by kernel_rfl)
  (of_decide_eq_true (by kernel_rfl)) (by unfold Func.isWrapper;first|(rw[if_pos (by decide +kernel)];kernel_rfl)|(rw[if_neg (by decide +kernel)];exact⟨rfl,rfl⟩))
  (fun os started H enc _ F=>by rw[OpenClaim.pre_eq_preRow];exact lifted os started H enc F)
theorem plain(f:FuncId)(fn:Func)(hf:Tryz.pinned.checked.prog.funcNamed "ceroplast/ceroplastlaw07.BillTexts" = some f)(hfn:Tryz.pinned.checked.prog.funcs[f]?=some fn) :
  false=Tryz.pinned.checked.prog.looks []∧∀(j:Nat) t,fn.params[j]?=some t→Tryz.pinned.checked.prog.wantsStandIn t=false:=by
 obtain rfl:f=6:=Option.some.inj ((show Tryz.prog.funcNamed "ceroplast/ceroplastlaw07.BillTexts" = some 6 by kernel_rfl).symm.trans hf) |>.symm
 obtain rfl:fn=Tryz.f6:=(Option.some.inj (Tryz.func6.symm.trans hfn)).symm
 refine⟨by kernel_rfl,fun j t ht=>?_⟩
 rw[Tryz.params6]at ht
 have hm:=Array.mem_of_getElem? ht
 simp at hm
 rcases hm with rfl|rfl|rfl
 ·exact(show Tryz.prog.wantsStandIn 25=false by kernel_rfl)
 ·exact(show Tryz.prog.wantsStandIn 26=false by kernel_rfl)
 ·exact(show Tryz.prog.wantsStandIn 9=false by kernel_rfl)
theorem proved:Rows.BillTextsUptoCardSaid :=
 Claim7.holds_tied_plain_at .later [] _ _ _ _ over (fun _ h=>by cases h) (by kernel_rfl) (fun _ h=>by cases h) billTextsUpto_row_tie rfl ⟨rfl,rfl⟩ (by kernel_rfl) rfl plain (by kernel_rfl)
end Go.Proofs.YtgncapdjheghfaaGreatDoor.billTexts
