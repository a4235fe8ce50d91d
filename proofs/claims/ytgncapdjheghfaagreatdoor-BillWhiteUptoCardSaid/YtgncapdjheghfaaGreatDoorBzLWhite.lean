/- Layer 7: BillWhite returns true for every show, number and turns of bulk at most 1048576, and leaves its arguments as they were. -/
import Derived.Test.YtgncapdjheghfaaGreatDoorCards
import Derived.Test.YtgncapdjheghfaaGreatDoorTie
import Derived.SevenTiedAt
import Derived.Test.YtgncapdjheghfaaGreatDoorB9
set_option linter.unusedVariables false
set_option linter.unusedSimpArgs false
namespace Go.Proofs.YtgncapdjheghfaaGreatDoor.billWhite
open Go.Am Go.Proofs Go Go.ChangeShapes Go.WideShapes Go.ChangeAt Go.RowKit
set_option linter.unusedVariables false
set_option maxRecDepth 100000 in
theorem contract(H:Type)(enc:TypeId×Value→H)(W:World)(base:Nat)(args:Array Value)(ds gs:List (DataW H))(before:List MemPlace)
  (hval:∀(j:Nat) t v,Tryz.f10.params[j]?=some t→args[j]?=some v→Value.okWide Tryz.prog W .any base t v)
  (hW:DataW.Whole enc Tryz.prog Tryz.f10.params.toList Rows.billWhiteSpec.vars false W args.toList ds gs before) (hk:Rows.uptoSmall H (ds++gs)=true) (hL:laidMetH Tryz.prog Rows.billWhiteUptoRow.laid W) :
  Calls Tryz.prog 10 args W fun e W'=>∃v,e = .returned v∧Rows.billWhiteSpec.post enc Tryz.prog Tryz.f10 false true false false W args v W':=by
 have hW':=hW
 obtain⟨p,q,hA0,hV,rfl,hfz,hnd⟩:=hW
 have hA:DataW.TrodAll enc Tryz.prog W 0 (fun _=>true) true Tryz.f10.params.toList args.toList ds p:=hA0
 rw[Tryz.params10]at hA hval
 obtain⟨v0,vs0,d0,ds0,p0,q0,hargs,rfl,rfl,h0,r0⟩:=trodAll_cons hA
 obtain⟨v1,vs1,d1,ds1,p1,q1,rfl,rfl,rfl,h1,r1⟩:=trodAll_cons r0
 obtain⟨v2,vs2,d2,ds2,p2,q2,rfl,rfl,rfl,h2,r2⟩:=trodAll_cons r1
 obtain⟨rfl,rfl,rfl⟩:=trodAll_nil r2
 obtain rfl:args=#[v0,v1,v2]:=by cases args;simp_all
 obtain⟨rfl,rfl⟩:=trodVars_none hV
 obtain⟨s,hs,hr0⟩:=oR (hval 0 25 v0 rfl rfl) h0
 obtain⟨x,rfl,_,_,hx8⟩:=open_int Tryz.underlying5 (hval 1 5 v1 rfl rfl) h1
 replace hx8:=K9 hx8
 obtain⟨y,hy,hy8,hr2⟩:=Gl (hval 2 63 v2 rfl rfl) h2
 clear hA0
 simp only[List.append_nil]at hW' hk
 have hb:=lb hk
 have b0:=cl (d:=d0) (l:=[d0,d1,d2]) (by simp)
 have b1:=cl (d:=d1) (l:=[d0,d1,d2]) (by simp)
 have b2:=cl (d:=d2) (l:=[d0,d1,d2]) (by simp)
 have hlt0:∀x∈p0,x.block<W.heap.size:=fun x hx=>by simpa using hW'.lt x (by simp[hx])
 have hlt1:∀x∈p1,x.block<W.heap.size:=fun x hx=>by simpa using hW'.lt x (by simp[hx])
 have hlt2:∀x∈p2,x.block<W.heap.size:=fun x hx=>by simpa using hW'.lt x (by simp[hx])
 have hc:=uI s x y ⟨by omega,by omega,fun f hf=>by have:=hs.2.2 f hf;omega⟩ hx8 (by omega) hy8
 refine(nP (cargs:=#[v0,.int .u8 x,v2]) (vE hL) hc ⟨rfl,fun i x y hx hy=>?_⟩).mono fun e W' ⟨he,hbel⟩=>?_
 ·match i with
  | 0 =>
   simp at hx hy;subst hx hy
   exact hr0
  | 1 =>
   simp at hx hy;subst hx hy
   exact .v _
  | 2 =>
   simp at hx hy;subst hx hy
   exact hr2
  | i+3=>simp at hx
 subst he
 refine⟨_,rfl,[d0,d1,d2],[],p0++(p1++p2),[],p0++(p1++p2),[],by simpa using hW',trodAll_cons_mk (shut_bool Tryz.underlying4 _) trodAll_mk0,?_,rfl,ga hbel,fun h=>by cases h⟩
 exact trodAll_mk3 (Below.trod gc (by kernel_rfl) (of_decide_eq_true (by kernel_rfl)) h0 hbel hlt0) (Below.trod gc (by kernel_rfl) (of_decide_eq_true (by kernel_rfl)) h1 hbel hlt1) (Below.trod gc (by kernel_rfl) (of_decide_eq_true (by kernel_rfl)) h2 hbel hlt2)
noncomputable def laidWorld(os:Os):World :=
 { World.holding Tryz.prog os ⟨#[],#[],[]⟩with heap:=((((World.holding Tryz.prog os ⟨#[],#[],[]⟩).heap).modify 2 fun | .cells _ t frozen=> .cells (LP.map fun z=>Value.int .u8 z).toArray t frozen|o=>o).modify 3 fun | .cells _ t frozen=> .cells (LQ.map fun z=>Value.int .u8 z).toArray t frozen|o=>o).modify 1 fun | .cells _ t frozen=> .cells (LR.map fun z=>Value.int .u64 z).toArray t frozen|o=>o}
theorem laid_met(os:Os):laidMet Tryz.prog Rows.billWhiteUptoRow.laid ((laidWorld os).forCall (fun _ _=>0) ⟨#[],#[.agg #[.int .i64 0,.slice none 0 0,.slice none 0 0],.int .u8 0,.slice none 0 0],[]⟩).memory :=
 laidMet_of_run' 8 (by kernel_rfl) (by kernel_rfl)
theorem reads(os:Os){H:Type}(enc:TypeId×Value→H):∃places,DataW.whole enc Tryz.prog ((laidWorld os).forCall (fun _ _=>0) ⟨#[],#[.agg #[.int .i64 0,.slice none 0 0,.slice none 0 0],.int .u8 0,.slice none 0 0],[]⟩).memory Tryz.f10.params.toList Rows.billWhiteSpec.vars false (#[.agg #[.int .i64 0,.slice none 0 0,.slice none 0 0],.int .u8 0,.slice none 0 0]:Array Value).toList 8=some ([.agg [.lit (.int .i64 0),.nil,.nil],.lit (.int .u8 0),.nil],[],places) :=
 ⟨[],by kernel_rfl⟩
set_option maxRecDepth 100000 in
theorem lifted(os:Os)(started:os.Started)(H:Type)(enc:TypeId×Value→H)(F:Stop.Interp) :
  ReturnsInHanded {} Tryz.checked os 10 .any ((Rows.OpenSpec.upto Rows.billWhiteSpec).preRow enc Tryz.prog Tryz.f10 Rows.billWhiteUptoRow.domain false Rows.billWhiteUptoRow.laid) (((Rows.OpenSpec.upto Rows.billWhiteSpec).at F).post enc Tryz.prog Tryz.f10 false true false false):=by
 obtain⟨places,hx⟩:=reads os enc
 refine returnsInHanded_of_row (C:=Tryz.checked) (s:=Rows.OpenSpec.upto Rows.billWhiteSpec) own started (by kernel_rfl) Tryz.func10
  (witness_row_at (enc:=enc) (C:=Tryz.checked) false (laidWorld os) #[.agg #[.int .i64 0,.slice none 0 0,.slice none 0 0],.int .u8 0,.slice none 0 0] rfl (by kernel_rfl) (by kernel_rfl) (by kernel_rfl)
   (OpenSpec.preRow_of_cond 8 hx (by kernel_rfl) (fun k hk=>by cases hk;kernel_rfl) (by kernel_rfl) (laid_met os))) ?_
 intro W base args ds gs before hval hW _ hcond _ hL _ _
 exact contract H enc W base args ds gs before hval hW (hcond _ rfl) hL
theorem over:Rows.billWhiteUptoRow.holds Tryz.pinned (Rows.OpenSpec.upto Rows.billWhiteSpec) :=
 OpenClaim.holds_of_cond 10 Tryz.f10 rfl rfl rfl rfl rfl rfl rfl ⟨rfl,rfl,rfl,rfl,rfl⟩ rfl rfl rfl rfl rfl (by kernel_rfl) Tryz.func10 (by kernel_rfl)
  (of_decide_eq_true (by kernel_rfl)) (by unfold Func.isWrapper;first|(rw[if_pos (by decide +kernel)];kernel_rfl)|(rw[if_neg (by decide +kernel)];exact⟨rfl,rfl⟩))
  (fun os started H enc _ F=>by rw[OpenClaim.pre_eq_preRow];exact lifted os started H enc F)
theorem plain(f:FuncId)(fn:Func)(hf:Tryz.pinned.checked.prog.funcNamed "ceroplast/ceroplastlaw07.BillWhite" = some f)(hfn:Tryz.pinned.checked.prog.funcs[f]?=some fn) :
  false=Tryz.pinned.checked.prog.looks []∧∀(j:Nat) t,fn.params[j]?=some t→Tryz.pinned.checked.prog.wantsStandIn t=false:=by
 obtain rfl:f=10:=Option.some.inj ((show Tryz.prog.funcNamed "ceroplast/ceroplastlaw07.BillWhite" = some 10 by kernel_rfl).symm.trans hf) |>.symm
 obtain rfl:fn=Tryz.f10:=(Option.some.inj (Tryz.func10.symm.trans hfn)).symm
 refine⟨by kernel_rfl,fun j t ht=>?_⟩
 rw[Tryz.params10]at ht
 have hm:=Array.mem_of_getElem? ht
 simp at hm
 rcases hm with rfl|rfl|rfl
 ·exact(show Tryz.prog.wantsStandIn 25=false by kernel_rfl)
 ·exact(show Tryz.prog.wantsStandIn 5=false by kernel_rfl)
 ·exact(show Tryz.prog.wantsStandIn 63=false by kernel_rfl)
theorem proved:Rows.BillWhiteUptoCardSaid :=
 Claim7.holds_tied_plain_at .later [] _ _ _ _ over (fun _ h=>by cases h) (by kernel_rfl) (fun _ h=>by cases h) billWhiteUpto_row_tie rfl ⟨rfl,rfl⟩ (by kernel_rfl) rfl plain (by kernel_rfl)
end Go.Proofs.YtgncapdjheghfaaGreatDoor.billWhite
