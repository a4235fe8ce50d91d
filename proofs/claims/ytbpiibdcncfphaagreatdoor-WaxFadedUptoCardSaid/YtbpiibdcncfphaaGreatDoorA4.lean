/- Part 4 of the texts that the last one stands on. -/
import Derived.Test.YtbpiibdcncfphaaGreatDoorProg
import Derived.Test.YtbpiibdcncfphaaGreatDoorRows
import Derived.WalkKit
import Derived.ProofKit
import Derived.OpenShut
import Derived.JoinedCond
import Derived.Carry
import Derived.Test.YtbpiibdcncfphaaGreatDoorTie
import Derived.Deep.DeepHandedRow
import Derived.Lib.LaidTab
import Derived.Test.YtbpiibdcncfphaaGreatDoorA3
set_option linter.unusedVariables false
set_option linter.unusedSimpArgs false
namespace Go.Am
open Go.RowKit
def AV.plain1 : AV→Bool
  | .v _=>true
  | _=>false
def AV.plainL : List AV→Bool
  | []=>true
  | x :: xs=>match x.plain1 with
    | true=>AV.plainL xs
    | false=>false
def AV.plain : AV→Bool
  | .v _=>true
  | .agg cs=>AV.plainL cs
  | .tuple cs=>match cs with
    | [.agg a, .v _]=>AV.plainL a
    | cs=>AV.plainL cs
  | _=>false
theorem AV.plainL_get : ∀ {cs : List AV}, AV.plainL cs = true→∀ (i : Nat) (x : AV), cs[i]? = some x→∃ v, x = .v v
  | [], _, i, x, h=>by simp at h
  | a :: cs, h, i, x, hx=>by
    simp only [AV.plainL] at h
    split at h
    · rename_i h1
      cases i with
      | zero =>
        simp at hx;subst hx
        cases a<;>simp [AV.plain1] at h1
        exact ⟨_, rfl⟩
      | succ i=>exact AV.plainL_get h i x (by simpa using hx)
    · simp at h
theorem PRel.plain1 {w w' : World} {imm imm' : Nat→Nat→Prop} {x : AV} {y : Value} (hp : ∃ v, x = .v v) (h : PRel w imm x y) : PRel w' imm' x y:=by
  obtain ⟨v, rfl⟩:=hp
  cases h
  exact .v _
theorem PRel.plain {w w' : World} {imm imm' : Nat→Nat→Prop} {x : AV} {y : Value} (hp : x.plain = true) (h : PRel w imm x y) : PRel w' imm' x y:=by
  cases x<;>simp only [AV.plain] at hp<;>try (simp at hp;done)
  · cases h;exact .v _
  · cases h with
    | agg hl hc h1=>exact .agg hl (fun i x y hx hy=>(hc i x y hx hy).plain1 (AV.plainL_get hp i x hx)) h1
  · cases h with
    | tuple hl hc =>
      refine .tuple hl fun i x y hx hy=>?_
      split at hp
      · rename_i a v
        match i, hx with
        | 0, hx =>
          simp at hx;subst hx
          have:=hc 0 (.agg a) y rfl hy
          cases this with
          | agg hl hc h1=>exact .agg hl (fun i x y hx hy=>(hc i x y hx hy).plain1 (AV.plainL_get hp i x hx)) h1
        | 1, hx =>
          simp at hx;subst hx
          exact (hc 1 _ y rfl hy).plain1 ⟨_, rfl⟩
        | n + 2, hx=>simp at hx
      · exact (hc i x y hx hy).plain1 (AV.plainL_get hp i x hx)
theorem PureA.plain {P : Program} {f : FuncId} {args : List AV} {res : AV} (h : PureA P f args res) (hp : res.plain = true) : PureF P f args res :=
  ⟨h.1, fun w imm cargs hi hr=>(h.2 w imm cargs hi hr).mono fun _ _ ⟨y, _, he, _, h2, h3⟩=>⟨y, fun _ _=>False, he, fun _ _ h=>h.elim, h2.plain hp, h3⟩⟩
theorem callP_a {P : Program} {f : FuncId} {args : List AV} {res : AV} {K : AV→Prop} (h : PureA P f args res) (k : K res) : callP P f args false K:=⟨res, h, k⟩
theorem callP_f {P : Program} {f : FuncId} {args : List AV} {res : AV} {K : AV→Prop} (h : PureA P f args res) (hp : res.plain = true) (k : K res) : callP P f args true K:=⟨res, h.plain hp, k⟩
theorem callP_b {P : Program} {f : FuncId} {args : List AV} {res : AV} {snap : Bool} {K : AV→Prop} (h : PureA P f args res) (hp : res.plain = true) (k : K res) : callP P f args snap K:=by
  cases snap
  · exact ⟨res, h, k⟩
  · exact ⟨res, h.plain hp, k⟩
theorem drop_cons {α : Type} {l : List α} {i : Nat} (h : i < l.length) : ∃ x, l[i]? = some x∧l.drop i = x :: l.drop (i + 1):=⟨l[i], by simp [h], List.drop_eq_getElem_cons h⟩
theorem optP_map {α : Type} {f : α→AV} {l : List α} {n : Int} {i : Nat} {x : α} {K : AV→Prop} (hx : l[i]? = some x) (hn : n = i) (h : K (f x)) : optP (nth (l.map f) n.toNat) K:=by
  subst hn
  refine optP_intro (x:=f x) ?_ h
  rw [nth_eq];simp [hx]
theorem falseI (h : False:=by first|omega|(simp only [List.length_map, List.length_take, List.length_append, List.length_cons, List.length_nil, not_true_eq_false] at *<;>omega)) : False:=h
theorem bndI {p K : Prop} (k : K) (h : p:=by first|omega|(simp [inI, maxLen];done)|(simp [inI, maxLen];omega)|(simp [inI, maxLen] at *;omega)) : p∧K:=⟨h, k⟩
theorem okI {b : Bool} {K : Prop} (k : K) (h : b = true:=by first|exact Nat.beq_refl _|(simp [AV.cells];done)|(simp [AV.cells];omega)) : okP b K:=okP_intro h k
theorem dI {ops : Array Oper} {infos : List (List Loc × List Loc)} {K : Prop} (k : K) (h : okDraw ops infos = true:=by kernel_rfl) : DrawOk ops infos∧K:=⟨⟨h⟩, k⟩
theorem bd {p : Prop} [Decidable p] {A B : Prop} (h : p→A) (k : ¬p→B) : brP (decide p) A B:=brP_dec h k
theorem bn {p : Prop} [Decidable p] {A B : Prop} (h : p→B) (k : ¬p→A) : brP (!decide p) A B:=brP_ndec h k
theorem bi {b : Bool} {A B : Prop} (h : b = true→A) (k : b = false→B) : brP b A B:=brP_intro h k
theorem bt {n : Nat} {A B : Prop} (h : A) : brP (Nat.beq n n) A B:=brP_true (Nat.beq_refl _) h
theorem sc {l l' : List (Nat × AV)} {i : Nat} {v : AV} (h : lookS l i = some v) (k : slotsLe l l') : slotsLe l ((i, v) :: l'):=slotsLe_cons h k
theorem kc {α : Type} {z : α} {l l' : List (Key × Option α)} {k : Key} {c : α} (h : lookK l k = some (some c)) (t : keysLe z l l') : keysLe z l ((k, some c) :: l'):=keysLe_cons h t
theorem kn {α : Type} {z : α} {l l' : List (Key × Option α)} {k : Key} (t : keysLe z l l') : keysLe z l ((k, none) :: l'):=keysLe_none t
theorem cO {P : Program} {f : FuncId} {fn : Func} (h : P.funcs[f]? = some fn) (h1 : (fn.name == "runtime.NumGoroutine") = false:=by kernel_rfl) (h2 : fn.body.isNone = false:=by kernel_rfl) : Callable P f:=callable_of h h1 h2
end Go.Am
namespace Go.Am
open Go
def Wk (x x' : AV) : Prop:=∀ (w : World) (imm : Nat→Nat→Prop) (y : Value), PRel w imm x y→PRel w imm x' y
theorem Wk.refl (x : AV) : Wk x x:=fun _ _ _ h=>h
def nilS : AV:=.slice 0 [] .no
theorem Wk.nil (sz : Nat) : Wk nilS (.slice sz [] .no):=fun w imm y h=>by
  unfold nilS at h
  cases h with
  | nil=>exact .nil sz .no (.inl rfl)
  | slice ys hcap ht hm hsz hc hp =>
    exact PRel.slice (es:=[]) (fun _ _=>.bool false) (Nat.zero_le _) (.inl rfl) hm (fun i e h=>by simp at h) (fun i e c x h=>by simp at h) (fun i e c x h=>by simp at h)
def WkL : List AV→List AV→Prop
  | [], []=>True
  | x :: xs, y :: ys=>Wk x y∧WkL xs ys
  | _, _=>False
theorem WkL.refl : ∀ l : List AV, WkL l l
  | []=>trivial
  | x :: xs=>⟨Wk.refl x, WkL.refl xs⟩
theorem WkL.cons {x x' : AV} {l l' : List AV} (h : Wk x x') (t : WkL l l') : WkL (x :: l) (x' :: l'):=⟨h, t⟩
theorem WkL.get : ∀ {l l' : List AV}, WkL l l'→l.length = l'.length∧∀ (i : Nat) (x' : AV), l'[i]? = some x'→∃ x, l[i]? = some x∧Wk x x'
  | [], [], _=>⟨rfl, fun i x' h=>by simp at h⟩
  | x :: xs, y :: ys, h=>by
    obtain ⟨h1, h2⟩:=WkL.get h.2
    refine ⟨by simp [h1], fun i x' hx=>?_⟩
    cases i with
    | zero=>simp at hx;subst hx;exact ⟨x, rfl, h.1⟩
    | succ i=>exact h2 i x' (by simpa using hx)
theorem Wk.tuple {l l' : List AV} (h : WkL l l') : Wk (.tuple l) (.tuple l'):=fun w imm y hy=>by
  obtain ⟨h1, h2⟩:=h.get
  cases hy with
  | tuple hl hp =>
    refine .tuple (by rw [hl, h1]) fun i x y hx hy=>?_
    obtain ⟨u, hu, hw⟩:=h2 i x hx
    exact hw _ _ _ (hp i u y hu hy)
theorem Wk.agg {l l' : List AV} (h : WkL l l') : Wk (.agg l) (.agg l'):=fun w imm y hy=>by
  obtain ⟨h1, h2⟩:=h.get
  cases hy with
  | agg hl hp ho =>
    refine .agg (by rw [hl, h1]) (fun i x y hx hy=>?_) ho
    obtain ⟨u, hu, hw⟩:=h2 i x hx
    exact hw _ _ _ (hp i u y hu hy)
theorem PureA.wk {P : Program} {f : FuncId} {args : List AV} {res res' : AV} (h : PureA P f args res) (hw : Wk res res') : PureA P f args res' :=
  ⟨h.1, fun w imm cargs hi hr=>(h.2 w imm cargs hi hr).mono fun _ _ ⟨y, imm', he, h1, h2, h3⟩=>⟨y, imm', he, h1, hw _ _ _ h2, h3⟩⟩
theorem PureF.wk {P : Program} {f : FuncId} {args : List AV} {res res' : AV} (h : PureF P f args res) (hw : Wk res res') : PureF P f args res' :=
  ⟨h.1, fun w imm cargs hi hr=>(h.2 w imm cargs hi hr).mono fun _ _ ⟨y, imm', he, h1, h2, h3⟩=>⟨y, imm', he, h1, hw _ _ _ h2, h3⟩⟩
theorem PRels.wk {w : World} {imm : Nat→Nat→Prop} {args args' : List AV} {cargs : Array Value} (h : PRels w imm args cargs) (hw : WkL args args') : PRels w imm args' cargs:=by
  obtain ⟨h1, h2⟩:=hw.get
  refine ⟨by rw [h.1, h1], fun i x y hx hy=>?_⟩
  obtain ⟨u, hu, hk⟩:=h2 i x hx
  exact hk _ _ _ (h.2 i u y hu hy)
theorem PureA.args {P : Program} {f : FuncId} {args args' : List AV} {res : AV} (h : PureA P f args' res) (hw : WkL args args') : PureA P f args res :=
  ⟨h.1, fun w imm cargs hi hr=>h.2 w imm cargs hi (hr.wk hw)⟩
theorem PRels.put {w : World} {imm : Nat→Nat→Prop} {pre post : List AV} {x x' : AV} {cargs : Array Value} (h : PRels w imm (pre++x :: post) cargs)
    (hx : ∀ y, PRel w imm x y→cargs[pre.length]? = some y→PRel w imm x' y) : PRels w imm (pre++x' :: post) cargs:=by
  refine ⟨by rw [h.1];simp, fun i u y hu hy=>?_⟩
  by_cases hi : i = pre.length
  · subst hi
    have hu' : u = x':=by simpa using hu.symm
    subst hu'
    exact hx y (h.2 pre.length x y (by simp) hy) hy
  · refine h.2 i u y ?_ hy
    rw [List.getElem?_append] at hu ⊢
    by_cases hl : i < pre.length
    · simpa [hl] using hu
    · simp only [if_neg hl] at hu ⊢
      obtain ⟨j, hj⟩ : ∃ j, i - pre.length = j + 1:=⟨i - pre.length - 1, by omega⟩
      rw [hj] at hu ⊢
      simpa using hu
def AV.bare : AV→Bool
  | .slice _ _ (.own _ _)=>false
  | .slice _ _ _=>true
  | .v _=>true
  | _=>false
theorem BoxA.pure {P : Program} {f : FuncId} {args : List AV} {res : AV} (h : BoxA P (.fn f) [] args res []) (hb : res.bare = true) : PureA P f args res:=by
  refine ⟨h.1, fun w imm cargs hi hr=>?_⟩
  let C : Ctx:={ w, imm, own:=fun _=>none, gb:=fun _=>0, jb:=fun _=>0, gt:=fun _=>0, hw:=fun _=>0 }
  have hR : Rel 0 (fun b=>b < w.heap.size∧C.own b = none) w (preSt []) C ⟨#[], []⟩ w:={
    cw:=rfl, glob:=hi.glob, size:=rfl, defers:=Marks.nil _ _, slot:=fun i hi=>absurd hi (by omega)
    gb:=fun k=>rfl, gt:=fun k=>rfl, hw:=fun k=>rfl
    box:=fun k sz es h=>by simp [preSt, lookE] at h
    ownBox:=fun b k h=>by simp [C] at h
    immLt:=hi.lt
    ownLt:=fun b o h=>by simp [C] at h
    below:=Bel.refl _ _
    base:=fun b h=>h.1 }
  refine (h.2 C w cargs hR (fun b o h=>by simp [C] at h) ⟨hr.1, fun i x y hx hy=>.pure (hr.2 i x y hx hy)⟩).mono ?_
  rintro e w' ⟨y, S', C', rfl, hle, hR', hk, _⟩
  refine ⟨y, C'.imm, rfl, fun b i hb'=>⟨hR'.immLt b i hb', fun hl=>?_⟩, ?_, below_of (hR'.below.mono fun b hb=>⟨hb, rfl⟩)⟩
  · rcases hle.immOld b i hl hb' with h|⟨k, h⟩|⟨k, h, _⟩
    · exact h
    · simp [C] at h
    · simp [C] at h
  · rw [← hR'.cw]
    cases hk with
    | pure h=>exact h
    | _=>simp [AV.bare] at hb
def bareC (w : World) (imm : Nat→Nat→Prop) : Ctx:={ w, imm, own:=fun _=>none, gb:=fun _=>0, jb:=fun _=>0, gt:=fun _=>0, hw:=fun _=>0 }
theorem bareC_rel {w : World} {imm : Nat→Nat→Prop} (hi : ImmOk w imm) : Rel 0 (fun b=>b < w.heap.size∧(bareC w imm).own b = none) w (preSt []) (bareC w imm) ⟨#[], []⟩ w where
  cw:=rfl
  glob:=hi.glob
  size:=rfl
  defers:=Marks.nil _ _
  slot:=fun i hi=>absurd hi (by omega)
  gb:=fun k=>rfl
  gt:=fun k=>rfl
  hw:=fun k=>rfl
  box:=fun k sz es h=>by simp [preSt, lookE] at h
  ownBox:=fun b k h=>by simp [bareC] at h
  immLt:=hi.lt
  ownLt:=fun b o h=>by simp [bareC] at h
  below:=Bel.refl _ _
  base:=fun b h=>h.1
theorem KRel.tuple2 {C : Ctx} {a b : AV} {y : Value} (h : KRel C (.tuple [a, b]) y) : ∃ u v, y = .tuple #[u, v]∧KRel C a u∧KRel C b v:=by
  have key : ∀ {vs : Array Value}, vs.size = 2→(∀ (i : Nat) (x : AV) (y : Value), [a, b][i]? = some x→vs[i]? = some y→KRel C x y)→∃ u v, (Value.tuple vs) = .tuple #[u, v]∧KRel C a u∧KRel C b v:=by
    intro vs h1 h2
    obtain ⟨l⟩:=vs
    match l, h1 with
    | [u, v], _=>exact ⟨u, v, rfl, h2 0 a u rfl rfl, h2 1 b v rfl rfl⟩
  cases h with
  | pure hp=>cases hp with
    | tuple hl hp=>exact key hl fun i x y h1 h2=>.pure (hp i x y h1 h2)
  | tuple hl hp=>exact key hl hp
theorem BoxA.fresh {P : Program} {f : FuncId} {args : List AV} {k : Key} {g sz cap : Nat} {es : List AV} {u : Value} (hs0 : sz ≠ 0) (hv : ∀ e ∈ es, ∀ x ∈ e.cells, ∃ z, x = .v z)
    (h : BoxA P (.fn f) [] args (.tuple [.own k g sz es.length cap, .v u]) [(k, g, sz, es)]) : PureF P f args (.tuple [.slice sz es .no, .v u]):=by
  refine ⟨h.1, fun w imm cargs hi hr=>?_⟩
  refine (h.2 (bareC w imm) w cargs (bareC_rel hi) (fun b o h=>by simp [bareC] at h) ⟨hr.1, fun i x y hx hy=>.pure (hr.2 i x y hx hy)⟩).mono ?_
  rintro e w' ⟨y, S', C', rfl, hle, hR', hk, hp⟩
  have hbox:=hp _ (List.mem_singleton.2 rfl)
  simp only at hbox
  obtain ⟨y0, y1, rfl, hk0, hk1⟩:=hk.tuple2
  have hgb : C'.gb k = g:=by rw [hR'.gb, hbox]
  have hbk:=hR'.box k sz es (by rw [hbox])
  have hbel : RowKit.Below w.heap.size w w':=below_of (hR'.below.mono fun b hb=>⟨hb, rfl⟩)
  have two : ∀ imm' : Nat→Nat→Prop, PRel w' imm' (.slice sz es .no) y0→PRel w' imm' (.tuple [.slice sz es .no, .v u]) (.tuple #[y0, y1]):=by
    intro imm' h0
    have h1 : y1 = u:=hk1.val rfl
    subst h1
    refine .tuple rfl fun i x y hx hy=>?_
    match i with
    | 0=>simp at hx hy;subst hx hy;exact h0
    | 1=>simp at hx hy;subst hx hy;exact .v _
    | i + 2=>simp at hx
  by_cases hne : es = []
  · subst hne
    refine ⟨_, fun _ _=>False, rfl, fun b i hb=>hb.elim, two _ ?_, hbel⟩
    cases hk0 with
    | pure hp=>cases hp
    | ownOld hlt=>omega
    | own hn hm=>exact PRel.slice (es:=[]) (fun _ _=>.bool false) hn (.inl rfl) hm (fun i e h=>by simp at h) (fun i e c x h=>by simp at h) (fun i e c x h=>by simp at h)
    | ownNil hb =>
      rcases hb with rfl|⟨x, z, rfl⟩
      · exact .nil sz .no (.inl rfl)
      · exact PRel.slice (es:=[]) (fun _ _=>.bool false) (Nat.le_refl _) (.inl rfl) (Nat.zero_le _) (fun i e h=>by simp at h) (fun i e c x h=>by simp at h) (fun i e c x h=>by simp at h)
  · obtain ⟨ho, arr, et, ha, hl, hc⟩:=hbk.own hs0 hne
    have hnew:=hR'.ownLt _ _ ho
    refine ⟨_, fun b i=>b = C'.jb k∧i < arr.size, rfl, fun b i hb=>?_, two _ ?_, hbel⟩
    · obtain ⟨rfl, _⟩:=hb
      exact ⟨hnew.2, fun hlt=>hnew.1 ⟨hlt, rfl⟩⟩
    · have hn0 : es.length ≠ 0:=fun e=>hne (List.length_eq_zero_iff.1 e)
      generalize hN : es.length = N at hk0
      cases hk0 with
      | pure hp=>cases hp
      | ownOld hlt=>omega
      | own hn hm =>
        subst hN
        rw [hR'.cw] at ha
        refine PRel.slice (fun i c=>(arr[i * sz + c]?).getD (.bool false)) hn (.inl rfl) hm (fun i e he=>hbk.wid hs0 i e he) (fun i e c x he hx=>?_) (fun i e c x he hx=>?_)
        · obtain ⟨y, hy, _, h1⟩:=hc i e c x he hx
          have hlt:=(Array.getElem?_eq_some_iff.1 hy).1
          refine ⟨?_, ⟨rfl, by omega⟩, by rw [hy];exact h1⟩
          rw [Nat.zero_add, hy, Option.getD_some]
          unfold World.cell?
          simp only [ha]
          simpa using hy
        · obtain ⟨y, hy, hk, _⟩:=hc i e c x he hx
          obtain ⟨z, rfl⟩:=hv e (List.mem_of_getElem? he) x (List.mem_of_getElem? hx)
          rw [hy, Option.getD_some, hk.val rfl]
          exact .v _
      | ownNil hb=>exact absurd hN hn0
end Go.Am
namespace Go.Proofs.YtbpiibdcncfphaaGreatDoor
open Go.Am Go.Proofs
theorem tyVar_3 : tyVar Tryz.prog 3 = some (false, 1) := by kernel_rfl
theorem zeroA_3 : zeroA Tryz.prog 3 = some (1, .v (.int .i64 (0))) := by kernel_rfl
theorem und_3 : Tryz.prog.underlying 3 = some (.int .i64) := by kernel_rfl
theorem tyVar_4 : tyVar Tryz.prog 4 = some (false, 1) := by kernel_rfl
theorem zeroA_4 : zeroA Tryz.prog 4 = some (1, .v (.bool false)) := by kernel_rfl
theorem tyVar_5 : tyVar Tryz.prog 5 = some (false, 1) := by kernel_rfl
theorem zeroA_5 : zeroA Tryz.prog 5 = some (1, .v (.int .u8 (0))) := by kernel_rfl
theorem und_5 : Tryz.prog.underlying 5 = some (.int .u8) := by kernel_rfl
theorem tyVar_9 : tyVar Tryz.prog 9 = some (false, 1) := by kernel_rfl
theorem zeroA_9 : zeroA Tryz.prog 9 = some (1, .v (.string ⟨#[]⟩)) := by kernel_rfl
theorem und_9 : Tryz.prog.underlying 9 = some (.string) := by kernel_rfl
theorem tyVar_21 : tyVar Tryz.prog 21 = some (false, 1) := by kernel_rfl
theorem zeroA_21 : zeroA Tryz.prog 21 = some (1, .v (.int .i32 (0))) := by kernel_rfl
theorem und_21 : Tryz.prog.underlying 21 = some (.int .i32) := by kernel_rfl
theorem tyVar_23 : tyVar Tryz.prog 23 = some (true, 3) := by kernel_rfl
theorem tyArray_23 : tyArray Tryz.prog 23 = some (3, 1) := by kernel_rfl
theorem placesA_23 : placesA Tryz.prog 23 = some fun i => some (i * 1, 1) := by kernel_rfl
theorem zeroA_23 : zeroA Tryz.prog 23 = some (3, .agg [.v (.int .i64 (0)), .v (.int .i64 (0)), .v (.int .i64 (0))]) := by kernel_rfl
theorem und_23 : Tryz.prog.underlying 23 = some (.array 3 3) := by kernel_rfl
theorem tyVar_24 : tyVar Tryz.prog 24 = some (false, 1) := by kernel_rfl
theorem tySlice_24 : tySlice Tryz.prog 24 = some (78, 6, 56) := by kernel_rfl
theorem zeroA_24 : zeroA Tryz.prog 24 = some (1, .slice 0 [] .tight) := by kernel_rfl
theorem tyVar_25 : tyVar Tryz.prog 25 = some (false, 1) := by kernel_rfl
theorem tySlice_25 : tySlice Tryz.prog 25 = some (82, 6, 56) := by kernel_rfl
theorem zeroA_25 : zeroA Tryz.prog 25 = some (1, .slice 0 [] .tight) := by kernel_rfl
theorem tyVar_27 : tyVar Tryz.prog 27 = some (true, 6) := by kernel_rfl
theorem zeroA_27 : zeroA Tryz.prog 27 = some (6, .agg [.v (.int .i64 (0)), .v (.int .i64 (0)), .v (.int .i64 (0)), .v (.int .i64 (0)), .slice 0 [] .tight, .slice 0 [] .tight]) := by kernel_rfl
theorem fieldA_27_0 : fieldA Tryz.prog 27 0 = some 0 := by kernel_rfl
theorem fieldA_27_1 : fieldA Tryz.prog 27 1 = some 3 := by kernel_rfl
theorem fieldA_27_2 : fieldA Tryz.prog 27 2 = some 4 := by kernel_rfl
theorem fieldA_27_3 : fieldA Tryz.prog 27 3 = some 5 := by kernel_rfl
theorem placesA_27 : placesA Tryz.prog 27 = some fun i => (#[(0, 3), (3, 1), (4, 1), (5, 1)] : Array (Nat × Nat))[i]? := by kernel_rfl
theorem tyVar_28 : tyVar Tryz.prog 28 = some (false, 1) := by kernel_rfl
theorem tySlice_28 : tySlice Tryz.prog 28 = some (3, 1, 8) := by kernel_rfl
theorem zeroA_28 : zeroA Tryz.prog 28 = some (1, .slice 0 [] .tight) := by kernel_rfl
theorem tyVar_29 : tyVar Tryz.prog 29 = some (false, 1) := by kernel_rfl
theorem zeroA_29 : zeroA Tryz.prog 29 = some (1, .v (.int .i64 (0))) := by kernel_rfl
theorem und_29 : Tryz.prog.underlying 29 = some (.int .i64) := by kernel_rfl
theorem tyVar_33 : tyVar Tryz.prog 33 = some (false, 1) := by kernel_rfl
theorem tySlice_33 : tySlice Tryz.prog 33 = some (28, 1, 24) := by kernel_rfl
theorem zeroA_33 : zeroA Tryz.prog 33 = some (1, .slice 0 [] .tight) := by kernel_rfl
theorem tyVar_45 : tyVar Tryz.prog 45 = some (false, 1) := by kernel_rfl
theorem zeroA_45 : zeroA Tryz.prog 45 = some (1, .v (.int .u16 (0))) := by kernel_rfl
theorem und_45 : Tryz.prog.underlying 45 = some (.int .u16) := by kernel_rfl
theorem tyVar_48 : tyVar Tryz.prog 48 = some (false, 1) := by kernel_rfl
theorem zeroA_48 : zeroA Tryz.prog 48 = some (1, .v (.pointer none)) := by kernel_rfl
theorem tyVar_52 : tyVar Tryz.prog 52 = some (false, 1) := by kernel_rfl
theorem zeroA_52 : zeroA Tryz.prog 52 = some (1, .v .nilFunc) := by kernel_rfl
theorem tyVar_55 : tyVar Tryz.prog 55 = some (true, 4) := by kernel_rfl
theorem zeroA_55 : zeroA Tryz.prog 55 = some (4, .agg [.v (.int .i64 (0)), .v (.int .i64 (0)), .v (.int .i64 (0)), .v (.bool false)]) := by kernel_rfl
theorem fieldA_55_0 : fieldA Tryz.prog 55 0 = some 0 := by kernel_rfl
theorem fieldA_55_1 : fieldA Tryz.prog 55 1 = some 3 := by kernel_rfl
theorem placesA_55 : placesA Tryz.prog 55 = some fun i => (#[(0, 3), (3, 1)] : Array (Nat × Nat))[i]? := by kernel_rfl
theorem tyVar_61 : tyVar Tryz.prog 61 = some (false, 1) := by kernel_rfl
theorem zeroA_61 : zeroA Tryz.prog 61 = some (1, .v .nilFunc) := by kernel_rfl
theorem tyVar_70 : tyVar Tryz.prog 70 = some (true, 18) := by kernel_rfl
theorem tyArray_70 : tyArray Tryz.prog 70 = some (6, 3) := by kernel_rfl
theorem placesA_70 : placesA Tryz.prog 70 = some fun i => some (i * 3, 3) := by kernel_rfl
theorem zeroA_70 : zeroA Tryz.prog 70 = some (18, .agg [.v (.int .i64 (0)), .v (.int .i64 (0)), .v (.int .i64 (0)), .v (.int .i64 (0)), .v (.int .i64 (0)), .v (.int .i64 (0)), .v (.int .i64 (0)), .v (.int .i64 (0)), .v (.int .i64 (0)), .v (.int .i64 (0)), .v (.int .i64 (0)), .v (.int .i64 (0)), .v (.int .i64 (0)), .v (.int .i64 (0)), .v (.int .i64 (0)), .v (.int .i64 (0)), .v (.int .i64 (0)), .v (.int .i64 (0))]) := by kernel_rfl
theorem und_70 : Tryz.prog.underlying 70 = some (.array 6 23) := by kernel_rfl
theorem tyVar_71 : tyVar Tryz.prog 71 = some (false, 1) := by kernel_rfl
theorem tySlice_71 : tySlice Tryz.prog 71 = some (85, 2, 16) := by kernel_rfl
theorem zeroA_71 : zeroA Tryz.prog 71 = some (1, .slice 0 [] .tight) := by kernel_rfl
theorem tyVar_72 : tyVar Tryz.prog 72 = some (false, 1) := by kernel_rfl
theorem zeroA_72 : zeroA Tryz.prog 72 = some (1, .v (.map none)) := by kernel_rfl
theorem und_72 : Tryz.prog.underlying 72 = some (.map 23 55) := by kernel_rfl
theorem tyVar_74 : tyVar Tryz.prog 74 = some (true, 27) := by kernel_rfl
theorem zeroA_74 : zeroA Tryz.prog 74 = some (27, .agg [.v (.int .i64 (0)), .v (.int .i64 (0)), .v (.int .i64 (0)), .v (.int .i64 (0)), .slice 0 [] .tight, .slice 0 [] .tight, .v (.int .i64 (0)), .v (.int .i64 (0)), .v (.int .i64 (0)), .v (.int .i64 (0)), .v (.int .i64 (0)), .v (.int .i64 (0)), .v (.int .i64 (0)), .v (.int .i64 (0)), .v (.int .i64 (0)), .v (.int .i64 (0)), .v (.int .i64 (0)), .v (.int .i64 (0)), .v (.int .i64 (0)), .v (.int .i64 (0)), .v (.int .i64 (0)), .v (.int .i64 (0)), .v (.int .i64 (0)), .v (.int .i64 (0)), .v (.int .i64 (0)), .slice 0 [] .tight, .v (.map none)]) := by kernel_rfl
theorem fieldA_74_0 : fieldA Tryz.prog 74 0 = some 0 := by kernel_rfl
theorem fieldA_74_1 : fieldA Tryz.prog 74 1 = some 6 := by kernel_rfl
theorem fieldA_74_2 : fieldA Tryz.prog 74 2 = some 7 := by kernel_rfl
theorem fieldA_74_3 : fieldA Tryz.prog 74 3 = some 25 := by kernel_rfl
theorem fieldA_74_4 : fieldA Tryz.prog 74 4 = some 26 := by kernel_rfl
theorem placesA_74 : placesA Tryz.prog 74 = some fun i => (#[(0, 6), (6, 1), (7, 18), (25, 1), (26, 1)] : Array (Nat × Nat))[i]? := by kernel_rfl
theorem tyVar_78 : tyVar Tryz.prog 78 = some (true, 6) := by kernel_rfl
theorem zeroA_78 : zeroA Tryz.prog 78 = some (6, .agg [.v (.string ⟨#[]⟩), .v (.int .i64 (0)), .v (.int .i64 (0)), .v (.int .i64 (0)), .v (.int .i64 (0)), .v (.bool false)]) := by kernel_rfl
theorem fieldA_78_0 : fieldA Tryz.prog 78 0 = some 0 := by kernel_rfl
theorem fieldA_78_1 : fieldA Tryz.prog 78 1 = some 1 := by kernel_rfl
theorem fieldA_78_2 : fieldA Tryz.prog 78 2 = some 4 := by kernel_rfl
theorem fieldA_78_3 : fieldA Tryz.prog 78 3 = some 5 := by kernel_rfl
theorem placesA_78 : placesA Tryz.prog 78 = some fun i => (#[(0, 1), (1, 3), (4, 1), (5, 1)] : Array (Nat × Nat))[i]? := by kernel_rfl
theorem tyVar_80 : tyVar Tryz.prog 80 = some (true, 2) := by kernel_rfl
theorem zeroA_80 : zeroA Tryz.prog 80 = some (2, .agg [.v (.int .i64 (0)), .v (.int .i64 (0))]) := by kernel_rfl
theorem fieldA_80_0 : fieldA Tryz.prog 80 0 = some 0 := by kernel_rfl
theorem fieldA_80_1 : fieldA Tryz.prog 80 1 = some 1 := by kernel_rfl
theorem placesA_80 : placesA Tryz.prog 80 = some fun i => (#[(0, 1), (1, 1)] : Array (Nat × Nat))[i]? := by kernel_rfl
theorem tyVar_82 : tyVar Tryz.prog 82 = some (true, 6) := by kernel_rfl
theorem zeroA_82 : zeroA Tryz.prog 82 = some (6, .agg [.v (.string ⟨#[]⟩), .v (.int .i64 (0)), .v (.int .i64 (0)), .v (.int .i64 (0)), .v (.int .i64 (0)), .v (.int .i64 (0))]) := by kernel_rfl
theorem fieldA_82_0 : fieldA Tryz.prog 82 0 = some 0 := by kernel_rfl
theorem fieldA_82_1 : fieldA Tryz.prog 82 1 = some 1 := by kernel_rfl
theorem fieldA_82_2 : fieldA Tryz.prog 82 2 = some 2 := by kernel_rfl
theorem fieldA_82_3 : fieldA Tryz.prog 82 3 = some 4 := by kernel_rfl
theorem placesA_82 : placesA Tryz.prog 82 = some fun i => (#[(0, 1), (1, 1), (2, 2), (4, 2)] : Array (Nat × Nat))[i]? := by kernel_rfl
theorem tyVar_83 : tyVar Tryz.prog 83 = some (false, 1) := by kernel_rfl
theorem zeroA_83 : zeroA Tryz.prog 83 = some (1, .v .nilFunc) := by kernel_rfl
theorem tyVar_85 : tyVar Tryz.prog 85 = some (true, 2) := by kernel_rfl
theorem zeroA_85 : zeroA Tryz.prog 85 = some (2, .agg [.v (.int .i64 (0)), .v .nilFunc]) := by kernel_rfl
theorem fieldA_85_0 : fieldA Tryz.prog 85 0 = some 0 := by kernel_rfl
theorem fieldA_85_1 : fieldA Tryz.prog 85 1 = some 1 := by kernel_rfl
theorem placesA_85 : placesA Tryz.prog 85 = some fun i => (#[(0, 1), (1, 1)] : Array (Nat × Nat))[i]? := by kernel_rfl
theorem tyVar_88 : tyVar Tryz.prog 88 = some (false, 1) := by kernel_rfl
theorem zeroA_88 : zeroA Tryz.prog 88 = some (1, .v .nilFunc) := by kernel_rfl
theorem tyVar_90 : tyVar Tryz.prog 90 = some (false, 1) := by kernel_rfl
theorem zeroA_90 : zeroA Tryz.prog 90 = some (1, .v .nilFunc) := by kernel_rfl
theorem tyVar_98 : tyVar Tryz.prog 98 = some (false, 1) := by kernel_rfl
theorem tySlice_98 : tySlice Tryz.prog 98 = some (9, 1, 16) := by kernel_rfl
theorem zeroA_98 : zeroA Tryz.prog 98 = some (1, .slice 0 [] .tight) := by kernel_rfl
theorem tyVar_117 : tyVar Tryz.prog 117 = some (false, 1) := by kernel_rfl
theorem zeroA_117 : zeroA Tryz.prog 117 = some (1, .v .nilFunc) := by kernel_rfl
theorem tyVar_118 : tyVar Tryz.prog 118 = some (false, 1) := by kernel_rfl
theorem zeroA_118 : zeroA Tryz.prog 118 = some (1, .v .nilFunc) := by kernel_rfl
theorem tyVar_121 : tyVar Tryz.prog 121 = some (false, 1) := by kernel_rfl
theorem zeroA_121 : zeroA Tryz.prog 121 = some (1, .v .nilFunc) := by kernel_rfl
theorem tyVar_122 : tyVar Tryz.prog 122 = some (false, 1) := by kernel_rfl
theorem zeroA_122 : zeroA Tryz.prog 122 = some (1, .v .nilFunc) := by kernel_rfl
theorem tyVar_124 : tyVar Tryz.prog 124 = some (false, 1) := by kernel_rfl
theorem zeroA_124 : zeroA Tryz.prog 124 = some (1, .v (.int .u64 (0))) := by kernel_rfl
theorem und_124 : Tryz.prog.underlying 124 = some (.int .u64) := by kernel_rfl
theorem tyVar_134 : tyVar Tryz.prog 134 = some (false, 1) := by kernel_rfl
theorem zeroA_134 : zeroA Tryz.prog 134 = some (1, .v (.int .u32 (0))) := by kernel_rfl
theorem und_134 : Tryz.prog.underlying 134 = some (.int .u32) := by kernel_rfl
theorem tyVar_136 : tyVar Tryz.prog 136 = some (false, 1) := by kernel_rfl
theorem zeroA_136 : zeroA Tryz.prog 136 = some (1, .v (.int .u64 (0))) := by kernel_rfl
theorem und_136 : Tryz.prog.underlying 136 = some (.int .u64) := by kernel_rfl
theorem tyVar_138 : tyVar Tryz.prog 138 = some (false, 1) := by kernel_rfl
theorem zeroA_138 : zeroA Tryz.prog 138 = some (1, .v (.int .i64 (0))) := by kernel_rfl
theorem und_138 : Tryz.prog.underlying 138 = some (.int .i64) := by kernel_rfl
theorem tyVar_145 : tyVar Tryz.prog 145 = some (true, 32) := by kernel_rfl
theorem tyArray_145 : tyArray Tryz.prog 145 = some (32, 1) := by kernel_rfl
theorem placesA_145 : placesA Tryz.prog 145 = some fun i => some (i * 1, 1) := by kernel_rfl
theorem zeroA_145 : zeroA Tryz.prog 145 = some (32, .agg [.v (.int .u8 (0)), .v (.int .u8 (0)), .v (.int .u8 (0)), .v (.int .u8 (0)), .v (.int .u8 (0)), .v (.int .u8 (0)), .v (.int .u8 (0)), .v (.int .u8 (0)), .v (.int .u8 (0)), .v (.int .u8 (0)), .v (.int .u8 (0)), .v (.int .u8 (0)), .v (.int .u8 (0)), .v (.int .u8 (0)), .v (.int .u8 (0)), .v (.int .u8 (0)), .v (.int .u8 (0)), .v (.int .u8 (0)), .v (.int .u8 (0)), .v (.int .u8 (0)), .v (.int .u8 (0)), .v (.int .u8 (0)), .v (.int .u8 (0)), .v (.int .u8 (0)), .v (.int .u8 (0)), .v (.int .u8 (0)), .v (.int .u8 (0)), .v (.int .u8 (0)), .v (.int .u8 (0)), .v (.int .u8 (0)), .v (.int .u8 (0)), .v (.int .u8 (0))]) := by kernel_rfl
theorem und_145 : Tryz.prog.underlying 145 = some (.array 32 5) := by kernel_rfl
theorem tyVar_146 : tyVar Tryz.prog 146 = some (true, 64) := by kernel_rfl
theorem tyArray_146 : tyArray Tryz.prog 146 = some (64, 1) := by kernel_rfl
theorem placesA_146 : placesA Tryz.prog 146 = some fun i => some (i * 1, 1) := by kernel_rfl
theorem zeroA_146 : zeroA Tryz.prog 146 = some (64, .agg [.v (.int .u8 (0)), .v (.int .u8 (0)), .v (.int .u8 (0)), .v (.int .u8 (0)), .v (.int .u8 (0)), .v (.int .u8 (0)), .v (.int .u8 (0)), .v (.int .u8 (0)), .v (.int .u8 (0)), .v (.int .u8 (0)), .v (.int .u8 (0)), .v (.int .u8 (0)), .v (.int .u8 (0)), .v (.int .u8 (0)), .v (.int .u8 (0)), .v (.int .u8 (0)), .v (.int .u8 (0)), .v (.int .u8 (0)), .v (.int .u8 (0)), .v (.int .u8 (0)), .v (.int .u8 (0)), .v (.int .u8 (0)), .v (.int .u8 (0)), .v (.int .u8 (0)), .v (.int .u8 (0)), .v (.int .u8 (0)), .v (.int .u8 (0)), .v (.int .u8 (0)), .v (.int .u8 (0)), .v (.int .u8 (0)), .v (.int .u8 (0)), .v (.int .u8 (0)), .v (.int .u8 (0)), .v (.int .u8 (0)), .v (.int .u8 (0)), .v (.int .u8 (0)), .v (.int .u8 (0)), .v (.int .u8 (0)), .v (.int .u8 (0)), .v (.int .u8 (0)), .v (.int .u8 (0)), .v (.int .u8 (0)), .v (.int .u8 (0)), .v (.int .u8 (0)), .v (.int .u8 (0)), .v (.int .u8 (0)), .v (.int .u8 (0)), .v (.int .u8 (0)), .v (.int .u8 (0)), .v (.int .u8 (0)), .v (.int .u8 (0)), .v (.int .u8 (0)), .v (.int .u8 (0)), .v (.int .u8 (0)), .v (.int .u8 (0)), .v (.int .u8 (0)), .v (.int .u8 (0)), .v (.int .u8 (0)), .v (.int .u8 (0)), .v (.int .u8 (0)), .v (.int .u8 (0)), .v (.int .u8 (0)), .v (.int .u8 (0)), .v (.int .u8 (0))]) := by kernel_rfl
theorem und_146 : Tryz.prog.underlying 146 = some (.array 64 5) := by kernel_rfl
theorem tyVar_147 : tyVar Tryz.prog 147 = some (false, 1) := by kernel_rfl
theorem zeroA_147 : zeroA Tryz.prog 147 = some (1, .v (.int .u64 (0))) := by kernel_rfl
theorem und_147 : Tryz.prog.underlying 147 = some (.int .u64) := by kernel_rfl
theorem tyVar_151 : tyVar Tryz.prog 151 = some (false, 1) := by kernel_rfl
theorem zeroA_151 : zeroA Tryz.prog 151 = some (1, .v (.pointer none)) := by kernel_rfl
theorem tyVar_154 : tyVar Tryz.prog 154 = some (false, 1) := by kernel_rfl
theorem zeroA_154 : zeroA Tryz.prog 154 = some (1, .v (.pointer none)) := by kernel_rfl
theorem call_3 : Callable Tryz.prog 3 := cO Tryz.func3
theorem call_4 : Callable Tryz.prog 4 := cO Tryz.func4
theorem call_5 : Callable Tryz.prog 5 := cO Tryz.func5
theorem call_6 : Callable Tryz.prog 6 := cO Tryz.func6
theorem call_7 : Callable Tryz.prog 7 := cO Tryz.func7
theorem call_8 : Callable Tryz.prog 8 := cO Tryz.func8
theorem call_9 : Callable Tryz.prog 9 := cO Tryz.func9
theorem call_10 : Callable Tryz.prog 10 := cO Tryz.func10
theorem call_11 : Callable Tryz.prog 11 := cO Tryz.func11
theorem call_12 : Callable Tryz.prog 12 := cO Tryz.func12
theorem call_13 : Callable Tryz.prog 13 := cO Tryz.func13
theorem call_14 : Callable Tryz.prog 14 := cO Tryz.func14
theorem call_15 : Callable Tryz.prog 15 := cO Tryz.func15
theorem call_16 : Callable Tryz.prog 16 := cO Tryz.func16
theorem call_17 : Callable Tryz.prog 17 := cO Tryz.func17
theorem call_18 : Callable Tryz.prog 18 := cO Tryz.func18
theorem call_19 : Callable Tryz.prog 19 := cO Tryz.func19
theorem call_20 : Callable Tryz.prog 20 := cO Tryz.func20
theorem call_21 : Callable Tryz.prog 21 := cO Tryz.func21
theorem call_22 : Callable Tryz.prog 22 := cO Tryz.func22
theorem call_23 : Callable Tryz.prog 23 := cO Tryz.func23
theorem call_24 : Callable Tryz.prog 24 := cO Tryz.func24
theorem call_25 : Callable Tryz.prog 25 := cO Tryz.func25
theorem call_26 : Callable Tryz.prog 26 := cO Tryz.func26
theorem call_27 : Callable Tryz.prog 27 := cO Tryz.func27
theorem call_28 : Callable Tryz.prog 28 := cO Tryz.func28
theorem call_29 : Callable Tryz.prog 29 := cO Tryz.func29
theorem call_30 : Callable Tryz.prog 30 := cO Tryz.func30
theorem call_31 : Callable Tryz.prog 31 := cO Tryz.func31
theorem call_32 : Callable Tryz.prog 32 := cO Tryz.func32
theorem call_33 : Callable Tryz.prog 33 := cO Tryz.func33
theorem call_34 : Callable Tryz.prog 34 := cO Tryz.func34
theorem call_35 : Callable Tryz.prog 35 := cO Tryz.func35
theorem call_36 : Callable Tryz.prog 36 := cO Tryz.func36
theorem call_37 : Callable Tryz.prog 37 := cO Tryz.func37
theorem call_38 : Callable Tryz.prog 38 := cO Tryz.func38
theorem call_39 : Callable Tryz.prog 39 := cO Tryz.func39
theorem call_40 : Callable Tryz.prog 40 := cO Tryz.func40
theorem call_41 : Callable Tryz.prog 41 := cO Tryz.func41
theorem call_42 : Callable Tryz.prog 42 := cO Tryz.func42
theorem call_43 : Callable Tryz.prog 43 := cO Tryz.func43
theorem call_44 : Callable Tryz.prog 44 := cO Tryz.func44
theorem call_45 : Callable Tryz.prog 45 := cO Tryz.func45
theorem call_46 : Callable Tryz.prog 46 := cO Tryz.func46
theorem call_47 : Callable Tryz.prog 47 := cO Tryz.func47
theorem call_48 : Callable Tryz.prog 48 := cO Tryz.func48
theorem call_49 : Callable Tryz.prog 49 := cO Tryz.func49
theorem call_50 : Callable Tryz.prog 50 := cO Tryz.func50
theorem call_51 : Callable Tryz.prog 51 := cO Tryz.func51
theorem call_52 : Callable Tryz.prog 52 := cO Tryz.func52
theorem call_53 : Callable Tryz.prog 53 := cO Tryz.func53
theorem call_54 : Callable Tryz.prog 54 := cO Tryz.func54
theorem call_55 : Callable Tryz.prog 55 := cO Tryz.func55
theorem call_56 : Callable Tryz.prog 56 := cO Tryz.func56
theorem call_57 : Callable Tryz.prog 57 := cO Tryz.func57
theorem call_58 : Callable Tryz.prog 58 := cO Tryz.func58
theorem call_59 : Callable Tryz.prog 59 := cO Tryz.func59
theorem call_60 : Callable Tryz.prog 60 := cO Tryz.func60
theorem call_61 : Callable Tryz.prog 61 := cO Tryz.func61
theorem call_62 : Callable Tryz.prog 62 := cO Tryz.func62
theorem call_63 : Callable Tryz.prog 63 := cO Tryz.func63
theorem call_64 : Callable Tryz.prog 64 := cO Tryz.func64
theorem call_65 : Callable Tryz.prog 65 := cO Tryz.func65
theorem call_66 : Callable Tryz.prog 66 := cO Tryz.func66
theorem call_67 : Callable Tryz.prog 67 := cO Tryz.func67
theorem call_68 : Callable Tryz.prog 68 := cO Tryz.func68
theorem call_69 : Callable Tryz.prog 69 := cO Tryz.func69
theorem call_70 : Callable Tryz.prog 70 := cO Tryz.func70
theorem call_71 : Callable Tryz.prog 71 := cO Tryz.func71
theorem call_72 : Callable Tryz.prog 72 := cO Tryz.func72
theorem call_73 : Callable Tryz.prog 73 := cO Tryz.func73
theorem call_74 : Callable Tryz.prog 74 := cO Tryz.func74
theorem call_75 : Callable Tryz.prog 75 := cO Tryz.func75
theorem call_76 : Callable Tryz.prog 76 := cO Tryz.func76
theorem call_77 : Callable Tryz.prog 77 := cO Tryz.func77
theorem call_78 : Callable Tryz.prog 78 := cO Tryz.func78
theorem call_79 : Callable Tryz.prog 79 := cO Tryz.func79
theorem call_80 : Callable Tryz.prog 80 := cO Tryz.func80
theorem call_81 : Callable Tryz.prog 81 := cO Tryz.func81
theorem call_82 : Callable Tryz.prog 82 := cO Tryz.func82
theorem call_83 : Callable Tryz.prog 83 := cO Tryz.func83
theorem call_84 : Callable Tryz.prog 84 := cO Tryz.func84
theorem call_85 : Callable Tryz.prog 85 := cO Tryz.func85
theorem call_86 : Callable Tryz.prog 86 := cO Tryz.func86
theorem call_87 : Callable Tryz.prog 87 := cO Tryz.func87
theorem call_88 : Callable Tryz.prog 88 := cO Tryz.func88
theorem call_89 : Callable Tryz.prog 89 := cO Tryz.func89
theorem call_90 : Callable Tryz.prog 90 := cO Tryz.func90
theorem call_91 : Callable Tryz.prog 91 := cO Tryz.func91
theorem call_92 : Callable Tryz.prog 92 := cO Tryz.func92
theorem call_93 : Callable Tryz.prog 93 := cO Tryz.func93
theorem call_95 : Callable Tryz.prog 95 := cO Tryz.func95
theorem call_96 : Callable Tryz.prog 96 := cO Tryz.func96
theorem call_99 : Callable Tryz.prog 99 := cO Tryz.func99
theorem call_101 : Callable Tryz.prog 101 := cO Tryz.func101
theorem call_103 : Callable Tryz.prog 103 := cO Tryz.func103
theorem call_105 : Callable Tryz.prog 105 := cO Tryz.func105
theorem call_106 : Callable Tryz.prog 106 := cO Tryz.func106
theorem call_107 : Callable Tryz.prog 107 := cO Tryz.func107
theorem call_108 : Callable Tryz.prog 108 := cO Tryz.func108
theorem call_109 : Callable Tryz.prog 109 := cO Tryz.func109
theorem call_113 : Callable Tryz.prog 113 := cO Tryz.func113
theorem call_114 : Callable Tryz.prog 114 := cO Tryz.func114
theorem call_115 : Callable Tryz.prog 115 := cO Tryz.func115
theorem call_116 : Callable Tryz.prog 116 := cO Tryz.func116
theorem eqTy_23 : (∃ n, n ≤ 10000 ∧ eqTy Tryz.prog n 23 = some [.int .i64, .int .i64, .int .i64]) ∧ isAggTy Tryz.prog 23 = true ∧ Tryz.prog.eqGuardType Tryz.prog.depth 23 = false := ⟨⟨12, by decide, by kernel_rfl⟩, by kernel_rfl, by kernel_rfl⟩
theorem eqTy_55 : (∃ n, n ≤ 10000 ∧ eqTy Tryz.prog n 55 = some [.int .i64, .int .i64, .int .i64, .bool]) ∧ isAggTy Tryz.prog 55 = true ∧ Tryz.prog.eqGuardType Tryz.prog.depth 55 = false := ⟨⟨12, by decide, by kernel_rfl⟩, by kernel_rfl, by kernel_rfl⟩
theorem eqTy_70 : (∃ n, n ≤ 10000 ∧ eqTy Tryz.prog n 70 = some [.int .i64, .int .i64, .int .i64, .int .i64, .int .i64, .int .i64, .int .i64, .int .i64, .int .i64, .int .i64, .int .i64, .int .i64, .int .i64, .int .i64, .int .i64, .int .i64, .int .i64, .int .i64]) ∧ isAggTy Tryz.prog 70 = true ∧ Tryz.prog.eqGuardType Tryz.prog.depth 70 = false := ⟨⟨12, by decide, by kernel_rfl⟩, by kernel_rfl, by kernel_rfl⟩
theorem mapTy_72 : MapTy Tryz.prog 72 (.agg [.int .i64, .int .i64, .int .i64], .agg [.v (.int .i64 (0)), .v (.int .i64 (0)), .v (.int .i64 (0)), .v (.bool false)]) := mapTy_of' (n := 12) (z := .agg #[.int .i64 (0), .int .i64 (0), .int .i64 (0), .bool false]) und_72 (cs := [.int .i64, .int .i64, .int .i64]) (by kernel_rfl) (by decide) (by kernel_rfl) _ (by kernel_rfl) (by kernel_rfl)
theorem eqTy_78 : (∃ n, n ≤ 10000 ∧ eqTy Tryz.prog n 78 = some [.str, .int .i64, .int .i64, .int .i64, .int .i64, .bool]) ∧ isAggTy Tryz.prog 78 = true ∧ Tryz.prog.eqGuardType Tryz.prog.depth 78 = false := ⟨⟨12, by decide, by kernel_rfl⟩, by kernel_rfl, by kernel_rfl⟩
theorem eqTy_80 : (∃ n, n ≤ 10000 ∧ eqTy Tryz.prog n 80 = some [.int .i64, .int .i64]) ∧ isAggTy Tryz.prog 80 = true ∧ Tryz.prog.eqGuardType Tryz.prog.depth 80 = false := ⟨⟨12, by decide, by kernel_rfl⟩, by kernel_rfl, by kernel_rfl⟩
theorem eqTy_82 : (∃ n, n ≤ 10000 ∧ eqTy Tryz.prog n 82 = some [.str, .int .i64, .int .i64, .int .i64, .int .i64, .int .i64]) ∧ isAggTy Tryz.prog 82 = true ∧ Tryz.prog.eqGuardType Tryz.prog.depth 82 = false := ⟨⟨12, by decide, by kernel_rfl⟩, by kernel_rfl, by kernel_rfl⟩
theorem eqTy_145 : (∃ n, n ≤ 10000 ∧ eqTy Tryz.prog n 145 = some [.int .u8, .int .u8, .int .u8, .int .u8, .int .u8, .int .u8, .int .u8, .int .u8, .int .u8, .int .u8, .int .u8, .int .u8, .int .u8, .int .u8, .int .u8, .int .u8, .int .u8, .int .u8, .int .u8, .int .u8, .int .u8, .int .u8, .int .u8, .int .u8, .int .u8, .int .u8, .int .u8, .int .u8, .int .u8, .int .u8, .int .u8, .int .u8]) ∧ isAggTy Tryz.prog 145 = true ∧ Tryz.prog.eqGuardType Tryz.prog.depth 145 = false := ⟨⟨12, by decide, by kernel_rfl⟩, by kernel_rfl, by kernel_rfl⟩
theorem eqTy_146 : (∃ n, n ≤ 10000 ∧ eqTy Tryz.prog n 146 = some [.int .u8, .int .u8, .int .u8, .int .u8, .int .u8, .int .u8, .int .u8, .int .u8, .int .u8, .int .u8, .int .u8, .int .u8, .int .u8, .int .u8, .int .u8, .int .u8, .int .u8, .int .u8, .int .u8, .int .u8, .int .u8, .int .u8, .int .u8, .int .u8, .int .u8, .int .u8, .int .u8, .int .u8, .int .u8, .int .u8, .int .u8, .int .u8, .int .u8, .int .u8, .int .u8, .int .u8, .int .u8, .int .u8, .int .u8, .int .u8, .int .u8, .int .u8, .int .u8, .int .u8, .int .u8, .int .u8, .int .u8, .int .u8, .int .u8, .int .u8, .int .u8, .int .u8, .int .u8, .int .u8, .int .u8, .int .u8, .int .u8, .int .u8, .int .u8, .int .u8, .int .u8, .int .u8, .int .u8, .int .u8]) ∧ isAggTy Tryz.prog 146 = true ∧ Tryz.prog.eqGuardType Tryz.prog.depth 146 = false := ⟨⟨12, by decide, by kernel_rfl⟩, by kernel_rfl, by kernel_rfl⟩
theorem fieldsOf_27 : ∀ f o, nth [some 0, some 3, some 4, some 5] f = some (some o) → fieldA Tryz.prog 27 f = some o := by intro f o h; rw [nth_eq] at h; match f, h with
  | 0, h => simp at h; subst h; exact fieldA_27_0
  | 1, h => simp at h; subst h; exact fieldA_27_1
  | 2, h => simp at h; subst h; exact fieldA_27_2
  | 3, h => simp at h; subst h; exact fieldA_27_3
  | n + 4, h => simp at h
theorem placesL_27 : placesA Tryz.prog 27 = some fun i => ([(0, 3), (3, 1), (4, 1), (5, 1)] : List (Nat × Nat))[i]? := by rw [placesA_27]; congr 1; funext i; simp
theorem fieldsOf_55 : ∀ f o, nth [some 0, some 3] f = some (some o) → fieldA Tryz.prog 55 f = some o := by intro f o h; rw [nth_eq] at h; match f, h with
  | 0, h => simp at h; subst h; exact fieldA_55_0
  | 1, h => simp at h; subst h; exact fieldA_55_1
  | n + 2, h => simp at h
theorem placesL_55 : placesA Tryz.prog 55 = some fun i => ([(0, 3), (3, 1)] : List (Nat × Nat))[i]? := by rw [placesA_55]; congr 1; funext i; simp
theorem fieldsOf_74 : ∀ f o, nth [some 0, some 6, some 7, some 25, some 26] f = some (some o) → fieldA Tryz.prog 74 f = some o := by intro f o h; rw [nth_eq] at h; match f, h with
  | 0, h => simp at h; subst h; exact fieldA_74_0
  | 1, h => simp at h; subst h; exact fieldA_74_1
  | 2, h => simp at h; subst h; exact fieldA_74_2
  | 3, h => simp at h; subst h; exact fieldA_74_3
  | 4, h => simp at h; subst h; exact fieldA_74_4
  | n + 5, h => simp at h
theorem placesL_74 : placesA Tryz.prog 74 = some fun i => ([(0, 6), (6, 1), (7, 18), (25, 1), (26, 1)] : List (Nat × Nat))[i]? := by rw [placesA_74]; congr 1; funext i; simp
theorem fieldsOf_78 : ∀ f o, nth [some 0, some 1, some 4, some 5] f = some (some o) → fieldA Tryz.prog 78 f = some o := by intro f o h; rw [nth_eq] at h; match f, h with
  | 0, h => simp at h; subst h; exact fieldA_78_0
  | 1, h => simp at h; subst h; exact fieldA_78_1
  | 2, h => simp at h; subst h; exact fieldA_78_2
  | 3, h => simp at h; subst h; exact fieldA_78_3
  | n + 4, h => simp at h
theorem placesL_78 : placesA Tryz.prog 78 = some fun i => ([(0, 1), (1, 3), (4, 1), (5, 1)] : List (Nat × Nat))[i]? := by rw [placesA_78]; congr 1; funext i; simp
theorem fieldsOf_80 : ∀ f o, nth [some 0, some 1] f = some (some o) → fieldA Tryz.prog 80 f = some o := by intro f o h; rw [nth_eq] at h; match f, h with
  | 0, h => simp at h; subst h; exact fieldA_80_0
  | 1, h => simp at h; subst h; exact fieldA_80_1
  | n + 2, h => simp at h
theorem placesL_80 : placesA Tryz.prog 80 = some fun i => ([(0, 1), (1, 1)] : List (Nat × Nat))[i]? := by rw [placesA_80]; congr 1; funext i; simp
theorem fieldsOf_82 : ∀ f o, nth [some 0, some 1, some 2, some 4] f = some (some o) → fieldA Tryz.prog 82 f = some o := by intro f o h; rw [nth_eq] at h; match f, h with
  | 0, h => simp at h; subst h; exact fieldA_82_0
  | 1, h => simp at h; subst h; exact fieldA_82_1
  | 2, h => simp at h; subst h; exact fieldA_82_2
  | 3, h => simp at h; subst h; exact fieldA_82_3
  | n + 4, h => simp at h
theorem placesL_82 : placesA Tryz.prog 82 = some fun i => ([(0, 1), (1, 1), (2, 2), (4, 2)] : List (Nat × Nat))[i]? := by rw [placesA_82]; congr 1; funext i; simp
theorem fieldsOf_85 : ∀ f o, nth [some 0, some 1] f = some (some o) → fieldA Tryz.prog 85 f = some o := by intro f o h; rw [nth_eq] at h; match f, h with
  | 0, h => simp at h; subst h; exact fieldA_85_0
  | 1, h => simp at h; subst h; exact fieldA_85_1
  | n + 2, h => simp at h
theorem placesL_85 : placesA Tryz.prog 85 = some fun i => ([(0, 1), (1, 1)] : List (Nat × Nat))[i]? := by rw [placesA_85]; congr 1; funext i; simp
theorem partI_23 : partI Tryz.prog 23 = some (false, 3, 1) ∧ ∃ len e, Tryz.prog.underlying 23 = some (.array len e) := ⟨by kernel_rfl, _, _, und_23⟩
theorem partF_27_0 : partF Tryz.prog 27 0 = some (true, 0, 3) := by kernel_rfl
theorem partF_27_1 : partF Tryz.prog 27 1 = some (false, 3, 1) := by kernel_rfl
theorem partF_27_2 : partF Tryz.prog 27 2 = some (false, 4, 1) := by kernel_rfl
theorem partF_27_3 : partF Tryz.prog 27 3 = some (false, 5, 1) := by kernel_rfl
theorem partsOf_27 : ∀ f q, nth ([some (true, 0, 3), some (false, 3, 1), some (false, 4, 1), some (false, 5, 1)] : List (Option (Bool × Nat × Nat))) f = some (some q) → partF Tryz.prog 27 f = some q := by intro f o h; rw [nth_eq] at h; match f, h with
  | 0, h => simp at h; subst h; exact partF_27_0
  | 1, h => simp at h; subst h; exact partF_27_1
  | 2, h => simp at h; subst h; exact partF_27_2
  | 3, h => simp at h; subst h; exact partF_27_3
  | n + 4, h => simp at h
theorem partF_55_0 : partF Tryz.prog 55 0 = some (true, 0, 3) := by kernel_rfl
theorem partF_55_1 : partF Tryz.prog 55 1 = some (false, 3, 1) := by kernel_rfl
theorem partsOf_55 : ∀ f q, nth ([some (true, 0, 3), some (false, 3, 1)] : List (Option (Bool × Nat × Nat))) f = some (some q) → partF Tryz.prog 55 f = some q := by intro f o h; rw [nth_eq] at h; match f, h with
  | 0, h => simp at h; subst h; exact partF_55_0
  | 1, h => simp at h; subst h; exact partF_55_1
  | n + 2, h => simp at h
theorem partI_70 : partI Tryz.prog 70 = some (true, 6, 3) ∧ ∃ len e, Tryz.prog.underlying 70 = some (.array len e) := ⟨by kernel_rfl, _, _, und_70⟩
theorem partF_74_0 : partF Tryz.prog 74 0 = some (true, 0, 6) := by kernel_rfl
theorem partF_74_1 : partF Tryz.prog 74 1 = some (false, 6, 1) := by kernel_rfl
theorem partF_74_2 : partF Tryz.prog 74 2 = some (true, 7, 18) := by kernel_rfl
theorem partF_74_3 : partF Tryz.prog 74 3 = some (false, 25, 1) := by kernel_rfl
theorem partF_74_4 : partF Tryz.prog 74 4 = some (false, 26, 1) := by kernel_rfl
theorem partsOf_74 : ∀ f q, nth ([some (true, 0, 6), some (false, 6, 1), some (true, 7, 18), some (false, 25, 1), some (false, 26, 1)] : List (Option (Bool × Nat × Nat))) f = some (some q) → partF Tryz.prog 74 f = some q := by intro f o h; rw [nth_eq] at h; match f, h with
  | 0, h => simp at h; subst h; exact partF_74_0
  | 1, h => simp at h; subst h; exact partF_74_1
  | 2, h => simp at h; subst h; exact partF_74_2
  | 3, h => simp at h; subst h; exact partF_74_3
  | 4, h => simp at h; subst h; exact partF_74_4
  | n + 5, h => simp at h
theorem partF_78_0 : partF Tryz.prog 78 0 = some (false, 0, 1) := by kernel_rfl
theorem partF_78_1 : partF Tryz.prog 78 1 = some (true, 1, 3) := by kernel_rfl
theorem partF_78_2 : partF Tryz.prog 78 2 = some (false, 4, 1) := by kernel_rfl
theorem partF_78_3 : partF Tryz.prog 78 3 = some (false, 5, 1) := by kernel_rfl
theorem partsOf_78 : ∀ f q, nth ([some (false, 0, 1), some (true, 1, 3), some (false, 4, 1), some (false, 5, 1)] : List (Option (Bool × Nat × Nat))) f = some (some q) → partF Tryz.prog 78 f = some q := by intro f o h; rw [nth_eq] at h; match f, h with
  | 0, h => simp at h; subst h; exact partF_78_0
  | 1, h => simp at h; subst h; exact partF_78_1
  | 2, h => simp at h; subst h; exact partF_78_2
  | 3, h => simp at h; subst h; exact partF_78_3
  | n + 4, h => simp at h
theorem partF_80_0 : partF Tryz.prog 80 0 = some (false, 0, 1) := by kernel_rfl
theorem partF_80_1 : partF Tryz.prog 80 1 = some (false, 1, 1) := by kernel_rfl
theorem partsOf_80 : ∀ f q, nth ([some (false, 0, 1), some (false, 1, 1)] : List (Option (Bool × Nat × Nat))) f = some (some q) → partF Tryz.prog 80 f = some q := by intro f o h; rw [nth_eq] at h; match f, h with
  | 0, h => simp at h; subst h; exact partF_80_0
  | 1, h => simp at h; subst h; exact partF_80_1
  | n + 2, h => simp at h
theorem partF_82_0 : partF Tryz.prog 82 0 = some (false, 0, 1) := by kernel_rfl
theorem partF_82_1 : partF Tryz.prog 82 1 = some (false, 1, 1) := by kernel_rfl
theorem partF_82_2 : partF Tryz.prog 82 2 = some (true, 2, 2) := by kernel_rfl
theorem partF_82_3 : partF Tryz.prog 82 3 = some (true, 4, 2) := by kernel_rfl
theorem partsOf_82 : ∀ f q, nth ([some (false, 0, 1), some (false, 1, 1), some (true, 2, 2), some (true, 4, 2)] : List (Option (Bool × Nat × Nat))) f = some (some q) → partF Tryz.prog 82 f = some q := by intro f o h; rw [nth_eq] at h; match f, h with
  | 0, h => simp at h; subst h; exact partF_82_0
  | 1, h => simp at h; subst h; exact partF_82_1
  | 2, h => simp at h; subst h; exact partF_82_2
  | 3, h => simp at h; subst h; exact partF_82_3
  | n + 4, h => simp at h
theorem partF_85_0 : partF Tryz.prog 85 0 = some (false, 0, 1) := by kernel_rfl
theorem partF_85_1 : partF Tryz.prog 85 1 = some (false, 1, 1) := by kernel_rfl
theorem partsOf_85 : ∀ f q, nth ([some (false, 0, 1), some (false, 1, 1)] : List (Option (Bool × Nat × Nat))) f = some (some q) → partF Tryz.prog 85 f = some q := by intro f o h; rw [nth_eq] at h; match f, h with
  | 0, h => simp at h; subst h; exact partF_85_0
  | 1, h => simp at h; subst h; exact partF_85_1
  | n + 2, h => simp at h
theorem partI_145 : partI Tryz.prog 145 = some (false, 32, 1) ∧ ∃ len e, Tryz.prog.underlying 145 = some (.array len e) := ⟨by kernel_rfl, _, _, und_145⟩
theorem partI_146 : partI Tryz.prog 146 = some (false, 64, 1) ∧ ∃ len e, Tryz.prog.underlying 146 = some (.array len e) := ⟨by kernel_rfl, _, _, und_146⟩
def tab : Tab where
  var := .nd 78 (true, 6) (.nd 29 (false, 1) (.nd 23 (true, 3) (.nd 5 (false, 1) (.nd 4 (false, 1) (.nd 3 (false, 1) (.lf) (.lf)) (.lf)) (.nd 21 (false, 1) (.nd 9 (false, 1) (.lf) (.lf)) (.lf))) (.nd 27 (true, 6) (.nd 25 (false, 1) (.nd 24 (false, 1) (.lf) (.lf)) (.lf)) (.nd 28 (false, 1) (.lf) (.lf)))) (.nd 61 (false, 1) (.nd 48 (false, 1) (.nd 45 (false, 1) (.nd 33 (false, 1) (.lf) (.lf)) (.lf)) (.nd 55 (true, 4) (.nd 52 (false, 1) (.lf) (.lf)) (.lf))) (.nd 72 (false, 1) (.nd 71 (false, 1) (.nd 70 (true, 18) (.lf) (.lf)) (.lf)) (.nd 74 (true, 27) (.lf) (.lf))))) (.nd 122 (false, 1) (.nd 90 (false, 1) (.nd 83 (false, 1) (.nd 82 (true, 6) (.nd 80 (true, 2) (.lf) (.lf)) (.lf)) (.nd 88 (false, 1) (.nd 85 (true, 2) (.lf) (.lf)) (.lf))) (.nd 118 (false, 1) (.nd 117 (false, 1) (.nd 98 (false, 1) (.lf) (.lf)) (.lf)) (.nd 121 (false, 1) (.lf) (.lf)))) (.nd 145 (true, 32) (.nd 136 (false, 1) (.nd 134 (false, 1) (.nd 124 (false, 1) (.lf) (.lf)) (.lf)) (.nd 138 (false, 1) (.lf) (.lf))) (.nd 151 (false, 1) (.nd 147 (false, 1) (.nd 146 (true, 64) (.lf) (.lf)) (.lf)) (.nd 154 (false, 1) (.lf) (.lf)))))
  slice := .nd 33 (28, 1, 24) (.nd 25 (82, 6, 56) (.nd 24 (78, 6, 56) (.lf) (.lf)) (.nd 28 (3, 1, 8) (.lf) (.lf))) (.nd 98 (9, 1, 16) (.nd 71 (85, 2, 16) (.lf) (.lf)) (.lf))
  array := .nd 145 (32, 1) (.nd 70 (6, 3) (.nd 23 (3, 1) (.lf) (.lf)) (.lf)) (.nd 146 (64, 1) (.lf) (.lf))
  zero := .nd 78 (6, .agg [.v (.string ⟨#[]⟩), .v (.int .i64 (0)), .v (.int .i64 (0)), .v (.int .i64 (0)), .v (.int .i64 (0)), .v (.bool false)]) (.nd 29 (1, .v (.int .i64 (0))) (.nd 23 (3, .agg [.v (.int .i64 (0)), .v (.int .i64 (0)), .v (.int .i64 (0))]) (.nd 5 (1, .v (.int .u8 (0))) (.nd 4 (1, .v (.bool false)) (.nd 3 (1, .v (.int .i64 (0))) (.lf) (.lf)) (.lf)) (.nd 21 (1, .v (.int .i32 (0))) (.nd 9 (1, .v (.string ⟨#[]⟩)) (.lf) (.lf)) (.lf))) (.nd 27 (6, .agg [.v (.int .i64 (0)), .v (.int .i64 (0)), .v (.int .i64 (0)), .v (.int .i64 (0)), .slice 0 [] .tight, .slice 0 [] .tight]) (.nd 25 (1, .slice 0 [] .tight) (.nd 24 (1, .slice 0 [] .tight) (.lf) (.lf)) (.lf)) (.nd 28 (1, .slice 0 [] .tight) (.lf) (.lf)))) (.nd 61 (1, .v .nilFunc) (.nd 48 (1, .v (.pointer none)) (.nd 45 (1, .v (.int .u16 (0))) (.nd 33 (1, .slice 0 [] .tight) (.lf) (.lf)) (.lf)) (.nd 55 (4, .agg [.v (.int .i64 (0)), .v (.int .i64 (0)), .v (.int .i64 (0)), .v (.bool false)]) (.nd 52 (1, .v .nilFunc) (.lf) (.lf)) (.lf))) (.nd 72 (1, .v (.map none)) (.nd 71 (1, .slice 0 [] .tight) (.nd 70 (18, .agg [.v (.int .i64 (0)), .v (.int .i64 (0)), .v (.int .i64 (0)), .v (.int .i64 (0)), .v (.int .i64 (0)), .v (.int .i64 (0)), .v (.int .i64 (0)), .v (.int .i64 (0)), .v (.int .i64 (0)), .v (.int .i64 (0)), .v (.int .i64 (0)), .v (.int .i64 (0)), .v (.int .i64 (0)), .v (.int .i64 (0)), .v (.int .i64 (0)), .v (.int .i64 (0)), .v (.int .i64 (0)), .v (.int .i64 (0))]) (.lf) (.lf)) (.lf)) (.nd 74 (27, .agg [.v (.int .i64 (0)), .v (.int .i64 (0)), .v (.int .i64 (0)), .v (.int .i64 (0)), .slice 0 [] .tight, .slice 0 [] .tight, .v (.int .i64 (0)), .v (.int .i64 (0)), .v (.int .i64 (0)), .v (.int .i64 (0)), .v (.int .i64 (0)), .v (.int .i64 (0)), .v (.int .i64 (0)), .v (.int .i64 (0)), .v (.int .i64 (0)), .v (.int .i64 (0)), .v (.int .i64 (0)), .v (.int .i64 (0)), .v (.int .i64 (0)), .v (.int .i64 (0)), .v (.int .i64 (0)), .v (.int .i64 (0)), .v (.int .i64 (0)), .v (.int .i64 (0)), .v (.int .i64 (0)), .slice 0 [] .tight, .v (.map none)]) (.lf) (.lf))))) (.nd 122 (1, .v .nilFunc) (.nd 90 (1, .v .nilFunc) (.nd 83 (1, .v .nilFunc) (.nd 82 (6, .agg [.v (.string ⟨#[]⟩), .v (.int .i64 (0)), .v (.int .i64 (0)), .v (.int .i64 (0)), .v (.int .i64 (0)), .v (.int .i64 (0))]) (.nd 80 (2, .agg [.v (.int .i64 (0)), .v (.int .i64 (0))]) (.lf) (.lf)) (.lf)) (.nd 88 (1, .v .nilFunc) (.nd 85 (2, .agg [.v (.int .i64 (0)), .v .nilFunc]) (.lf) (.lf)) (.lf))) (.nd 118 (1, .v .nilFunc) (.nd 117 (1, .v .nilFunc) (.nd 98 (1, .slice 0 [] .tight) (.lf) (.lf)) (.lf)) (.nd 121 (1, .v .nilFunc) (.lf) (.lf)))) (.nd 145 (32, .agg [.v (.int .u8 (0)), .v (.int .u8 (0)), .v (.int .u8 (0)), .v (.int .u8 (0)), .v (.int .u8 (0)), .v (.int .u8 (0)), .v (.int .u8 (0)), .v (.int .u8 (0)), .v (.int .u8 (0)), .v (.int .u8 (0)), .v (.int .u8 (0)), .v (.int .u8 (0)), .v (.int .u8 (0)), .v (.int .u8 (0)), .v (.int .u8 (0)), .v (.int .u8 (0)), .v (.int .u8 (0)), .v (.int .u8 (0)), .v (.int .u8 (0)), .v (.int .u8 (0)), .v (.int .u8 (0)), .v (.int .u8 (0)), .v (.int .u8 (0)), .v (.int .u8 (0)), .v (.int .u8 (0)), .v (.int .u8 (0)), .v (.int .u8 (0)), .v (.int .u8 (0)), .v (.int .u8 (0)), .v (.int .u8 (0)), .v (.int .u8 (0)), .v (.int .u8 (0))]) (.nd 136 (1, .v (.int .u64 (0))) (.nd 134 (1, .v (.int .u32 (0))) (.nd 124 (1, .v (.int .u64 (0))) (.lf) (.lf)) (.lf)) (.nd 138 (1, .v (.int .i64 (0))) (.lf) (.lf))) (.nd 151 (1, .v (.pointer none)) (.nd 147 (1, .v (.int .u64 (0))) (.nd 146 (64, .agg [.v (.int .u8 (0)), .v (.int .u8 (0)), .v (.int .u8 (0)), .v (.int .u8 (0)), .v (.int .u8 (0)), .v (.int .u8 (0)), .v (.int .u8 (0)), .v (.int .u8 (0)), .v (.int .u8 (0)), .v (.int .u8 (0)), .v (.int .u8 (0)), .v (.int .u8 (0)), .v (.int .u8 (0)), .v (.int .u8 (0)), .v (.int .u8 (0)), .v (.int .u8 (0)), .v (.int .u8 (0)), .v (.int .u8 (0)), .v (.int .u8 (0)), .v (.int .u8 (0)), .v (.int .u8 (0)), .v (.int .u8 (0)), .v (.int .u8 (0)), .v (.int .u8 (0)), .v (.int .u8 (0)), .v (.int .u8 (0)), .v (.int .u8 (0)), .v (.int .u8 (0)), .v (.int .u8 (0)), .v (.int .u8 (0)), .v (.int .u8 (0)), .v (.int .u8 (0)), .v (.int .u8 (0)), .v (.int .u8 (0)), .v (.int .u8 (0)), .v (.int .u8 (0)), .v (.int .u8 (0)), .v (.int .u8 (0)), .v (.int .u8 (0)), .v (.int .u8 (0)), .v (.int .u8 (0)), .v (.int .u8 (0)), .v (.int .u8 (0)), .v (.int .u8 (0)), .v (.int .u8 (0)), .v (.int .u8 (0)), .v (.int .u8 (0)), .v (.int .u8 (0)), .v (.int .u8 (0)), .v (.int .u8 (0)), .v (.int .u8 (0)), .v (.int .u8 (0)), .v (.int .u8 (0)), .v (.int .u8 (0)), .v (.int .u8 (0)), .v (.int .u8 (0)), .v (.int .u8 (0)), .v (.int .u8 (0)), .v (.int .u8 (0)), .v (.int .u8 (0)), .v (.int .u8 (0)), .v (.int .u8 (0)), .v (.int .u8 (0)), .v (.int .u8 (0))]) (.lf) (.lf)) (.lf)) (.nd 154 (1, .v (.pointer none)) (.lf) (.lf)))))
  field := .nd 78 [some 0, some 1, some 4, some 5] (.nd 55 [some 0, some 3] (.nd 27 [some 0, some 3, some 4, some 5] (.lf) (.lf)) (.nd 74 [some 0, some 6, some 7, some 25, some 26] (.lf) (.lf))) (.nd 82 [some 0, some 1, some 2, some 4] (.nd 80 [some 0, some 1] (.lf) (.lf)) (.nd 85 [some 0, some 1] (.lf) (.lf)))
  places := .nd 78 [(0, 1), (1, 3), (4, 1), (5, 1)] (.nd 55 [(0, 3), (3, 1)] (.nd 27 [(0, 3), (3, 1), (4, 1), (5, 1)] (.lf) (.lf)) (.nd 74 [(0, 6), (6, 1), (7, 18), (25, 1), (26, 1)] (.lf) (.lf))) (.nd 82 [(0, 1), (1, 1), (2, 2), (4, 2)] (.nd 80 [(0, 1), (1, 1)] (.lf) (.lf)) (.nd 85 [(0, 1), (1, 1)] (.lf) (.lf)))
  placesN := .nd 145 1 (.nd 70 3 (.nd 23 1 (.lf) (.lf)) (.lf)) (.nd 146 1 (.lf) (.lf))
  map := .nd 72 (.agg [.int .i64, .int .i64, .int .i64], .agg [.v (.int .i64 (0)), .v (.int .i64 (0)), .v (.int .i64 (0)), .v (.bool false)]) (.lf) (.lf)
  eq := .nd 80 [.int .i64, .int .i64] (.nd 70 [.int .i64, .int .i64, .int .i64, .int .i64, .int .i64, .int .i64, .int .i64, .int .i64, .int .i64, .int .i64, .int .i64, .int .i64, .int .i64, .int .i64, .int .i64, .int .i64, .int .i64, .int .i64] (.nd 55 [.int .i64, .int .i64, .int .i64, .bool] (.nd 23 [.int .i64, .int .i64, .int .i64] (.lf) (.lf)) (.lf)) (.nd 78 [.str, .int .i64, .int .i64, .int .i64, .int .i64, .bool] (.lf) (.lf))) (.nd 145 [.int .u8, .int .u8, .int .u8, .int .u8, .int .u8, .int .u8, .int .u8, .int .u8, .int .u8, .int .u8, .int .u8, .int .u8, .int .u8, .int .u8, .int .u8, .int .u8, .int .u8, .int .u8, .int .u8, .int .u8, .int .u8, .int .u8, .int .u8, .int .u8, .int .u8, .int .u8, .int .u8, .int .u8, .int .u8, .int .u8, .int .u8, .int .u8] (.nd 82 [.str, .int .i64, .int .i64, .int .i64, .int .i64, .int .i64] (.lf) (.lf)) (.nd 146 [.int .u8, .int .u8, .int .u8, .int .u8, .int .u8, .int .u8, .int .u8, .int .u8, .int .u8, .int .u8, .int .u8, .int .u8, .int .u8, .int .u8, .int .u8, .int .u8, .int .u8, .int .u8, .int .u8, .int .u8, .int .u8, .int .u8, .int .u8, .int .u8, .int .u8, .int .u8, .int .u8, .int .u8, .int .u8, .int .u8, .int .u8, .int .u8, .int .u8, .int .u8, .int .u8, .int .u8, .int .u8, .int .u8, .int .u8, .int .u8, .int .u8, .int .u8, .int .u8, .int .u8, .int .u8, .int .u8, .int .u8, .int .u8, .int .u8, .int .u8, .int .u8, .int .u8, .int .u8, .int .u8, .int .u8, .int .u8, .int .u8, .int .u8, .int .u8, .int .u8, .int .u8, .int .u8, .int .u8, .int .u8] (.lf) (.lf)))
  und := .nd 72 .map (.nd 21 (.int .i32) (.nd 5 (.int .u8) (.nd 3 (.int .i64) (.lf) (.lf)) (.nd 9 .str (.lf) (.lf))) (.nd 45 (.int .u16) (.nd 29 (.int .i64) (.lf) (.lf)) (.lf))) (.nd 136 (.int .u64) (.nd 134 (.int .u32) (.nd 124 (.int .u64) (.lf) (.lf)) (.lf)) (.nd 147 (.int .u64) (.nd 138 (.int .i64) (.lf) (.lf)) (.lf)))
  fieldV := .nd 78 [some (false, 0, 1), some (true, 1, 3), some (false, 4, 1), some (false, 5, 1)] (.nd 55 [some (true, 0, 3), some (false, 3, 1)] (.nd 27 [some (true, 0, 3), some (false, 3, 1), some (false, 4, 1), some (false, 5, 1)] (.lf) (.lf)) (.nd 74 [some (true, 0, 6), some (false, 6, 1), some (true, 7, 18), some (false, 25, 1), some (false, 26, 1)] (.lf) (.lf))) (.nd 82 [some (false, 0, 1), some (false, 1, 1), some (true, 2, 2), some (true, 4, 2)] (.nd 80 [some (false, 0, 1), some (false, 1, 1)] (.lf) (.lf)) (.nd 85 [some (false, 0, 1), some (false, 1, 1)] (.lf) (.lf)))
  indexV := .nd 145 (false, 32, 1) (.nd 70 (true, 6, 3) (.nd 23 (false, 3, 1) (.lf) (.lf)) (.lf)) (.nd 146 (false, 64, 1) (.lf) (.lf))
theorem tabOk : tab.Ok Tryz.prog where
  var := ⟨tyVar_78, ⟨tyVar_29, ⟨tyVar_23, ⟨tyVar_5, ⟨tyVar_4, ⟨tyVar_3, trivial, trivial⟩, trivial⟩, ⟨tyVar_21, ⟨tyVar_9, trivial, trivial⟩, trivial⟩⟩, ⟨tyVar_27, ⟨tyVar_25, ⟨tyVar_24, trivial, trivial⟩, trivial⟩, ⟨tyVar_28, trivial, trivial⟩⟩⟩, ⟨tyVar_61, ⟨tyVar_48, ⟨tyVar_45, ⟨tyVar_33, trivial, trivial⟩, trivial⟩, ⟨tyVar_55, ⟨tyVar_52, trivial, trivial⟩, trivial⟩⟩, ⟨tyVar_72, ⟨tyVar_71, ⟨tyVar_70, trivial, trivial⟩, trivial⟩, ⟨tyVar_74, trivial, trivial⟩⟩⟩⟩, ⟨tyVar_122, ⟨tyVar_90, ⟨tyVar_83, ⟨tyVar_82, ⟨tyVar_80, trivial, trivial⟩, trivial⟩, ⟨tyVar_88, ⟨tyVar_85, trivial, trivial⟩, trivial⟩⟩, ⟨tyVar_118, ⟨tyVar_117, ⟨tyVar_98, trivial, trivial⟩, trivial⟩, ⟨tyVar_121, trivial, trivial⟩⟩⟩, ⟨tyVar_145, ⟨tyVar_136, ⟨tyVar_134, ⟨tyVar_124, trivial, trivial⟩, trivial⟩, ⟨tyVar_138, trivial, trivial⟩⟩, ⟨tyVar_151, ⟨tyVar_147, ⟨tyVar_146, trivial, trivial⟩, trivial⟩, ⟨tyVar_154, trivial, trivial⟩⟩⟩⟩⟩
  slice := ⟨tySlice_33, ⟨tySlice_25, ⟨tySlice_24, trivial, trivial⟩, ⟨tySlice_28, trivial, trivial⟩⟩, ⟨tySlice_98, ⟨tySlice_71, trivial, trivial⟩, trivial⟩⟩
  array := ⟨tyArray_145, ⟨tyArray_70, ⟨tyArray_23, trivial, trivial⟩, trivial⟩, ⟨tyArray_146, trivial, trivial⟩⟩
  zero := ⟨zeroA_78, ⟨zeroA_29, ⟨zeroA_23, ⟨zeroA_5, ⟨zeroA_4, ⟨zeroA_3, trivial, trivial⟩, trivial⟩, ⟨zeroA_21, ⟨zeroA_9, trivial, trivial⟩, trivial⟩⟩, ⟨zeroA_27, ⟨zeroA_25, ⟨zeroA_24, trivial, trivial⟩, trivial⟩, ⟨zeroA_28, trivial, trivial⟩⟩⟩, ⟨zeroA_61, ⟨zeroA_48, ⟨zeroA_45, ⟨zeroA_33, trivial, trivial⟩, trivial⟩, ⟨zeroA_55, ⟨zeroA_52, trivial, trivial⟩, trivial⟩⟩, ⟨zeroA_72, ⟨zeroA_71, ⟨zeroA_70, trivial, trivial⟩, trivial⟩, ⟨zeroA_74, trivial, trivial⟩⟩⟩⟩, ⟨zeroA_122, ⟨zeroA_90, ⟨zeroA_83, ⟨zeroA_82, ⟨zeroA_80, trivial, trivial⟩, trivial⟩, ⟨zeroA_88, ⟨zeroA_85, trivial, trivial⟩, trivial⟩⟩, ⟨zeroA_118, ⟨zeroA_117, ⟨zeroA_98, trivial, trivial⟩, trivial⟩, ⟨zeroA_121, trivial, trivial⟩⟩⟩, ⟨zeroA_145, ⟨zeroA_136, ⟨zeroA_134, ⟨zeroA_124, trivial, trivial⟩, trivial⟩, ⟨zeroA_138, trivial, trivial⟩⟩, ⟨zeroA_151, ⟨zeroA_147, ⟨zeroA_146, trivial, trivial⟩, trivial⟩, ⟨zeroA_154, trivial, trivial⟩⟩⟩⟩⟩
  field := ⟨fieldsOf_78, ⟨fieldsOf_55, ⟨fieldsOf_27, trivial, trivial⟩, ⟨fieldsOf_74, trivial, trivial⟩⟩, ⟨fieldsOf_82, ⟨fieldsOf_80, trivial, trivial⟩, ⟨fieldsOf_85, trivial, trivial⟩⟩⟩
  places := ⟨placesL_78, ⟨placesL_55, ⟨placesL_27, trivial, trivial⟩, ⟨placesL_74, trivial, trivial⟩⟩, ⟨placesL_82, ⟨placesL_80, trivial, trivial⟩, ⟨placesL_85, trivial, trivial⟩⟩⟩
  placesN := ⟨placesA_145, ⟨placesA_70, ⟨placesA_23, trivial, trivial⟩, trivial⟩, ⟨placesA_146, trivial, trivial⟩⟩
  map := ⟨mapTy_72, trivial, trivial⟩
  eq := ⟨eqTy_80, ⟨eqTy_70, ⟨eqTy_55, ⟨eqTy_23, trivial, trivial⟩, trivial⟩, ⟨eqTy_78, trivial, trivial⟩⟩, ⟨eqTy_145, ⟨eqTy_82, trivial, trivial⟩, ⟨eqTy_146, trivial, trivial⟩⟩⟩
  und := ⟨⟨_, _, und_72⟩, ⟨und_21, ⟨und_5, ⟨und_3, trivial, trivial⟩, ⟨und_9, trivial, trivial⟩⟩, ⟨und_45, ⟨und_29, trivial, trivial⟩, trivial⟩⟩, ⟨und_136, ⟨und_134, ⟨und_124, trivial, trivial⟩, trivial⟩, ⟨und_147, ⟨und_138, trivial, trivial⟩, trivial⟩⟩⟩
  fieldV := ⟨partsOf_78, ⟨partsOf_55, ⟨partsOf_27, trivial, trivial⟩, ⟨partsOf_74, trivial, trivial⟩⟩, ⟨partsOf_82, ⟨partsOf_80, trivial, trivial⟩, ⟨partsOf_85, trivial, trivial⟩⟩⟩
  indexV := ⟨partI_145, ⟨partI_70, ⟨partI_23, trivial, trivial⟩, trivial⟩, ⟨partI_146, trivial, trivial⟩⟩
theorem mixed : Tryz.prog.follows .mixedOrders = true := by kernel_rfl
end Go.Proofs.YtbpiibdcncfphaaGreatDoor
namespace Go.Proofs.YtbpiibdcncfphaaGreatDoor
open Go.Am Go.Proofs Go
structure Amt where
  b : Int
  t : Int
  c : Int
deriving DecidableEq
structure Head where
  name : ByteArray
  wax : Amt
  days : Int
  kept : Bool
deriving DecidableEq
structure Order where
  name : ByteArray
  weight : Int
  tlo : Int
  thi : Int
  clo : Int
  chi : Int
deriving DecidableEq
structure Store where
  lots : Amt
  fade : Int
  heads : List Head
  orders : List Order
def intA (n : Int) : AV:=.v (.int .i64 n)
def boolA (b : Bool) : AV:=.v (.bool b)
def strA (s : ByteArray) : AV:=.v (.string s)
def amtA (a : Amt) : AV:=.agg [intA a.b, intA a.t, intA a.c]
def headA (h : Head) : AV:=.agg [strA h.name, intA h.wax.b, intA h.wax.t, intA h.wax.c, intA h.days, boolA h.kept]
def orderA (o : Order) : AV:=.agg [strA o.name, intA o.weight, intA o.tlo, intA o.thi, intA o.clo, intA o.chi]
def spanA (lo hi : Int) : AV:=.agg [intA lo, intA hi]
def headsA (l : List Head) : AV:=.slice 6 (l.map headA) .no
def ordersA (l : List Order) : AV:=.slice 6 (l.map orderA) .no
def intsA (l : List Int) : AV:=.slice 1 (l.map intA) .no
def strsA (l : List ByteArray) : AV:=.slice 1 (l.map strA) .no
def storeC (s : Store) : List AV:=[intA s.lots.b, intA s.lots.t, intA s.lots.c, intA s.fade, headsA s.heads, ordersA s.orders]
def storeA (s : Store) : AV:=.agg [intA s.lots.b, intA s.lots.t, intA s.lots.c, intA s.fade, headsA s.heads, ordersA s.orders]
def triA (x : Int × Int × Int) : AV:=.tuple [intA x.1, intA x.2.1, intA x.2.2]
end Go.Proofs.YtbpiibdcncfphaaGreatDoor
namespace Go.Proofs.YtbpiibdcncfphaaGreatDoor
open Go.Am Go.Proofs Go Go.ChangeShapes Go.WideShapes Go.RowKit
theorem bulk_one {H : Type} (d : DataW H) : 1 ≤ Rows.uptoBulk d:=by
  cases d with
  | lit l=>cases l<;>simp [Rows.uptoBulk]
  | nil=>simp [Rows.uptoBulk]
  | ptr d=>simp [Rows.uptoBulk]
  | slice elems spare=>simp [Rows.uptoBulk]
  | agg parts=>simp [Rows.uptoBulk]
  | iface t d=>simp [Rows.uptoBulk]
  | map entries=>simp [Rows.uptoBulk]
  | held h=>simp [Rows.uptoBulk]
theorem bulk_part {H : Type} {d : DataW H} {l : List (DataW H)} (h : d ∈ l) : Rows.uptoBulk d ≤ Rows.uptoBulkAll l:=by
  induction l with
  | nil=>cases h
  | cons x r ih =>
    simp only [Rows.uptoBulkAll]
    cases List.mem_cons.1 h with
    | inl e=>subst e;omega
    | inr e=>have:=ih e;omega
theorem bulk_len {H : Type} (l : List (DataW H)) : l.length ≤ Rows.uptoBulkAll l:=by
  induction l with
  | nil=>simp [Rows.uptoBulkAll]
  | cons x r ih=>have:=bulk_one x;simp only [Rows.uptoBulkAll, List.length_cons];omega
theorem bulk_agg {H : Type} (l : List (DataW H)) : Rows.uptoBulkAll l ≤ Rows.uptoBulk (.agg l):=by
  simp only [Rows.uptoBulk];omega
theorem bulk_slice {H : Type} (l s : List (DataW H)) : Rows.uptoBulkAll l ≤ Rows.uptoBulk (.slice l s):=by
  simp only [Rows.uptoBulk];omega
theorem bulk_bound {H : Type} {l : List (DataW H)} (hk : Rows.uptoSmall H l = true) : Rows.uptoBulkAll l ≤ 1048576:=of_decide_eq_true hk
inductive Lf where
  | int (k : IntKind)
  | bool
  | str
def Fit1 (b : Nat) : Lf→Value→Prop
  | .int k, .int k' m=>k' = k∧(Lit.int k m).wf = true
  | .bool, .bool _=>True
  | .str, .string s=>s.size ≤ b
  | _, _=>False
def Fit (b : Nat) : List Lf→List Value→Prop
  | [], []=>True
  | l :: ls, v :: vs=>Fit1 b l v∧Fit b ls vs
  | _, _=>False
theorem Fit1.mono {b b' : Nat} (h : b ≤ b') {l : Lf} {v : Value} (hf : Fit1 b l v) : Fit1 b' l v:=by
  cases l<;>cases v<;>simp only [Fit1] at hf ⊢<;>first|exact hf|omega
theorem Fit.mono {b b' : Nat} (h : b ≤ b') : ∀ {ls : List Lf} {vs : List Value}, Fit b ls vs→Fit b' ls vs
  | [], [], _=>trivial
  | [], _ :: _, hf=>hf
  | _ :: _, [], hf=>hf
  | _ :: _, _ :: _, hf=>⟨hf.1.mono h, hf.2.mono h⟩
theorem Fit.len {b : Nat} : ∀ {ls : List Lf} {vs : List Value}, Fit b ls vs→vs.length = ls.length
  | [], [], _=>rfl
  | [], _ :: _, hf=>hf.elim
  | _ :: _, [], hf=>hf.elim
  | _ :: _, _ :: _, hf=>by simp only [List.length_cons, hf.2.len]
theorem Fit.append {b : Nat} : ∀ {ls ms : List Lf} {vs ws : List Value}, Fit b ls vs→Fit b ms ws→Fit b (ls++ms) (vs++ws)
  | [], _, [], _, _, h=>h
  | [], _, _ :: _, _, h, _=>h.elim
  | _ :: _, _, [], _, h, _=>h.elim
  | _ :: _, _, _ :: _, _, h, k=>⟨h.1, h.2.append k⟩
theorem Fit.one {b : Nat} : ∀ {ls : List Lf} {vs : List Value}, Fit b ls vs→∀ v ∈ vs, v.oneCell' = true
  | [], [], _, v, hv=>by simp at hv
  | [], _ :: _, hf, _, _=>hf.elim
  | _ :: _, [], hf, _, _=>hf.elim
  | l :: _, u :: _, hf, v, hv=>by
    rcases List.mem_cons.1 hv with e|e
    · subst e
      have:=hf.1
      cases l<;>cases v<;>simp only [Fit1] at this<;>rfl
    · exact hf.2.one v e
section
variable {H : Type} {enc : TypeId × Value→H} {P : Program} {W : World} {sp : Nat→Bool} {held : Bool}
def leafF (P : Program) (F : TypeId→Option (List Lf)) : List Field→Nat→Option (List Lf)
  | [], _=>some []
  | f :: fs, o=>match F f.type with
    | some l=>if f.offset = o∧P.cellsOf f.type = l.length then (leafF P F fs (o + l.length)).map (l++·) else none
    | none=>none
def leaves (P : Program) : Nat→TypeId→Option (List Lf)
  | 0, _=>none
  | n + 1, t=>match P.underlying t with
    | some (.int k)=>some [.int k]
    | some .bool=>some [.bool]
    | some .string=>some [.str]
    | some (.array m e)=>match leaves P n e with
      | some l=>if P.cellsOf e = l.length∧P.cellsOf t = m * l.length then some (List.replicate m l).flatten else none
      | none=>none
    | some (.struct fs)=>match leafF P (leaves P n) fs.toList 0 with
      | some l=>if P.cellsOf t = l.length then some l else none
      | none=>none
    | _=>none
theorem leafF_fit {F : TypeId→Option (List Lf)} {b : Nat} {cs : List Value} : ∀ (fs : List Field) (o : Nat) (l : List Lf), leafF P F fs o = some l→cs.length = o + l.length →
    (∀ f ∈ fs, ∀ l, F f.type = some l→P.cellsOf f.type = l.length→Fit b l ((cs.drop f.offset).take (P.cellsOf f.type)))→Fit b l (cs.drop o)
  | [], o, l, h, hl, _=>by
    simp only [leafF, Option.some.injEq] at h
    subst h
    rw [List.drop_of_length_le (by simp at hl;omega)]
    trivial
  | f :: fs, o, l, h, hl, hf=>by
    simp only [leafF] at h
    split at h
    · rename_i l1 h1
      split at h
      · rename_i hc
        obtain ⟨rfl, hc⟩:=hc
        rw [Option.map_eq_some_iff] at h
        obtain ⟨l2, h2, rfl⟩:=h
        rw [List.length_append] at hl
        have a:=hf f (List.mem_cons_self ..) l1 h1 hc
        have c:=leafF_fit fs _ l2 h2 (by omega) fun g hg=>hf g (List.mem_cons_of_mem _ hg)
        rw [hc] at a
        have e : cs.drop f.offset = (cs.drop f.offset).take l1.length++cs.drop (f.offset + l1.length):=by
          rw [← List.drop_drop, List.take_append_drop]
        rw [e]
        exact a.append c
      · cases h
    · cases h
theorem flat_fit {b : Nat} {l : List Lf} : ∀ (m : Nat) (cs : List Value), cs.length = m * l.length→(∀ i, i < m→Fit b l ((cs.drop (i * l.length)).take l.length))→Fit b (List.replicate m l).flatten cs
  | 0, cs, h, _=>by
    have : cs = []:=List.length_eq_zero_iff.1 (by omega)
    subst this
    trivial
  | m + 1, cs, h, hf=>by
    rw [List.replicate_succ, List.flatten_cons]
    have a:=hf 0 (by omega)
    simp only [Nat.zero_mul, List.drop_zero] at a
    have c:=flat_fit (b:=b) (l:=l) m (cs.drop l.length) (by rw [List.length_drop, h, Nat.succ_mul];omega) fun i hi=>by
      have:=hf (i + 1) (by omega)
      rw [List.drop_drop]
      rw [show l.length + i * l.length = (i + 1) * l.length by rw [Nat.succ_mul];omega]
      exact this
    rw [← List.take_append_drop l.length cs]
    exact a.append c
theorem leaves_fit : ∀ (n : Nat) {fuel : Nat} {t : TypeId} {cs : List Value} {x : DataW H × List MemPlace} {l : List Lf}, leaves P n t = some l→DataW.trod enc P W 0 sp held fuel t cs = some x→Fit (Rows.uptoBulk x.1) l cs
  | 0, _, _, _, _, _, h, _=>by simp [leaves] at h
  | n + 1, fuel, t, cs, x, l, h, ht=>by
    simp only [leaves] at h
    split at h
    · rename_i k hu
      cases h
      obtain ⟨m, rfl, rfl, hw⟩:=DataW.trod_int hu ht
      exact ⟨⟨rfl, hw⟩, trivial⟩
    · rename_i hu
      cases h
      obtain ⟨m, rfl, rfl⟩:=DataW.trod_bool hu ht
      exact ⟨trivial, trivial⟩
    · rename_i hu
      cases h
      obtain ⟨s, rfl, rfl, _⟩:=DataW.trod_string hu ht
      refine ⟨?_, trivial⟩
      simp only [Fit1, Rows.uptoBulk]
      simp
    · rename_i m e hu
      split at h
      · rename_i l1 h1
        split at h
        · rename_i hc
          cases h
          obtain ⟨xs, q, rfl, rfl, hl, hx, hf⟩:=DataW.trod_array hu ht
          refine flat_fit m cs (by rw [hl, hc.2]) fun i hi=>?_
          have:=hf i hi
          rw [hc.1] at this
          have hg : xs[i]? = some xs[i]:=List.getElem?_eq_getElem (by omega)
          rw [hg] at this
          refine (leaves_fit n h1 this).mono ?_
          have b1:=bulk_part (d:=xs[i].1) (l:=xs.map (·.1)) (List.mem_map.2 ⟨_, List.mem_of_getElem? hg, rfl⟩)
          have b2:=bulk_agg (xs.map (·.1))
          simp only
          omega
        · cases h
      · cases h
    · rename_i fs hu
      split at h
      · rename_i l1 h1
        split at h
        · rename_i hc
          cases h
          obtain ⟨xs, q, rfl, rfl, hl, hx, hf⟩:=DataW.trod_struct hu ht
          have:=leafF_fit (P:=P) (F:=leaves P n) (b:=Rows.uptoBulk (.agg (xs.map (·.1)))) (cs:=cs) fs.toList 0 l h1 (by rw [hl, hc];omega) fun f hfm l2 h2 h3=>by
            obtain ⟨i, hi⟩:=List.mem_iff_getElem?.1 hfm
            rw [Array.getElem?_toList] at hi
            have hq:=hf i f hi
            have hlt : i < xs.length:=by rw [hx];exact (Array.getElem?_eq_some_iff.1 hi).1
            have hg : xs[i]? = some xs[i]:=List.getElem?_eq_getElem hlt
            rw [hg] at hq
            refine (leaves_fit n h2 hq).mono ?_
            have b1:=bulk_part (d:=xs[i].1) (l:=xs.map (·.1)) (List.mem_map.2 ⟨_, List.mem_of_getElem? hg, rfl⟩)
            have b2:=bulk_agg (xs.map (·.1))
            omega
          simpa using this
        · cases h
      · cases h
    · cases h
def lies (W : World) (b _ : Nat) : Prop:=b < W.heap.size
theorem add_none {b off k : Nat} : (⟨b, off, none⟩ : Addr).add k = ⟨b, off + k, none⟩:=by
  unfold Addr.add
  split
  · subst_vars;rfl
  · rfl
theorem cell_lies {a : Addr} {v : Value} (h : W.cell? a = some v) : a.block < W.heap.size:=by
  unfold World.cell? at h
  split at h
  · rename_i hb;exact (Array.getElem?_eq_some_iff.1 hb).1
  · simp at h
theorem spot_of {t e : TypeId} {r : Reach} {b0 len cap : Nat} {a : Addr} (ht : P.underlying t = some (.slice e)) (h : Cell.okWide P W r b0 t (.slice (some a) len cap)) : a.spot = none:=by
  simp only [Cell.okWide, ht, Cell.ok, World.has] at h
  exact h.2.2.2.1
theorem slice_read {t e : TypeId} {n : Nat} {ls : List Lf} {α : Type} {A : α→AV} {good : Nat→α→Prop} (ht : P.underlying t = some (.slice e)) (hn : P.cellsOf e = ls.length) (hl : leaves P n e = some ls)
    (hA : ∀ b vs, Fit b ls vs→∃ y : α, (A y).cells = vs.map .v∧good b y) (hmono : ∀ b b' y, b ≤ b'→good b y→good b' y)
    {r : Reach} {b0 fuel : Nat} {c : Value} {x : DataW H × List MemPlace} (hk : Cell.okWide P W r b0 t c) (h : DataW.trod enc P W 0 sp held fuel t [c] = some x) :
    ∃ l : List α, l.length ≤ Rows.uptoBulk x.1∧(∀ y ∈ l, good (Rows.uptoBulk x.1) y)∧PRel W (lies W) (.slice ls.length (l.map A) .no) c∧c.oneCell' = true:=by
  rcases DataW.trod_slice ht h with ⟨h1, h2⟩|⟨a, len, cap, elems, rest, m, rfl, h1, rfl, _, hlc, hm, hlen, hE, _, _⟩
  · simp only [List.cons.injEq, and_true] at h1
    subst h1
    exact ⟨[], Nat.zero_le _, by simp, .nil _ .no (.inl rfl), rfl⟩
  · simp only [List.cons.injEq, and_true] at h1
    subst h1
    have hsp:=spot_of (P:=P) (W:=W) (r:=r) (b0:=b0) (len:=len) (cap:=cap) ht hk
    obtain ⟨blk, off, spot⟩:=a
    simp only at hsp
    subst hsp
    rw [hn] at hE
    have hb:=bulk_slice (elems.map (·.1)) (rest.map (·.1))
    have each : ∀ i, i < len→∃ y : α, good (Rows.uptoBulk (.slice (elems.map (·.1)) (rest.map (·.1)))) y∧(A y).cells.length = ls.length∧∀ c u, (A y).cells[c]? = some u→∃ v, u = .v v∧W.cell? ⟨blk, off + i * ls.length + c, none⟩ = some v∧v.oneCell' = true:=by
      intro i hi
      have:=hE i hi
      have hz : elems[i]? = some (elems[i]'(by omega)):=List.getElem?_eq_getElem _
      rw [hz, Option.bind_eq_some_iff] at this
      obtain ⟨cs', hc, ht'⟩:=this
      have hfit:=leaves_fit n hl ht'
      obtain ⟨y, hy, hg⟩:=hA _ _ hfit
      obtain ⟨_, hcl, hcc⟩:=World.cells?_some hc
      have b1:=bulk_part (d:=(elems[i]'(by omega)).1) (l:=elems.map (·.1)) (List.mem_map.2 ⟨_, List.mem_of_getElem? hz, rfl⟩)
      refine ⟨y, hmono _ _ _ (by omega) hg, by rw [hy, List.length_map, hcl], fun k u hu=>?_⟩
      rw [hy, List.getElem?_map, Option.map_eq_some_iff] at hu
      obtain ⟨v, hv, rfl⟩:=hu
      have hkn : k < ls.length:=by rw [← hcl];exact (List.getElem?_eq_some_iff.1 hv).1
      have hw:=hcc k hkn
      rw [add_none, add_none] at hw
      exact ⟨v, rfl, by rw [hw];exact hv, hfit.one v (List.mem_of_getElem? hv)⟩
    have build : ∀ k, k ≤ len→∃ l : List α, l.length = k∧∀ (i : Nat) (y : α), l[i]? = some y→good (Rows.uptoBulk (.slice (elems.map (·.1)) (rest.map (·.1)))) y∧(A y).cells.length = ls.length∧∀ c u, (A y).cells[c]? = some u→∃ v, u = .v v∧W.cell? ⟨blk, off + i * ls.length + c, none⟩ = some v∧v.oneCell' = true:=by
      intro k
      induction k with
      | zero=>exact fun _=>⟨[], rfl, fun i y h=>by simp at h⟩
      | succ k ih =>
        intro hk
        obtain ⟨l, hl, hi⟩:=ih (by omega)
        obtain ⟨y, hy⟩:=each k (by omega)
        refine ⟨l++[y], by simp [hl], fun i u hu=>?_⟩
        by_cases hlt : i < l.length
        · rw [List.getElem?_append_left hlt] at hu
          exact hi i u hu
        · rw [List.getElem?_append_right (by omega)] at hu
          have : i - l.length = 0:=by
            have:=(List.getElem?_eq_some_iff.1 hu).1
            simp at this;omega
          rw [this] at hu
          simp at hu;subst hu
          have : i = k:=by omega
          subst this
          exact hy
    obtain ⟨l, hl, hi⟩:=build len (Nat.le_refl _)
    have hbl:=bulk_len (elems.map (·.1))
    rw [List.length_map, hlen] at hbl
    refine ⟨l, by simp only;omega, fun y hy=>?_, ?_, rfl⟩
    · obtain ⟨j, hj⟩:=List.mem_iff_getElem?.1 hy
      exact (hi j y hj).1
    · subst hl
      have:=PRel.slice (w:=W) (imm:=lies W) (sz:=ls.length) (es:=l.map A) (tok:=.no) (b:=blk) (off:=off) (cap:=cap)
        (fun i c=>match l[i]? with|some y=>(match (A y).cells[c]? with|some (.v v)=>v|_=>.bool false)|none=>.bool false) (by simpa using hlc) (.inl rfl) hm
        (fun i e he=>by
          rw [List.getElem?_map, Option.map_eq_some_iff] at he
          obtain ⟨y, hy, rfl⟩:=he
          exact (hi i y hy).2.1)
        (fun i e c u he hu=>by
          rw [List.getElem?_map, Option.map_eq_some_iff] at he
          obtain ⟨y, hy, rfl⟩:=he
          obtain ⟨v, rfl, hv, h1⟩:=(hi i y hy).2.2 c u hu
          simp only [hy, hu]
          exact ⟨hv, cell_lies hv, h1⟩)
        (fun i e c u he hu=>by
          rw [List.getElem?_map, Option.map_eq_some_iff] at he
          obtain ⟨y, hy, rfl⟩:=he
          obtain ⟨v, rfl, hv, h1⟩:=(hi i y hy).2.2 c u hu
          simp only [hy, hu]
          exact .v _)
      rw [List.length_map] at this
      exact this
end
theorem kept_of_below {W W' : World} {may : MemPlace→Prop} (h : Below W.heap.size W W') : W.keptBut W' may:=by
  refine ⟨h.os, h.output, fun i hi=>?_⟩
  rw [h.block i hi]
  cases W.heap[i]? with
  | none=>rfl
  | some o=>cases o<;>first|rfl|exact ⟨rfl, rfl, rfl, fun _ _=>rfl⟩|exact .inr ⟨rfl, rfl⟩
theorem laidOut : laidOutB Tryz.prog = true:=by kernel_rfl
theorem own : ownKnob Tryz.prog.godebug = none:=by kernel_rfl
theorem law_calls {f : FuncId} {args : List AV} {W : World} {cargs : Array Value} (hg : GlobOK W (lies W)) (h : PureA Tryz.prog f args (boolA true)) (hr : PRels W (lies W) args cargs) :
    Calls Tryz.prog f cargs W fun e W'=>e = .returned (.bool true)∧Below W.heap.size W W':=by
  refine (h.2 W (lies W) cargs ⟨fun b i hb=>hb, hg⟩ hr).mono ?_
  rintro e W' ⟨y, imm', rfl, _, hy, hb⟩
  have : y = .bool true:=by
    unfold boolA at hy
    cases hy
    rfl
  subst this
  exact ⟨rfl, hb⟩
end Go.Proofs.YtbpiibdcncfphaaGreatDoor
namespace Go.Proofs.YtbpiibdcncfphaaGreatDoor
open Go.Am Go.Proofs Go
def idxFrom {α : Type} (p : α→Bool) : Nat→List α→Int
  | _, []=>-1
  | i, x :: xs=>if p x then i else idxFrom p (i + 1) xs
def idx {α : Type} (p : α→Bool) (l : List α) : Int:=idxFrom p 0 l
theorem idxFrom_any {α : Type} (p : α→Bool) : ∀ (l : List α) (i : Nat), decide (0 ≤ idxFrom p i l) = l.any p
  | [], i=>by simp [idxFrom]
  | x :: xs, i=>by
    simp only [idxFrom, List.any_cons]
    by_cases h : p x = true
    · simp [h]
    · simp only [h]
      have:=idxFrom_any p xs (i + 1)
      simpa using this
theorem idx_any {α : Type} (p : α→Bool) (l : List α) : decide (0 ≤ idx p l) = l.any p:=idxFrom_any p l 0
def within (n l m : Int) : Bool:=l ≤ n && n ≤ m
def outside (l m n : Int) : Bool:=n < l || m < n
theorem within_c (n l m : Int) : PureA Tryz.prog 55 [intA n, intA l, intA m] (boolA (within n l m)):=by
  refine pureA_codeB tabOk { l:=0, f:=55 } mixed call_55 Tryz.func55 (by kernel_rfl) ?_
  conv=>whnf
  repeat (any_goals (first|exact falseI|((first|refine bd ?_ ?_|refine bn ?_ ?_)<;>intro _<;>first|(exfalso;omega)|conv=>whnf)|((first|refine dI ?_|refine okI ?_|refine bt ?_|refine bi (fun _=>?_) (fun _=>?_)|refine bndI ?_|intro _)<;>conv=>whnf)))
  all_goals (refine ⟨⟨?_⟩, trivial⟩;simp [*, within, oneOf, boolA])
theorem within1_c (n l m : Int) : PureA Tryz.prog 107 [intA n, intA l, intA m] (boolA (within n l m)):=by
  refine pureA_codeB tabOk { l:=0, f:=107 } mixed call_107 Tryz.func107 (by kernel_rfl) ?_
  conv=>whnf
  repeat (any_goals (first|exact falseI|((first|refine bd ?_ ?_|refine bn ?_ ?_)<;>intro _<;>first|(exfalso;omega)|conv=>whnf)|((first|refine dI ?_|refine okI ?_|refine bt ?_|refine bi (fun _=>?_) (fun _=>?_)|refine bndI ?_|intro _)<;>conv=>whnf)))
  all_goals (refine ⟨⟨?_⟩, trivial⟩;simp [*, within, oneOf, boolA])
theorem outside_c (n l m : Int) : PureA Tryz.prog 91 [intA n, .cptr [intA l], .cptr [intA m]] (boolA (outside l m n)):=by
  refine pureA_codeB tabOk { l:=0, f:=91 } mixed call_91 Tryz.func91 (by kernel_rfl) ?_
  conv=>whnf
  repeat (any_goals (first|exact falseI|((first|refine bd ?_ ?_|refine bn ?_ ?_)<;>intro _<;>first|(exfalso;omega)|conv=>whnf)|((first|refine dI ?_|refine okI ?_|refine bt ?_|refine bi (fun _=>?_) (fun _=>?_)|refine bndI ?_|intro _)<;>conv=>whnf)))
  all_goals (refine ⟨⟨?_⟩, trivial⟩;simp [*, outside, oneOf, boolA])
theorem idxFrom_cons {α : Type} {p : α→Bool} {l : List α} {i : Nat} {x : α} (hd : l.drop i = x :: l.drop (i + 1)) (H : idx p l = idxFrom p i (l.drop i)) :
    idx p l = if p x then (i : Int) else idxFrom p (i + 1) (l.drop (i + 1)):=by rw [H, hd];rfl
theorem ioutside_c (l : List Int) (lo hi : Int) (hl : l.length ≤ 1048576) : PureA Tryz.prog 82 [intsA l, .func (.func 91) [] [.cptr [intA lo], .cptr [intA hi]]] (intA (idx (outside lo hi) l)):=by
  refine pureA_codeB tabOk { l:=0, f:=82 } mixed call_82 Tryz.func82 (by kernel_rfl) ?_
  conv=>whnf
  refine loopK tabOk { l:=0, f:=82 } mixed (fun i : Nat=>[(8, intA i)]) (fun _=>[]) (fun _=>[]) (fun i=>i ≤ l.length∧idx (outside lo hi) l = idxFrom (outside lo hi) i (l.drop i)) (fun i=>l.length - i) 0 (by kernel_rfl)
    ⟨Nat.zero_le _, rfl⟩ ?_
  conv=>whnf
  refine ⟨⟨slotsLe_cons rfl trivial, trivial, trivial⟩, ?_⟩
  intro i ⟨hi, H⟩
  conv=>whnf
  refine brP_dec (fun h1=>?_) (fun h1=>?_)
  · simp only [List.length_map] at h1
    obtain ⟨x, hx, hd⟩:=drop_cons (l:=l) (i:=i) (by omega)
    have H':=idxFrom_cons hd H
    conv=>whnf
    repeat (any_goals (first|exact falseI|((first|refine bd ?_ ?_|refine bn ?_ ?_)<;>intro _<;>first|(exfalso;omega)|conv=>whnf)|((first|refine optP_map hx rfl ?_|refine callP_a (outside_c x lo _) ?_|refine dI ?_|refine okI ?_|refine bt ?_|refine bi (fun _=>?_) (fun _=>?_)|refine bndI ?_|intro _)<;>conv=>whnf)))
    · rename_i he
      simp only [he, if_true] at H'
      (refine ⟨⟨?_⟩, trivial⟩;simp [oneOf, intA, H'])
    · rename_i he
      simp only [he, Bool.false_eq_true, if_false] at H'
      (refine ⟨i + 1, ⟨by omega, H'⟩, by omega, ?_⟩;(conv=>whnf);refine ⟨?_, ?_, ?_⟩<;>repeat (first|exact trivial|refine sc rfl ?_|refine kn ?_|refine kc rfl ?_))
  · conv=>whnf
    simp only [List.length_map] at h1
    have : i = l.length:=by omega
    subst this
    (refine ⟨⟨?_⟩, trivial⟩;simp [oneOf, intA, H, idxFrom])
theorem anyOutside_c (l : List Int) (lo hi : Int) (hl : l.length ≤ 1048576) : PureA Tryz.prog 46 [intsA l, .func (.func 91) [] [.cptr [intA lo], .cptr [intA hi]]] (boolA (l.any (outside lo hi))):=by
  refine pureA_codeB tabOk { l:=0, f:=46 } mixed call_46 Tryz.func46 (by kernel_rfl) ?_
  conv=>whnf
  refine callP_a (ioutside_c l lo hi hl) ?_
  conv=>whnf
  (refine ⟨⟨?_⟩, trivial⟩;rw [← idx_any];rfl)
theorem beyond_c (l : List Int) (lo hi : Int) (hl : l.length ≤ 1048576) : PureA Tryz.prog 68 [intA lo, intA hi, intsA l] (boolA (l.any (outside lo hi))):=by
  refine pureA_codeB tabOk { l:=0, f:=68 } mixed call_68 Tryz.func68 (by kernel_rfl) ?_
  conv=>whnf
  refine callP_f (anyOutside_c l lo hi hl) rfl ?_
  conv=>whnf
  (refine ⟨⟨?_⟩, trivial⟩;rfl)
def bLetter (b : UInt8) : Bool:=97 ≤ b.toNat && b.toNat ≤ 122
def bOther (b : UInt8) : Bool:=(48 ≤ b.toNat && b.toNat ≤ 57) || b.toNat == 46
def nameL : Bool→List UInt8→Bool
  | _, []=>true
  | first, b :: bs=>(bLetter b || (!first && bOther b)) && nameL false bs
def nameOk (s : ByteArray) : Bool:=decide (s.data.toList ≠ []) && decide (s.data.toList.length ≤ 16) && nameL true s.data.toList
theorem byteAt_of {s : ByteArray} {i : Nat} {b : UInt8} (h : s.data.toList[i]? = some b) : byteAt s i = b.toNat:=by
  unfold byteAt
  rw [Array.getD_eq_getD_getElem?, ← Array.getElem?_toList, h];rfl
theorem size_eq (s : ByteArray) : s.size = s.data.toList.length:=by simp
theorem nameL_ne {s : ByteArray} (h : s.size ≠ 0) (h2 : s.size ≤ 16) : nameOk s = nameL true s.data.toList:=by
  have e:=size_eq s
  have h1 : s.data.toList ≠ []:=fun e'=>h (by rw [e, e'];rfl)
  unfold nameOk
  rw [decide_eq_true h1, decide_eq_true (by omega)]
  simp
theorem letter_w (b : UInt8) : within (b.toNat : Int) 97 122 = bLetter b:=by rw [Bool.eq_iff_iff];simp [within, bLetter];omega
theorem other_w (b : UInt8) : bOther b = (within (b.toNat : Int) 48 57 || b.toNat == 46):=by
  have : within (b.toNat : Int) 48 57 = (48 ≤ b.toNat && b.toNat ≤ 57):=by rw [Bool.eq_iff_iff];simp [within];omega
  simp [bOther, this]
theorem refName_c (s : ByteArray) : PureA Tryz.prog 86 [strA s] (boolA (nameOk s)):=by
  have hsz:=size_eq s
  refine pureA_codeB tabOk { l:=0, f:=86 } mixed call_86 Tryz.func86 (by kernel_rfl) ?_
  conv=>whnf
  repeat (any_goals (first|exact falseI|((first|refine bd ?_ ?_|refine bn ?_ ?_)<;>intro _<;>first|(exfalso;omega)|conv=>whnf)|((first|refine dI ?_|refine okI ?_|refine bt ?_|refine bi (fun _=>?_) (fun _=>?_)|refine bndI ?_|intro _)<;>conv=>whnf)))
  · rename_i h
    have : s.data.toList = []:=List.eq_nil_of_length_eq_zero (by omega)
    (refine ⟨⟨?_⟩, trivial⟩;simp [oneOf, boolA, nameOk, this])
  · rename_i h1 h2
    have : ¬ s.data.toList.length ≤ 16:=by omega
    (refine ⟨⟨?_⟩, trivial⟩;simp [oneOf, boolA, nameOk];simp at this;omega)
  · rename_i h1 h2
    have e0:=nameL_ne (s:=s) (by omega) (by omega)
    have hle : s.size ≤ 16:=by omega
    clear h1 h2
    refine loopK tabOk { l:=0, f:=86 } mixed (fun i : Nat=>[(3, intA i)]) (fun _=>[]) (fun _=>[]) (fun i=>i ≤ s.size∧nameOk s = nameL (i == 0) (s.data.toList.drop i)) (fun i=>s.size - i) 0 (by kernel_rfl)
      ⟨Nat.zero_le _, e0⟩ ?_
    conv=>whnf
    refine ⟨⟨slotsLe_cons rfl trivial, trivial, trivial⟩, ?_⟩
    intro i ⟨hi, H⟩
    conv=>whnf
    refine brP_dec (fun h1=>?_) (fun h1=>?_)
    · obtain ⟨b, hb, hd⟩:=drop_cons (l:=s.data.toList) (i:=i) (by omega)
      have hba : byteAt s i = b.toNat:=byteAt_of hb
      have hlt:=b.toNat_lt
      have hL : PureA Tryz.prog 107 [intA (byteAt s (i : Int).toNat), intA 97, intA 122] (boolA (bLetter b)):=by rw [Int.toNat_natCast, hba, ← letter_w];exact within1_c _ _ _
      have hD : PureA Tryz.prog 107 [intA (byteAt s (i : Int).toNat), intA 48, intA 57] (boolA (within b.toNat 48 57)):=by rw [Int.toNat_natCast, hba];exact within1_c _ _ _
      have h46 : (byteAt s (i : Int).toNat = 46) = (b.toNat = 46):=by rw [Int.toNat_natCast, hba];exact propext ⟨fun h=>by omega, fun h=>by omega⟩
      have hin : inI (byteAt s (i : Int).toNat):=by rw [Int.toNat_natCast, hba];unfold inI;omega
      rw [hd] at H
      simp only [nameL, other_w] at H
      clear hlt hb hd hba e0
      conv=>whnf
      repeat (any_goals (first|exact falseI|((first|refine bd ?_ ?_|refine bn ?_ ?_)<;>intro _<;>first|(exfalso;omega)|conv=>whnf)|((first|refine callP_a hL ?_|refine callP_a hD ?_|refine And.intro hin ?_|refine dI ?_|refine okI ?_|refine bt ?_|refine bi (fun _=>?_) (fun _=>?_)|refine bndI ?_|intro _)<;>conv=>whnf)))
      all_goals clear hL hD hin
      all_goals first
        | (refine ⟨⟨?_⟩, trivial⟩;simp_all [oneOf, boolA];done)
        | (refine ⟨i + 1, ⟨by omega, by simp_all⟩, by omega, ?_⟩;(conv=>whnf);refine ⟨?_, ?_, ?_⟩<;>repeat (first|exact trivial|refine sc rfl ?_|refine kn ?_|refine kc rfl ?_))
    · conv=>whnf
      have : s.data.toList.drop i = []:=List.drop_eq_nil_of_le (by omega)
      rw [this] at H
      (refine ⟨⟨?_⟩, trivial⟩;simp [oneOf, boolA, H, nameL])
theorem get_at {s : ByteArray} {i : Nat} {b : UInt8} (h : s.data.toList[i]? = some b) : s.get! i = b:=by
  have : s.data[i]? = some b:=by rw [← Array.getElem?_toList];exact h
  show s.data[i]! = b
  rw [getElem!_def, this]
theorem decode_low {s : ByteArray} {i : Nat} {b : UInt8} (h : s.data.toList[i]? = some b) (hb : b.toNat < 128) : Utf8.decode s i = (b.toNat, 1):=by
  unfold Utf8.decode
  simp only [Nat.add_zero, get_at h, if_pos hb]
theorem decode_high {s : ByteArray} {i : Nat} {b : UInt8} (h : s.data.toList[i]? = some b) (hb : ¬ b.toNat < 128) : 128 ≤ (Utf8.decode s i).1:=by
  unfold Utf8.decode
  simp only [Nat.add_zero, get_at h, if_neg hb]
  repeat (first|split|(simp only [Utf8.runeError];omega)|(simp only [Bool.and_eq_true, decide_eq_true_eq] at *;omega))
theorem name_c (s : ByteArray) (hl : s.size ≤ 1048576) : PureA Tryz.prog 74 [strA s] (boolA (nameOk s)):=by
  have hsz:=size_eq s
  refine pureA_codeB tabOk { l:=0, f:=74 } mixed call_74 Tryz.func74 (by kernel_rfl) ?_
  conv=>whnf
  refine loopK tabOk { l:=0, f:=74 } mixed (fun _ : Nat=>[]) (fun i=>[(⟨0, 74, 7⟩, (1, some (0, [strA s, intA i])))]) (fun _=>[]) (fun i=>i ≤ s.size∧nameL true s.data.toList = nameL (i == 0) (s.data.toList.drop i)) (fun i=>s.size - i) 0 (by kernel_rfl)
    ⟨Nat.zero_le _, rfl⟩ ?_
  conv=>whnf
  refine ⟨⟨trivial, keysLe_cons rfl trivial, trivial⟩, ?_⟩
  intro i ⟨hi, H⟩
  conv=>whnf
  refine brP_dec (fun h1=>?_) (fun h1=>?_)
  · obtain ⟨b, hb, hd⟩:=drop_cons (l:=s.data.toList) (i:=i) (by omega)
    rw [hd] at H
    simp only [nameL] at H
    have hlt:=b.toNat_lt
    by_cases h128 : b.toNat < 128
    · have hdec : Utf8.decode s (i : Int).toNat = (b.toNat, 1):=by rw [Int.toNat_natCast];exact decode_low hb h128
      have hc : ((Utf8.decode s (i : Int).toNat).1 : Int) = b.toNat:=by rw [hdec]
      conv=>whnf
      repeat (any_goals (first|exact falseI|((first|refine bd ?_ ?_|refine bn ?_ ?_)<;>intro _<;>first|(exfalso;omega)|conv=>whnf)|((first|refine dI ?_|refine okI ?_|refine bt ?_|refine bi (fun _=>?_) (fun _=>?_)|refine bndI ?_|intro _)<;>conv=>whnf)))
      all_goals first
        | omega
        | (refine ⟨⟨?_⟩, trivial⟩;have hf : nameL true s.data.toList = false:=(by rw [H];first|(simp [bLetter, bOther];done)|(simp [bLetter, bOther];omega));simp [nameOk, hf, oneOf, boolA];done)
        | (refine ⟨i + 1, ⟨by omega, by (rw [H];first|(simp [bLetter, bOther];done)|(simp [bLetter, bOther];omega))⟩, by omega, ?_⟩;(conv=>whnf);exact ⟨by repeat (first|exact trivial|refine sc rfl ?_), keysLe_cons (by simp only [hdec];rfl) trivial, trivial⟩)
    · have hdec : 128 ≤ (Utf8.decode s (i : Int).toNat).1:=by rw [Int.toNat_natCast];exact decode_high hb h128
      have hf : nameL true s.data.toList = false:=by
        have h1 : bLetter b = false:=by simp [bLetter];omega
        have h2 : bOther b = false:=by simp [bOther];omega
        rw [H, h1, h2];simp
      conv=>whnf
      repeat (any_goals (first|exact falseI|((first|refine bd ?_ ?_|refine bn ?_ ?_)<;>intro _<;>first|(exfalso;omega)|conv=>whnf)|((first|refine dI ?_|refine okI ?_|refine bt ?_|refine bi (fun _=>?_) (fun _=>?_)|refine bndI ?_|intro _)<;>conv=>whnf)))
      all_goals first
        | omega
        | (refine ⟨⟨?_⟩, trivial⟩;simp [nameOk, hf, oneOf, boolA];done)
  · conv=>whnf
    have hdr : s.data.toList.drop i = []:=List.drop_eq_nil_of_le (by omega)
    rw [hdr] at H
    repeat (any_goals (first|exact falseI|((first|refine bd ?_ ?_|refine bn ?_ ?_)<;>intro _<;>first|(exfalso;omega)|conv=>whnf)|((first|refine dI ?_|refine okI ?_|refine bt ?_|refine bi (fun _=>?_) (fun _=>?_)|refine bndI ?_|intro _)<;>conv=>whnf)))
    · rename_i h
      (refine ⟨⟨?_⟩, trivial⟩;simp [nameOk, oneOf, boolA, h])
    · rename_i h
      have hne : s.data.toList ≠ []:=fun e=>h (by cases s with|mk a=>simp at e;simp [e])
      have h16 : decide ((s.size : Int) ≤ 16) = decide (s.data.toList.length ≤ 16):=by rw [hsz, Bool.eq_iff_iff, decide_eq_true_eq, decide_eq_true_eq];omega
      refine ⟨⟨?_⟩, trivial⟩
      rw [h16]
      simp only [nameOk, oneOf, boolA, H, nameL, decide_eq_true hne, Bool.and_true, Bool.true_and]
theorem pickM_min (a b : Int) : pickM false a b = min a b:=by
  simp only [pickM]
end Go.Proofs.YtbpiibdcncfphaaGreatDoor
namespace Go.Proofs.YtbpiibdcncfphaaGreatDoor
open Go.Am Go.Proofs Go
def headErr (before : List Head) (h : Head) : Int :=
  if nameOk h.name = false then 6 else if before.any (fun x=>decide (x.name = h.name)) = true then 5 else if ((outside 0 40 h.wax.b || outside 0 40 h.wax.t || outside 0 40 h.wax.c) || outside 0 364 h.days) = true then 7 else 0
def orderErr (before : List Order) (o : Order) : Int :=
  if nameOk o.name = false then 6 else if before.any (fun x=>decide (x.name = o.name)) = true then 5 else if (outside 1 60 o.weight || (outside 0 1000 o.tlo || outside 0 1000 o.thi || outside 0 1000 o.clo || outside 0 1000 o.chi)) = true then 7 else if (decide (o.thi < o.tlo) || decide (o.chi < o.clo)) = true then 2 else 0
def firstFrom {α : Type} (g : Nat→α→Int) : Nat→List α→Int × Int
  | _, []=>(0, 0)
  | i, x :: xs=>if g i x = 0 then firstFrom g (i + 1) xs else (i, g i x)
def Store.headsErr (s : Store) : Int × Int:=firstFrom (fun i h=>headErr (s.heads.take i) h) 0 s.heads
def Store.ordersErr (s : Store) : Int × Int:=firstFrom (fun i o=>orderErr (s.orders.take i) o) 0 s.orders
def Store.check (s : Store) : Int × Int × Int :=
  if ((outside 0 40 s.lots.b || outside 0 40 s.lots.t || outside 0 40 s.lots.c) || outside 1 364 s.fade) = true then (1, 0, 7) else if (6 : Int) < s.heads.length then (2, 0, 3) else if s.headsErr.2 ≠ 0 then (2, s.headsErr.1, s.headsErr.2)
  else if (3 : Int) < s.orders.length then (3, 0, 3) else if s.ordersErr.2 ≠ 0 then (3, s.ordersErr.1, s.ordersErr.2) else (0, 0, 0)
def Store.small (s : Store) : Prop:=s.heads.length ≤ 1048576∧s.orders.length ≤ 1048576∧(∀ h ∈ s.heads, h.name.size ≤ 1048576)∧∀ o ∈ s.orders, o.name.size ≤ 1048576
theorem sameNameH_c (x f : Head) : PureA Tryz.prog 76 [headA x, .cptr [strA f.name, intA f.wax.b, intA f.wax.t, intA f.wax.c, intA f.days, boolA f.kept]] (boolA (decide (x.name = f.name))):=by
  refine pureA_codeB tabOk { l:=0, f:=76 } mixed call_76 Tryz.func76 (by kernel_rfl) ?_
  conv=>whnf
  (refine ⟨⟨?_⟩, trivial⟩;rfl)
theorem inameH_c (l : List Head) (f : Head) (hl : l.length ≤ 1048576) : PureA Tryz.prog 92 [headsA l, .func (.func 76) [] [.cptr [strA f.name, intA f.wax.b, intA f.wax.t, intA f.wax.c, intA f.days, boolA f.kept]]] (intA (idx (fun x=>decide (x.name = f.name)) l)):=by
  refine pureA_codeB tabOk { l:=0, f:=92 } mixed call_92 Tryz.func92 (by kernel_rfl) ?_
  conv=>whnf
  refine loopK tabOk { l:=0, f:=92 } mixed (fun i : Nat=>[(8, intA i)]) (fun _=>[]) (fun _=>[]) (fun i=>i ≤ l.length∧idx (fun x : Head=>decide (x.name = f.name)) l = idxFrom (fun x : Head=>decide (x.name = f.name)) i (l.drop i)) (fun i=>l.length - i) 0 (by kernel_rfl)
    ⟨Nat.zero_le _, rfl⟩ ?_
  conv=>whnf
  refine ⟨⟨slotsLe_cons rfl trivial, trivial, trivial⟩, ?_⟩
  intro i ⟨hi, H⟩
  conv=>whnf
  refine brP_dec (fun h1=>?_) (fun h1=>?_)
  · simp only [List.length_map] at h1
    obtain ⟨x, hx, hd⟩:=drop_cons (l:=l) (i:=i) (by omega)
    have H':=idxFrom_cons hd H
    conv=>whnf
    repeat (any_goals (first|exact falseI|((first|refine bd ?_ ?_|refine bn ?_ ?_)<;>intro _<;>first|(exfalso;omega)|conv=>whnf)|((first|refine optP_map hx rfl ?_|refine callP_a (sameNameH_c x f) ?_|refine dI ?_|refine okI ?_|refine bt ?_|refine bi (fun _=>?_) (fun _=>?_)|refine bndI ?_|intro _)<;>conv=>whnf)))
    · rename_i he
      simp only [he, if_true] at H'
      (refine ⟨⟨?_⟩, trivial⟩;simp [oneOf, intA, H'])
    · rename_i he
      simp only [he, Bool.false_eq_true, if_false] at H'
      (refine ⟨i + 1, ⟨by omega, H'⟩, by omega, ?_⟩;(conv=>whnf);refine ⟨?_, ?_, ?_⟩<;>repeat (first|exact trivial|refine sc rfl ?_|refine kn ?_|refine kc rfl ?_))
  · conv=>whnf
    simp only [List.length_map] at h1
    have : i = l.length:=by omega
    subst this
    (refine ⟨⟨?_⟩, trivial⟩;simp [oneOf, intA, H, idxFrom])
theorem anyNameH_c (l : List Head) (f : Head) (hl : l.length ≤ 1048576) : PureA Tryz.prog 75 [headsA l, .func (.func 76) [] [.cptr [strA f.name, intA f.wax.b, intA f.wax.t, intA f.wax.c, intA f.days, boolA f.kept]]] (boolA (l.any (fun x=>decide (x.name = f.name)))):=by
  refine pureA_codeB tabOk { l:=0, f:=75 } mixed call_75 Tryz.func75 (by kernel_rfl) ?_
  conv=>whnf
  refine callP_a (inameH_c l f hl) ?_
  conv=>whnf
  (refine ⟨⟨?_⟩, trivial⟩;rw [← idx_any];rfl)
theorem firstH_c (s : Store) (l : List Head) (g : Nat→Head→Int) (hl : l.length ≤ 1048576)
    (h : ∀ (i : Nat) x, l[i]? = some x→PureA Tryz.prog 73 ([intA i, headA x, .cptr (storeC s)]) (intA (g i x))) :
    PureA Tryz.prog 72 [headsA l, .func (.func 73) [] [.cptr (storeC s)]] (.tuple [intA (firstFrom g 0 l).1, intA (firstFrom g 0 l).2]):=by
  refine pureA_codeB tabOk { l:=0, f:=72 } mixed call_72 Tryz.func72 (by kernel_rfl) ?_
  conv=>whnf
  refine loopK tabOk { l:=0, f:=72 } mixed (fun i : Nat=>[(11, intA i)]) (fun _=>[]) (fun _=>[]) (fun i=>i ≤ l.length∧firstFrom g 0 l = firstFrom g i (l.drop i)) (fun i=>l.length - i) 0 (by kernel_rfl)
    ⟨Nat.zero_le _, rfl⟩ ?_
  conv=>whnf
  refine ⟨⟨slotsLe_cons rfl trivial, trivial, trivial⟩, ?_⟩
  intro i ⟨hi, H⟩
  conv=>whnf
  refine brP_dec (fun h1=>?_) (fun h1=>?_)
  · simp only [List.length_map] at h1
    obtain ⟨x, hx, hd⟩:=drop_cons (l:=l) (i:=i) (by omega)
    rw [hd] at H
    have hg:=h i x hx
    generalize hy : g i x = y at *
    simp only [firstFrom, hy] at H
    conv=>whnf
    repeat (any_goals (first|exact falseI|((first|refine bd ?_ ?_|refine bn ?_ ?_)<;>intro _<;>first|(exfalso;omega)|conv=>whnf)|((first|refine optP_map hx rfl ?_|refine callP_a hg ?_|refine dI ?_|refine okI ?_|refine bt ?_|refine bi (fun _=>?_) (fun _=>?_)|refine bndI ?_|intro _)<;>conv=>whnf)))
    · rename_i h2
      rw [if_pos h2] at H
      (refine ⟨i + 1, ⟨by omega, H⟩, by omega, ?_⟩;(conv=>whnf);refine ⟨?_, ?_, ?_⟩<;>repeat (first|exact trivial|refine sc rfl ?_|refine kn ?_|refine kc rfl ?_))
    · rename_i h2
      rw [if_neg h2] at H
      (refine ⟨⟨?_⟩, trivial⟩;simp [oneOf, intA, H])
  · conv=>whnf
    simp only [List.length_map] at h1
    have : i = l.length:=by omega
    subst this
    (refine ⟨⟨?_⟩, trivial⟩;simp [oneOf, intA, H, firstFrom])
theorem sameNameO_c (x f : Order) : PureA Tryz.prog 80 [orderA x, .cptr [strA f.name, intA f.weight, intA f.tlo, intA f.thi, intA f.clo, intA f.chi]] (boolA (decide (x.name = f.name))):=by
  refine pureA_codeB tabOk { l:=0, f:=80 } mixed call_80 Tryz.func80 (by kernel_rfl) ?_
  conv=>whnf
  (refine ⟨⟨?_⟩, trivial⟩;rfl)
theorem inameO_c (l : List Order) (f : Order) (hl : l.length ≤ 1048576) : PureA Tryz.prog 93 [ordersA l, .func (.func 80) [] [.cptr [strA f.name, intA f.weight, intA f.tlo, intA f.thi, intA f.clo, intA f.chi]]] (intA (idx (fun x=>decide (x.name = f.name)) l)):=by
  refine pureA_codeB tabOk { l:=0, f:=93 } mixed call_93 Tryz.func93 (by kernel_rfl) ?_
  conv=>whnf
  refine loopK tabOk { l:=0, f:=93 } mixed (fun i : Nat=>[(8, intA i)]) (fun _=>[]) (fun _=>[]) (fun i=>i ≤ l.length∧idx (fun x : Order=>decide (x.name = f.name)) l = idxFrom (fun x : Order=>decide (x.name = f.name)) i (l.drop i)) (fun i=>l.length - i) 0 (by kernel_rfl)
    ⟨Nat.zero_le _, rfl⟩ ?_
  conv=>whnf
  refine ⟨⟨slotsLe_cons rfl trivial, trivial, trivial⟩, ?_⟩
  intro i ⟨hi, H⟩
  conv=>whnf
  refine brP_dec (fun h1=>?_) (fun h1=>?_)
  · simp only [List.length_map] at h1
    obtain ⟨x, hx, hd⟩:=drop_cons (l:=l) (i:=i) (by omega)
    have H':=idxFrom_cons hd H
    conv=>whnf
    repeat (any_goals (first|exact falseI|((first|refine bd ?_ ?_|refine bn ?_ ?_)<;>intro _<;>first|(exfalso;omega)|conv=>whnf)|((first|refine optP_map hx rfl ?_|refine callP_a (sameNameO_c x f) ?_|refine dI ?_|refine okI ?_|refine bt ?_|refine bi (fun _=>?_) (fun _=>?_)|refine bndI ?_|intro _)<;>conv=>whnf)))
    · rename_i he
      simp only [he, if_true] at H'
      (refine ⟨⟨?_⟩, trivial⟩;simp [oneOf, intA, H'])
    · rename_i he
      simp only [he, Bool.false_eq_true, if_false] at H'
      (refine ⟨i + 1, ⟨by omega, H'⟩, by omega, ?_⟩;(conv=>whnf);refine ⟨?_, ?_, ?_⟩<;>repeat (first|exact trivial|refine sc rfl ?_|refine kn ?_|refine kc rfl ?_))
  · conv=>whnf
    simp only [List.length_map] at h1
    have : i = l.length:=by omega
    subst this
    (refine ⟨⟨?_⟩, trivial⟩;simp [oneOf, intA, H, idxFrom])
theorem anyNameO_c (l : List Order) (f : Order) (hl : l.length ≤ 1048576) : PureA Tryz.prog 79 [ordersA l, .func (.func 80) [] [.cptr [strA f.name, intA f.weight, intA f.tlo, intA f.thi, intA f.clo, intA f.chi]]] (boolA (l.any (fun x=>decide (x.name = f.name)))):=by
  refine pureA_codeB tabOk { l:=0, f:=79 } mixed call_79 Tryz.func79 (by kernel_rfl) ?_
  conv=>whnf
  refine callP_a (inameO_c l f hl) ?_
  conv=>whnf
  (refine ⟨⟨?_⟩, trivial⟩;rw [← idx_any];rfl)
theorem firstO_c (s : Store) (l : List Order) (g : Nat→Order→Int) (hl : l.length ≤ 1048576)
    (h : ∀ (i : Nat) x, l[i]? = some x→PureA Tryz.prog 78 ([intA i, orderA x, .cptr (storeC s)]) (intA (g i x))) :
    PureA Tryz.prog 77 [ordersA l, .func (.func 78) [] [.cptr (storeC s)]] (.tuple [intA (firstFrom g 0 l).1, intA (firstFrom g 0 l).2]):=by
  refine pureA_codeB tabOk { l:=0, f:=77 } mixed call_77 Tryz.func77 (by kernel_rfl) ?_
  conv=>whnf
  refine loopK tabOk { l:=0, f:=77 } mixed (fun i : Nat=>[(11, intA i)]) (fun _=>[]) (fun _=>[]) (fun i=>i ≤ l.length∧firstFrom g 0 l = firstFrom g i (l.drop i)) (fun i=>l.length - i) 0 (by kernel_rfl)
    ⟨Nat.zero_le _, rfl⟩ ?_
  conv=>whnf
  refine ⟨⟨slotsLe_cons rfl trivial, trivial, trivial⟩, ?_⟩
  intro i ⟨hi, H⟩
  conv=>whnf
  refine brP_dec (fun h1=>?_) (fun h1=>?_)
  · simp only [List.length_map] at h1
    obtain ⟨x, hx, hd⟩:=drop_cons (l:=l) (i:=i) (by omega)
    rw [hd] at H
    have hg:=h i x hx
    generalize hy : g i x = y at *
    simp only [firstFrom, hy] at H
    conv=>whnf
    repeat (any_goals (first|exact falseI|((first|refine bd ?_ ?_|refine bn ?_ ?_)<;>intro _<;>first|(exfalso;omega)|conv=>whnf)|((first|refine optP_map hx rfl ?_|refine callP_a hg ?_|refine dI ?_|refine okI ?_|refine bt ?_|refine bi (fun _=>?_) (fun _=>?_)|refine bndI ?_|intro _)<;>conv=>whnf)))
    · rename_i h2
      rw [if_pos h2] at H
      (refine ⟨i + 1, ⟨by omega, H⟩, by omega, ?_⟩;(conv=>whnf);refine ⟨?_, ?_, ?_⟩<;>repeat (first|exact trivial|refine sc rfl ?_|refine kn ?_|refine kc rfl ?_))
    · rename_i h2
      rw [if_neg h2] at H
      (refine ⟨⟨?_⟩, trivial⟩;simp [oneOf, intA, H])
  · conv=>whnf
    simp only [List.length_map] at h1
    have : i = l.length:=by omega
    subst this
    (refine ⟨⟨?_⟩, trivial⟩;simp [oneOf, intA, H, firstFrom])
theorem headErr_c (s : Store) (i : Nat) (f : Head) (hr : s.small) (hi : i ≤ s.heads.length) (hf : f.name.size ≤ 1048576) :
    PureA Tryz.prog 73 [intA i, headA f, .cptr (storeC s)] (intA (headErr (s.heads.take i) f)):=by
  obtain ⟨h1, h2, _⟩:=hr
  refine pureA_codeB tabOk { l:=0, f:=73 } mixed call_73 Tryz.func73 (by kernel_rfl) ?_
  conv=>whnf
  have hn:=name_c f.name hf
  have ha : PureA Tryz.prog 75 [.slice 6 ((s.heads.map headA).take (i : Int).toNat) .no, .func (.func 76) [] [.cptr [strA f.name, intA f.wax.b, intA f.wax.t, intA f.wax.c, intA f.days, boolA f.kept]]] (boolA ((s.heads.take i).any (fun x=>decide (x.name = f.name)))):=by
    have:=anyNameH_c (s.heads.take i) f (by simp;omega)
    simpa [headsA, List.map_take] using this
  have hb1:=beyond_c [f.wax.b, f.wax.t, f.wax.c] 0 40 (by simp)
  have hb2:=beyond_c [f.days] 0 364 (by simp)
  simp only [List.any_cons, List.any_nil, Bool.or_false, ← Bool.or_assoc] at hb1 hb2
  unfold headErr
  generalize nameOk f.name = b1 at *
  generalize (s.heads.take i).any (fun x=>decide (x.name = f.name)) = b2 at *
  generalize (outside 0 40 f.wax.b || outside 0 40 f.wax.t || outside 0 40 f.wax.c) = b3 at *
  generalize outside 0 364 f.days = b4 at *
  cases b1<;>cases b2<;>cases b3<;>cases b4
  all_goals
    repeat (any_goals (first|exact falseI|((first|refine bd ?_ ?_|refine bn ?_ ?_)<;>intro _<;>first|(exfalso;omega)|conv=>whnf)|((first|refine callP_a hn ?_|refine callP_f ha rfl ?_|refine callP_f hb1 rfl ?_|refine callP_a hb2 ?_|refine dI ?_|refine okI ?_|refine bt ?_|refine bi (fun _=>?_) (fun _=>?_)|refine bndI ?_|intro _)<;>conv=>whnf)))
  all_goals (refine ⟨⟨?_⟩, trivial⟩;rfl)
theorem orderErr_c (s : Store) (i : Nat) (f : Order) (hr : s.small) (hi : i ≤ s.orders.length) (hf : f.name.size ≤ 1048576) :
    PureA Tryz.prog 78 [intA i, orderA f, .cptr (storeC s)] (intA (orderErr (s.orders.take i) f)):=by
  obtain ⟨h1, h2, _⟩:=hr
  refine pureA_codeB tabOk { l:=0, f:=78 } mixed call_78 Tryz.func78 (by kernel_rfl) ?_
  conv=>whnf
  have hn:=name_c f.name hf
  have ha : PureA Tryz.prog 79 [.slice 6 ((s.orders.map orderA).take (i : Int).toNat) .no, .func (.func 80) [] [.cptr [strA f.name, intA f.weight, intA f.tlo, intA f.thi, intA f.clo, intA f.chi]]] (boolA ((s.orders.take i).any (fun x=>decide (x.name = f.name)))):=by
    have:=anyNameO_c (s.orders.take i) f (by simp;omega)
    simpa [ordersA, List.map_take] using this
  have hb1:=beyond_c [f.weight] 1 60 (by simp)
  have hb2:=beyond_c [f.tlo, f.thi, f.clo, f.chi] 0 1000 (by simp)
  simp only [List.any_cons, List.any_nil, Bool.or_false, ← Bool.or_assoc] at hb1 hb2
  unfold orderErr
  generalize nameOk f.name = b1 at *
  generalize (s.orders.take i).any (fun x=>decide (x.name = f.name)) = b2 at *
  generalize (outside 0 1000 f.tlo || outside 0 1000 f.thi || outside 0 1000 f.clo || outside 0 1000 f.chi) = b3 at *
  generalize outside 1 60 f.weight = b4 at *
  by_cases c1 : f.thi < f.tlo<;>by_cases c2 : f.chi < f.clo
  all_goals cases b1<;>cases b2<;>cases b3<;>cases b4
  all_goals
    repeat (any_goals (first|exact falseI|((first|refine bd ?_ ?_|refine bn ?_ ?_)<;>intro _<;>first|(exfalso;omega)|conv=>whnf)|((first|refine callP_a hn ?_|refine callP_f ha rfl ?_|refine callP_a hb1 ?_|refine callP_a hb2 ?_|refine dI ?_|refine okI ?_|refine bt ?_|refine bi (fun _=>?_) (fun _=>?_)|refine bndI ?_|intro _)<;>conv=>whnf)))
  all_goals (refine ⟨⟨?_⟩, trivial⟩;simp_all [oneOf, intA])
theorem check_c (s : Store) (hr : s.small) : PureA Tryz.prog 41 [storeA s] (triA s.check):=by
  have hr':=hr
  obtain ⟨h1, h2, h3, h4⟩:=hr'
  have hf:=firstH_c s s.heads (fun i f=>headErr (s.heads.take i) f) h1 (fun i x hx=>headErr_c s i x hr (by have:=(List.getElem?_eq_some_iff.1 hx).1;omega) (h3 x (List.mem_of_getElem? hx)))
  have hs:=firstO_c s s.orders (fun i f=>orderErr (s.orders.take i) f) h2 (fun i x hx=>orderErr_c s i x hr (by have:=(List.getElem?_eq_some_iff.1 hx).1;omega) (h4 x (List.mem_of_getElem? hx)))
  have hb:=beyond_c [s.lots.b, s.lots.t, s.lots.c] 0 40 (by simp)
  have hb2:=beyond_c [s.fade] 1 364 (by simp)
  simp only [List.any_cons, List.any_nil, Bool.or_false, ← Bool.or_assoc] at hb hb2
  unfold Store.check Store.headsErr Store.ordersErr
  generalize firstFrom (fun i f=>headErr (s.heads.take i) f) 0 s.heads = a at *
  generalize firstFrom (fun i f=>orderErr (s.orders.take i) f) 0 s.orders = b at *
  generalize (outside 0 40 s.lots.b || outside 0 40 s.lots.t || outside 0 40 s.lots.c) = c at *
  generalize outside 1 364 s.fade = d at *
  obtain ⟨a1, a2⟩:=a
  obtain ⟨b1, b2⟩:=b
  refine pureA_codeB tabOk { l:=0, f:=41 } mixed call_41 Tryz.func41 (by kernel_rfl) ?_
  conv=>whnf
  cases c<;>cases d
  all_goals
    repeat (any_goals (first|exact falseI|((first|refine bd ?_ ?_|refine bn ?_ ?_)<;>intro _<;>first|(exfalso;omega)|conv=>whnf)|((first|refine callP_b hf rfl ?_|refine callP_b hs rfl ?_|refine callP_f hb rfl ?_|refine callP_a hb2 ?_|refine dI ?_|refine okI ?_|refine bt ?_|refine bi (fun _=>?_) (fun _=>?_)|refine bndI ?_|intro _)<;>conv=>whnf)))
  all_goals (clear hf hs hb hb2;simp only [List.length_map] at *)
  all_goals (refine ⟨⟨?_⟩, trivial⟩;simp [oneOf, triA, intA, *])
end Go.Proofs.YtbpiibdcncfphaaGreatDoor
namespace Go.Proofs.YtbpiibdcncfphaaGreatDoor
open Go.Am Go.Proofs Go Go.ChangeShapes Go.WideShapes Go.RowKit
theorem gTab0 : Tryz.prog.globalNamed "math/bits.deBruijn32tab" = some 0:=by kernel_rfl
theorem gTab1 : Tryz.prog.globalNamed "math/bits.deBruijn64tab" = some 1:=by kernel_rfl
theorem gTy0 : (Tryz.prog.globals[0]?).map (·.type) = some 145:=by kernel_rfl
theorem gTy1 : (Tryz.prog.globals[1]?).map (·.type) = some 146:=by kernel_rfl
def laidL : List (String × DataW Unit):=[("math/bits.deBruijn32tab", Rows.laid_math_bits_deBruijn32tab), ("math/bits.deBruijn64tab", Rows.laid_math_bits_deBruijn64tab)]
def tab0 : List Int:=[0, 1, 28, 2, 29, 14, 24, 3, 30, 22, 20, 15, 25, 17, 4, 8, 31, 27, 13, 23, 21, 19, 16, 7, 26, 12, 18, 6, 11, 5, 10, 9]
def tab1 : List Int:=[0, 1, 56, 2, 57, 49, 28, 3, 61, 58, 42, 50, 38, 29, 17, 4, 62, 47, 59, 36, 45, 43, 51, 22, 53, 39, 33, 30, 24, 18, 12, 5, 63, 55, 48, 27, 60, 41, 37, 16, 46, 35, 44, 21, 52, 32, 23, 11, 54, 26, 40, 15, 34, 20, 31, 10, 25, 14, 19, 9, 13, 8, 7, 6]
theorem glob_ok {W : World} (h : laidMetH Tryz.prog laidL W) : GlobOK W (lies W):=by
  have h' : laidMet Tryz.prog laidL W:=h
  obtain ⟨ps, ⟨g0, t0, cs0, f0, p0, q0, hg0, ht0, hv0, hd0, ⟨g1, t1, cs1, f1, p1, q1, hg1, ht1, hv1, hd1, _, _⟩, _⟩, _, _⟩:=h'
  obtain rfl:=Option.some.inj (gTab0.symm.trans hg0)
  obtain rfl:=Option.some.inj (gTab1.symm.trans hg1)
  obtain rfl:=Option.some.inj (gTy0.symm.trans ht0)
  obtain rfl:=Option.some.inj (gTy1.symm.trans ht1)
  have c5 : Tryz.prog.cellsOf 5 = 1:=by kernel_rfl
  have e0:=Lib.cells_of_tab (k:=.u8) (zs:=tab0) Tryz.underlying145 Tryz.underlying5 c5 (by kernel_rfl) hd0
  have e1:=Lib.cells_of_tab (k:=.u8) (zs:=tab1) Tryz.underlying146 Tryz.underlying5 c5 (by kernel_rfl) hd1
  intro g cs hg i v hv
  unfold globTab globF at hg
  have key : ∀ (g : Nat) (name : String) (cs0 : Array Value) (zs : List Int), Tryz.prog.globalNamed name = some g→W.var? Tryz.prog name = some cs0→cs0.toList = zs.map (fun z=>Value.int .u8 z)→cs = zs.map (fun z=>Value.int .u8 z) →
      lies W g i∧W.cell? ⟨g, i, none⟩ = some v∧v.oneCell' = true:=by
    intro g name cs0 zs hgn hvar he hcs
    have hc:=World.var?_cell hgn hvar i
    rw [hcs] at hv
    have hz : cs0[i]? = some v:=by
      rw [← Array.getElem?_toList, he];exact hv
    rw [hz] at hc
    refine ⟨cell_lies hc, hc, ?_⟩
    rw [List.getElem?_map, Option.map_eq_some_iff] at hv
    obtain ⟨z, _, rfl⟩:=hv
    rfl
  split at hg
  · rename_i hb
    have:=Nat.eq_of_beq_eq_true hb
    subst this
    cases hg
    exact key 0 _ cs0 tab0 gTab0 (by simpa using hv0) (by simpa using e0) rfl
  · unfold globF at hg
    split at hg
    · rename_i hb
      have:=Nat.eq_of_beq_eq_true hb
      subst this
      cases hg
      exact key 1 _ cs1 tab1 gTab1 (by simpa using hv1) (by simpa using e1) rfl
    · cases hg
section
variable {H : Type} {enc : TypeId × Value→H} {W : World} {sp : Nat→Bool} {held : Bool}
def goodH (b : Nat) (h : Head) : Prop:=h.name.size ≤ b
def goodO (b : Nat) (o : Order) : Prop:=o.name.size ≤ b
def lfH : List Lf:=[.str, .int .i64, .int .i64, .int .i64, .int .i64, .bool]
def lfO : List Lf:=[.str, .int .i64, .int .i64, .int .i64, .int .i64, .int .i64]
theorem head_fit (b : Nat) (vs : List Value) (h : Fit b lfH vs) : ∃ y : Head, (headA y).cells = vs.map .v∧goodH b y:=by
  match vs, h with
  | [.string s, .int k1 a, .int k2 c, .int k3 d, .int k4 e, .bool f], h =>
    obtain ⟨h0, ⟨rfl, _⟩, ⟨rfl, _⟩, ⟨rfl, _⟩, ⟨rfl, _⟩, _⟩:=h
    exact ⟨⟨s, ⟨a, c, d⟩, e, f⟩, rfl, h0⟩
theorem order_fit (b : Nat) (vs : List Value) (h : Fit b lfO vs) : ∃ y : Order, (orderA y).cells = vs.map .v∧goodO b y:=by
  match vs, h with
  | [.string s, .int k1 a, .int k2 c, .int k3 d, .int k4 e, .int k5 f], h =>
    obtain ⟨h0, ⟨rfl, _⟩, ⟨rfl, _⟩, ⟨rfl, _⟩, ⟨rfl, _⟩, ⟨rfl, _⟩, _⟩:=h
    exact ⟨⟨s, a, c, d, e, f⟩, rfl, h0⟩
theorem leavesH : leaves Tryz.prog 6 78 = some lfH:=by kernel_rfl
theorem leavesO : leaves Tryz.prog 6 82 = some lfO:=by kernel_rfl
theorem cellsH : Tryz.prog.cellsOf 78 = lfH.length:=by kernel_rfl
theorem cellsO : Tryz.prog.cellsOf 82 = lfO.length:=by kernel_rfl
theorem types27 : Tryz.prog.cellTypes Tryz.prog.depth 27 = some [3, 3, 3, 3, 24, 25]:=by kernel_rfl
theorem cells27 : Tryz.prog.cellsOf 27 = 6:=by kernel_rfl
theorem cells23 : Tryz.prog.cellsOf 23 = 3:=by kernel_rfl
theorem cells3 : Tryz.prog.cellsOf 3 = 1:=by kernel_rfl
theorem cells24 : Tryz.prog.cellsOf 24 = 1:=by kernel_rfl
theorem cells25 : Tryz.prog.cellsOf 25 = 1:=by kernel_rfl
theorem leaves23 : leaves Tryz.prog 6 23 = some [.int .i64, .int .i64, .int .i64]:=by kernel_rfl
theorem six {α : Type} {l : List α} (h : l.length = 6) : ∃ a b c d e f, l = [a, b, c, d, e, f] :=
  match l, h with
  | [a, b, c, d, e, f], _=>⟨a, b, c, d, e, f, rfl⟩
theorem four {α : Type} {l : List α} (h : l.length = 4) : ∃ a b c d, l = [a, b, c, d] :=
  match l, h with
  | [a, b, c, d], _=>⟨a, b, c, d, rfl⟩
set_option maxRecDepth 100000 in
theorem store_read {r : Reach} {b0 : Nat} {v : Value} {d : DataW H} {ps : List MemPlace} (hk : Value.okWide Tryz.prog W r b0 27 v) (h : DataW.Trod enc Tryz.prog W 0 sp held 27 v d ps) :
    ∃ s : Store, (s.heads.length ≤ Rows.uptoBulk d∧s.orders.length ≤ Rows.uptoBulk d∧(∀ h ∈ s.heads, h.name.size ≤ Rows.uptoBulk d)∧∀ o ∈ s.orders, o.name.size ≤ Rows.uptoBulk d)∧PRel W (lies W) (storeA s) v:=by
  simp only [Value.okWide, Tryz.underlying27] at hk
  obtain ⟨vs, rfl, hsz, ts, hts, _, hcell⟩:=hk
  rw [types27] at hts
  simp only [Option.some.injEq] at hts
  subst hts
  rw [cells27] at hsz
  obtain ⟨fuel, hf⟩:=h
  obtain ⟨l⟩:=vs
  obtain ⟨c0, c1, c2, c3, c4, c5, rfl⟩:=six (by simpa using hsz)
  obtain ⟨xs, n, rfl, e, hl, hx, hfs⟩:=DataW.trod_struct Tryz.underlying27 hf
  obtain ⟨x0, x1, x2, x3, rfl⟩:=four hx
  have h0 : DataW.trod enc Tryz.prog W 0 sp held n 23 (([c0, c1, c2, c3, c4, c5].drop 0).take (Tryz.prog.cellsOf 23)) = some x0:=hfs 0 _ rfl
  have h1 : DataW.trod enc Tryz.prog W 0 sp held n 3 (([c0, c1, c2, c3, c4, c5].drop 3).take (Tryz.prog.cellsOf 3)) = some x1:=hfs 1 _ rfl
  have h2 : DataW.trod enc Tryz.prog W 0 sp held n 24 (([c0, c1, c2, c3, c4, c5].drop 4).take (Tryz.prog.cellsOf 24)) = some x2:=hfs 2 _ rfl
  have h3 : DataW.trod enc Tryz.prog W 0 sp held n 25 (([c0, c1, c2, c3, c4, c5].drop 5).take (Tryz.prog.cellsOf 25)) = some x3:=hfs 3 _ rfl
  rw [cells23] at h0
  rw [cells3] at h1
  rw [cells24] at h2
  rw [cells25] at h3
  obtain ⟨u4, hu4, k4⟩:=hcell 4 c4 rfl
  obtain ⟨u5, hu5, k5⟩:=hcell 5 c5 rfl
  simp at hu4 hu5
  subst hu4 hu5
  have f0:=leaves_fit 6 leaves23 h0
  obtain ⟨m, e2, rfl, hw⟩:=DataW.trod_int Tryz.underlying3 h1
  obtain ⟨hs, a1, a2, a3, a4⟩:=slice_read (A:=headA) (good:=goodH) Tryz.underlying24 cellsH leavesH head_fit (fun b b' y h g=>Nat.le_trans g h) k4 h2
  obtain ⟨os, b1, b2, b3, b4⟩:=slice_read (A:=orderA) (good:=goodO) Tryz.underlying25 cellsO leavesO order_fit (fun b b' y h g=>Nat.le_trans g h) k5 h3
  simp at e2
  subst e2
  match c0, c1, c2, f0 with
  | .int _ a, .int _ b, .int _ c, ⟨⟨rfl, _⟩, ⟨rfl, _⟩, ⟨rfl, _⟩, _⟩ =>
    simp only [Prod.mk.injEq] at e
    obtain ⟨rfl, _⟩:=e
    have hb:=bulk_agg ([x0, (.lit (.int .i64 m), []), x2, x3].map (·.1))
    have p2:=bulk_part (d:=x2.1) (l:=[x0, (.lit (.int .i64 m), []), x2, x3].map (·.1)) (by simp)
    have p3:=bulk_part (d:=x3.1) (l:=[x0, (.lit (.int .i64 m), []), x2, x3].map (·.1)) (by simp)
    refine ⟨⟨⟨a, b, c⟩, m, hs, os⟩, ⟨by simp only;omega, by simp only;omega, fun h hh=>by have:=a2 h hh;unfold goodH at this;omega, fun o ho=>by have:=b2 o ho;unfold goodO at this;omega⟩, ?_⟩
    refine PRel.agg rfl (fun i x y hx hy=>?_) (fun y hy=>?_)
    · match i with
      | 0=>simp at hx hy;subst hx hy;exact .v _
      | 1=>simp at hx hy;subst hx hy;exact .v _
      | 2=>simp at hx hy;subst hx hy;exact .v _
      | 3=>simp at hx hy;subst hx hy;exact .v _
      | 4=>simp at hx hy;subst hx hy;exact a3
      | 5=>simp at hx hy;subst hx hy;exact b3
      | i + 6=>simp at hx
    · simp at hy
      rcases hy with rfl|rfl|rfl|rfl|rfl|rfl
      · rfl
      · rfl
      · rfl
      · rfl
      · exact a4
      · exact b4
end
end Go.Proofs.YtbpiibdcncfphaaGreatDoor
namespace Go.Proofs.YtbpiibdcncfphaaGreatDoor
open Go.Am Go.Proofs Go
theorem strIdx_c (l : List ByteArray) (s : ByteArray) (hl : l.length ≤ 1048576) : PureA Tryz.prog 87 [strsA l, strA s] (intA (idx (fun x=>decide (x = s)) l)):=by
  refine pureA_codeB tabOk { l:=0, f:=87 } mixed call_87 Tryz.func87 (by kernel_rfl) ?_
  conv=>whnf
  refine loopK tabOk { l:=0, f:=87 } mixed (fun i : Nat=>[(5, intA i)]) (fun _=>[]) (fun _=>[]) (fun i=>i ≤ l.length∧idx (fun x : ByteArray=>decide (x = s)) l = idxFrom (fun x : ByteArray=>decide (x = s)) i (l.drop i)) (fun i=>l.length - i) 0 (by kernel_rfl)
    ⟨Nat.zero_le _, rfl⟩ ?_
  conv=>whnf
  refine ⟨⟨slotsLe_cons rfl trivial, trivial, trivial⟩, ?_⟩
  intro i ⟨hi, H⟩
  conv=>whnf
  refine brP_dec (fun h1=>?_) (fun h1=>?_)
  · simp only [List.length_map] at h1
    obtain ⟨x, hx, hd⟩:=drop_cons (l:=l) (i:=i) (by omega)
    have H':=idxFrom_cons hd H
    conv=>whnf
    repeat (any_goals (first|exact falseI|((first|refine bd ?_ ?_|refine bn ?_ ?_)<;>intro _<;>first|(exfalso;omega)|conv=>whnf)|((first|refine optP_map hx rfl ?_|refine dI ?_|refine okI ?_|refine bt ?_|refine bi (fun _=>?_) (fun _=>?_)|refine bndI ?_|intro _)<;>conv=>whnf)))
    · rename_i he
      simp only [he, decide_true, if_true] at H'
      (refine ⟨⟨?_⟩, trivial⟩;simp [oneOf, intA, H'])
    · rename_i he
      simp only [he, decide_false, Bool.false_eq_true, if_false] at H'
      (refine ⟨i + 1, ⟨by omega, H'⟩, by omega, ?_⟩;(conv=>whnf);refine ⟨?_, ?_, ?_⟩<;>repeat (first|exact trivial|refine sc rfl ?_|refine kn ?_|refine kc rfl ?_))
  · conv=>whnf
    simp only [List.length_map] at h1
    have : i = l.length:=by omega
    subst this
    (refine ⟨⟨?_⟩, trivial⟩;simp [oneOf, intA, H, idxFrom])
def newErr (s : ByteArray) (l : List ByteArray) : Int:=if nameOk s = false then 6 else if l.any (fun x=>decide (x = s)) = true then 5 else 0
theorem new_c (l : List ByteArray) (s : ByteArray) (hl : l.length ≤ 1048576) : PureA Tryz.prog 56 [strA s, strsA l] (intA (newErr s l)):=by
  have hn:=refName_c s
  have hi:=strIdx_c l s hl
  have hx:=idx_any (fun x=>decide (x = s)) l
  unfold newErr
  rw [← hx]
  generalize nameOk s = b at *
  generalize idx (fun x=>decide (x = s)) l = n at *
  refine pureA_codeB tabOk { l:=0, f:=56 } mixed call_56 Tryz.func56 (by kernel_rfl) ?_
  conv=>whnf
  cases b
  · repeat (any_goals (first|exact falseI|((first|refine bd ?_ ?_|refine bn ?_ ?_)<;>intro _<;>first|(exfalso;omega)|conv=>whnf)|((first|refine callP_a hn ?_|refine callP_a hi ?_|refine dI ?_|refine okI ?_|refine bt ?_|refine bi (fun _=>?_) (fun _=>?_)|refine bndI ?_|intro _)<;>conv=>whnf)))
    all_goals (refine ⟨⟨?_⟩, trivial⟩;simp [oneOf, intA, *])
  · repeat (any_goals (first|exact falseI|((first|refine bd ?_ ?_|refine bn ?_ ?_)<;>intro _<;>first|(exfalso;omega)|conv=>whnf)|((first|refine callP_a hn ?_|refine callP_a hi ?_|refine dI ?_|refine okI ?_|refine bt ?_|refine bi (fun _=>?_) (fun _=>?_)|refine bndI ?_|intro _)<;>conv=>whnf)))
    all_goals (refine ⟨⟨?_⟩, trivial⟩;simp [oneOf, intA, *])
def Amt.upTo (a m : Amt) : Bool:=within a.b 0 m.b && within a.t 0 m.t && within a.c 0 m.c
theorem amounts_c (a m : Amt) : PureA Tryz.prog 53 [amtA a, amtA m] (boolA (a.upTo m)):=by
  have h1:=within_c a.b 0 m.b
  have h2:=within_c a.t 0 m.t
  have h3:=within_c a.c 0 m.c
  unfold Amt.upTo
  generalize within a.b 0 m.b = b1 at *
  generalize within a.t 0 m.t = b2 at *
  generalize within a.c 0 m.c = b3 at *
  refine pureA_codeB tabOk { l:=0, f:=53 } mixed call_53 Tryz.func53 (by kernel_rfl) ?_
  conv=>whnf
  cases b1<;>cases b2<;>cases b3
  all_goals
    repeat (any_goals (first|exact falseI|((first|refine bd ?_ ?_|refine bn ?_ ?_)<;>intro _<;>first|(exfalso;omega)|conv=>whnf)|((first|refine callP_a h1 ?_|refine callP_a h2 ?_|refine callP_a h3 ?_|refine dI ?_|refine okI ?_|refine bt ?_|refine bi (fun _=>?_) (fun _=>?_)|refine bndI ?_|intro _)<;>conv=>whnf)))
  all_goals (refine ⟨⟨?_⟩, trivial⟩;rfl)
theorem most_c : PureA Tryz.prog 54 [] (amtA ⟨40, 40, 40⟩):=by
  refine pureA_codeB tabOk { l:=0, f:=54 } mixed call_54 Tryz.func54 (by kernel_rfl) ?_
  conv=>whnf
  (refine ⟨⟨?_⟩, trivial⟩;rfl)
def endsErr (lo hi least most : Int) : Int:=if (!within lo least most || !within hi least most) = true then 7 else if hi < lo then 2 else 0
theorem ends_c (lo hi least most : Int) : PureA Tryz.prog 108 [spanA lo hi, intA least, intA most] (intA (endsErr lo hi least most)):=by
  have h1:=within1_c lo least most
  have h2:=within1_c hi least most
  unfold endsErr
  generalize within lo least most = b1 at *
  generalize within hi least most = b2 at *
  refine pureA_codeB tabOk { l:=0, f:=108 } mixed call_108 Tryz.func108 (by kernel_rfl) ?_
  conv=>whnf
  cases b1<;>cases b2
  all_goals
    repeat (any_goals (first|exact falseI|((first|refine bd ?_ ?_|refine bn ?_ ?_)<;>intro _<;>first|(exfalso;omega)|conv=>whnf)|((first|refine callP_a h1 ?_|refine callP_a h2 ?_|refine dI ?_|refine okI ?_|refine bt ?_|refine bi (fun _=>?_) (fun _=>?_)|refine bndI ?_|intro _)<;>conv=>whnf)))
  all_goals (refine ⟨⟨?_⟩, trivial⟩;simp_all [oneOf, intA])
theorem parts_c (lo hi : Int) : PureA Tryz.prog 88 [spanA lo hi] (intA (endsErr lo hi 0 1000)):=by
  refine pureA_codeB tabOk { l:=0, f:=88 } mixed call_88 Tryz.func88 (by kernel_rfl) ?_
  conv=>whnf
  refine callP_a (ends_c lo hi 0 1000) ?_
  conv=>whnf
  (refine ⟨⟨?_⟩, trivial⟩;rfl)
def Order.err (o : Order) : Int :=
  if (!within o.weight 1 60 || endsErr o.tlo o.thi 0 1000 == 7 || endsErr o.clo o.chi 0 1000 == 7) = true then 7 else if endsErr o.tlo o.thi 0 1000 ≠ 0 then endsErr o.tlo o.thi 0 1000 else endsErr o.clo o.chi 0 1000
theorem refOrder_c (o : Order) : PureA Tryz.prog 57 [orderA o] (intA o.err):=by
  have h1:=parts_c o.tlo o.thi
  have h2:=parts_c o.clo o.chi
  have h3:=within_c o.weight 1 60
  unfold Order.err
  generalize endsErr o.tlo o.thi 0 1000 = a at *
  generalize endsErr o.clo o.chi 0 1000 = b at *
  generalize within o.weight 1 60 = c at *
  refine pureA_codeB tabOk { l:=0, f:=57 } mixed call_57 Tryz.func57 (by kernel_rfl) ?_
  conv=>whnf
  cases c
  all_goals
    repeat (any_goals (first|exact falseI|((first|refine bd ?_ ?_|refine bn ?_ ?_)<;>intro _<;>first|(exfalso;omega)|conv=>whnf)|((first|refine callP_a h1 ?_|refine callP_a h2 ?_|refine callP_a h3 ?_|refine dI ?_|refine okI ?_|refine bt ?_|refine bi (fun _=>?_) (fun _=>?_)|refine bndI ?_|intro _)<;>conv=>whnf)))
  all_goals (refine ⟨⟨?_⟩, trivial⟩;simp_all [oneOf, intA])
theorem outside_not (a b c : Int) : (!within a b c) = outside b c a:=by rw [Bool.eq_iff_iff];simp [within, outside]<;>omega
theorem ends_seven (lo hi l m : Int) : (endsErr lo hi l m == 7) = (outside l m lo || outside l m hi):=by
  unfold endsErr
  rw [outside_not, outside_not]
  generalize (outside l m lo || outside l m hi) = b
  cases b
  · by_cases h : hi < lo<;>simp [h]
  · rfl
theorem headErr_new (l : List Head) (f : Head) : headErr l f = if newErr f.name (l.map (·.name)) = 0 then (if (!f.wax.upTo ⟨40, 40, 40⟩ || !within f.days 0 364) = true then 7 else 0) else newErr f.name (l.map (·.name)):=by
  unfold headErr newErr Amt.upTo
  simp only [Bool.not_and, outside_not]
  rw [List.any_map]
  simp only [Function.comp_def]
  split
  · simp
  · split<;>simp_all
theorem orderErr_new (l : List Order) (f : Order) : orderErr l f = if newErr f.name (l.map (·.name)) = 0 then f.err else newErr f.name (l.map (·.name)):=by
  have key : f.err = if (outside 1 60 f.weight || (outside 0 1000 f.tlo || outside 0 1000 f.thi || outside 0 1000 f.clo || outside 0 1000 f.chi)) = true then 7 else if (decide (f.thi < f.tlo) || decide (f.chi < f.clo)) = true then 2 else 0:=by
    unfold Order.err
    rw [ends_seven, ends_seven, outside_not]
    unfold endsErr
    simp only [outside_not]
    generalize outside 1 60 f.weight = b1
    generalize outside 0 1000 f.tlo = b2
    generalize outside 0 1000 f.thi = b3
    generalize outside 0 1000 f.clo = b4
    generalize outside 0 1000 f.chi = b5
    by_cases c1 : f.thi < f.tlo<;>by_cases c2 : f.chi < f.clo<;>cases b1<;>cases b2<;>cases b3<;>cases b4<;>cases b5<;>simp [c1, c2]
  unfold orderErr newErr
  rw [List.any_map, key]
  simp only [Function.comp_def]
  split
  · simp
  · split<;>simp_all
end Go.Proofs.YtbpiibdcncfphaaGreatDoor
namespace Go.Proofs.YtbpiibdcncfphaaGreatDoor
open Go.Am Go.Proofs Go
theorem refCheck_c (s : Store) (hr : s.small) : PureA Tryz.prog 26 [storeA s] (triA s.check):=by
  obtain ⟨h1, h2, h3⟩:=hr
  have a1:=amounts_c s.lots ⟨40, 40, 40⟩
  have a2:=within_c s.fade 1 364
  have hC : s.check = if (!s.lots.upTo ⟨40, 40, 40⟩ || !within s.fade 1 364) = true then (1, 0, 7) else if (6 : Int) < s.heads.length then (2, 0, 3) else if s.headsErr.2 ≠ 0 then (2, s.headsErr.1, s.headsErr.2)
      else if (3 : Int) < s.orders.length then (3, 0, 3) else if s.ordersErr.2 ≠ 0 then (3, s.ordersErr.1, s.ordersErr.2) else (0, 0, 0):=by
    unfold Store.check Amt.upTo
    simp only [Bool.not_and, outside_not]
  rw [hC]
  clear hC
  generalize s.lots.upTo ⟨40, 40, 40⟩ = b1 at *
  generalize within s.fade 1 364 = b2 at *
  refine pureA_codeB tabOk { l:=0, f:=26 } mixed call_26 Tryz.func26 (by kernel_rfl) ?_
  conv=>whnf
  cases b1<;>cases b2
  all_goals
    repeat (any_goals (first|exact falseI|((first|refine bd ?_ ?_|refine bn ?_ ?_)<;>intro _<;>first|(exfalso;omega)|conv=>whnf)|((first|refine callP_a most_c ?_|refine callP_a a1 ?_|refine callP_a a2 ?_|refine dI ?_|refine okI ?_|refine bt ?_|refine bi (fun _=>?_) (fun _=>?_)|refine bndI ?_|intro _)<;>conv=>whnf)))
  all_goals first|((refine ⟨⟨?_⟩, trivial⟩;simp_all [oneOf, triA, intA];done))|skip
  rename_i hn6
  simp only [Bool.not_true, Bool.or_self, Bool.false_eq_true, if_false]
  simp only [List.length_map] at hn6
  rw [if_neg hn6]
  refine loopTok 5 1 ⟨0, 26, 46⟩ ?_
  conv=>whnf
  refine loopK tabOk { l:=0, f:=26 } mixed (fun i : Nat=>[(6, intA i), (5, .slice 1 ((s.heads.take i).map (fun f=>strA f.name)) (.own ⟨0, 26, 46⟩ 1))]) (fun _=>[]) (fun i=>[(⟨0, 26, 46⟩, some (1, i))]) (fun i=>i ≤ s.heads.length∧s.headsErr = firstFrom (fun i f=>headErr (s.heads.take i) f) i (s.heads.drop i)) (fun i=>s.heads.length - i) 0 (by kernel_rfl)
    ⟨Nat.zero_le _, rfl⟩ ?_
  conv=>whnf
  refine ⟨⟨slotsLe_cons rfl (slotsLe_cons rfl trivial), trivial, keysLe_cons rfl trivial⟩, ?_⟩
  intro i ⟨hi, H⟩
  conv=>whnf
  refine brP_dec (fun h1=>?_) (fun h1=>?_)
  · simp only [List.length_map] at h1
    obtain ⟨x, hx, hd⟩:=drop_cons (l:=s.heads) (i:=i) (by omega)
    rw [hd] at H
    have hnw : PureA Tryz.prog 56 [strA x.name, .slice 1 ((s.heads.take i).map (fun f=>strA f.name)) .no] (intA (newErr x.name ((s.heads.take i).map (·.name)))):=by
      have:=new_c ((s.heads.take i).map (·.name)) x.name (by simp;omega)
      simpa [strsA, List.map_map, Function.comp_def] using this
    have ht : s.heads.take (i + 1) = s.heads.take i++[x]:=by rw [List.take_add_one, hx];rfl
    simp only [firstFrom, headErr_new (s.heads.take i) x] at H
    have w1:=amounts_c x.wax ⟨40, 40, 40⟩
    have w2:=within_c x.days 0 364
    generalize newErr x.name ((s.heads.take i).map (·.name)) = e at *
    generalize x.wax.upTo ⟨40, 40, 40⟩ = b1 at *
    generalize within x.days 0 364 = b2 at *
    by_cases he : e = 0
    · subst he
      rw [if_pos rfl] at H
      cases b1<;>cases b2
      all_goals
        conv=>whnf
        repeat (any_goals (first|exact falseI|((first|refine bd ?_ ?_|refine bn ?_ ?_)<;>intro _<;>first|(exfalso;omega)|conv=>whnf)|((first|refine optP_map hx rfl ?_|refine callP_a hnw ?_|refine callP_a most_c ?_|refine callP_a w1 ?_|refine callP_a w2 ?_|refine dI ?_|refine okI ?_|refine bt ?_|refine bi (fun _=>?_) (fun _=>?_)|refine bndI ?_|intro _)<;>conv=>whnf)))
      all_goals first|((refine ⟨⟨?_⟩, trivial⟩;simp [oneOf, triA, intA, H];done))|(exfalso;simp_all;omega)|skip
      (refine ⟨i + 1, ⟨by omega, H⟩, by omega, ?_⟩;(conv=>whnf);refine ⟨?_, ?_, ?_⟩<;>repeat (first|exact trivial|refine sc rfl ?_|refine kn ?_|refine kc rfl ?_|refine sc (by first|(simp only [ht, List.map_append];rfl)|((conv=>lhs;whnf);simp;omega)) ?_|refine kc (by first|(simp only [ht, List.map_append];rfl)|((conv=>lhs;whnf);simp;omega)) ?_))
    · rw [if_neg he, if_neg he] at H
      conv=>whnf
      repeat (any_goals (first|exact falseI|((first|refine bd ?_ ?_|refine bn ?_ ?_)<;>intro _<;>first|(exfalso;omega)|conv=>whnf)|((first|refine optP_map hx rfl ?_|refine callP_a hnw ?_|refine dI ?_|refine okI ?_|refine bt ?_|refine bi (fun _=>?_) (fun _=>?_)|refine bndI ?_|intro _)<;>conv=>whnf)))
      (refine ⟨⟨?_⟩, trivial⟩;simp [oneOf, triA, intA, H, he])
  · conv=>whnf
    simp only [List.length_map] at h1
    have : i = s.heads.length:=by omega
    subst this
    simp only [List.drop_length, firstFrom] at H
    clear h1 hi hn6 a1 a2
    rw [H, if_neg (by simp)]
    clear H
    repeat (any_goals (first|exact falseI|((first|refine bd ?_ ?_|refine bn ?_ ?_)<;>intro _<;>first|(exfalso;omega)|conv=>whnf)|((first|refine dI ?_|refine okI ?_|refine bt ?_|refine bi (fun _=>?_) (fun _=>?_)|refine bndI ?_|intro _)<;>conv=>whnf)))
    · rename_i hn3
      simp only [List.length_map] at hn3
      (refine ⟨⟨?_⟩, trivial⟩;simp [oneOf, triA, intA, hn3])
    rename_i hn3
    simp only [List.length_map] at hn3
    rw [if_neg hn3]
    refine loopTok 5 1 ⟨0, 26, 93⟩ ?_
    conv=>whnf
    refine loopK tabOk { l:=0, f:=26 } mixed (fun i : Nat=>[(9, intA i), (5, .slice 1 ((s.orders.take i).map (fun f=>strA f.name)) (.own ⟨0, 26, 93⟩ 1))]) (fun _=>[]) (fun i=>[(⟨0, 26, 93⟩, some (1, i))]) (fun i=>i ≤ s.orders.length∧s.ordersErr = firstFrom (fun i f=>orderErr (s.orders.take i) f) i (s.orders.drop i)) (fun i=>s.orders.length - i) 0 (by kernel_rfl)
      ⟨Nat.zero_le _, rfl⟩ ?_
    conv=>whnf
    refine ⟨⟨slotsLe_cons rfl (slotsLe_cons rfl trivial), trivial, keysLe_cons rfl trivial⟩, ?_⟩
    intro i ⟨hi, H⟩
    conv=>whnf
    refine brP_dec (fun h1=>?_) (fun h1=>?_)
    · simp only [List.length_map] at h1
      obtain ⟨x, hx, hd⟩:=drop_cons (l:=s.orders) (i:=i) (by omega)
      rw [hd] at H
      have hnw : PureA Tryz.prog 56 [strA x.name, .slice 1 ((s.orders.take i).map (fun f=>strA f.name)) .no] (intA (newErr x.name ((s.orders.take i).map (·.name)))):=by
        have:=new_c ((s.orders.take i).map (·.name)) x.name (by simp;omega)
        simpa [strsA, List.map_map, Function.comp_def] using this
      have ht : s.orders.take (i + 1) = s.orders.take i++[x]:=by rw [List.take_add_one, hx];rfl
      simp only [firstFrom, orderErr_new (s.orders.take i) x] at H
      have w1:=refOrder_c x
      generalize newErr x.name ((s.orders.take i).map (·.name)) = e at *
      generalize x.err = e2 at *
      by_cases he : e = 0
      · subst he
        rw [if_pos rfl] at H
        conv=>whnf
        repeat (any_goals (first|exact falseI|((first|refine bd ?_ ?_|refine bn ?_ ?_)<;>intro _<;>first|(exfalso;omega)|conv=>whnf)|((first|refine optP_map hx rfl ?_|refine callP_a hnw ?_|refine callP_a w1 ?_|refine dI ?_|refine okI ?_|refine bt ?_|refine bi (fun _=>?_) (fun _=>?_)|refine bndI ?_|intro _)<;>conv=>whnf)))
        · rename_i h9
          rw [if_pos h9] at H
          (refine ⟨i + 1, ⟨by omega, H⟩, by omega, ?_⟩;(conv=>whnf);refine ⟨?_, ?_, ?_⟩<;>repeat (first|exact trivial|refine sc rfl ?_|refine kn ?_|refine kc rfl ?_|refine sc (by first|(simp only [ht, List.map_append];rfl)|((conv=>lhs;whnf);simp;omega)) ?_|refine kc (by first|(simp only [ht, List.map_append];rfl)|((conv=>lhs;whnf);simp;omega)) ?_))
        · rename_i h9
          rw [if_neg h9] at H
          (refine ⟨⟨?_⟩, trivial⟩;simp [oneOf, triA, intA, H, h9])
      · rw [if_neg he, if_neg he] at H
        conv=>whnf
        repeat (any_goals (first|exact falseI|((first|refine bd ?_ ?_|refine bn ?_ ?_)<;>intro _<;>first|(exfalso;omega)|conv=>whnf)|((first|refine optP_map hx rfl ?_|refine callP_a hnw ?_|refine dI ?_|refine okI ?_|refine bt ?_|refine bi (fun _=>?_) (fun _=>?_)|refine bndI ?_|intro _)<;>conv=>whnf)))
        (refine ⟨⟨?_⟩, trivial⟩;simp [oneOf, triA, intA, H, he])
    · conv=>whnf
      simp only [List.length_map] at h1
      have : i = s.orders.length:=by omega
      subst this
      simp only [List.drop_length, firstFrom] at H
      repeat (any_goals (first|exact falseI|((first|refine bd ?_ ?_|refine bn ?_ ?_)<;>intro _<;>first|(exfalso;omega)|conv=>whnf)|((first|refine dI ?_|refine okI ?_|refine bt ?_|refine bi (fun _=>?_) (fun _=>?_)|refine bndI ?_|intro _)<;>conv=>whnf)))
      (refine ⟨⟨?_⟩, trivial⟩;simp [H, oneOf, triA, intA])
end Go.Proofs.YtbpiibdcncfphaaGreatDoor
namespace Go.Proofs.YtbpiibdcncfphaaGreatDoor
open Go.Am Go.Proofs Go
def Amt.upto (m : Int) (a : Amt) : Prop:=(0 ≤ a.b∧a.b ≤ m)∧(0 ≤ a.t∧a.t ≤ m)∧0 ≤ a.c∧a.c ≤ m
def Head.ok (h : Head) : Prop:=h.wax.upto 40∧0 ≤ h.days∧h.days ≤ 2000
def Order.ok (o : Order) : Prop:=(1 ≤ o.weight∧o.weight ≤ 60)∧(0 ≤ o.tlo∧o.tlo ≤ o.thi∧o.thi ≤ 1000)∧0 ≤ o.clo∧o.clo ≤ o.chi∧o.chi ≤ 1000
structure Store.Good (s : Store) : Prop where
  lots : s.lots.upto 100
  fade : 1 ≤ s.fade∧s.fade ≤ 364
  len : s.heads.length ≤ 6
  heads : ∀ h ∈ s.heads, h.ok
  lenO : s.orders.length ≤ 3
  orders : ∀ o ∈ s.orders, o.ok
theorem firstFrom_zero {α : Type} (g : Nat→α→Int) : ∀ (l : List α) (i : Nat), (firstFrom g i l).2 = 0→∀ j x, l[j]? = some x→g (i + j) x = 0
  | [], i, h, j, x, hx=>by simp at hx
  | y :: l, i, h, j, x, hx=>by
    simp only [firstFrom] at h
    by_cases hy : g i y = 0
    · rw [if_pos hy] at h
      cases j with
      | zero=>simp at hx;subst hx;exact hy
      | succ j =>
        have:=firstFrom_zero g l (i + 1) h j x (by simpa using hx)
        rwa [show i + (j + 1) = i + 1 + j by omega]
    · rw [if_neg hy] at h;exact absurd h hy
theorem outside_iff (a b c : Int) : (outside a b c = false)↔a ≤ c∧c ≤ b:=by
  unfold outside
  simp
theorem Store.good {s : Store} (h : s.check.2.2 = 0) : s.Good:=by
  unfold Store.check at h
  split at h
  · simp at h
  rename_i h1
  split at h
  · simp at h
  rename_i h2
  split at h
  · rename_i h3;exact absurd h h3
  rename_i h3
  split at h
  · simp at h
  rename_i h4
  split at h
  · rename_i h5;exact absurd h h5
  rename_i h5
  simp only [Bool.not_eq_true, Bool.or_eq_false_iff, outside_iff] at h1
  obtain ⟨⟨⟨a1, a2⟩, a3⟩, a4⟩:=h1
  refine ⟨⟨by omega, by omega, by omega⟩, a4, by omega, ?_, by omega, ?_⟩
  · intro x hx
    obtain ⟨i, hi⟩:=List.mem_iff_getElem?.1 hx
    have:=firstFrom_zero _ s.heads 0 (by simpa [Store.headsErr] using h3) i x hi
    unfold headErr at this
    split at this
    · omega
    split at this
    · omega
    split at this
    · omega
    rename_i q
    simp only [Bool.not_eq_true, Bool.or_eq_false_iff, outside_iff] at q
    obtain ⟨⟨⟨a1, a2⟩, a3⟩, a4⟩:=q
    exact ⟨⟨a1, a2, a3⟩, by omega⟩
  · intro x hx
    obtain ⟨i, hi⟩:=List.mem_iff_getElem?.1 hx
    have:=firstFrom_zero _ s.orders 0 (by simpa [Store.ordersErr] using h5) i x hi
    unfold orderErr at this
    split at this
    · omega
    split at this
    · omega
    split at this
    · omega
    rename_i q
    split at this
    · omega
    rename_i q2
    simp only [Bool.not_eq_true, Bool.or_eq_false_iff, outside_iff, decide_eq_false_iff_not] at q q2
    obtain ⟨a1, ⟨⟨a2, a3⟩, a4⟩, a5⟩:=q
    refine ⟨a1, ?_, ?_⟩<;>omega
def Amt.add (a b : Amt) : Amt:=⟨a.b + b.b, a.t + b.t, a.c + b.c⟩
def Amt.weight (a : Amt) : Int:=a.b + a.t + a.c
def big : Int:=10000000000000
def Amt.fit (a : Amt) : Prop:=(-big ≤ a.b∧a.b ≤ big)∧(-big ≤ a.t∧a.t ≤ big)∧-big ≤ a.c∧a.c ≤ big
theorem sum_c (a b : Amt) (ha : a.fit) (hb : b.fit) : PureA Tryz.prog 61 [amtA a, amtA b] (amtA (a.add b)):=by
  obtain ⟨a1, a2, a3⟩:=ha
  obtain ⟨b1, b2, b3⟩:=hb
  unfold big at *
  refine pureA_codeB tabOk { l:=0, f:=61 } mixed call_61 Tryz.func61 (by kernel_rfl) ?_
  conv=>whnf
  repeat (any_goals (first|exact falseI|((first|refine bd ?_ ?_|refine bn ?_ ?_)<;>intro _<;>first|(exfalso;omega)|conv=>whnf)|((first|refine dI ?_|refine okI ?_|refine bt ?_|refine bi (fun _=>?_) (fun _=>?_)|refine bndI ?_|intro _)<;>conv=>whnf)))
  (refine ⟨⟨?_⟩, trivial⟩;rfl)
theorem weight_c (a : Amt) (ha : a.fit) : PureA Tryz.prog 52 [amtA a] (intA a.weight):=by
  obtain ⟨a1, a2, a3⟩:=ha
  unfold big at *
  refine pureA_codeB tabOk { l:=0, f:=52 } mixed call_52 Tryz.func52 (by kernel_rfl) ?_
  conv=>whnf
  repeat (any_goals (first|exact falseI|((first|refine bd ?_ ?_|refine bn ?_ ?_)<;>intro _<;>first|(exfalso;omega)|conv=>whnf)|((first|refine dI ?_|refine okI ?_|refine bt ?_|refine bi (fun _=>?_) (fun _=>?_)|refine bndI ?_|intro _)<;>conv=>whnf)))
  (refine ⟨⟨?_⟩, trivial⟩;rfl)
theorem refWeight_c (a : Amt) (ha : a.fit) : PureA Tryz.prog 65 [amtA a] (intA a.weight):=by
  obtain ⟨a1, a2, a3⟩:=ha
  unfold big at *
  refine pureA_codeB tabOk { l:=0, f:=65 } mixed call_65 Tryz.func65 (by kernel_rfl) ?_
  conv=>whnf
  repeat (any_goals (first|exact falseI|((first|refine bd ?_ ?_|refine bn ?_ ?_)<;>intro _<;>first|(exfalso;omega)|conv=>whnf)|((first|refine dI ?_|refine okI ?_|refine bt ?_|refine bi (fun _=>?_) (fun _=>?_)|refine bndI ?_|intro _)<;>conv=>whnf)))
  (refine ⟨⟨?_⟩, trivial⟩;rfl)
def Head.faded (h : Head) (fade later : Int) : Int:=min ((h.days + later).tdiv fade) h.wax.c
def Head.melt (h : Head) (fade later : Int) : Amt:=⟨h.wax.b + h.faded fade later, h.wax.t, h.wax.c - h.faded fade later⟩
theorem tdiv_le {a b : Int} (ha : 0 ≤ a) (hb : 1 ≤ b) : 0 ≤ a.tdiv b∧a.tdiv b ≤ a:=by
  rw [Int.tdiv_eq_ediv_of_nonneg ha]
  exact ⟨Int.ediv_nonneg ha (by omega), Int.ediv_le_self _ ha⟩
theorem faded_le {h : Head} {fade later : Int} (hh : h.ok) (hf : 1 ≤ fade) (hl : 0 ≤ later) : 0 ≤ h.faded fade later∧h.faded fade later ≤ h.wax.c:=by
  obtain ⟨⟨a1, a2, a3⟩, a4⟩:=hh
  have hq:=tdiv_le (a:=h.days + later) (by omega) hf
  unfold Head.faded
  omega
theorem melt_c (s : Store) (i : Nat) (h : Head) (hs : s.Good) (hi : s.heads[i]? = some h) : PureA Tryz.prog 71 [storeA s, intA i] (amtA (h.melt s.fade 0)):=by
  have hf:=hs.fade
  have hok:=hs.heads h (List.mem_of_getElem? hi)
  have hX:=faded_le hok hf.1 (Int.le_refl 0)
  obtain ⟨⟨a1, a2, a3⟩, a4⟩:=hok
  have hq:=tdiv_le a4.1 hf.1
  have hE : h.faded s.fade 0 = pickM false (h.days.tdiv s.fade) h.wax.c:=by rw [pickM_min, Head.faded, Int.add_zero]
  unfold Head.melt
  rw [hE] at hX ⊢
  have hlt:=(List.getElem?_eq_some_iff.1 hi).1
  refine pureA_codeB tabOk { l:=0, f:=71 } mixed call_71 Tryz.func71 (by kernel_rfl) ?_
  conv=>whnf
  repeat (any_goals (first|exact falseI|((first|refine bd ?_ ?_|refine bn ?_ ?_)<;>intro _<;>first|(exfalso;omega)|conv=>whnf)|((first|refine optP_map hi rfl ?_|refine dI ?_|refine okI ?_|refine bt ?_|refine bi (fun _=>?_) (fun _=>?_)|refine bndI ?_|intro _)<;>conv=>whnf)))
  (refine ⟨⟨?_⟩, trivial⟩;rfl)
def zeroT : Amt:=⟨0, 0, 0⟩
end Go.Proofs.YtbpiibdcncfphaaGreatDoor
namespace Go.Proofs.YtbpiibdcncfphaaGreatDoor
open Go.Am Go.Proofs Go
def kS : Key:=⟨0, 22, 27⟩
def kM : Key:=⟨0, 22, 25⟩
def amtsC : List Amt→List AV
  | []=>[]
  | q :: l=>intA q.b :: intA q.t :: intA q.c :: amtsC l
def ruleC : List AV:=[.agg [intA 1, .func (.func 42) [] []], .agg [intA 2, .func (.func 43) [] []]]
def rulesA : AV:=.slice 2 ruleC .tight
def storeX (s : Store) (w : Int) (m : List Amt) (mp : AV) : AV:=.agg (storeC s++(intA w :: (amtsC m++[rulesA, mp])))
def meltsTo (s : Store) (later : Int) (i : Nat) : List Amt:=(s.heads.take i).map (·.melt s.fade later)++List.replicate (6 - i) zeroT
def Store.melts (s : Store) (later : Int) : List Amt:=meltsTo s later s.heads.length
def sumW : List Order→Int
  | []=>0
  | o :: l=>o.weight + sumW l
theorem sumW_take {l : List Order} {i : Nat} {x : Order} (hx : l[i]? = some x) : sumW (l.take (i + 1)) = sumW (l.take i) + x.weight:=by
  have app : ∀ a b : List Order, sumW (a++b) = sumW a + sumW b:=by
    intro a;induction a with
    | nil=>intro b;simp [sumW]
    | cons y a ih=>intro b;simp [sumW, ih];omega
  have ht : l.take (i + 1) = l.take i++[x]:=by rw [List.take_add_one, hx];rfl
  rw [ht, app]
  simp [sumW]
theorem sumW_le : ∀ (l : List Order), (∀ o ∈ l, o.ok)→0 ≤ sumW l∧sumW l ≤ 60 * l.length
  | [], _=>by simp [sumW]
  | o :: l, h=>by
    have:=sumW_le l fun x hx=>h x (List.mem_cons_of_mem _ hx)
    have:=(h o (List.mem_cons_self ..)).1
    simp only [sumW, List.length_cons]
    omega
theorem list6 {α : Type} {p : List α} (h : p.length = 6) : ∃ a b c d e f, p = [a, b, c, d, e, f] :=
  match p, h with
  | [a, b, c, d, e, f], _=>⟨a, b, c, d, e, f, rfl⟩
theorem lt6 {i : Nat} (h : i < 6) : i = 0∨i = 1∨i = 2∨i = 3∨i = 4∨i = 5:=by omega
theorem meltsTo_len (s : Store) (later : Int) (i : Nat) (h : i ≤ s.heads.length) (h6 : s.heads.length ≤ 6) : (meltsTo s later i).length = 6:=by
  simp [meltsTo];omega
theorem meltsTo_succ (s : Store) (later : Int) (i : Nat) (x : Head) (hx : s.heads[i]? = some x) (h6 : s.heads.length ≤ 6) : (meltsTo s later i).set i (x.melt s.fade later) = meltsTo s later (i + 1):=by
  have hi:=(List.getElem?_eq_some_iff.1 hx).1
  have ht : s.heads.take (i + 1) = s.heads.take i++[x]:=by rw [List.take_add_one, hx];rfl
  have hr : List.replicate (6 - i) zeroT = zeroT :: List.replicate (6 - (i + 1)) zeroT:=by
    rw [show 6 - i = (6 - (i + 1)) + 1 by omega, List.replicate_succ]
  simp only [meltsTo, ht, hr, List.map_append, List.append_assoc, List.map_cons, List.map_nil]
  rw [List.set_append_right _ _ (by simp;omega)]
  simp only [List.length_map, List.length_take, Nat.min_eq_left (Nat.le_of_lt hi), Nat.sub_self, List.set_cons_zero]
  rfl
theorem lookT_c (s : Store) (later : Int) (hr : s.small) (hc : s.check.2.2 = 0) (hl : 0 ≤ later) (hl2 : later ≤ 1000000) : BoxA Tryz.prog (.fn 22) [] [storeA s, intA later] (.tuple [.ptr kS 1 27 0 0, intA 0]) [(kS, 1, 27, [storeX s (sumW s.orders) (s.melts later) (.mp kM 1)]), (kM, 1, 0, [.v (.int .i64 0)])]:=by
  have hg:=Store.good hc
  have hk:=check_c s hr
  unfold triA at hk
  rw [hc] at hk
  have hfd:=hg.fade
  refine boxA_codeB tabOk { l:=0, f:=22 } mixed call_22 Tryz.func22 (by kernel_rfl) ?_
  conv=>whnf
  repeat (any_goals (first|exact falseI|((first|refine bd ?_ ?_|refine bn ?_ ?_)<;>intro _<;>first|(exfalso;omega)|conv=>whnf)|((first|refine callP_a hk ?_|refine dI ?_|refine okI ?_|refine bt ?_|refine bi (fun _=>?_) (fun _=>?_)|refine bndI ?_|intro _)<;>conv=>whnf)))
  refine loopK tabOk { l:=0, f:=22 } mixed (fun i : Nat=>[(37, intA i)]) (fun i=>[(kS, some (1, some (27, [storeX s (sumW (s.orders.take i)) (List.replicate 6 zeroT) (.mp kM 1)])))]) (fun _=>[]) (fun i=>i ≤ s.orders.length) (fun i=>s.orders.length - i) 0 (by kernel_rfl)
    (Nat.zero_le _) ?_
  conv=>whnf
  refine ⟨⟨slotsLe_cons rfl trivial, keysLe_cons rfl trivial, trivial⟩, ?_⟩
  intro i hi
  conv=>whnf
  refine brP_dec (fun h1=>?_) (fun h1=>?_)
  · simp only [List.length_map] at h1
    obtain ⟨x, hx, hd⟩:=drop_cons (l:=s.orders) (i:=i) (by omega)
    have hw:=sumW_take hx
    have hb:=sumW_le (s.orders.take i) fun o ho=>hg.orders o (List.mem_of_mem_take ho)
    have hb2:=(hg.orders x (List.mem_of_getElem? hx)).1
    have hb3:=hg.lenO
    simp only [List.length_take, Nat.min_eq_left hi] at hb
    generalize sumW (s.orders.take i) = y at *
    conv=>whnf
    repeat (any_goals (first|exact falseI|((first|refine bd ?_ ?_|refine bn ?_ ?_)<;>intro _<;>first|(exfalso;omega)|conv=>whnf)|((first|refine optP_map hx rfl ?_|refine dI ?_|refine okI ?_|refine bt ?_|refine bi (fun _=>?_) (fun _=>?_)|refine bndI ?_|intro _)<;>conv=>whnf)))
    (refine ⟨i + 1, (by omega), by omega, ?_⟩;(conv=>whnf);refine ⟨?_, ?_, ?_⟩<;>repeat (first|exact trivial|refine sc rfl ?_|refine kn ?_|refine kc rfl ?_|refine sc (by (rw [hw];rfl)) ?_|refine kc (by (rw [hw];rfl)) ?_))
  · conv=>whnf
    simp only [List.length_map] at h1
    have : i = s.orders.length:=by omega
    subst this
    have hb:=sumW_le s.orders hg.orders
    have hb3:=hg.lenO
    rw [List.take_length]
    generalize sumW s.orders = y at *
    have h6:=hg.len
    repeat (any_goals (first|exact falseI|((first|refine bd ?_ ?_|refine bn ?_ ?_)<;>intro _<;>first|(exfalso;omega)|conv=>whnf)|((first|refine dI ?_|refine okI ?_|refine bt ?_|refine bi (fun _=>?_) (fun _=>?_)|refine bndI ?_|intro _)<;>conv=>whnf)))
    refine loopK tabOk { l:=0, f:=22 } mixed (fun i : Nat=>[(54, intA i)]) (fun i=>[(kS, some (1, some (27, [storeX s y (meltsTo s later i) (.mp kM 1)])))]) (fun _=>[]) (fun i=>i ≤ s.heads.length) (fun i=>s.heads.length - i) 0 (by kernel_rfl)
      (Nat.zero_le _) ?_
    conv=>whnf
    refine ⟨⟨slotsLe_cons rfl trivial, keysLe_cons rfl trivial, trivial⟩, ?_⟩
    intro i hi
    conv=>whnf
    refine brP_dec (fun h1=>?_) (fun h1=>?_)
    · simp only [List.length_map] at h1
      obtain ⟨x, hx, hd⟩:=drop_cons (l:=s.heads) (i:=i) (by omega)
      conv=>whnf
      have hp:=meltsTo_len s later i hi h6
      have hs:=meltsTo_succ s later i x hx h6
      have hok:=hg.heads x (List.mem_of_getElem? hx)
      have hX:=faded_le hok hfd.1 hl
      obtain ⟨⟨a1, a2, a3⟩, a4⟩:=hok
      have hq:=tdiv_le (a:=x.days + later) (by omega) hfd.1
      have hE : x.faded s.fade later = pickM false ((x.days + later).tdiv s.fade) x.wax.c:=by rw [pickM_min, Head.faded]
      unfold Head.melt at hs
      rw [hE] at hX hs
      generalize meltsTo s later i = p at *
      obtain ⟨p0, p1, p2, p3, p4, p5, rfl⟩:=list6 hp
      clear hd hp hk hc hr hg
      rcases lt6 (by omega : i < 6) with rfl|rfl|rfl|rfl|rfl|rfl
      · repeat (any_goals (first|exact falseI|((first|refine bd ?_ ?_|refine bn ?_ ?_)<;>intro _<;>first|(exfalso;omega)|conv=>whnf)|((first|refine optP_map hx rfl ?_|refine dI ?_|refine okI ?_|refine bt ?_|refine bi (fun _=>?_) (fun _=>?_)|refine bndI ?_|intro _)<;>conv=>whnf)))
        (refine ⟨1, (by omega), by omega, ?_⟩;(conv=>whnf);refine ⟨?_, ?_, ?_⟩<;>repeat (first|exact trivial|refine sc rfl ?_|refine kn ?_|refine kc rfl ?_|refine sc (by (rw [← hs];rfl)) ?_|refine kc (by (rw [← hs];rfl)) ?_))
      · repeat (any_goals (first|exact falseI|((first|refine bd ?_ ?_|refine bn ?_ ?_)<;>intro _<;>first|(exfalso;omega)|conv=>whnf)|((first|refine optP_map hx rfl ?_|refine dI ?_|refine okI ?_|refine bt ?_|refine bi (fun _=>?_) (fun _=>?_)|refine bndI ?_|intro _)<;>conv=>whnf)))
        (refine ⟨2, (by omega), by omega, ?_⟩;(conv=>whnf);refine ⟨?_, ?_, ?_⟩<;>repeat (first|exact trivial|refine sc rfl ?_|refine kn ?_|refine kc rfl ?_|refine sc (by (rw [← hs];rfl)) ?_|refine kc (by (rw [← hs];rfl)) ?_))
      · repeat (any_goals (first|exact falseI|((first|refine bd ?_ ?_|refine bn ?_ ?_)<;>intro _<;>first|(exfalso;omega)|conv=>whnf)|((first|refine optP_map hx rfl ?_|refine dI ?_|refine okI ?_|refine bt ?_|refine bi (fun _=>?_) (fun _=>?_)|refine bndI ?_|intro _)<;>conv=>whnf)))
        (refine ⟨3, (by omega), by omega, ?_⟩;(conv=>whnf);refine ⟨?_, ?_, ?_⟩<;>repeat (first|exact trivial|refine sc rfl ?_|refine kn ?_|refine kc rfl ?_|refine sc (by (rw [← hs];rfl)) ?_|refine kc (by (rw [← hs];rfl)) ?_))
      · repeat (any_goals (first|exact falseI|((first|refine bd ?_ ?_|refine bn ?_ ?_)<;>intro _<;>first|(exfalso;omega)|conv=>whnf)|((first|refine optP_map hx rfl ?_|refine dI ?_|refine okI ?_|refine bt ?_|refine bi (fun _=>?_) (fun _=>?_)|refine bndI ?_|intro _)<;>conv=>whnf)))
        (refine ⟨4, (by omega), by omega, ?_⟩;(conv=>whnf);refine ⟨?_, ?_, ?_⟩<;>repeat (first|exact trivial|refine sc rfl ?_|refine kn ?_|refine kc rfl ?_|refine sc (by (rw [← hs];rfl)) ?_|refine kc (by (rw [← hs];rfl)) ?_))
      · repeat (any_goals (first|exact falseI|((first|refine bd ?_ ?_|refine bn ?_ ?_)<;>intro _<;>first|(exfalso;omega)|conv=>whnf)|((first|refine optP_map hx rfl ?_|refine dI ?_|refine okI ?_|refine bt ?_|refine bi (fun _=>?_) (fun _=>?_)|refine bndI ?_|intro _)<;>conv=>whnf)))
        (refine ⟨5, (by omega), by omega, ?_⟩;(conv=>whnf);refine ⟨?_, ?_, ?_⟩<;>repeat (first|exact trivial|refine sc rfl ?_|refine kn ?_|refine kc rfl ?_|refine sc (by (rw [← hs];rfl)) ?_|refine kc (by (rw [← hs];rfl)) ?_))
      · repeat (any_goals (first|exact falseI|((first|refine bd ?_ ?_|refine bn ?_ ?_)<;>intro _<;>first|(exfalso;omega)|conv=>whnf)|((first|refine optP_map hx rfl ?_|refine dI ?_|refine okI ?_|refine bt ?_|refine bi (fun _=>?_) (fun _=>?_)|refine bndI ?_|intro _)<;>conv=>whnf)))
        (refine ⟨6, (by omega), by omega, ?_⟩;(conv=>whnf);refine ⟨?_, ?_, ?_⟩<;>repeat (first|exact trivial|refine sc rfl ?_|refine kn ?_|refine kc rfl ?_|refine sc (by (rw [← hs];rfl)) ?_|refine kc (by (rw [← hs];rfl)) ?_))
    · conv=>whnf
      simp only [List.length_map] at h1
      have : i = s.heads.length:=by omega
      subst this
      refine And.intro ?_ ?_
      · conv=>whnf
        refine ⟨⟨?_⟩, trivial⟩
        rfl
      · repeat (first|exact trivial|refine And.intro rfl ?_|refine And.intro (by skip) ?_)
def nilPtr : AV:=.v (.pointer none)
theorem lookF_c (s : Store) (later : Int) (hr : s.small) (hc : s.check.2.2 ≠ 0) : BoxA Tryz.prog (.fn 22) [] [storeA s, intA later] (.tuple [nilPtr, intA s.check.2.2]) []:=by
  have hk:=check_c s hr
  unfold triA at hk
  generalize s.check = c at *
  obtain ⟨c1, c2, c3⟩:=c
  refine boxA_codeB tabOk { l:=0, f:=22 } mixed call_22 Tryz.func22 (by kernel_rfl) ?_
  conv=>whnf
  repeat (any_goals (first|exact falseI|((first|refine bd ?_ ?_|refine bn ?_ ?_)<;>intro _<;>first|(exfalso;omega)|conv=>whnf)|((first|refine callP_a hk ?_|refine dI ?_|refine okI ?_|refine bt ?_|refine bi (fun _=>?_) (fun _=>?_)|refine bndI ?_|intro _)<;>conv=>whnf)))
  refine And.intro ?_ ?_
  · conv=>whnf
    refine ⟨⟨?_⟩, trivial⟩
    rfl
  · repeat (first|exact trivial|refine And.intro rfl ?_|refine And.intro (by skip) ?_)
end Go.Proofs.YtbpiibdcncfphaaGreatDoor
namespace Go.Proofs.YtbpiibdcncfphaaGreatDoor
open Go.Am Go.Proofs Go
def rulesN : AV:=.slice 2 ruleC .no
def lookR (s : Store) (w : Int) (m : List Amt) : AV:=.cptr (storeC s++(intA w :: (amtsC m++[rulesN, .junk])))
def storeY (s : Store) (w : Int) (m : List Amt) (mp : AV) : AV:=.agg (storeC s++(intA w :: (amtsC m++[rulesN, mp])))
def kst : Nat→Amt→Amt→Amt
  | 0, k, _=>k
  | 1, k, a=>⟨k.b + a.b, k.t, k.c⟩
  | 2, k, a=>⟨k.b + a.b, k.t + a.t, k.c⟩
  | _, k, a=>k.add a
theorem lt3 {i : Nat} (h : i < 3) : i = 0∨i = 1∨i = 2:=by omega
def sumL (m : List Amt) (k : Amt) (l : List Int) : Amt:=l.foldl (fun k h=>k.add (m.getD h.toNat zeroT)) k
def Amt.abs (m : Int) (a : Amt) : Prop:=(-m ≤ a.b∧a.b ≤ m)∧(-m ≤ a.t∧a.t ≤ m)∧-m ≤ a.c∧a.c ≤ m
theorem sumL_take {m : List Amt} {k : Amt} {l : List Int} {i : Nat} {x : Int} (hx : l[i]? = some x) : sumL m k (l.take (i + 1)) = (sumL m k (l.take i)).add (m.getD x.toNat zeroT):=by
  have ht : l.take (i + 1) = l.take i++[x]:=by rw [List.take_add_one, hx];rfl
  rw [ht];simp [sumL]
theorem zeroT_abs (n : Int) (h : 0 ≤ n) : zeroT.abs n:=by unfold Amt.abs zeroT;simp;omega
theorem getD_abs {m : List Amt} {n : Int} (h : ∀ a ∈ m, a.abs n) (h0 : 0 ≤ n) (i : Nat) : (m.getD i zeroT).abs n:=by
  rw [List.getD_eq_getElem?_getD]
  cases hx : m[i]? with
  | none=>exact zeroT_abs n h0
  | some a=>exact h a (List.mem_of_getElem? hx)
theorem sumL_abs {m : List Amt} {n N : Int} (h : ∀ a ∈ m, a.abs n) (h0 : 0 ≤ n) : ∀ (l : List Int) (k : Amt), k.abs N→(sumL m k l).abs (N + n * l.length)
  | [], k, hk=>by simpa [sumL] using hk
  | x :: l, k, hk=>by
    have h1:=getD_abs h h0 x.toNat
    have h2 : (k.add (m.getD x.toNat zeroT)).abs (N + n):=by
      unfold Amt.abs Amt.add at *
      simp only
      omega
    have:=sumL_abs h h0 l _ h2
    rw [show N + n * ((x :: l).length : Int) = N + n + n * (l.length : Int) by simp only [List.length_cons, Int.natCast_add, Int.mul_add];omega]
    exact this
set_option maxHeartbeats 1000000 in
theorem wsum_c (s : Store) (w : Int) (m : List Amt) (k : Amt) (l : List Int) (hm : m.length = 6) (ha : ∀ a ∈ m, a.abs 1000000) (hk : k.abs 1000000) (hl : ∀ x ∈ l, 0 ≤ x∧x < 6) (hll : l.length ≤ 1048576) :
    PureA Tryz.prog 25 [lookR s w m, amtA k, intsA l] (amtA (sumL m k l)):=by
  have hab:=fun i=>sumL_abs ha (by omega) (l.take i) k hk
  have hmb:=fun i=>getD_abs ha (by omega) i
  have ht : sumL m k l = sumL m k (l.take l.length):=by rw [List.take_length]
  have ht0 : k = sumL m k (l.take 0):=rfl
  have hst:=fun i x (hx : l[i]? = some x)=>sumL_take (m:=m) (k:=k) hx
  rw [ht]
  generalize hf : (fun i=>sumL m k (l.take i)) = f at *
  have hf' : ∀ i, sumL m k (l.take i) = f i:=fun i=>by rw [← hf]
  simp only [hf'] at *
  clear hf hf' ht
  rw [ht0]
  clear hk ht0
  obtain ⟨p0, p1, p2, p3, p4, p5, rfl⟩:=list6 hm
  clear ha hm
  refine pureA_codeB tabOk { l:=0, f:=25 } mixed call_25 Tryz.func25 (by kernel_rfl) ?_
  conv=>whnf
  refine loopK tabOk { l:=0, f:=25 } mixed (fun i : Nat=>[(13, intA i)]) (fun i=>[(⟨0, 25, 4⟩, some (1, some (3, [amtA (f i)])))]) (fun _=>[]) (fun i=>i ≤ l.length) (fun i=>l.length - i) 0 (by kernel_rfl)
    (Nat.zero_le _) ?_
  conv=>whnf
  refine ⟨⟨slotsLe_cons rfl trivial, keysLe_cons rfl trivial, trivial⟩, ?_⟩
  intro i hi
  conv=>whnf
  refine brP_dec (fun h1=>?_) (fun h1=>?_)
  · simp only [List.length_map] at h1
    obtain ⟨x, hx, hd⟩:=drop_cons (l:=l) (i:=i) (by omega)
    obtain ⟨hx0, hx6⟩:=hl x (List.mem_of_getElem? hx)
    have hb1:=hab i
    have hb2:=hmb x.toNat
    have hs:=hst i x hx
    simp only [List.length_take, Nat.min_eq_left hi] at hb1
    unfold Amt.abs at hb1 hb2
    have hx' : l[i]? = some ((x.toNat : Nat) : Int):=by rw [hx];congr 1;omega
    have hxl : x.toNat < 6:=by omega
    clear hab hmb hst hl hd hx hx0 hx6
    generalize f i = y at *
    generalize x.toNat = n at *
    conv=>whnf
    rcases lt6 hxl with rfl|rfl|rfl|rfl|rfl|rfl
    · simp only [List.getD_cons_zero, List.getD_cons_succ] at hb2 hs
      repeat (any_goals (first|exact falseI|((first|refine bd ?_ ?_|refine bn ?_ ?_)<;>intro _<;>first|(exfalso;omega)|conv=>whnf)|((first|refine optP_map hx' rfl ?_|refine dI ?_|refine okI ?_|refine bt ?_|refine bi (fun _=>?_) (fun _=>?_)|refine bndI ?_|intro _)<;>conv=>whnf)))
      have e0 : (kst 0 y p0).b = y.b:=rfl
      have e1 : (kst 1 y p0).t = y.t:=rfl
      have e2 : (kst 2 y p0).c = y.c:=rfl
      refine loopK tabOk { l:=0, f:=25 } mixed (fun j : Nat=>[(23, intA j)]) (fun j=>[(⟨0, 25, 4⟩, some (1, some (3, [amtA (kst j y p0)])))]) (fun _=>[]) (fun j=>j ≤ 3) (fun j=>3 - j) 0 (by kernel_rfl)
        (Nat.zero_le _) ?_
      conv=>whnf
      refine ⟨⟨slotsLe_cons rfl trivial, keysLe_cons rfl trivial, trivial⟩, ?_⟩
      intro j hj
      conv=>whnf
      refine brP_dec (fun h1=>?_) (fun h1=>?_)
      · rcases lt3 (by omega : j < 3) with rfl|rfl|rfl
        · conv=>whnf
          repeat (any_goals (first|exact falseI|((first|refine bd ?_ ?_|refine bn ?_ ?_)<;>intro _<;>first|(exfalso;omega)|conv=>whnf)|((first|refine dI ?_|refine okI ?_|refine bt ?_|refine bi (fun _=>?_) (fun _=>?_)|refine bndI ?_|intro _)<;>conv=>whnf)))
          (refine ⟨1, (by omega), by omega, ?_⟩;(conv=>whnf);refine ⟨?_, ?_, ?_⟩<;>repeat (first|exact trivial|refine sc rfl ?_|refine kn ?_|refine kc rfl ?_))
        · conv=>whnf
          repeat (any_goals (first|exact falseI|((first|refine bd ?_ ?_|refine bn ?_ ?_)<;>intro _<;>first|(exfalso;omega)|conv=>whnf)|((first|refine dI ?_|refine okI ?_|refine bt ?_|refine bi (fun _=>?_) (fun _=>?_)|refine bndI ?_|intro _)<;>conv=>whnf)))
          (refine ⟨2, (by omega), by omega, ?_⟩;(conv=>whnf);refine ⟨?_, ?_, ?_⟩<;>repeat (first|exact trivial|refine sc rfl ?_|refine kn ?_|refine kc rfl ?_))
        · conv=>whnf
          repeat (any_goals (first|exact falseI|((first|refine bd ?_ ?_|refine bn ?_ ?_)<;>intro _<;>first|(exfalso;omega)|conv=>whnf)|((first|refine dI ?_|refine okI ?_|refine bt ?_|refine bi (fun _=>?_) (fun _=>?_)|refine bndI ?_|intro _)<;>conv=>whnf)))
          (refine ⟨3, (by omega), by omega, ?_⟩;(conv=>whnf);refine ⟨?_, ?_, ?_⟩<;>repeat (first|exact trivial|refine sc rfl ?_|refine kn ?_|refine kc rfl ?_))
      · have : j = 3:=by omega
        subst this
        conv=>whnf
        repeat (any_goals (first|exact falseI|((first|refine bd ?_ ?_|refine bn ?_ ?_)<;>intro _<;>first|(exfalso;omega)|conv=>whnf)|((first|refine dI ?_|refine okI ?_|refine bt ?_|refine bi (fun _=>?_) (fun _=>?_)|refine bndI ?_|intro _)<;>conv=>whnf)))
        (refine ⟨i + 1, (by omega), by omega, ?_⟩;(conv=>whnf);refine ⟨?_, ?_, ?_⟩<;>repeat (first|exact trivial|refine sc rfl ?_|refine kn ?_|refine kc rfl ?_|refine sc (by (rw [hs];rfl)) ?_|refine kc (by (rw [hs];rfl)) ?_))
    · simp only [List.getD_cons_zero, List.getD_cons_succ] at hb2 hs
      repeat (any_goals (first|exact falseI|((first|refine bd ?_ ?_|refine bn ?_ ?_)<;>intro _<;>first|(exfalso;omega)|conv=>whnf)|((first|refine optP_map hx' rfl ?_|refine dI ?_|refine okI ?_|refine bt ?_|refine bi (fun _=>?_) (fun _=>?_)|refine bndI ?_|intro _)<;>conv=>whnf)))
      have e0 : (kst 0 y p1).b = y.b:=rfl
      have e1 : (kst 1 y p1).t = y.t:=rfl
      have e2 : (kst 2 y p1).c = y.c:=rfl
      refine loopK tabOk { l:=0, f:=25 } mixed (fun j : Nat=>[(23, intA j)]) (fun j=>[(⟨0, 25, 4⟩, some (1, some (3, [amtA (kst j y p1)])))]) (fun _=>[]) (fun j=>j ≤ 3) (fun j=>3 - j) 0 (by kernel_rfl)
        (Nat.zero_le _) ?_
      conv=>whnf
      refine ⟨⟨slotsLe_cons rfl trivial, keysLe_cons rfl trivial, trivial⟩, ?_⟩
      intro j hj
      conv=>whnf
      refine brP_dec (fun h1=>?_) (fun h1=>?_)
      · rcases lt3 (by omega : j < 3) with rfl|rfl|rfl
        · conv=>whnf
          repeat (any_goals (first|exact falseI|((first|refine bd ?_ ?_|refine bn ?_ ?_)<;>intro _<;>first|(exfalso;omega)|conv=>whnf)|((first|refine dI ?_|refine okI ?_|refine bt ?_|refine bi (fun _=>?_) (fun _=>?_)|refine bndI ?_|intro _)<;>conv=>whnf)))
          (refine ⟨1, (by omega), by omega, ?_⟩;(conv=>whnf);refine ⟨?_, ?_, ?_⟩<;>repeat (first|exact trivial|refine sc rfl ?_|refine kn ?_|refine kc rfl ?_))
        · conv=>whnf
          repeat (any_goals (first|exact falseI|((first|refine bd ?_ ?_|refine bn ?_ ?_)<;>intro _<;>first|(exfalso;omega)|conv=>whnf)|((first|refine dI ?_|refine okI ?_|refine bt ?_|refine bi (fun _=>?_) (fun _=>?_)|refine bndI ?_|intro _)<;>conv=>whnf)))
          (refine ⟨2, (by omega), by omega, ?_⟩;(conv=>whnf);refine ⟨?_, ?_, ?_⟩<;>repeat (first|exact trivial|refine sc rfl ?_|refine kn ?_|refine kc rfl ?_))
        · conv=>whnf
          repeat (any_goals (first|exact falseI|((first|refine bd ?_ ?_|refine bn ?_ ?_)<;>intro _<;>first|(exfalso;omega)|conv=>whnf)|((first|refine dI ?_|refine okI ?_|refine bt ?_|refine bi (fun _=>?_) (fun _=>?_)|refine bndI ?_|intro _)<;>conv=>whnf)))
          (refine ⟨3, (by omega), by omega, ?_⟩;(conv=>whnf);refine ⟨?_, ?_, ?_⟩<;>repeat (first|exact trivial|refine sc rfl ?_|refine kn ?_|refine kc rfl ?_))
      · have : j = 3:=by omega
        subst this
        conv=>whnf
        repeat (any_goals (first|exact falseI|((first|refine bd ?_ ?_|refine bn ?_ ?_)<;>intro _<;>first|(exfalso;omega)|conv=>whnf)|((first|refine dI ?_|refine okI ?_|refine bt ?_|refine bi (fun _=>?_) (fun _=>?_)|refine bndI ?_|intro _)<;>conv=>whnf)))
        (refine ⟨i + 1, (by omega), by omega, ?_⟩;(conv=>whnf);refine ⟨?_, ?_, ?_⟩<;>repeat (first|exact trivial|refine sc rfl ?_|refine kn ?_|refine kc rfl ?_|refine sc (by (rw [hs];rfl)) ?_|refine kc (by (rw [hs];rfl)) ?_))
    · simp only [List.getD_cons_zero, List.getD_cons_succ] at hb2 hs
      repeat (any_goals (first|exact falseI|((first|refine bd ?_ ?_|refine bn ?_ ?_)<;>intro _<;>first|(exfalso;omega)|conv=>whnf)|((first|refine optP_map hx' rfl ?_|refine dI ?_|refine okI ?_|refine bt ?_|refine bi (fun _=>?_) (fun _=>?_)|refine bndI ?_|intro _)<;>conv=>whnf)))
      have e0 : (kst 0 y p2).b = y.b:=rfl
      have e1 : (kst 1 y p2).t = y.t:=rfl
      have e2 : (kst 2 y p2).c = y.c:=rfl
      refine loopK tabOk { l:=0, f:=25 } mixed (fun j : Nat=>[(23, intA j)]) (fun j=>[(⟨0, 25, 4⟩, some (1, some (3, [amtA (kst j y p2)])))]) (fun _=>[]) (fun j=>j ≤ 3) (fun j=>3 - j) 0 (by kernel_rfl)
        (Nat.zero_le _) ?_
      conv=>whnf
      refine ⟨⟨slotsLe_cons rfl trivial, keysLe_cons rfl trivial, trivial⟩, ?_⟩
      intro j hj
      conv=>whnf
      refine brP_dec (fun h1=>?_) (fun h1=>?_)
      · rcases lt3 (by omega : j < 3) with rfl|rfl|rfl
        · conv=>whnf
          repeat (any_goals (first|exact falseI|((first|refine bd ?_ ?_|refine bn ?_ ?_)<;>intro _<;>first|(exfalso;omega)|conv=>whnf)|((first|refine dI ?_|refine okI ?_|refine bt ?_|refine bi (fun _=>?_) (fun _=>?_)|refine bndI ?_|intro _)<;>conv=>whnf)))
          (refine ⟨1, (by omega), by omega, ?_⟩;(conv=>whnf);refine ⟨?_, ?_, ?_⟩<;>repeat (first|exact trivial|refine sc rfl ?_|refine kn ?_|refine kc rfl ?_))
        · conv=>whnf
          repeat (any_goals (first|exact falseI|((first|refine bd ?_ ?_|refine bn ?_ ?_)<;>intro _<;>first|(exfalso;omega)|conv=>whnf)|((first|refine dI ?_|refine okI ?_|refine bt ?_|refine bi (fun _=>?_) (fun _=>?_)|refine bndI ?_|intro _)<;>conv=>whnf)))
          (refine ⟨2, (by omega), by omega, ?_⟩;(conv=>whnf);refine ⟨?_, ?_, ?_⟩<;>repeat (first|exact trivial|refine sc rfl ?_|refine kn ?_|refine kc rfl ?_))
        · conv=>whnf
          repeat (any_goals (first|exact falseI|((first|refine bd ?_ ?_|refine bn ?_ ?_)<;>intro _<;>first|(exfalso;omega)|conv=>whnf)|((first|refine dI ?_|refine okI ?_|refine bt ?_|refine bi (fun _=>?_) (fun _=>?_)|refine bndI ?_|intro _)<;>conv=>whnf)))
          (refine ⟨3, (by omega), by omega, ?_⟩;(conv=>whnf);refine ⟨?_, ?_, ?_⟩<;>repeat (first|exact trivial|refine sc rfl ?_|refine kn ?_|refine kc rfl ?_))
      · have : j = 3:=by omega
        subst this
        conv=>whnf
        repeat (any_goals (first|exact falseI|((first|refine bd ?_ ?_|refine bn ?_ ?_)<;>intro _<;>first|(exfalso;omega)|conv=>whnf)|((first|refine dI ?_|refine okI ?_|refine bt ?_|refine bi (fun _=>?_) (fun _=>?_)|refine bndI ?_|intro _)<;>conv=>whnf)))
        (refine ⟨i + 1, (by omega), by omega, ?_⟩;(conv=>whnf);refine ⟨?_, ?_, ?_⟩<;>repeat (first|exact trivial|refine sc rfl ?_|refine kn ?_|refine kc rfl ?_|refine sc (by (rw [hs];rfl)) ?_|refine kc (by (rw [hs];rfl)) ?_))
    · simp only [List.getD_cons_zero, List.getD_cons_succ] at hb2 hs
      repeat (any_goals (first|exact falseI|((first|refine bd ?_ ?_|refine bn ?_ ?_)<;>intro _<;>first|(exfalso;omega)|conv=>whnf)|((first|refine optP_map hx' rfl ?_|refine dI ?_|refine okI ?_|refine bt ?_|refine bi (fun _=>?_) (fun _=>?_)|refine bndI ?_|intro _)<;>conv=>whnf)))
      have e0 : (kst 0 y p3).b = y.b:=rfl
      have e1 : (kst 1 y p3).t = y.t:=rfl
      have e2 : (kst 2 y p3).c = y.c:=rfl
      refine loopK tabOk { l:=0, f:=25 } mixed (fun j : Nat=>[(23, intA j)]) (fun j=>[(⟨0, 25, 4⟩, some (1, some (3, [amtA (kst j y p3)])))]) (fun _=>[]) (fun j=>j ≤ 3) (fun j=>3 - j) 0 (by kernel_rfl)
        (Nat.zero_le _) ?_
      conv=>whnf
      refine ⟨⟨slotsLe_cons rfl trivial, keysLe_cons rfl trivial, trivial⟩, ?_⟩
      intro j hj
      conv=>whnf
      refine brP_dec (fun h1=>?_) (fun h1=>?_)
      · rcases lt3 (by omega : j < 3) with rfl|rfl|rfl
        · conv=>whnf
          repeat (any_goals (first|exact falseI|((first|refine bd ?_ ?_|refine bn ?_ ?_)<;>intro _<;>first|(exfalso;omega)|conv=>whnf)|((first|refine dI ?_|refine okI ?_|refine bt ?_|refine bi (fun _=>?_) (fun _=>?_)|refine bndI ?_|intro _)<;>conv=>whnf)))
          (refine ⟨1, (by omega), by omega, ?_⟩;(conv=>whnf);refine ⟨?_, ?_, ?_⟩<;>repeat (first|exact trivial|refine sc rfl ?_|refine kn ?_|refine kc rfl ?_))
        · conv=>whnf
          repeat (any_goals (first|exact falseI|((first|refine bd ?_ ?_|refine bn ?_ ?_)<;>intro _<;>first|(exfalso;omega)|conv=>whnf)|((first|refine dI ?_|refine okI ?_|refine bt ?_|refine bi (fun _=>?_) (fun _=>?_)|refine bndI ?_|intro _)<;>conv=>whnf)))
          (refine ⟨2, (by omega), by omega, ?_⟩;(conv=>whnf);refine ⟨?_, ?_, ?_⟩<;>repeat (first|exact trivial|refine sc rfl ?_|refine kn ?_|refine kc rfl ?_))
        · conv=>whnf
          repeat (any_goals (first|exact falseI|((first|refine bd ?_ ?_|refine bn ?_ ?_)<;>intro _<;>first|(exfalso;omega)|conv=>whnf)|((first|refine dI ?_|refine okI ?_|refine bt ?_|refine bi (fun _=>?_) (fun _=>?_)|refine bndI ?_|intro _)<;>conv=>whnf)))
          (refine ⟨3, (by omega), by omega, ?_⟩;(conv=>whnf);refine ⟨?_, ?_, ?_⟩<;>repeat (first|exact trivial|refine sc rfl ?_|refine kn ?_|refine kc rfl ?_))
      · have : j = 3:=by omega
        subst this
        conv=>whnf
        repeat (any_goals (first|exact falseI|((first|refine bd ?_ ?_|refine bn ?_ ?_)<;>intro _<;>first|(exfalso;omega)|conv=>whnf)|((first|refine dI ?_|refine okI ?_|refine bt ?_|refine bi (fun _=>?_) (fun _=>?_)|refine bndI ?_|intro _)<;>conv=>whnf)))
        (refine ⟨i + 1, (by omega), by omega, ?_⟩;(conv=>whnf);refine ⟨?_, ?_, ?_⟩<;>repeat (first|exact trivial|refine sc rfl ?_|refine kn ?_|refine kc rfl ?_|refine sc (by (rw [hs];rfl)) ?_|refine kc (by (rw [hs];rfl)) ?_))
    · simp only [List.getD_cons_zero, List.getD_cons_succ] at hb2 hs
      repeat (any_goals (first|exact falseI|((first|refine bd ?_ ?_|refine bn ?_ ?_)<;>intro _<;>first|(exfalso;omega)|conv=>whnf)|((first|refine optP_map hx' rfl ?_|refine dI ?_|refine okI ?_|refine bt ?_|refine bi (fun _=>?_) (fun _=>?_)|refine bndI ?_|intro _)<;>conv=>whnf)))
      have e0 : (kst 0 y p4).b = y.b:=rfl
      have e1 : (kst 1 y p4).t = y.t:=rfl
      have e2 : (kst 2 y p4).c = y.c:=rfl
      refine loopK tabOk { l:=0, f:=25 } mixed (fun j : Nat=>[(23, intA j)]) (fun j=>[(⟨0, 25, 4⟩, some (1, some (3, [amtA (kst j y p4)])))]) (fun _=>[]) (fun j=>j ≤ 3) (fun j=>3 - j) 0 (by kernel_rfl)
        (Nat.zero_le _) ?_
      conv=>whnf
      refine ⟨⟨slotsLe_cons rfl trivial, keysLe_cons rfl trivial, trivial⟩, ?_⟩
      intro j hj
      conv=>whnf
      refine brP_dec (fun h1=>?_) (fun h1=>?_)
      · rcases lt3 (by omega : j < 3) with rfl|rfl|rfl
        · conv=>whnf
          repeat (any_goals (first|exact falseI|((first|refine bd ?_ ?_|refine bn ?_ ?_)<;>intro _<;>first|(exfalso;omega)|conv=>whnf)|((first|refine dI ?_|refine okI ?_|refine bt ?_|refine bi (fun _=>?_) (fun _=>?_)|refine bndI ?_|intro _)<;>conv=>whnf)))
          (refine ⟨1, (by omega), by omega, ?_⟩;(conv=>whnf);refine ⟨?_, ?_, ?_⟩<;>repeat (first|exact trivial|refine sc rfl ?_|refine kn ?_|refine kc rfl ?_))
        · conv=>whnf
          repeat (any_goals (first|exact falseI|((first|refine bd ?_ ?_|refine bn ?_ ?_)<;>intro _<;>first|(exfalso;omega)|conv=>whnf)|((first|refine dI ?_|refine okI ?_|refine bt ?_|refine bi (fun _=>?_) (fun _=>?_)|refine bndI ?_|intro _)<;>conv=>whnf)))
          (refine ⟨2, (by omega), by omega, ?_⟩;(conv=>whnf);refine ⟨?_, ?_, ?_⟩<;>repeat (first|exact trivial|refine sc rfl ?_|refine kn ?_|refine kc rfl ?_))
        · conv=>whnf
          repeat (any_goals (first|exact falseI|((first|refine bd ?_ ?_|refine bn ?_ ?_)<;>intro _<;>first|(exfalso;omega)|conv=>whnf)|((first|refine dI ?_|refine okI ?_|refine bt ?_|refine bi (fun _=>?_) (fun _=>?_)|refine bndI ?_|intro _)<;>conv=>whnf)))
          (refine ⟨3, (by omega), by omega, ?_⟩;(conv=>whnf);refine ⟨?_, ?_, ?_⟩<;>repeat (first|exact trivial|refine sc rfl ?_|refine kn ?_|refine kc rfl ?_))
      · have : j = 3:=by omega
        subst this
        conv=>whnf
        repeat (any_goals (first|exact falseI|((first|refine bd ?_ ?_|refine bn ?_ ?_)<;>intro _<;>first|(exfalso;omega)|conv=>whnf)|((first|refine dI ?_|refine okI ?_|refine bt ?_|refine bi (fun _=>?_) (fun _=>?_)|refine bndI ?_|intro _)<;>conv=>whnf)))
        (refine ⟨i + 1, (by omega), by omega, ?_⟩;(conv=>whnf);refine ⟨?_, ?_, ?_⟩<;>repeat (first|exact trivial|refine sc rfl ?_|refine kn ?_|refine kc rfl ?_|refine sc (by (rw [hs];rfl)) ?_|refine kc (by (rw [hs];rfl)) ?_))
    · simp only [List.getD_cons_zero, List.getD_cons_succ] at hb2 hs
      repeat (any_goals (first|exact falseI|((first|refine bd ?_ ?_|refine bn ?_ ?_)<;>intro _<;>first|(exfalso;omega)|conv=>whnf)|((first|refine optP_map hx' rfl ?_|refine dI ?_|refine okI ?_|refine bt ?_|refine bi (fun _=>?_) (fun _=>?_)|refine bndI ?_|intro _)<;>conv=>whnf)))
      have e0 : (kst 0 y p5).b = y.b:=rfl
      have e1 : (kst 1 y p5).t = y.t:=rfl
      have e2 : (kst 2 y p5).c = y.c:=rfl
      refine loopK tabOk { l:=0, f:=25 } mixed (fun j : Nat=>[(23, intA j)]) (fun j=>[(⟨0, 25, 4⟩, some (1, some (3, [amtA (kst j y p5)])))]) (fun _=>[]) (fun j=>j ≤ 3) (fun j=>3 - j) 0 (by kernel_rfl)
        (Nat.zero_le _) ?_
      conv=>whnf
      refine ⟨⟨slotsLe_cons rfl trivial, keysLe_cons rfl trivial, trivial⟩, ?_⟩
      intro j hj
      conv=>whnf
      refine brP_dec (fun h1=>?_) (fun h1=>?_)
      · rcases lt3 (by omega : j < 3) with rfl|rfl|rfl
        · conv=>whnf
          repeat (any_goals (first|exact falseI|((first|refine bd ?_ ?_|refine bn ?_ ?_)<;>intro _<;>first|(exfalso;omega)|conv=>whnf)|((first|refine dI ?_|refine okI ?_|refine bt ?_|refine bi (fun _=>?_) (fun _=>?_)|refine bndI ?_|intro _)<;>conv=>whnf)))
          (refine ⟨1, (by omega), by omega, ?_⟩;(conv=>whnf);refine ⟨?_, ?_, ?_⟩<;>repeat (first|exact trivial|refine sc rfl ?_|refine kn ?_|refine kc rfl ?_))
        · conv=>whnf
          repeat (any_goals (first|exact falseI|((first|refine bd ?_ ?_|refine bn ?_ ?_)<;>intro _<;>first|(exfalso;omega)|conv=>whnf)|((first|refine dI ?_|refine okI ?_|refine bt ?_|refine bi (fun _=>?_) (fun _=>?_)|refine bndI ?_|intro _)<;>conv=>whnf)))
          (refine ⟨2, (by omega), by omega, ?_⟩;(conv=>whnf);refine ⟨?_, ?_, ?_⟩<;>repeat (first|exact trivial|refine sc rfl ?_|refine kn ?_|refine kc rfl ?_))
        · conv=>whnf
          repeat (any_goals (first|exact falseI|((first|refine bd ?_ ?_|refine bn ?_ ?_)<;>intro _<;>first|(exfalso;omega)|conv=>whnf)|((first|refine dI ?_|refine okI ?_|refine bt ?_|refine bi (fun _=>?_) (fun _=>?_)|refine bndI ?_|intro _)<;>conv=>whnf)))
          (refine ⟨3, (by omega), by omega, ?_⟩;(conv=>whnf);refine ⟨?_, ?_, ?_⟩<;>repeat (first|exact trivial|refine sc rfl ?_|refine kn ?_|refine kc rfl ?_))
      · have : j = 3:=by omega
        subst this
        conv=>whnf
        repeat (any_goals (first|exact falseI|((first|refine bd ?_ ?_|refine bn ?_ ?_)<;>intro _<;>first|(exfalso;omega)|conv=>whnf)|((first|refine dI ?_|refine okI ?_|refine bt ?_|refine bi (fun _=>?_) (fun _=>?_)|refine bndI ?_|intro _)<;>conv=>whnf)))
        (refine ⟨i + 1, (by omega), by omega, ?_⟩;(conv=>whnf);refine ⟨?_, ?_, ?_⟩<;>repeat (first|exact trivial|refine sc rfl ?_|refine kn ?_|refine kc rfl ?_|refine sc (by (rw [hs];rfl)) ?_|refine kc (by (rw [hs];rfl)) ?_))
  · conv=>whnf
    simp only [List.length_map] at h1
    have : i = l.length:=by omega
    subst this
    repeat (any_goals (first|exact falseI|((first|refine bd ?_ ?_|refine bn ?_ ?_)<;>intro _<;>first|(exfalso;omega)|conv=>whnf)|((first|refine dI ?_|refine okI ?_|refine bt ?_|refine bi (fun _=>?_) (fun _=>?_)|refine bndI ?_|intro _)<;>conv=>whnf)))
    (refine ⟨⟨?_⟩, trivial⟩;rfl)
def Store.badL (s : Store) : Option Int→List Int→Bool
  | _, []=>false
  | p, h :: l=>((match p with|none=>false|some q=>decide (h ≤ q)) || (match s.heads[h.toNat]? with|none=>false|some y=>y.kept)) || s.badL (some h) l
def prevAt (l : List Int) : Nat→Option Int
  | 0=>none
  | j + 1=>l[j]?
def addFrom (b1 b2 b3 : Bool) : Nat→Bool
  | 0=>b1 || (b2 || b3)
  | 1=>b2 || b3
  | 2=>b3
  | _=>false
def Store.entErr (s : Store) (l : List Int) (add : Amt) : Int :=
  if s.check.2.2 ≠ 0 then s.check.2.2 else if l.any (outside 0 (s.heads.length - 1)) = true then 4 else if s.badL none l = true then 2 else if addFrom (outside 0 s.lots.b add.b) (outside 0 s.lots.t add.t) (outside 0 s.lots.c add.c) 0 = true then 7 else 0
theorem melts_abs {s : Store} {later : Int} (hg : s.Good) (hl : 0 ≤ later) : ∀ a ∈ s.melts later, a.abs 1000000:=by
  intro a ha
  simp only [Store.melts, meltsTo, List.take_length, List.mem_append, List.mem_map, List.mem_replicate] at ha
  rcases ha with ⟨h, hh, rfl⟩|⟨_, rfl⟩
  · have hok:=hg.heads h hh
    have:=faded_le hok hg.fade.1 hl
    obtain ⟨⟨a1, a2, a3⟩, a4⟩:=hok
    unfold Head.melt Amt.abs
    simp only
    omega
  · exact zeroT_abs _ (by decide)
theorem enter1_c (s : Store) (l : List Int) (add : Amt) (hr : s.small) (hc : s.check.2.2 ≠ 0) : BoxA Tryz.prog (.fn 69) [] [storeA s, intsA l, amtA add] (.tuple [nilPtr, amtA zeroT, intA s.check.2.2]) []:=by
  have hlk:=lookF_c s 0 hr hc
  generalize s.check.2.2 = c at *
  refine boxA_codeB tabOk { l:=0, f:=69, mat:=[22] } mixed call_69 Tryz.func69 (by kernel_rfl) ?_
  conv=>whnf
  repeat (any_goals (first|exact falseI|((first|refine bd ?_ ?_|refine bn ?_ ?_)<;>intro _<;>first|(exfalso;omega)|conv=>whnf)|((first|refine dI ?_|refine okI ?_|refine bt ?_|refine bi (fun _=>?_) (fun _=>?_)|refine bndI ?_|intro _)<;>conv=>whnf)))
  refine ⟨[], ?_⟩
  conv=>whnf
  refine ⟨_, _, hlk, ?_⟩
  conv=>whnf
  repeat (any_goals (first|exact falseI|((first|refine bd ?_ ?_|refine bn ?_ ?_)<;>intro _<;>first|(exfalso;omega)|conv=>whnf)|((first|refine dI ?_|refine okI ?_|refine bt ?_|refine bi (fun _=>?_) (fun _=>?_)|refine bndI ?_|intro _)<;>conv=>whnf)))
  refine And.intro ?_ ?_
  · conv=>whnf
    refine ⟨⟨?_⟩, trivial⟩
    rfl
  · repeat (first|exact trivial|refine And.intro rfl ?_|refine And.intro (by skip) ?_)
theorem enter4_c (s : Store) (l : List Int) (add : Amt) (hr : s.small) (hc : s.check.2.2 = 0) (hl : l.length ≤ 1048576) (hR0 : l.any (outside 0 (s.heads.length - 1)) = true) : BoxA Tryz.prog (.fn 69) [] [storeA s, intsA l, amtA add] (.tuple [nilPtr, amtA zeroT, intA 4]) []:=by
  have h6:=(Store.good hc).len
  have hlk:=lookT_c s 0 hr hc (by decide) (by decide)
  have hb:=beyond_c l 0 (((s.heads.map headA).length : Int) - 1) hl
  rw [List.length_map, hR0] at hb
  rw [← List.length_map (f:=headA)] at hb
  have hp:=meltsTo_len s 0 _ (Nat.le_refl _) (Store.good hc).len
  have e : meltsTo s 0 s.heads.length = s.melts 0:=rfl
  rw [e] at hp
  generalize s.melts 0 = p at *
  clear e
  obtain ⟨p0, p1, p2, p3, p4, p5, rfl⟩:=list6 hp
  refine boxA_codeB tabOk { l:=0, f:=69, mat:=[22] } mixed call_69 Tryz.func69 (by kernel_rfl) ?_
  conv=>whnf
  repeat (any_goals (first|exact falseI|((first|refine bd ?_ ?_|refine bn ?_ ?_)<;>intro _<;>first|(exfalso;omega)|conv=>whnf)|((first|refine dI ?_|refine okI ?_|refine bt ?_|refine bi (fun _=>?_) (fun _=>?_)|refine bndI ?_|intro _)<;>conv=>whnf)))
  refine ⟨[], ?_⟩
  conv=>whnf
  refine ⟨_, _, hlk, ?_⟩
  conv=>whnf
  repeat (any_goals (first|exact falseI|((first|refine bd ?_ ?_|refine bn ?_ ?_)<;>intro _<;>first|(exfalso;omega)|conv=>whnf)|((first|refine callP_a hb ?_|refine dI ?_|refine okI ?_|refine bt ?_|refine bi (fun _=>?_) (fun _=>?_)|refine bndI ?_|intro _)<;>conv=>whnf)))
  refine And.intro ?_ ?_
  · conv=>whnf
    refine ⟨⟨?_⟩, trivial⟩
    rfl
  · repeat (first|exact trivial|refine And.intro rfl ?_|refine And.intro (by skip) ?_)
set_option maxHeartbeats 1000000 in
theorem enter2_c (s : Store) (l : List Int) (add : Amt) (hr : s.small) (hc : s.check.2.2 = 0) (hl : l.length ≤ 1048576) (hR0 : l.any (outside 0 (s.heads.length - 1)) = false) (hB : true = s.badL none l) :
    BoxA Tryz.prog (.fn 69) [] [storeA s, intsA l, amtA add] (.tuple [nilPtr, amtA zeroT, intA 2]) []:=by
  have hg:=Store.good hc
  have h6:=hg.len
  have hlk:=lookT_c s 0 hr hc (by decide) (by decide)
  have hR : ∀ x ∈ l, 0 ≤ x∧x < s.heads.length:=by
    intro x hx
    have:=(List.any_eq_false.1 hR0) x hx
    simp only [Bool.not_eq_true, outside_iff] at this
    omega
  have hb:=beyond_c l 0 (((s.heads.map headA).length : Int) - 1) hl
  rw [List.length_map, hR0] at hb
  rw [← List.length_map (f:=headA)] at hb
  have hp:=meltsTo_len s 0 _ (Nat.le_refl _) (Store.good hc).len
  have e : meltsTo s 0 s.heads.length = s.melts 0:=rfl
  rw [e] at hp
  generalize s.melts 0 = p at *
  clear e
  obtain ⟨p0, p1, p2, p3, p4, p5, rfl⟩:=list6 hp
  refine boxA_codeB tabOk { l:=0, f:=69, mat:=[22] } mixed call_69 Tryz.func69 (by kernel_rfl) ?_
  conv=>whnf
  repeat (any_goals (first|exact falseI|((first|refine bd ?_ ?_|refine bn ?_ ?_)<;>intro _<;>first|(exfalso;omega)|conv=>whnf)|((first|refine callP_a hb ?_|refine dI ?_|refine okI ?_|refine bt ?_|refine bi (fun _=>?_) (fun _=>?_)|refine bndI ?_|intro _)<;>conv=>whnf)))
  refine ⟨[], ?_⟩
  conv=>whnf
  refine ⟨_, _, hlk, ?_⟩
  conv=>whnf
  repeat (any_goals (first|exact falseI|((first|refine bd ?_ ?_|refine bn ?_ ?_)<;>intro _<;>first|(exfalso;omega)|conv=>whnf)|((first|refine callP_a hb ?_|refine dI ?_|refine okI ?_|refine bt ?_|refine bi (fun _=>?_) (fun _=>?_)|refine bndI ?_|intro _)<;>conv=>whnf)))
  refine loopK tabOk { l:=0, f:=69 } mixed (fun i : Nat=>[(33, intA i), (6, .ptr kS 1 27 0 0)]) (fun _=>[]) (fun _=>[]) (fun i=>i ≤ l.length∧true = s.badL (prevAt l i) (l.drop i)) (fun i=>l.length - i) 0 (by kernel_rfl)
    ⟨Nat.zero_le _, hB⟩ ?_
  conv=>whnf
  refine ⟨⟨slotsLe_cons rfl (slotsLe_cons rfl trivial), trivial, trivial⟩, ?_⟩
  intro i ⟨hi, H⟩
  conv=>whnf
  refine brP_dec (fun h1=>?_) (fun h1=>?_)
  · simp only [List.length_map] at h1
    obtain ⟨x, hx, hd⟩:=drop_cons (l:=l) (i:=i) (by omega)
    obtain ⟨hx0, hx6⟩:=hR x (List.mem_of_getElem? hx)
    obtain ⟨y, hy⟩ : ∃ y, s.heads[x.toNat]? = some y:=⟨_, List.getElem?_eq_getElem (by omega)⟩
    rw [hd] at H
    by_cases hi0 : i = 0
    · subst hi0
      simp only [prevAt, Store.badL, hy, Bool.false_or] at H
      conv=>whnf
      repeat (any_goals (first|exact falseI|((first|refine bd ?_ ?_|refine bn ?_ ?_)<;>intro _<;>first|(exfalso;omega)|conv=>whnf)|((first|refine optP_map hx rfl ?_|refine optP_map hy (by omega) ?_|refine dI ?_|refine okI ?_|refine bt ?_|refine bi (fun _=>?_) (fun _=>?_)|refine bndI ?_|intro _)<;>conv=>whnf)))
      · rename_i hq
        rw [hq] at H
        refine And.intro ?_ ?_
        · conv=>whnf
          refine ⟨⟨?_⟩, trivial⟩
          rfl
        · repeat (first|exact trivial|refine And.intro rfl ?_|refine And.intro (by skip) ?_)
      · rename_i hq
        rw [hq, Bool.false_or] at H
        (refine ⟨1, ⟨by omega, by rw [H];simp [prevAt, hx]⟩, by omega, ?_⟩;(conv=>whnf);refine ⟨?_, ?_, ?_⟩<;>repeat (first|exact trivial|refine sc rfl ?_|refine kn ?_|refine kc rfl ?_))
    · obtain ⟨j, rfl⟩ : ∃ j, i = j + 1:=⟨i - 1, by omega⟩
      obtain ⟨z, hz⟩ : ∃ z, l[j]? = some z:=⟨_, List.getElem?_eq_getElem (by omega)⟩
      simp only [prevAt, hz, Store.badL, hy] at H
      conv=>whnf
      repeat (any_goals (first|exact falseI|((first|refine bd ?_ ?_|refine bn ?_ ?_)<;>intro _<;>first|(exfalso;omega)|conv=>whnf)|((first|refine optP_map hx rfl ?_|refine optP_map hy (by omega) ?_|refine optP_map hz (by omega) ?_|refine dI ?_|refine okI ?_|refine bt ?_|refine bi (fun _=>?_) (fun _=>?_)|refine bndI ?_|intro _)<;>conv=>whnf)))
      · rename_i hq
        rw [decide_eq_true hq, Bool.true_or, Bool.true_or] at H
        refine And.intro ?_ ?_
        · conv=>whnf
          refine ⟨⟨?_⟩, trivial⟩
          rfl
        · repeat (first|exact trivial|refine And.intro rfl ?_|refine And.intro (by skip) ?_)
      · rename_i hq hq2
        rw [hq2, Bool.or_true, Bool.true_or] at H
        refine And.intro ?_ ?_
        · conv=>whnf
          refine ⟨⟨?_⟩, trivial⟩
          rfl
        · repeat (first|exact trivial|refine And.intro rfl ?_|refine And.intro (by skip) ?_)
      · rename_i hq hq2
        rw [decide_eq_false hq, hq2, Bool.false_or, Bool.false_or] at H
        (refine ⟨j + 1 + 1, ⟨by omega, by rw [H];simp [prevAt, hx]⟩, by omega, ?_⟩;(conv=>whnf);refine ⟨?_, ?_, ?_⟩<;>repeat (first|exact trivial|refine sc rfl ?_|refine kn ?_|refine kc rfl ?_))
  · conv=>whnf
    simp only [List.length_map] at h1
    have : i = l.length:=by omega
    subst this
    simp [Store.badL] at H
set_option maxHeartbeats 1000000 in
theorem enter7_c (s : Store) (l : List Int) (add : Amt) (hr : s.small) (hc : s.check.2.2 = 0) (hl : l.length ≤ 1048576) (hR0 : l.any (outside 0 (s.heads.length - 1)) = false) (hB : false = s.badL none l) (hA : true = addFrom (outside 0 s.lots.b add.b) (outside 0 s.lots.t add.t) (outside 0 s.lots.c add.c) 0) :
    BoxA Tryz.prog (.fn 69) [] [storeA s, intsA l, amtA add] (.tuple [nilPtr, amtA zeroT, intA 7]) []:=by
  have hA1:=beyond_c [add.b] 0 s.lots.b (by simp)
  have hA2:=beyond_c [add.t] 0 s.lots.t (by simp)
  have hA3:=beyond_c [add.c] 0 s.lots.c (by simp)
  simp only [List.any_cons, List.any_nil, Bool.or_false] at hA1 hA2 hA3
  generalize outside 0 s.lots.b add.b = b1 at *
  generalize outside 0 s.lots.t add.t = b2 at *
  generalize outside 0 s.lots.c add.c = b3 at *
  have hg:=Store.good hc
  have h6:=hg.len
  have hlk:=lookT_c s 0 hr hc (by decide) (by decide)
  have hR : ∀ x ∈ l, 0 ≤ x∧x < s.heads.length:=by
    intro x hx
    have:=(List.any_eq_false.1 hR0) x hx
    simp only [Bool.not_eq_true, outside_iff] at this
    omega
  have hb:=beyond_c l 0 (((s.heads.map headA).length : Int) - 1) hl
  rw [List.length_map, hR0] at hb
  rw [← List.length_map (f:=headA)] at hb
  have hp:=meltsTo_len s 0 _ (Nat.le_refl _) (Store.good hc).len
  have e : meltsTo s 0 s.heads.length = s.melts 0:=rfl
  rw [e] at hp
  generalize s.melts 0 = p at *
  clear e
  obtain ⟨p0, p1, p2, p3, p4, p5, rfl⟩:=list6 hp
  refine boxA_codeB tabOk { l:=0, f:=69, mat:=[22] } mixed call_69 Tryz.func69 (by kernel_rfl) ?_
  conv=>whnf
  repeat (any_goals (first|exact falseI|((first|refine bd ?_ ?_|refine bn ?_ ?_)<;>intro _<;>first|(exfalso;omega)|conv=>whnf)|((first|refine callP_a hb ?_|refine dI ?_|refine okI ?_|refine bt ?_|refine bi (fun _=>?_) (fun _=>?_)|refine bndI ?_|intro _)<;>conv=>whnf)))
  refine ⟨[], ?_⟩
  conv=>whnf
  refine ⟨_, _, hlk, ?_⟩
  conv=>whnf
  repeat (any_goals (first|exact falseI|((first|refine bd ?_ ?_|refine bn ?_ ?_)<;>intro _<;>first|(exfalso;omega)|conv=>whnf)|((first|refine callP_a hb ?_|refine dI ?_|refine okI ?_|refine bt ?_|refine bi (fun _=>?_) (fun _=>?_)|refine bndI ?_|intro _)<;>conv=>whnf)))
  refine loopK tabOk { l:=0, f:=69 } mixed (fun i : Nat=>[(33, intA i), (6, .ptr kS 1 27 0 0)]) (fun _=>[]) (fun _=>[]) (fun i=>i ≤ l.length∧false = s.badL (prevAt l i) (l.drop i)) (fun i=>l.length - i) 0 (by kernel_rfl)
    ⟨Nat.zero_le _, hB⟩ ?_
  conv=>whnf
  refine ⟨⟨slotsLe_cons rfl (slotsLe_cons rfl trivial), trivial, trivial⟩, ?_⟩
  intro i ⟨hi, H⟩
  conv=>whnf
  refine brP_dec (fun h1=>?_) (fun h1=>?_)
  · simp only [List.length_map] at h1
    obtain ⟨x, hx, hd⟩:=drop_cons (l:=l) (i:=i) (by omega)
    obtain ⟨hx0, hx6⟩:=hR x (List.mem_of_getElem? hx)
    obtain ⟨y, hy⟩ : ∃ y, s.heads[x.toNat]? = some y:=⟨_, List.getElem?_eq_getElem (by omega)⟩
    rw [hd] at H
    by_cases hi0 : i = 0
    · subst hi0
      simp only [prevAt, Store.badL, hy, Bool.false_or] at H
      conv=>whnf
      repeat (any_goals (first|exact falseI|((first|refine bd ?_ ?_|refine bn ?_ ?_)<;>intro _<;>first|(exfalso;omega)|conv=>whnf)|((first|refine optP_map hx rfl ?_|refine optP_map hy (by omega) ?_|refine dI ?_|refine okI ?_|refine bt ?_|refine bi (fun _=>?_) (fun _=>?_)|refine bndI ?_|intro _)<;>conv=>whnf)))
      · rename_i hq
        rw [hq] at H
        simp at H
      · rename_i hq
        rw [hq, Bool.false_or] at H
        (refine ⟨1, ⟨by omega, by rw [H];simp [prevAt, hx]⟩, by omega, ?_⟩;(conv=>whnf);refine ⟨?_, ?_, ?_⟩<;>repeat (first|exact trivial|refine sc rfl ?_|refine kn ?_|refine kc rfl ?_))
    · obtain ⟨j, rfl⟩ : ∃ j, i = j + 1:=⟨i - 1, by omega⟩
      obtain ⟨z, hz⟩ : ∃ z, l[j]? = some z:=⟨_, List.getElem?_eq_getElem (by omega)⟩
      simp only [prevAt, hz, Store.badL, hy] at H
      conv=>whnf
      repeat (any_goals (first|exact falseI|((first|refine bd ?_ ?_|refine bn ?_ ?_)<;>intro _<;>first|(exfalso;omega)|conv=>whnf)|((first|refine optP_map hx rfl ?_|refine optP_map hy (by omega) ?_|refine optP_map hz (by omega) ?_|refine dI ?_|refine okI ?_|refine bt ?_|refine bi (fun _=>?_) (fun _=>?_)|refine bndI ?_|intro _)<;>conv=>whnf)))
      · rename_i hq
        rw [decide_eq_true hq, Bool.true_or, Bool.true_or] at H
        simp at H
      · rename_i hq hq2
        rw [hq2, Bool.or_true, Bool.true_or] at H
        simp at H
      · rename_i hq hq2
        rw [decide_eq_false hq, hq2, Bool.false_or, Bool.false_or] at H
        (refine ⟨j + 1 + 1, ⟨by omega, by rw [H];simp [prevAt, hx]⟩, by omega, ?_⟩;(conv=>whnf);refine ⟨?_, ?_, ?_⟩<;>repeat (first|exact trivial|refine sc rfl ?_|refine kn ?_|refine kc rfl ?_))
  · conv=>whnf
    simp only [List.length_map] at h1
    have : i = l.length:=by omega
    subst this
    clear H hi h1
    repeat (any_goals (first|exact falseI|((first|refine bd ?_ ?_|refine bn ?_ ?_)<;>intro _<;>first|(exfalso;omega)|conv=>whnf)|((first|refine dI ?_|refine okI ?_|refine bt ?_|refine bi (fun _=>?_) (fun _=>?_)|refine bndI ?_|intro _)<;>conv=>whnf)))
    refine loopK tabOk { l:=0, f:=69 } mixed (fun i : Nat=>[(60, intA i), (6, .ptr kS 1 27 0 0)]) (fun _=>[]) (fun _=>[]) (fun i=>i ≤ 3∧true = addFrom b1 b2 b3 i) (fun i=>3 - i) 0 (by kernel_rfl)
      ⟨Nat.zero_le _, hA⟩ ?_
    conv=>whnf
    refine ⟨⟨slotsLe_cons rfl (slotsLe_cons rfl trivial), trivial, trivial⟩, ?_⟩
    intro i ⟨hi, H⟩
    conv=>whnf
    refine brP_dec (fun h1=>?_) (fun h1=>?_)
    · rcases lt3 (by omega : i < 3) with rfl|rfl|rfl
      · simp only [addFrom] at H
        cases b1
        · conv=>whnf
          repeat (any_goals (first|exact falseI|((first|refine bd ?_ ?_|refine bn ?_ ?_)<;>intro _<;>first|(exfalso;omega)|conv=>whnf)|((first|refine callP_a hA1 ?_|refine dI ?_|refine okI ?_|refine bt ?_|refine bi (fun _=>?_) (fun _=>?_)|refine bndI ?_|intro _)<;>conv=>whnf)))
          (refine ⟨1, ⟨by omega, H⟩, by omega, ?_⟩;(conv=>whnf);refine ⟨?_, ?_, ?_⟩<;>repeat (first|exact trivial|refine sc rfl ?_|refine kn ?_|refine kc rfl ?_))
        · conv=>whnf
          repeat (any_goals (first|exact falseI|((first|refine bd ?_ ?_|refine bn ?_ ?_)<;>intro _<;>first|(exfalso;omega)|conv=>whnf)|((first|refine callP_a hA1 ?_|refine dI ?_|refine okI ?_|refine bt ?_|refine bi (fun _=>?_) (fun _=>?_)|refine bndI ?_|intro _)<;>conv=>whnf)))
          refine And.intro ?_ ?_
          · conv=>whnf
            refine ⟨⟨?_⟩, trivial⟩
            rfl
          · repeat (first|exact trivial|refine And.intro rfl ?_|refine And.intro (by skip) ?_)
      · simp only [addFrom] at H
        cases b2
        · conv=>whnf
          repeat (any_goals (first|exact falseI|((first|refine bd ?_ ?_|refine bn ?_ ?_)<;>intro _<;>first|(exfalso;omega)|conv=>whnf)|((first|refine callP_a hA2 ?_|refine dI ?_|refine okI ?_|refine bt ?_|refine bi (fun _=>?_) (fun _=>?_)|refine bndI ?_|intro _)<;>conv=>whnf)))
          (refine ⟨2, ⟨by omega, H⟩, by omega, ?_⟩;(conv=>whnf);refine ⟨?_, ?_, ?_⟩<;>repeat (first|exact trivial|refine sc rfl ?_|refine kn ?_|refine kc rfl ?_))
        · conv=>whnf
          repeat (any_goals (first|exact falseI|((first|refine bd ?_ ?_|refine bn ?_ ?_)<;>intro _<;>first|(exfalso;omega)|conv=>whnf)|((first|refine callP_a hA2 ?_|refine dI ?_|refine okI ?_|refine bt ?_|refine bi (fun _=>?_) (fun _=>?_)|refine bndI ?_|intro _)<;>conv=>whnf)))
          refine And.intro ?_ ?_
          · conv=>whnf
            refine ⟨⟨?_⟩, trivial⟩
            rfl
          · repeat (first|exact trivial|refine And.intro rfl ?_|refine And.intro (by skip) ?_)
      · simp only [addFrom] at H
        cases b3
        · conv=>whnf
          repeat (any_goals (first|exact falseI|((first|refine bd ?_ ?_|refine bn ?_ ?_)<;>intro _<;>first|(exfalso;omega)|conv=>whnf)|((first|refine callP_a hA3 ?_|refine dI ?_|refine okI ?_|refine bt ?_|refine bi (fun _=>?_) (fun _=>?_)|refine bndI ?_|intro _)<;>conv=>whnf)))
          (refine ⟨3, ⟨by omega, H⟩, by omega, ?_⟩;(conv=>whnf);refine ⟨?_, ?_, ?_⟩<;>repeat (first|exact trivial|refine sc rfl ?_|refine kn ?_|refine kc rfl ?_))
        · conv=>whnf
          repeat (any_goals (first|exact falseI|((first|refine bd ?_ ?_|refine bn ?_ ?_)<;>intro _<;>first|(exfalso;omega)|conv=>whnf)|((first|refine callP_a hA3 ?_|refine dI ?_|refine okI ?_|refine bt ?_|refine bi (fun _=>?_) (fun _=>?_)|refine bndI ?_|intro _)<;>conv=>whnf)))
          refine And.intro ?_ ?_
          · conv=>whnf
            refine ⟨⟨?_⟩, trivial⟩
            rfl
          · repeat (first|exact trivial|refine And.intro rfl ?_|refine And.intro (by skip) ?_)
    · have : i = 3:=by omega
      subst this
      conv=>whnf
      simp [addFrom] at H
set_option maxHeartbeats 1000000 in
theorem enterT_c (s : Store) (l : List Int) (add : Amt) (hr : s.small) (hc : s.check.2.2 = 0) (hl : l.length ≤ 1048576) (hR0 : l.any (outside 0 (s.heads.length - 1)) = false) (hB : false = s.badL none l) (hA : false = addFrom (outside 0 s.lots.b add.b) (outside 0 s.lots.t add.t) (outside 0 s.lots.c add.c) 0) :
    BoxA Tryz.prog (.fn 69) [] [storeA s, intsA l, amtA add] (.tuple [.ptr kS 1 27 0 0, amtA (sumL (s.melts 0) add l), intA 0]) [(kS, 1, 27, [storeY s (sumW s.orders) (s.melts 0) (.mp kM 1)]), (kM, 1, 0, [.v (.int .i64 0)])]:=by
  have hadd : add.abs 1000000:=by
    have h:=hA.symm
    simp only [addFrom, Bool.or_eq_false_iff, outside_iff] at h
    obtain ⟨l1, l2, l3⟩:=(Store.good hc).lots
    unfold Amt.abs;omega
  have hsum:=wsum_c s (sumW s.orders) (s.melts 0) add l (meltsTo_len s 0 _ (Nat.le_refl _) (Store.good hc).len) (melts_abs (Store.good hc) (by decide)) hadd (by
    intro x hx
    have:=(List.any_eq_false.1 hR0) x hx
    simp only [Bool.not_eq_true, outside_iff] at this
    have:=(Store.good hc).len
    omega) hl
  have hA1:=beyond_c [add.b] 0 s.lots.b (by simp)
  have hA2:=beyond_c [add.t] 0 s.lots.t (by simp)
  have hA3:=beyond_c [add.c] 0 s.lots.c (by simp)
  simp only [List.any_cons, List.any_nil, Bool.or_false] at hA1 hA2 hA3
  generalize outside 0 s.lots.b add.b = b1 at *
  generalize outside 0 s.lots.t add.t = b2 at *
  generalize outside 0 s.lots.c add.c = b3 at *
  have hg:=Store.good hc
  have h6:=hg.len
  have hlk:=lookT_c s 0 hr hc (by decide) (by decide)
  have hR : ∀ x ∈ l, 0 ≤ x∧x < s.heads.length:=by
    intro x hx
    have:=(List.any_eq_false.1 hR0) x hx
    simp only [Bool.not_eq_true, outside_iff] at this
    omega
  have hb:=beyond_c l 0 (((s.heads.map headA).length : Int) - 1) hl
  rw [List.length_map, hR0] at hb
  rw [← List.length_map (f:=headA)] at hb
  have hp:=meltsTo_len s 0 _ (Nat.le_refl _) (Store.good hc).len
  have e : meltsTo s 0 s.heads.length = s.melts 0:=rfl
  rw [e] at hp
  generalize s.melts 0 = p at *
  clear e
  obtain ⟨p0, p1, p2, p3, p4, p5, rfl⟩:=list6 hp
  refine boxA_codeB tabOk { l:=0, f:=69, mat:=[22] } mixed call_69 Tryz.func69 (by kernel_rfl) ?_
  conv=>whnf
  repeat (any_goals (first|exact falseI|((first|refine bd ?_ ?_|refine bn ?_ ?_)<;>intro _<;>first|(exfalso;omega)|conv=>whnf)|((first|refine callP_a hb ?_|refine dI ?_|refine okI ?_|refine bt ?_|refine bi (fun _=>?_) (fun _=>?_)|refine bndI ?_|intro _)<;>conv=>whnf)))
  refine ⟨[], ?_⟩
  conv=>whnf
  refine ⟨_, _, hlk, ?_⟩
  conv=>whnf
  repeat (any_goals (first|exact falseI|((first|refine bd ?_ ?_|refine bn ?_ ?_)<;>intro _<;>first|(exfalso;omega)|conv=>whnf)|((first|refine callP_a hb ?_|refine dI ?_|refine okI ?_|refine bt ?_|refine bi (fun _=>?_) (fun _=>?_)|refine bndI ?_|intro _)<;>conv=>whnf)))
  refine loopK tabOk { l:=0, f:=69 } mixed (fun i : Nat=>[(33, intA i), (6, .ptr kS 1 27 0 0)]) (fun _=>[]) (fun _=>[]) (fun i=>i ≤ l.length∧false = s.badL (prevAt l i) (l.drop i)) (fun i=>l.length - i) 0 (by kernel_rfl)
    ⟨Nat.zero_le _, hB⟩ ?_
  conv=>whnf
  refine ⟨⟨slotsLe_cons rfl (slotsLe_cons rfl trivial), trivial, trivial⟩, ?_⟩
  intro i ⟨hi, H⟩
  conv=>whnf
  refine brP_dec (fun h1=>?_) (fun h1=>?_)
  · simp only [List.length_map] at h1
    obtain ⟨x, hx, hd⟩:=drop_cons (l:=l) (i:=i) (by omega)
    obtain ⟨hx0, hx6⟩:=hR x (List.mem_of_getElem? hx)
    obtain ⟨y, hy⟩ : ∃ y, s.heads[x.toNat]? = some y:=⟨_, List.getElem?_eq_getElem (by omega)⟩
    rw [hd] at H
    by_cases hi0 : i = 0
    · subst hi0
      simp only [prevAt, Store.badL, hy, Bool.false_or] at H
      conv=>whnf
      repeat (any_goals (first|exact falseI|((first|refine bd ?_ ?_|refine bn ?_ ?_)<;>intro _<;>first|(exfalso;omega)|conv=>whnf)|((first|refine optP_map hx rfl ?_|refine optP_map hy (by omega) ?_|refine dI ?_|refine okI ?_|refine bt ?_|refine bi (fun _=>?_) (fun _=>?_)|refine bndI ?_|intro _)<;>conv=>whnf)))
      · rename_i hq
        rw [hq] at H
        simp at H
      · rename_i hq
        rw [hq, Bool.false_or] at H
        (refine ⟨1, ⟨by omega, by rw [H];simp [prevAt, hx]⟩, by omega, ?_⟩;(conv=>whnf);refine ⟨?_, ?_, ?_⟩<;>repeat (first|exact trivial|refine sc rfl ?_|refine kn ?_|refine kc rfl ?_))
    · obtain ⟨j, rfl⟩ : ∃ j, i = j + 1:=⟨i - 1, by omega⟩
      obtain ⟨z, hz⟩ : ∃ z, l[j]? = some z:=⟨_, List.getElem?_eq_getElem (by omega)⟩
      simp only [prevAt, hz, Store.badL, hy] at H
      conv=>whnf
      repeat (any_goals (first|exact falseI|((first|refine bd ?_ ?_|refine bn ?_ ?_)<;>intro _<;>first|(exfalso;omega)|conv=>whnf)|((first|refine optP_map hx rfl ?_|refine optP_map hy (by omega) ?_|refine optP_map hz (by omega) ?_|refine dI ?_|refine okI ?_|refine bt ?_|refine bi (fun _=>?_) (fun _=>?_)|refine bndI ?_|intro _)<;>conv=>whnf)))
      · rename_i hq
        rw [decide_eq_true hq, Bool.true_or, Bool.true_or] at H
        simp at H
      · rename_i hq hq2
        rw [hq2, Bool.or_true, Bool.true_or] at H
        simp at H
      · rename_i hq hq2
        rw [decide_eq_false hq, hq2, Bool.false_or, Bool.false_or] at H
        (refine ⟨j + 1 + 1, ⟨by omega, by rw [H];simp [prevAt, hx]⟩, by omega, ?_⟩;(conv=>whnf);refine ⟨?_, ?_, ?_⟩<;>repeat (first|exact trivial|refine sc rfl ?_|refine kn ?_|refine kc rfl ?_))
  · conv=>whnf
    simp only [List.length_map] at h1
    have : i = l.length:=by omega
    subst this
    clear H hi h1
    repeat (any_goals (first|exact falseI|((first|refine bd ?_ ?_|refine bn ?_ ?_)<;>intro _<;>first|(exfalso;omega)|conv=>whnf)|((first|refine dI ?_|refine okI ?_|refine bt ?_|refine bi (fun _=>?_) (fun _=>?_)|refine bndI ?_|intro _)<;>conv=>whnf)))
    refine loopK tabOk { l:=0, f:=69 } mixed (fun i : Nat=>[(60, intA i), (6, .ptr kS 1 27 0 0)]) (fun _=>[]) (fun _=>[]) (fun i=>i ≤ 3∧false = addFrom b1 b2 b3 i) (fun i=>3 - i) 0 (by kernel_rfl)
      ⟨Nat.zero_le _, hA⟩ ?_
    conv=>whnf
    refine ⟨⟨slotsLe_cons rfl (slotsLe_cons rfl trivial), trivial, trivial⟩, ?_⟩
    intro i ⟨hi, H⟩
    conv=>whnf
    refine brP_dec (fun h1=>?_) (fun h1=>?_)
    · rcases lt3 (by omega : i < 3) with rfl|rfl|rfl
      · simp only [addFrom] at H
        cases b1
        · conv=>whnf
          repeat (any_goals (first|exact falseI|((first|refine bd ?_ ?_|refine bn ?_ ?_)<;>intro _<;>first|(exfalso;omega)|conv=>whnf)|((first|refine callP_a hA1 ?_|refine dI ?_|refine okI ?_|refine bt ?_|refine bi (fun _=>?_) (fun _=>?_)|refine bndI ?_|intro _)<;>conv=>whnf)))
          (refine ⟨1, ⟨by omega, H⟩, by omega, ?_⟩;(conv=>whnf);refine ⟨?_, ?_, ?_⟩<;>repeat (first|exact trivial|refine sc rfl ?_|refine kn ?_|refine kc rfl ?_))
        · conv=>whnf
          repeat (any_goals (first|exact falseI|((first|refine bd ?_ ?_|refine bn ?_ ?_)<;>intro _<;>first|(exfalso;omega)|conv=>whnf)|((first|refine callP_a hA1 ?_|refine dI ?_|refine okI ?_|refine bt ?_|refine bi (fun _=>?_) (fun _=>?_)|refine bndI ?_|intro _)<;>conv=>whnf)))
          simp at H
      · simp only [addFrom] at H
        cases b2
        · conv=>whnf
          repeat (any_goals (first|exact falseI|((first|refine bd ?_ ?_|refine bn ?_ ?_)<;>intro _<;>first|(exfalso;omega)|conv=>whnf)|((first|refine callP_a hA2 ?_|refine dI ?_|refine okI ?_|refine bt ?_|refine bi (fun _=>?_) (fun _=>?_)|refine bndI ?_|intro _)<;>conv=>whnf)))
          (refine ⟨2, ⟨by omega, H⟩, by omega, ?_⟩;(conv=>whnf);refine ⟨?_, ?_, ?_⟩<;>repeat (first|exact trivial|refine sc rfl ?_|refine kn ?_|refine kc rfl ?_))
        · conv=>whnf
          repeat (any_goals (first|exact falseI|((first|refine bd ?_ ?_|refine bn ?_ ?_)<;>intro _<;>first|(exfalso;omega)|conv=>whnf)|((first|refine callP_a hA2 ?_|refine dI ?_|refine okI ?_|refine bt ?_|refine bi (fun _=>?_) (fun _=>?_)|refine bndI ?_|intro _)<;>conv=>whnf)))
          simp at H
      · simp only [addFrom] at H
        cases b3
        · conv=>whnf
          repeat (any_goals (first|exact falseI|((first|refine bd ?_ ?_|refine bn ?_ ?_)<;>intro _<;>first|(exfalso;omega)|conv=>whnf)|((first|refine callP_a hA3 ?_|refine dI ?_|refine okI ?_|refine bt ?_|refine bi (fun _=>?_) (fun _=>?_)|refine bndI ?_|intro _)<;>conv=>whnf)))
          (refine ⟨3, ⟨by omega, H⟩, by omega, ?_⟩;(conv=>whnf);refine ⟨?_, ?_, ?_⟩<;>repeat (first|exact trivial|refine sc rfl ?_|refine kn ?_|refine kc rfl ?_))
        · conv=>whnf
          repeat (any_goals (first|exact falseI|((first|refine bd ?_ ?_|refine bn ?_ ?_)<;>intro _<;>first|(exfalso;omega)|conv=>whnf)|((first|refine callP_a hA3 ?_|refine dI ?_|refine okI ?_|refine bt ?_|refine bi (fun _=>?_) (fun _=>?_)|refine bndI ?_|intro _)<;>conv=>whnf)))
          simp at H
    · have : i = 3:=by omega
      subst this
      conv=>whnf
      repeat (any_goals (first|exact falseI|((first|refine bd ?_ ?_|refine bn ?_ ?_)<;>intro _<;>first|(exfalso;omega)|conv=>whnf)|((first|refine callP_f hsum rfl ?_|refine dI ?_|refine okI ?_|refine bt ?_|refine bi (fun _=>?_) (fun _=>?_)|refine bndI ?_|intro _)<;>conv=>whnf)))
      refine And.intro ?_ ?_
      · conv=>whnf
        refine ⟨⟨?_⟩, trivial⟩
        rfl
      · repeat (first|exact trivial|refine And.intro rfl ?_|refine And.intro (by skip) ?_)
end Go.Proofs.YtbpiibdcncfphaaGreatDoor
namespace Go.Proofs.YtbpiibdcncfphaaGreatDoor
open Go.Am Go.Proofs Go
theorem meltsTo_get {s : Store} {later : Int} {i : Nat} {h : Head} (hi : s.heads[i]? = some h) : (s.melts later)[i]? = some (h.melt s.fade later):=by
  have hl:=(List.getElem?_eq_some_iff.1 hi).1
  simp only [Store.melts, meltsTo, List.take_length]
  rw [List.getElem?_append_left (by simpa using hl)]
  simp [hi]
def Store.meltedA (s : Store) (n : Int) : AV :=
  if s.check.2.2 ≠ 0 then .tuple [amtA zeroT, intA s.check.2.2] else match (if n < 0 then none else s.heads[n.toNat]?) with|none=>.tuple [amtA zeroT, intA 4]|some h=>.tuple [amtA (h.melt s.fade 0), intA 0]
theorem melted_c (s : Store) (n : Int) (hr : s.small) : PureA Tryz.prog 34 [storeA s, intA n] (s.meltedA n):=by
  unfold Store.meltedA
  by_cases hc : s.check.2.2 = 0
  · rw [if_neg (by omega)]
    have hg:=Store.good hc
    have h6:=hg.len
    have hlk:=lookT_c s 0 hr hc (by decide) (by decide)
    have hb:=beyond_c [n] 0 (((s.heads.map headA).length : Int) - 1) (by simp)
    simp only [List.any_cons, List.any_nil, Bool.or_false] at hb
    have hp:=meltsTo_len s 0 _ (Nat.le_refl _) hg.len
    have e : meltsTo s 0 s.heads.length = s.melts 0:=rfl
    rw [e] at hp
    cases hx : (if n < 0 then none else s.heads[n.toNat]?) with
    | none =>
      have ho : outside 0 (((s.heads.map headA).length : Int) - 1) n = true:=by
        rw [List.length_map]
        cases hq : outside 0 ((s.heads.length : Int) - 1) n
        · rw [outside_iff] at hq
          rw [if_neg (by omega), List.getElem?_eq_none_iff] at hx
          omega
        · rfl
      rw [ho] at hb
      generalize s.melts 0 = p at *
      clear e hx
      obtain ⟨p0, p1, p2, p3, p4, p5, rfl⟩:=list6 hp
      refine pureA_codeB tabOk { l:=0, f:=34, mat:=[22] } mixed call_34 Tryz.func34 (by kernel_rfl) ?_
      conv=>whnf
      repeat (any_goals (first|exact falseI|((first|refine bd ?_ ?_|refine bn ?_ ?_)<;>intro _<;>first|(exfalso;omega)|conv=>whnf)|((first|refine dI ?_|refine okI ?_|refine bt ?_|refine bi (fun _=>?_) (fun _=>?_)|refine bndI ?_|intro _)<;>conv=>whnf)))
      refine ⟨[], ?_⟩
      conv=>whnf
      refine ⟨_, _, hlk, ?_⟩
      conv=>whnf
      repeat (any_goals (first|exact falseI|((first|refine bd ?_ ?_|refine bn ?_ ?_)<;>intro _<;>first|(exfalso;omega)|conv=>whnf)|((first|refine callP_a hb ?_|refine dI ?_|refine okI ?_|refine bt ?_|refine bi (fun _=>?_) (fun _=>?_)|refine bndI ?_|intro _)<;>conv=>whnf)))
      (refine ⟨⟨?_⟩, trivial⟩;rfl)
    | some h =>
      have hn : ¬ n < 0:=fun hn=>by rw [if_pos hn] at hx;cases hx
      rw [if_neg hn] at hx
      have hlt:=(List.getElem?_eq_some_iff.1 hx).1
      have ho : outside 0 (((s.heads.map headA).length : Int) - 1) n = false:=by
        rw [List.length_map, outside_iff];omega
      rw [ho] at hb
      have hm:=meltsTo_get (later:=0) hx
      obtain ⟨k, rfl⟩ : ∃ k : Nat, n = k:=⟨n.toNat, by omega⟩
      rw [Int.toNat_natCast] at hm hlt
      show PureA Tryz.prog 34 _ (.tuple [amtA (h.melt s.fade 0), intA 0])
      generalize h.melt s.fade 0 = q at *
      generalize s.melts 0 = p at *
      clear e hx
      obtain ⟨p0, p1, p2, p3, p4, p5, rfl⟩:=list6 hp
      rcases lt6 (by omega : k < 6) with rfl|rfl|rfl|rfl|rfl|rfl
      all_goals
        simp at hm
        subst hm
        refine pureA_codeB tabOk { l:=0, f:=34, mat:=[22] } mixed call_34 Tryz.func34 (by kernel_rfl) ?_
        conv=>whnf
        repeat (any_goals (first|exact falseI|((first|refine bd ?_ ?_|refine bn ?_ ?_)<;>intro _<;>first|(exfalso;omega)|conv=>whnf)|((first|refine dI ?_|refine okI ?_|refine bt ?_|refine bi (fun _=>?_) (fun _=>?_)|refine bndI ?_|intro _)<;>conv=>whnf)))
        refine ⟨[], ?_⟩
        conv=>whnf
        refine ⟨_, _, hlk, ?_⟩
        conv=>whnf
        repeat (any_goals (first|exact falseI|((first|refine bd ?_ ?_|refine bn ?_ ?_)<;>intro _<;>first|(exfalso;omega)|conv=>whnf)|((first|refine callP_a hb ?_|refine dI ?_|refine okI ?_|refine bt ?_|refine bi (fun _=>?_) (fun _=>?_)|refine bndI ?_|intro _)<;>conv=>whnf)))
        (refine ⟨⟨?_⟩, trivial⟩;rfl)
  · rw [if_pos hc]
    have hlk:=lookF_c s 0 hr hc
    generalize s.check.2.2 = c at *
    refine pureA_codeB tabOk { l:=0, f:=34, mat:=[22] } mixed call_34 Tryz.func34 (by kernel_rfl) ?_
    conv=>whnf
    repeat (any_goals (first|exact falseI|((first|refine bd ?_ ?_|refine bn ?_ ?_)<;>intro _<;>first|(exfalso;omega)|conv=>whnf)|((first|refine dI ?_|refine okI ?_|refine bt ?_|refine bi (fun _=>?_) (fun _=>?_)|refine bndI ?_|intro _)<;>conv=>whnf)))
    refine ⟨[], ?_⟩
    conv=>whnf
    refine ⟨_, _, hlk, ?_⟩
    conv=>whnf
    repeat (any_goals (first|exact falseI|((first|refine bd ?_ ?_|refine bn ?_ ?_)<;>intro _<;>first|(exfalso;omega)|conv=>whnf)|((first|refine dI ?_|refine okI ?_|refine bt ?_|refine bi (fun _=>?_) (fun _=>?_)|refine bndI ?_|intro _)<;>conv=>whnf)))
    (refine ⟨⟨?_⟩, trivial⟩;rfl)
def Store.kettle (s : Store) (l : List Int) (add : Amt) : Amt × Int:=if s.entErr l add ≠ 0 then (zeroT, s.entErr l add) else (sumL (s.melts 0) add l, 0)
def pairA (x : Amt × Int) : AV:=.tuple [amtA x.1, intA x.2]
theorem kettle_c (s : Store) (l : List Int) (add : Amt) (hr : s.small) (hl : l.length ≤ 1048576) : PureA Tryz.prog 35 [storeA s, intsA l, amtA add] (pairA (s.kettle l add)):=by
  have bad : ∀ e : Int, BoxA Tryz.prog (.fn 69) [] [storeA s, intsA l, amtA add] (.tuple [nilPtr, amtA zeroT, intA e]) []→PureA Tryz.prog 35 [storeA s, intsA l, amtA add] (pairA (zeroT, e)):=by
    intro e he
    refine pureA_codeB tabOk { l:=0, f:=35, mat:=[69] } mixed call_35 Tryz.func35 (by kernel_rfl) ?_
    conv=>whnf
    repeat (any_goals (first|exact falseI|((first|refine bd ?_ ?_|refine bn ?_ ?_)<;>intro _<;>first|(exfalso;omega)|conv=>whnf)|((first|refine dI ?_|refine okI ?_|refine bt ?_|refine bi (fun _=>?_) (fun _=>?_)|refine bndI ?_|intro _)<;>conv=>whnf)))
    refine ⟨[], ?_⟩
    conv=>whnf
    refine ⟨_, _, he, ?_⟩
    conv=>whnf
    repeat (any_goals (first|exact falseI|((first|refine bd ?_ ?_|refine bn ?_ ?_)<;>intro _<;>first|(exfalso;omega)|conv=>whnf)|((first|refine dI ?_|refine okI ?_|refine bt ?_|refine bi (fun _=>?_) (fun _=>?_)|refine bndI ?_|intro _)<;>conv=>whnf)))
    (refine ⟨⟨?_⟩, trivial⟩;rfl)
  unfold Store.kettle Store.entErr
  by_cases hc : s.check.2.2 = 0
  · simp only [hc, ne_eq, not_true_eq_false, if_false]
    cases hR : l.any (outside 0 (s.heads.length - 1))
    · simp only [Bool.false_eq_true, if_false]
      cases hB : s.badL none l
      · simp only [Bool.false_eq_true, if_false]
        cases hA : addFrom (outside 0 s.lots.b add.b) (outside 0 s.lots.t add.t) (outside 0 s.lots.c add.c) 0
        · simp only [Bool.false_eq_true, if_false, not_true_eq_false]
          have he:=enterT_c s l add hr hc hl hR hB.symm hA.symm
          have hp:=meltsTo_len s 0 _ (Nat.le_refl _) (Store.good hc).len
          have e : meltsTo s 0 s.heads.length = s.melts 0:=rfl
          rw [e] at hp
          generalize sumL (s.melts 0) add l = q at *
          generalize s.melts 0 = p at *
          clear e
          obtain ⟨p0, p1, p2, p3, p4, p5, rfl⟩:=list6 hp
          refine pureA_codeB tabOk { l:=0, f:=35, mat:=[69] } mixed call_35 Tryz.func35 (by kernel_rfl) ?_
          conv=>whnf
          repeat (any_goals (first|exact falseI|((first|refine bd ?_ ?_|refine bn ?_ ?_)<;>intro _<;>first|(exfalso;omega)|conv=>whnf)|((first|refine dI ?_|refine okI ?_|refine bt ?_|refine bi (fun _=>?_) (fun _=>?_)|refine bndI ?_|intro _)<;>conv=>whnf)))
          refine ⟨[], ?_⟩
          conv=>whnf
          refine ⟨_, _, he, ?_⟩
          conv=>whnf
          repeat (any_goals (first|exact falseI|((first|refine bd ?_ ?_|refine bn ?_ ?_)<;>intro _<;>first|(exfalso;omega)|conv=>whnf)|((first|refine dI ?_|refine okI ?_|refine bt ?_|refine bi (fun _=>?_) (fun _=>?_)|refine bndI ?_|intro _)<;>conv=>whnf)))
          (refine ⟨⟨?_⟩, trivial⟩;rfl)
        · exact bad 7 (enter7_c s l add hr hc hl hR hB.symm hA.symm)
      · exact bad 2 (enter2_c s l add hr hc hl hR hB.symm)
    · exact bad 4 (enter4_c s l add hr hc hl hR)
  · simp only [ne_eq, hc, not_false_eq_true, if_true]
    exact bad _ (enter1_c s l add hr hc)
theorem within_not (a b c : Int) : within a b c = !outside b c a:=by rw [← outside_not, Bool.not_not]
theorem in_c (s : Store) (l : List Int) (add : Amt) (hg : s.Good) (hl : l.length ≤ 1048576) (hR : ∀ x ∈ l, 0 ≤ x∧x < s.heads.length) (hk : add.abs 1000000) : PureA Tryz.prog 60 [storeA s, intsA l, amtA add] (amtA (sumL (s.melts 0) add l)):=by
  have ha:=melts_abs (later:=0) hg (by decide)
  have hab:=fun i=>sumL_abs ha (by omega) (l.take i) add hk
  have ht : sumL (s.melts 0) add l = sumL (s.melts 0) add (l.take l.length):=by rw [List.take_length]
  have ht0 : add = sumL (s.melts 0) add (l.take 0):=rfl
  have hst : ∀ (i : Nat) x h, l[i]? = some x→s.heads[x.toNat]? = some h→sumL (s.melts 0) add (l.take (i + 1)) = (sumL (s.melts 0) add (l.take i)).add (h.melt s.fade 0):=by
    intro i x h hx hh
    rw [sumL_take hx, List.getD_eq_getElem?_getD, meltsTo_get hh]
    rfl
  rw [ht]
  generalize hf : (fun i=>sumL (s.melts 0) add (l.take i)) = f at *
  have hf' : ∀ i, sumL (s.melts 0) add (l.take i) = f i:=fun i=>by rw [← hf]
  simp only [hf'] at *
  clear hf hf' ht
  rw [ht0]
  clear hk ht0
  refine pureA_codeB tabOk { l:=0, f:=60 } mixed call_60 Tryz.func60 (by kernel_rfl) ?_
  conv=>whnf
  refine loopK tabOk { l:=0, f:=60 } mixed (fun i : Nat=>[(7, intA i)]) (fun i=>[(⟨0, 60, 5⟩, some (1, some (3, [amtA (f i)])))]) (fun _=>[]) (fun i=>i ≤ l.length) (fun i=>l.length - i) 0 (by kernel_rfl)
    (Nat.zero_le _) ?_
  conv=>whnf
  refine ⟨⟨slotsLe_cons rfl trivial, keysLe_cons rfl trivial, trivial⟩, ?_⟩
  intro i hi
  conv=>whnf
  refine brP_dec (fun h1=>?_) (fun h1=>?_)
  · simp only [List.length_map] at h1
    obtain ⟨x, hx, hd⟩:=drop_cons (l:=l) (i:=i) (by omega)
    obtain ⟨hx0, hx6⟩:=hR x (List.mem_of_getElem? hx)
    obtain ⟨y, hy⟩ : ∃ y, s.heads[x.toNat]? = some y:=⟨_, List.getElem?_eq_getElem (by omega)⟩
    have hb1:=hab i
    simp only [List.length_take, Nat.min_eq_left hi] at hb1
    have hs:=hst i x y hx hy
    have hm:=melt_c s x.toNat y hg hy
    rw [show ((x.toNat : Nat) : Int) = x by omega] at hm
    have hma:=ha (y.melt s.fade 0) (List.mem_of_getElem? (meltsTo_get hy))
    generalize y.melt s.fade 0 = q at *
    generalize f i = z at *
    have hsm:=sum_c z q (by unfold Amt.abs at hb1;unfold Amt.fit big;omega) (by unfold Amt.abs at hma;unfold Amt.fit big;omega)
    conv=>whnf
    repeat (any_goals (first|exact falseI|((first|refine bd ?_ ?_|refine bn ?_ ?_)<;>intro _<;>first|(exfalso;omega)|conv=>whnf)|((first|refine optP_map hx rfl ?_|refine callP_a hm ?_|refine callP_a hsm ?_|refine dI ?_|refine okI ?_|refine bt ?_|refine bi (fun _=>?_) (fun _=>?_)|refine bndI ?_|intro _)<;>conv=>whnf)))
    (refine ⟨i + 1, (by omega), by omega, ?_⟩;(conv=>whnf);refine ⟨?_, ?_, ?_⟩<;>repeat (first|exact trivial|refine sc rfl ?_|refine kn ?_|refine kc rfl ?_|refine sc (by (rw [hs];rfl)) ?_|refine kc (by (rw [hs];rfl)) ?_))
  · conv=>whnf
    simp only [List.length_map] at h1
    have : i = l.length:=by omega
    subst this
    repeat (any_goals (first|exact falseI|((first|refine bd ?_ ?_|refine bn ?_ ?_)<;>intro _<;>first|(exfalso;omega)|conv=>whnf)|((first|refine dI ?_|refine okI ?_|refine bt ?_|refine bi (fun _=>?_) (fun _=>?_)|refine bndI ?_|intro _)<;>conv=>whnf)))
    (refine ⟨⟨?_⟩, trivial⟩;rfl)
theorem addFrom_upTo (a m : Amt) : addFrom (outside 0 m.b a.b) (outside 0 m.t a.t) (outside 0 m.c a.c) 0 = !a.upTo m:=by
  simp only [addFrom, Amt.upTo, Bool.not_and, outside_not, Bool.or_assoc]
end Go.Proofs.YtbpiibdcncfphaaGreatDoor
namespace Go.Proofs.YtbpiibdcncfphaaGreatDoor
open Go.Am Go.Proofs Go
theorem mul_abs {a b A B : Int} (h0 : 0 ≤ a) (h1 : a ≤ A) (h2 : -B ≤ b) (h3 : b ≤ B) (hB : 0 ≤ B) : -(A * B) ≤ a * b∧a * b ≤ A * B:=by
  have hA : 0 ≤ A:=by omega
  constructor
  · have h4 : a * (-B) ≤ a * b:=Int.mul_le_mul_of_nonneg_left h2 h0
    have h5 : a * B ≤ A * B:=Int.mul_le_mul_of_nonneg_right h1 hB
    rw [Int.mul_neg] at h4
    omega
  · have h4 : a * b ≤ a * B:=Int.mul_le_mul_of_nonneg_left h3 h0
    have h5 : a * B ≤ A * B:=Int.mul_le_mul_of_nonneg_right h1 hB
    omega
theorem weight_abs {k : Amt} {M : Int} (h : k.abs M) : -(3 * M) ≤ k.weight∧k.weight ≤ 3 * M:=by
  unfold Amt.abs at h;unfold Amt.weight;omega
theorem abs_fit {k : Amt} (h : k.abs big) : k.fit:=h
def Amt.fits (k : Amt) (o : Order) : Bool:=within (1000 * k.t) (o.tlo * k.weight) (o.thi * k.weight) && within (1000 * k.c) (o.clo * k.weight) (o.chi * k.weight)
theorem span1_c (o : Order) : PureA Tryz.prog 42 [orderA o] (spanA o.tlo o.thi):=by
  refine pureA_codeB tabOk { l:=0, f:=42 } mixed call_42 Tryz.func42 (by kernel_rfl) ?_
  conv=>whnf
  repeat (any_goals (first|exact falseI|((first|refine bd ?_ ?_|refine bn ?_ ?_)<;>intro _<;>first|(exfalso;omega)|conv=>whnf)|((first|refine dI ?_|refine okI ?_|refine bt ?_|refine bi (fun _=>?_) (fun _=>?_)|refine bndI ?_|intro _)<;>conv=>whnf)))
  (refine ⟨⟨?_⟩, trivial⟩;rfl)
theorem span2_c (o : Order) : PureA Tryz.prog 43 [orderA o] (spanA o.clo o.chi):=by
  refine pureA_codeB tabOk { l:=0, f:=43 } mixed call_43 Tryz.func43 (by kernel_rfl) ?_
  conv=>whnf
  repeat (any_goals (first|exact falseI|((first|refine bd ?_ ?_|refine bn ?_ ?_)<;>intro _<;>first|(exfalso;omega)|conv=>whnf)|((first|refine dI ?_|refine okI ?_|refine bt ?_|refine bi (fun _=>?_) (fun _=>?_)|refine bndI ?_|intro _)<;>conv=>whnf)))
  (refine ⟨⟨?_⟩, trivial⟩;rfl)
theorem room {k : Amt} {o : Order} (hk : k.abs big) (ho : o.ok) : (-(1000 * (3 * big)) ≤ o.tlo * k.weight∧o.tlo * k.weight ≤ 1000 * (3 * big))∧(-(1000 * (3 * big)) ≤ o.thi * k.weight∧o.thi * k.weight ≤ 1000 * (3 * big)) ∧
    (-(1000 * (3 * big)) ≤ o.clo * k.weight∧o.clo * k.weight ≤ 1000 * (3 * big))∧(-(1000 * (3 * big)) ≤ o.chi * k.weight∧o.chi * k.weight ≤ 1000 * (3 * big)):=by
  have hw:=weight_abs hk
  obtain ⟨o1, o2, o3⟩:=ho
  have hb : (0 : Int) ≤ 3 * big:=by decide
  exact ⟨mul_abs (by omega) (by omega) hw.1 hw.2 hb, mul_abs (by omega) (by omega) hw.1 hw.2 hb, mul_abs (by omega) (by omega) hw.1 hw.2 hb, mul_abs (by omega) (by omega) hw.1 hw.2 hb⟩
theorem wsuits_c (s : Store) (w : Int) (m : List Amt) (k : Amt) (o : Order) (hm : m.length = 6) (hk : k.abs big) (ho : o.ok) : PureA Tryz.prog 70 [lookR s w m, amtA k, orderA o] (boolA (k.fits o)):=by
  have hroom:=room hk ho
  have hW:=weight_c k (abs_fit hk)
  have s1:=span1_c o
  have s2:=span2_c o
  have hb1:=beyond_c [1000 * k.t] (o.tlo * k.weight) (o.thi * k.weight) (by simp)
  have hb2:=beyond_c [1000 * k.c] (o.clo * k.weight) (o.chi * k.weight) (by simp)
  simp only [List.any_cons, List.any_nil, Bool.or_false] at hb1 hb2
  unfold Amt.fits
  rw [within_not, within_not]
  generalize outside (o.tlo * k.weight) (o.thi * k.weight) (1000 * k.t) = b1 at *
  generalize outside (o.clo * k.weight) (o.chi * k.weight) (1000 * k.c) = b2 at *
  obtain ⟨k1, k2, k3⟩:=hk
  unfold big at *
  generalize k.weight = W at *
  obtain ⟨p0, p1, p2, p3, p4, p5, rfl⟩:=list6 hm
  refine pureA_codeB tabOk { l:=0, f:=70 } mixed call_70 Tryz.func70 (by kernel_rfl) ?_
  conv=>whnf
  refine loopK tabOk { l:=0, f:=70 } mixed (fun i : Nat=>[(14, intA i)]) (fun _=>[]) (fun _=>[]) (fun i=>i ≤ 2∧(0 < i→b1 = false)∧(1 < i→b2 = false)) (fun i=>2 - i) 0 (by kernel_rfl)
    ⟨Nat.zero_le _, by omega, by omega⟩ ?_
  conv=>whnf
  refine ⟨⟨slotsLe_cons rfl trivial, trivial, trivial⟩, ?_⟩
  intro i ⟨hi, H1, H2⟩
  conv=>whnf
  refine brP_dec (fun h1=>?_) (fun h1=>?_)
  · have h1 : (i : Int) < 2:=h1
    rcases (by omega : i = 0∨i = 1) with rfl|rfl
    · cases b1
      · conv=>whnf
        repeat (any_goals (first|exact falseI|((first|refine bd ?_ ?_|refine bn ?_ ?_)<;>intro _<;>first|(exfalso;omega)|conv=>whnf)|((first|refine callP_a s1 ?_|refine callP_a hW ?_|refine callP_a hb1 ?_|refine dI ?_|refine okI ?_|refine bt ?_|refine bi (fun _=>?_) (fun _=>?_)|refine bndI ?_|intro _)<;>conv=>whnf)))
        (refine ⟨1, ⟨by omega, fun _=>rfl, by omega⟩, by omega, ?_⟩;(conv=>whnf);refine ⟨?_, ?_, ?_⟩<;>repeat (first|exact trivial|refine sc rfl ?_|refine kn ?_|refine kc rfl ?_))
      · conv=>whnf
        repeat (any_goals (first|exact falseI|((first|refine bd ?_ ?_|refine bn ?_ ?_)<;>intro _<;>first|(exfalso;omega)|conv=>whnf)|((first|refine callP_a s1 ?_|refine callP_a hW ?_|refine callP_a hb1 ?_|refine dI ?_|refine okI ?_|refine bt ?_|refine bi (fun _=>?_) (fun _=>?_)|refine bndI ?_|intro _)<;>conv=>whnf)))
        (refine ⟨⟨?_⟩, trivial⟩;rfl)
    · have:=H1 (by omega)
      subst this
      cases b2
      · conv=>whnf
        repeat (any_goals (first|exact falseI|((first|refine bd ?_ ?_|refine bn ?_ ?_)<;>intro _<;>first|(exfalso;omega)|conv=>whnf)|((first|refine callP_a s2 ?_|refine callP_a hW ?_|refine callP_a hb2 ?_|refine dI ?_|refine okI ?_|refine bt ?_|refine bi (fun _=>?_) (fun _=>?_)|refine bndI ?_|intro _)<;>conv=>whnf)))
        (refine ⟨2, ⟨by omega, fun _=>rfl, fun _=>rfl⟩, by omega, ?_⟩;(conv=>whnf);refine ⟨?_, ?_, ?_⟩<;>repeat (first|exact trivial|refine sc rfl ?_|refine kn ?_|refine kc rfl ?_))
      · conv=>whnf
        repeat (any_goals (first|exact falseI|((first|refine bd ?_ ?_|refine bn ?_ ?_)<;>intro _<;>first|(exfalso;omega)|conv=>whnf)|((first|refine callP_a s2 ?_|refine callP_a hW ?_|refine callP_a hb2 ?_|refine dI ?_|refine okI ?_|refine bt ?_|refine bi (fun _=>?_) (fun _=>?_)|refine bndI ?_|intro _)<;>conv=>whnf)))
        (refine ⟨⟨?_⟩, trivial⟩;rfl)
  · have h1 : ¬ (i : Int) < 2:=h1
    have e1:=H1 (by omega)
    have e2:=H2 (by omega)
    subst e1 e2
    conv=>whnf
    (refine ⟨⟨?_⟩, trivial⟩;rfl)
theorem between_c (a w lo hi : Int) (ha : -9000000000000000 ≤ a∧a ≤ 9000000000000000) (h1 : inI (lo * w)) (h2 : inI (hi * w)) : PureA Tryz.prog 115 [intA a, intA w, spanA lo hi] (boolA (within (1000 * a) (lo * w) (hi * w))):=by
  have hw:=within_c (1000 * a) (lo * w) (hi * w)
  generalize within (1000 * a) (lo * w) (hi * w) = b at *
  unfold inI at *
  refine pureA_codeB tabOk { l:=0, f:=115 } mixed call_115 Tryz.func115 (by kernel_rfl) ?_
  conv=>whnf
  repeat (any_goals (first|exact falseI|((first|refine bd ?_ ?_|refine bn ?_ ?_)<;>intro _<;>first|(exfalso;omega)|conv=>whnf)|((first|refine callP_a hw ?_|refine dI ?_|refine okI ?_|refine bt ?_|refine bi (fun _=>?_) (fun _=>?_)|refine bndI ?_|intro _)<;>conv=>whnf)))
  (refine ⟨⟨?_⟩, trivial⟩;rfl)
theorem fits_c (k : Amt) (o : Order) (hk : k.abs big) (ho : o.ok) : PureA Tryz.prog 109 [amtA k, orderA o] (boolA (k.fits o)):=by
  have hroom:=room hk ho
  have hW:=refWeight_c k (abs_fit hk)
  obtain ⟨k1, k2, k3⟩:=hk
  unfold big at *
  have hb1:=between_c k.t k.weight o.tlo o.thi (by omega) (by unfold inI;omega) (by unfold inI;omega)
  have hb2:=between_c k.c k.weight o.clo o.chi (by omega) (by unfold inI;omega) (by unfold inI;omega)
  unfold Amt.fits
  generalize within (1000 * k.t) (o.tlo * k.weight) (o.thi * k.weight) = b1 at *
  generalize within (1000 * k.c) (o.clo * k.weight) (o.chi * k.weight) = b2 at *
  generalize k.weight = W at *
  refine pureA_codeB tabOk { l:=0, f:=109 } mixed call_109 Tryz.func109 (by kernel_rfl) ?_
  conv=>whnf
  cases b1<;>cases b2
  all_goals
    repeat (any_goals (first|exact falseI|((first|refine bd ?_ ?_|refine bn ?_ ?_)<;>intro _<;>first|(exfalso;omega)|conv=>whnf)|((first|refine callP_a hW ?_|refine callP_a hb1 ?_|refine callP_a hb2 ?_|refine dI ?_|refine okI ?_|refine bt ?_|refine bi (fun _=>?_) (fun _=>?_)|refine bndI ?_|intro _)<;>conv=>whnf)))
  all_goals (refine ⟨⟨?_⟩, trivial⟩;rfl)
theorem wanted_c (s : Store) (hg : s.Good) : PureA Tryz.prog 89 [storeA s] (intA (sumW s.orders)):=by
  have h3:=hg.lenO
  rw [show sumW s.orders = sumW (s.orders.take s.orders.length) by rw [List.take_length]]
  refine pureA_codeB tabOk { l:=0, f:=89 } mixed call_89 Tryz.func89 (by kernel_rfl) ?_
  conv=>whnf
  refine loopK tabOk { l:=0, f:=89 } mixed (fun i : Nat=>[(4, intA i), (3, intA (sumW (s.orders.take i)))]) (fun _=>[]) (fun _=>[]) (fun i=>i ≤ s.orders.length) (fun i=>s.orders.length - i) 0 (by kernel_rfl)
    (Nat.zero_le _) ?_
  conv=>whnf
  refine ⟨⟨slotsLe_cons rfl (slotsLe_cons rfl trivial), trivial, trivial⟩, ?_⟩
  intro i hi
  conv=>whnf
  refine brP_dec (fun h1=>?_) (fun h1=>?_)
  · simp only [List.length_map] at h1
    obtain ⟨x, hx, hd⟩:=drop_cons (l:=s.orders) (i:=i) (by omega)
    have hw:=sumW_take hx
    have hb:=sumW_le (s.orders.take i) fun o ho=>hg.orders o (List.mem_of_mem_take ho)
    have hb2:=(hg.orders x (List.mem_of_getElem? hx)).1
    simp only [List.length_take, Nat.min_eq_left hi] at hb
    generalize sumW (s.orders.take i) = y at *
    conv=>whnf
    repeat (any_goals (first|exact falseI|((first|refine bd ?_ ?_|refine bn ?_ ?_)<;>intro _<;>first|(exfalso;omega)|conv=>whnf)|((first|refine optP_map hx rfl ?_|refine dI ?_|refine okI ?_|refine bt ?_|refine bi (fun _=>?_) (fun _=>?_)|refine bndI ?_|intro _)<;>conv=>whnf)))
    (refine ⟨i + 1, (by omega), by omega, ?_⟩;(conv=>whnf);refine ⟨?_, ?_, ?_⟩<;>repeat (first|exact trivial|refine sc rfl ?_|refine kn ?_|refine kc rfl ?_|refine sc (by (rw [hw];rfl)) ?_|refine kc (by (rw [hw];rfl)) ?_))
  · conv=>whnf
    simp only [List.length_map] at h1
    have : i = s.orders.length:=by omega
    subst this
    (refine ⟨⟨?_⟩, trivial⟩;rfl)
def Store.enough (s : Store) (k : Amt) : Bool:=!s.orders.any (fun o=>!k.fits o) && decide (sumW s.orders ≤ k.weight)
theorem enough_c (s : Store) (k : Amt) (hg : s.Good) (hk : k.abs big) : PureA Tryz.prog 90 [storeA s, amtA k] (boolA (s.enough k)):=by
  have h3:=hg.lenO
  have hwd:=wanted_c s hg
  have hW:=refWeight_c k (abs_fit hk)
  have hf : ∀ o ∈ s.orders, PureA Tryz.prog 109 [amtA k, orderA o] (boolA (k.fits o)):=fun o ho=>fits_c k o hk (hg.orders o ho)
  have hq:=weight_abs hk
  have hs:=sumW_le s.orders hg.orders
  unfold big at hq
  unfold Store.enough
  generalize sumW s.orders = y at *
  generalize k.weight = W at *
  refine pureA_codeB tabOk { l:=0, f:=90 } mixed call_90 Tryz.func90 (by kernel_rfl) ?_
  conv=>whnf
  refine loopK tabOk { l:=0, f:=90 } mixed (fun i : Nat=>[(5, intA i)]) (fun _=>[]) (fun _=>[]) (fun i=>i ≤ s.orders.length∧s.orders.any (fun o=>!k.fits o) = (s.orders.drop i).any (fun o=>!k.fits o)) (fun i=>s.orders.length - i) 0 (by kernel_rfl)
    ⟨Nat.zero_le _, rfl⟩ ?_
  conv=>whnf
  refine ⟨⟨slotsLe_cons rfl trivial, trivial, trivial⟩, ?_⟩
  intro i ⟨hi, H⟩
  conv=>whnf
  refine brP_dec (fun h1=>?_) (fun h1=>?_)
  · simp only [List.length_map] at h1
    obtain ⟨x, hx, hd⟩:=drop_cons (l:=s.orders) (i:=i) (by omega)
    have hx2:=hf x (List.mem_of_getElem? hx)
    rw [hd, List.any_cons] at H
    generalize k.fits x = b at *
    cases b
    · conv=>whnf
      repeat (any_goals (first|exact falseI|((first|refine bd ?_ ?_|refine bn ?_ ?_)<;>intro _<;>first|(exfalso;omega)|conv=>whnf)|((first|refine optP_map hx rfl ?_|refine callP_a hx2 ?_|refine dI ?_|refine okI ?_|refine bt ?_|refine bi (fun _=>?_) (fun _=>?_)|refine bndI ?_|intro _)<;>conv=>whnf)))
      rw [H]
      (refine ⟨⟨?_⟩, trivial⟩;rfl)
    · conv=>whnf
      repeat (any_goals (first|exact falseI|((first|refine bd ?_ ?_|refine bn ?_ ?_)<;>intro _<;>first|(exfalso;omega)|conv=>whnf)|((first|refine optP_map hx rfl ?_|refine callP_a hx2 ?_|refine dI ?_|refine okI ?_|refine bt ?_|refine bi (fun _=>?_) (fun _=>?_)|refine bndI ?_|intro _)<;>conv=>whnf)))
      (refine ⟨i + 1, ⟨by omega, H⟩, by omega, ?_⟩;(conv=>whnf);refine ⟨?_, ?_, ?_⟩<;>repeat (first|exact trivial|refine sc rfl ?_|refine kn ?_|refine kc rfl ?_))
  · conv=>whnf
    simp only [List.length_map] at h1
    have : i = s.orders.length:=by omega
    subst this
    simp only [List.drop_length, List.any_nil] at H
    rw [H]
    repeat (any_goals (first|exact falseI|((first|refine bd ?_ ?_|refine bn ?_ ?_)<;>intro _<;>first|(exfalso;omega)|conv=>whnf)|((first|refine callP_a hwd ?_|refine callP_a hW ?_|refine dI ?_|refine okI ?_|refine bt ?_|refine bi (fun _=>?_) (fun _=>?_)|refine bndI ?_|intro _)<;>conv=>whnf)))
    (refine ⟨⟨?_⟩, trivial⟩;rfl)
def Store.suits (s : Store) (l : List Int) (add : Amt) : Int × Int :=
  if s.entErr l add ≠ 0 then (0, s.entErr l add) else
    if 0 ≤ idx (fun o=>!(sumL (s.melts 0) add l).fits o) s.orders then (idx (fun o=>!(sumL (s.melts 0) add l).fits o) s.orders, 0) else if (sumL (s.melts 0) add l).weight < sumW s.orders then (0, 9) else (0, 4)
def pairI (x : Int × Int) : AV:=.tuple [intA x.1, intA x.2]
theorem kettle_abs {s : Store} {l : List Int} {add : Amt} (h : s.entErr l add = 0) : s.Good∧l.length ≤ 6∧(sumL (s.melts 0) add l).abs big:=by
  unfold Store.entErr at h
  split at h
  · omega
  rename_i hc
  have hg:=Store.good (s:=s) (by omega)
  split at h
  · omega
  rename_i hR
  split at h
  · omega
  rename_i hB
  split at h
  · omega
  rename_i hA
  have hlen : l.length ≤ 6:=by
    have key : ∀ (l : List Int) (p : Option Int) (a : Int), (match p with|none=>a ≤ 0|some q=>a ≤ q + 1)→s.badL p l = false→l.any (outside 0 (s.heads.length - 1)) = false→a + l.length ≤ s.heads.length∨l = []:=by
      intro l
      induction l with
      | nil=>intro p a _ _ _;exact .inr rfl
      | cons x l ih =>
        intro p a hp hb ho
        simp only [Store.badL, Bool.or_eq_false_iff] at hb
        simp only [List.any_cons, Bool.or_eq_false_iff, outside_iff] at ho
        obtain ⟨⟨hb1, hb2⟩, hb3⟩:=hb
        have hax : a ≤ x:=by
          cases p with
          | none=>simp only at hp;omega
          | some q=>simp only [decide_eq_false_iff_not] at hb1 hp;omega
        rcases ih (some x) (a + 1) (by simp only;omega) hb3 ho.2 with h|rfl
        · left;simp only [List.length_cons];omega
        · left;simp only [List.length_cons, List.length_nil];omega
    rcases key l none 0 (by simp) (by simpa using hB) (by simpa using hR) with h|rfl
    · have:=hg.len;omega
    · simp
  refine ⟨hg, hlen, ?_⟩
  have hadd : add.abs 1000000:=by
    rw [addFrom_upTo] at hA
    obtain ⟨l1, l2, l3⟩:=hg.lots
    simp only [Amt.upTo, within, Bool.not_eq_true, Bool.not_eq_false', Bool.and_eq_true, decide_eq_true_eq] at hA
    unfold Amt.abs;omega
  have:=sumL_abs (melts_abs hg (Int.le_refl 0)) (by decide) l add hadd
  unfold Amt.abs big at *
  omega
end Go.Proofs.YtbpiibdcncfphaaGreatDoor
namespace Go.Proofs.YtbpiibdcncfphaaGreatDoor
open Go.Am Go.Proofs Go
theorem entErr_split {s : Store} {l : List Int} {add : Amt} (h : s.entErr l add = 0) : s.check.2.2 = 0∧l.any (outside 0 (s.heads.length - 1)) = false∧false = s.badL none l ∧
    false = addFrom (outside 0 s.lots.b add.b) (outside 0 s.lots.t add.t) (outside 0 s.lots.c add.c) 0:=by
  unfold Store.entErr at h
  split at h
  · omega
  rename_i h1
  split at h
  · omega
  rename_i h2
  split at h
  · omega
  rename_i h3
  split at h
  · omega
  rename_i h4
  exact ⟨by omega, by simpa using h2, by simpa using h3, by simpa using h4⟩
theorem enterF_c (s : Store) (l : List Int) (add : Amt) (hr : s.small) (hl : l.length ≤ 1048576) (h : s.entErr l add ≠ 0) : BoxA Tryz.prog (.fn 69) [] [storeA s, intsA l, amtA add] (.tuple [nilPtr, amtA zeroT, intA (s.entErr l add)]) []:=by
  unfold Store.entErr at h ⊢
  by_cases hc : s.check.2.2 = 0
  · simp only [hc, ne_eq, not_true_eq_false, if_false] at h ⊢
    cases hR : l.any (outside 0 (s.heads.length - 1))
    · simp only [hR, Bool.false_eq_true, if_false] at h ⊢
      cases hB : s.badL none l
      · simp only [hB, Bool.false_eq_true, if_false] at h ⊢
        cases hA : addFrom (outside 0 s.lots.b add.b) (outside 0 s.lots.t add.t) (outside 0 s.lots.c add.c) 0
        · simp [hA] at h
        · exact enter7_c s l add hr hc hl hR hB.symm hA.symm
      · exact enter2_c s l add hr hc hl hR hB.symm
    · exact enter4_c s l add hr hc hl hR
  · simp only [ne_eq, hc, not_false_eq_true, if_true]
    exact enter1_c s l add hr hc
theorem suits_c (s : Store) (l : List Int) (add : Amt) (hr : s.small) (hl : l.length ≤ 1048576) : PureA Tryz.prog 37 [storeA s, intsA l, amtA add] (pairI (s.suits l add)):=by
  unfold Store.suits
  by_cases he : s.entErr l add = 0
  · rw [if_neg (by omega)]
    obtain ⟨hc, hR, hB, hA⟩:=entErr_split he
    obtain ⟨hg, hl6, hk⟩:=kettle_abs he
    have hen:=enterT_c s l add hr hc hl hR hB hA
    have hp:=meltsTo_len s 0 _ (Nat.le_refl _) hg.len
    have e : meltsTo s 0 s.heads.length = s.melts 0:=rfl
    rw [e] at hp
    have hW:=weight_c _ (abs_fit hk)
    have hwb:=weight_abs hk
    have h3:=hg.lenO
    generalize sumL (s.melts 0) add l = k at *
    have hf : ∀ o ∈ s.orders, PureA Tryz.prog 70 [lookR s (sumW s.orders) (s.melts 0), amtA k, orderA o] (boolA (k.fits o)):=fun o ho=>wsuits_c s _ _ k o hp hk (hg.orders o ho)
    generalize sumW s.orders = y at *
    generalize s.melts 0 = p at *
    generalize k.weight = W at *
    clear e he hR hB hA hk
    obtain ⟨p0, p1, p2, p3, p4, p5, rfl⟩:=list6 hp
    refine pureA_codeB tabOk { l:=0, f:=37, mat:=[69] } mixed call_37 Tryz.func37 (by kernel_rfl) ?_
    conv=>whnf
    repeat (any_goals (first|exact falseI|((first|refine bd ?_ ?_|refine bn ?_ ?_)<;>intro _<;>first|(exfalso;omega)|conv=>whnf)|((first|refine dI ?_|refine okI ?_|refine bt ?_|refine bi (fun _=>?_) (fun _=>?_)|refine bndI ?_|intro _)<;>conv=>whnf)))
    refine ⟨[], ?_⟩
    conv=>whnf
    refine ⟨_, _, hen, ?_⟩
    conv=>whnf
    repeat (any_goals (first|exact falseI|((first|refine bd ?_ ?_|refine bn ?_ ?_)<;>intro _<;>first|(exfalso;omega)|conv=>whnf)|((first|refine dI ?_|refine okI ?_|refine bt ?_|refine bi (fun _=>?_) (fun _=>?_)|refine bndI ?_|intro _)<;>conv=>whnf)))
    refine loopK tabOk { l:=0, f:=37, mat:=[69] } mixed (fun i : Nat=>[(27, intA i)]) (fun _=>[]) (fun _=>[]) (fun i=>i ≤ s.orders.length∧idx (fun o=>!k.fits o) s.orders = idxFrom (fun o=>!k.fits o) i (s.orders.drop i)) (fun i=>s.orders.length - i) 0 (by kernel_rfl)
      ⟨Nat.zero_le _, rfl⟩ ?_
    conv=>whnf
    refine ⟨⟨slotsLe_cons rfl trivial, trivial, trivial⟩, ?_⟩
    intro i ⟨hi, H⟩
    conv=>whnf
    refine brP_dec (fun h1=>?_) (fun h1=>?_)
    · simp only [List.length_map] at h1
      obtain ⟨x, hx, hd⟩:=drop_cons (l:=s.orders) (i:=i) (by omega)
      have hx2:=hf x (List.mem_of_getElem? hx)
      have H':=idxFrom_cons hd H
      generalize k.fits x = b at *
      cases b
      · conv=>whnf
        repeat (any_goals (first|exact falseI|((first|refine bd ?_ ?_|refine bn ?_ ?_)<;>intro _<;>first|(exfalso;omega)|conv=>whnf)|((first|refine optP_map hx rfl ?_|refine callP_a hx2 ?_|refine callP_f hx2 rfl ?_|refine dI ?_|refine okI ?_|refine bt ?_|refine bi (fun _=>?_) (fun _=>?_)|refine bndI ?_|intro _)<;>conv=>whnf)))
        simp only [Bool.not_false, if_true] at H'
        rw [H', if_pos (by omega)]
        (refine ⟨⟨?_⟩, trivial⟩;rfl)
      · conv=>whnf
        repeat (any_goals (first|exact falseI|((first|refine bd ?_ ?_|refine bn ?_ ?_)<;>intro _<;>first|(exfalso;omega)|conv=>whnf)|((first|refine optP_map hx rfl ?_|refine callP_a hx2 ?_|refine callP_f hx2 rfl ?_|refine dI ?_|refine okI ?_|refine bt ?_|refine bi (fun _=>?_) (fun _=>?_)|refine bndI ?_|intro _)<;>conv=>whnf)))
        simp only [Bool.not_true, Bool.false_eq_true, if_false] at H'
        (refine ⟨i + 1, ⟨by omega, H'⟩, by omega, ?_⟩;(conv=>whnf);refine ⟨?_, ?_, ?_⟩<;>repeat (first|exact trivial|refine sc rfl ?_|refine kn ?_|refine kc rfl ?_))
    · conv=>whnf
      simp only [List.length_map] at h1
      have : i = s.orders.length:=by omega
      subst this
      simp only [List.drop_length, idxFrom] at H
      rw [H, if_neg (by omega)]
      repeat (any_goals (first|exact falseI|((first|refine bd ?_ ?_|refine bn ?_ ?_)<;>intro _<;>first|(exfalso;omega)|conv=>whnf)|((first|refine callP_a hW ?_|refine callP_f hW rfl ?_|refine dI ?_|refine okI ?_|refine bt ?_|refine bi (fun _=>?_) (fun _=>?_)|refine bndI ?_|intro _)<;>conv=>whnf)))
      · rw [if_pos (by omega)]
        (refine ⟨⟨?_⟩, trivial⟩;rfl)
      · rw [if_neg (by omega)]
        (refine ⟨⟨?_⟩, trivial⟩;rfl)
  · rw [if_pos he]
    have hen:=enterF_c s l add hr hl he
    generalize s.entErr l add = e at *
    refine pureA_codeB tabOk { l:=0, f:=37, mat:=[69] } mixed call_37 Tryz.func37 (by kernel_rfl) ?_
    conv=>whnf
    repeat (any_goals (first|exact falseI|((first|refine bd ?_ ?_|refine bn ?_ ?_)<;>intro _<;>first|(exfalso;omega)|conv=>whnf)|((first|refine dI ?_|refine okI ?_|refine bt ?_|refine bi (fun _=>?_) (fun _=>?_)|refine bndI ?_|intro _)<;>conv=>whnf)))
    refine ⟨[], ?_⟩
    conv=>whnf
    refine ⟨_, _, hen, ?_⟩
    conv=>whnf
    repeat (any_goals (first|exact falseI|((first|refine bd ?_ ?_|refine bn ?_ ?_)<;>intro _<;>first|(exfalso;omega)|conv=>whnf)|((first|refine dI ?_|refine okI ?_|refine bt ?_|refine bi (fun _=>?_) (fun _=>?_)|refine bndI ?_|intro _)<;>conv=>whnf)))
    (refine ⟨⟨?_⟩, trivial⟩;rfl)
end Go.Proofs.YtbpiibdcncfphaaGreatDoor
