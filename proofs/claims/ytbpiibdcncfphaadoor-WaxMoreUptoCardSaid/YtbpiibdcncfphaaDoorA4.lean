/- Part 4 of the texts that the last one stands on. -/
import Derived.Test.YtbpiibdcncfphaaDoorProg
import Derived.Test.YtbpiibdcncfphaaDoorRows
import Derived.WalkKit
import Derived.ProofKit
import Derived.OpenShut
import Derived.JoinedCond
import Derived.Carry
import Derived.Test.YtbpiibdcncfphaaDoorTie
import Derived.Deep.DeepHandedRow
import Derived.Lib.LaidTab
import Derived.Test.YtbpiibdcncfphaaDoorA3
set_option linter.unusedVariables false
set_option linter.unusedSimpArgs false
namespace Go.Am
open Go.RowKit
def AV.plain1 : AV→Bool
  | .v _=>true
  | _=>false
def AV.plainL : List AV→Bool
  | []=>true
  | x :: xs=>match x.plain1 with
    | true=>AV.plainL xs
    | false=>false
def AV.plain : AV→Bool
  | .v _=>true
  | .agg cs=>AV.plainL cs
  | .tuple cs=>match cs with
    | [.agg a, .v _]=>AV.plainL a
    | cs=>AV.plainL cs
  | _=>false
theorem AV.plainL_get : ∀ {cs : List AV}, AV.plainL cs = true→∀ (i : Nat) (x : AV), cs[i]? = some x→∃ v, x = .v v
  | [], _, i, x, h=>by simp at h
  | a :: cs, h, i, x, hx=>by
    simp only [AV.plainL] at h
    split at h
    · rename_i h1
      cases i with
      | zero =>
        simp at hx;subst hx
        cases a<;>simp [AV.plain1] at h1
        exact ⟨_, rfl⟩
      | succ i=>exact AV.plainL_get h i x (by simpa using hx)
    · simp at h
theorem PRel.plain1 {w w' : World} {imm imm' : Nat→Nat→Prop} {x : AV} {y : Value} (hp : ∃ v, x = .v v) (h : PRel w imm x y) : PRel w' imm' x y:=by
  obtain ⟨v, rfl⟩:=hp
  cases h
  exact .v _
theorem PRel.plain {w w' : World} {imm imm' : Nat→Nat→Prop} {x : AV} {y : Value} (hp : x.plain = true) (h : PRel w imm x y) : PRel w' imm' x y:=by
  cases x<;>simp only [AV.plain] at hp<;>try (simp at hp;done)
  · cases h;exact .v _
  · cases h with
    | agg hl hc h1=>exact .agg hl (fun i x y hx hy=>(hc i x y hx hy).plain1 (AV.plainL_get hp i x hx)) h1
  · cases h with
    | tuple hl hc =>
      refine .tuple hl fun i x y hx hy=>?_
      split at hp
      · rename_i a v
        match i, hx with
        | 0, hx =>
          simp at hx;subst hx
          have:=hc 0 (.agg a) y rfl hy
          cases this with
          | agg hl hc h1=>exact .agg hl (fun i x y hx hy=>(hc i x y hx hy).plain1 (AV.plainL_get hp i x hx)) h1
        | 1, hx =>
          simp at hx;subst hx
          exact (hc 1 _ y rfl hy).plain1 ⟨_, rfl⟩
        | n + 2, hx=>simp at hx
      · exact (hc i x y hx hy).plain1 (AV.plainL_get hp i x hx)
theorem PureA.plain {P : Program} {f : FuncId} {args : List AV} {res : AV} (h : PureA P f args res) (hp : res.plain = true) : PureF P f args res :=
  ⟨h.1, fun w imm cargs hi hr=>(h.2 w imm cargs hi hr).mono fun _ _ ⟨y, _, he, _, h2, h3⟩=>⟨y, fun _ _=>False, he, fun _ _ h=>h.elim, h2.plain hp, h3⟩⟩
theorem callP_a {P : Program} {f : FuncId} {args : List AV} {res : AV} {K : AV→Prop} (h : PureA P f args res) (k : K res) : callP P f args false K:=⟨res, h, k⟩
theorem callP_f {P : Program} {f : FuncId} {args : List AV} {res : AV} {K : AV→Prop} (h : PureA P f args res) (hp : res.plain = true) (k : K res) : callP P f args true K:=⟨res, h.plain hp, k⟩
theorem callP_b {P : Program} {f : FuncId} {args : List AV} {res : AV} {snap : Bool} {K : AV→Prop} (h : PureA P f args res) (hp : res.plain = true) (k : K res) : callP P f args snap K:=by
  cases snap
  · exact ⟨res, h, k⟩
  · exact ⟨res, h.plain hp, k⟩
theorem drop_cons {α : Type} {l : List α} {i : Nat} (h : i < l.length) : ∃ x, l[i]? = some x∧l.drop i = x :: l.drop (i + 1):=⟨l[i], by simp [h], List.drop_eq_getElem_cons h⟩
theorem optP_map {α : Type} {f : α→AV} {l : List α} {n : Int} {i : Nat} {x : α} {K : AV→Prop} (hx : l[i]? = some x) (hn : n = i) (h : K (f x)) : optP (nth (l.map f) n.toNat) K:=by
  subst hn
  refine optP_intro (x:=f x) ?_ h
  rw [nth_eq];simp [hx]
theorem falseI (h : False:=by first|omega|(simp only [List.length_map, List.length_take, List.length_append, List.length_cons, List.length_nil, not_true_eq_false] at *<;>omega)) : False:=h
theorem bndI {p K : Prop} (k : K) (h : p:=by first|omega|(simp [inI, maxLen];done)|(simp [inI, maxLen];omega)|(simp [inI, maxLen] at *;omega)) : p∧K:=⟨h, k⟩
theorem okI {b : Bool} {K : Prop} (k : K) (h : b = true:=by first|exact Nat.beq_refl _|(simp [AV.cells];done)|(simp [AV.cells];omega)) : okP b K:=okP_intro h k
theorem dI {ops : Array Oper} {infos : List (List Loc × List Loc)} {K : Prop} (k : K) (h : okDraw ops infos = true:=by kernel_rfl) : DrawOk ops infos∧K:=⟨⟨h⟩, k⟩
theorem bd {p : Prop} [Decidable p] {A B : Prop} (h : p→A) (k : ¬p→B) : brP (decide p) A B:=brP_dec h k
theorem bn {p : Prop} [Decidable p] {A B : Prop} (h : p→B) (k : ¬p→A) : brP (!decide p) A B:=brP_ndec h k
theorem bi {b : Bool} {A B : Prop} (h : b = true→A) (k : b = false→B) : brP b A B:=brP_intro h k
theorem bt {n : Nat} {A B : Prop} (h : A) : brP (Nat.beq n n) A B:=brP_true (Nat.beq_refl _) h
theorem sc {l l' : List (Nat × AV)} {i : Nat} {v : AV} (h : lookS l i = some v) (k : slotsLe l l') : slotsLe l ((i, v) :: l'):=slotsLe_cons h k
theorem kc {α : Type} {z : α} {l l' : List (Key × Option α)} {k : Key} {c : α} (h : lookK l k = some (some c)) (t : keysLe z l l') : keysLe z l ((k, some c) :: l'):=keysLe_cons h t
theorem kn {α : Type} {z : α} {l l' : List (Key × Option α)} {k : Key} (t : keysLe z l l') : keysLe z l ((k, none) :: l'):=keysLe_none t
theorem cO {P : Program} {f : FuncId} {fn : Func} (h : P.funcs[f]? = some fn) (h1 : (fn.name == "runtime.NumGoroutine") = false:=by kernel_rfl) (h2 : fn.body.isNone = false:=by kernel_rfl) : Callable P f:=callable_of h h1 h2
end Go.Am
namespace Go.Am
open Go
def Wk (x x' : AV) : Prop:=∀ (w : World) (imm : Nat→Nat→Prop) (y : Value), PRel w imm x y→PRel w imm x' y
theorem Wk.refl (x : AV) : Wk x x:=fun _ _ _ h=>h
def nilS : AV:=.slice 0 [] .no
theorem Wk.nil (sz : Nat) : Wk nilS (.slice sz [] .no):=fun w imm y h=>by
  unfold nilS at h
  cases h with
  | nil=>exact .nil sz .no (.inl rfl)
  | slice ys hcap ht hm hsz hc hp =>
    exact PRel.slice (es:=[]) (fun _ _=>.bool false) (Nat.zero_le _) (.inl rfl) hm (fun i e h=>by simp at h) (fun i e c x h=>by simp at h) (fun i e c x h=>by simp at h)
def WkL : List AV→List AV→Prop
  | [], []=>True
  | x :: xs, y :: ys=>Wk x y∧WkL xs ys
  | _, _=>False
theorem WkL.refl : ∀ l : List AV, WkL l l
  | []=>trivial
  | x :: xs=>⟨Wk.refl x, WkL.refl xs⟩
theorem WkL.cons {x x' : AV} {l l' : List AV} (h : Wk x x') (t : WkL l l') : WkL (x :: l) (x' :: l'):=⟨h, t⟩
theorem WkL.get : ∀ {l l' : List AV}, WkL l l'→l.length = l'.length∧∀ (i : Nat) (x' : AV), l'[i]? = some x'→∃ x, l[i]? = some x∧Wk x x'
  | [], [], _=>⟨rfl, fun i x' h=>by simp at h⟩
  | x :: xs, y :: ys, h=>by
    obtain ⟨h1, h2⟩:=WkL.get h.2
    refine ⟨by simp [h1], fun i x' hx=>?_⟩
    cases i with
    | zero=>simp at hx;subst hx;exact ⟨x, rfl, h.1⟩
    | succ i=>exact h2 i x' (by simpa using hx)
theorem Wk.tuple {l l' : List AV} (h : WkL l l') : Wk (.tuple l) (.tuple l'):=fun w imm y hy=>by
  obtain ⟨h1, h2⟩:=h.get
  cases hy with
  | tuple hl hp =>
    refine .tuple (by rw [hl, h1]) fun i x y hx hy=>?_
    obtain ⟨u, hu, hw⟩:=h2 i x hx
    exact hw _ _ _ (hp i u y hu hy)
theorem Wk.agg {l l' : List AV} (h : WkL l l') : Wk (.agg l) (.agg l'):=fun w imm y hy=>by
  obtain ⟨h1, h2⟩:=h.get
  cases hy with
  | agg hl hp ho =>
    refine .agg (by rw [hl, h1]) (fun i x y hx hy=>?_) ho
    obtain ⟨u, hu, hw⟩:=h2 i x hx
    exact hw _ _ _ (hp i u y hu hy)
theorem PureA.wk {P : Program} {f : FuncId} {args : List AV} {res res' : AV} (h : PureA P f args res) (hw : Wk res res') : PureA P f args res' :=
  ⟨h.1, fun w imm cargs hi hr=>(h.2 w imm cargs hi hr).mono fun _ _ ⟨y, imm', he, h1, h2, h3⟩=>⟨y, imm', he, h1, hw _ _ _ h2, h3⟩⟩
theorem PureF.wk {P : Program} {f : FuncId} {args : List AV} {res res' : AV} (h : PureF P f args res) (hw : Wk res res') : PureF P f args res' :=
  ⟨h.1, fun w imm cargs hi hr=>(h.2 w imm cargs hi hr).mono fun _ _ ⟨y, imm', he, h1, h2, h3⟩=>⟨y, imm', he, h1, hw _ _ _ h2, h3⟩⟩
theorem PRels.wk {w : World} {imm : Nat→Nat→Prop} {args args' : List AV} {cargs : Array Value} (h : PRels w imm args cargs) (hw : WkL args args') : PRels w imm args' cargs:=by
  obtain ⟨h1, h2⟩:=hw.get
  refine ⟨by rw [h.1, h1], fun i x y hx hy=>?_⟩
  obtain ⟨u, hu, hk⟩:=h2 i x hx
  exact hk _ _ _ (h.2 i u y hu hy)
theorem PureA.args {P : Program} {f : FuncId} {args args' : List AV} {res : AV} (h : PureA P f args' res) (hw : WkL args args') : PureA P f args res :=
  ⟨h.1, fun w imm cargs hi hr=>h.2 w imm cargs hi (hr.wk hw)⟩
theorem PRels.put {w : World} {imm : Nat→Nat→Prop} {pre post : List AV} {x x' : AV} {cargs : Array Value} (h : PRels w imm (pre++x :: post) cargs)
    (hx : ∀ y, PRel w imm x y→cargs[pre.length]? = some y→PRel w imm x' y) : PRels w imm (pre++x' :: post) cargs:=by
  refine ⟨by rw [h.1];simp, fun i u y hu hy=>?_⟩
  by_cases hi : i = pre.length
  · subst hi
    have hu' : u = x':=by simpa using hu.symm
    subst hu'
    exact hx y (h.2 pre.length x y (by simp) hy) hy
  · refine h.2 i u y ?_ hy
    rw [List.getElem?_append] at hu ⊢
    by_cases hl : i < pre.length
    · simpa [hl] using hu
    · simp only [if_neg hl] at hu ⊢
      obtain ⟨j, hj⟩ : ∃ j, i - pre.length = j + 1:=⟨i - pre.length - 1, by omega⟩
      rw [hj] at hu ⊢
      simpa using hu
def AV.bare : AV→Bool
  | .slice _ _ (.own _ _)=>false
  | .slice _ _ _=>true
  | .v _=>true
  | _=>false
theorem BoxA.pure {P : Program} {f : FuncId} {args : List AV} {res : AV} (h : BoxA P (.fn f) [] args res []) (hb : res.bare = true) : PureA P f args res:=by
  refine ⟨h.1, fun w imm cargs hi hr=>?_⟩
  let C : Ctx:={ w, imm, own:=fun _=>none, gb:=fun _=>0, jb:=fun _=>0, gt:=fun _=>0, hw:=fun _=>0 }
  have hR : Rel 0 (fun b=>b < w.heap.size∧C.own b = none) w (preSt []) C ⟨#[], []⟩ w:={
    cw:=rfl, glob:=hi.glob, size:=rfl, defers:=Marks.nil _ _, slot:=fun i hi=>absurd hi (by omega)
    gb:=fun k=>rfl, gt:=fun k=>rfl, hw:=fun k=>rfl
    box:=fun k sz es h=>by simp [preSt, lookE] at h
    ownBox:=fun b k h=>by simp [C] at h
    immLt:=hi.lt
    ownLt:=fun b o h=>by simp [C] at h
    below:=Bel.refl _ _
    base:=fun b h=>h.1 }
  refine (h.2 C w cargs hR (fun b o h=>by simp [C] at h) ⟨hr.1, fun i x y hx hy=>.pure (hr.2 i x y hx hy)⟩).mono ?_
  rintro e w' ⟨y, S', C', rfl, hle, hR', hk, _⟩
  refine ⟨y, C'.imm, rfl, fun b i hb'=>⟨hR'.immLt b i hb', fun hl=>?_⟩, ?_, below_of (hR'.below.mono fun b hb=>⟨hb, rfl⟩)⟩
  · rcases hle.immOld b i hl hb' with h|⟨k, h⟩|⟨k, h, _⟩
    · exact h
    · simp [C] at h
    · simp [C] at h
  · rw [← hR'.cw]
    cases hk with
    | pure h=>exact h
    | _=>simp [AV.bare] at hb
def bareC (w : World) (imm : Nat→Nat→Prop) : Ctx:={ w, imm, own:=fun _=>none, gb:=fun _=>0, jb:=fun _=>0, gt:=fun _=>0, hw:=fun _=>0 }
theorem bareC_rel {w : World} {imm : Nat→Nat→Prop} (hi : ImmOk w imm) : Rel 0 (fun b=>b < w.heap.size∧(bareC w imm).own b = none) w (preSt []) (bareC w imm) ⟨#[], []⟩ w where
  cw:=rfl
  glob:=hi.glob
  size:=rfl
  defers:=Marks.nil _ _
  slot:=fun i hi=>absurd hi (by omega)
  gb:=fun k=>rfl
  gt:=fun k=>rfl
  hw:=fun k=>rfl
  box:=fun k sz es h=>by simp [preSt, lookE] at h
  ownBox:=fun b k h=>by simp [bareC] at h
  immLt:=hi.lt
  ownLt:=fun b o h=>by simp [bareC] at h
  below:=Bel.refl _ _
  base:=fun b h=>h.1
theorem KRel.tuple2 {C : Ctx} {a b : AV} {y : Value} (h : KRel C (.tuple [a, b]) y) : ∃ u v, y = .tuple #[u, v]∧KRel C a u∧KRel C b v:=by
  have key : ∀ {vs : Array Value}, vs.size = 2→(∀ (i : Nat) (x : AV) (y : Value), [a, b][i]? = some x→vs[i]? = some y→KRel C x y)→∃ u v, (Value.tuple vs) = .tuple #[u, v]∧KRel C a u∧KRel C b v:=by
    intro vs h1 h2
    obtain ⟨l⟩:=vs
    match l, h1 with
    | [u, v], _=>exact ⟨u, v, rfl, h2 0 a u rfl rfl, h2 1 b v rfl rfl⟩
  cases h with
  | pure hp=>cases hp with
    | tuple hl hp=>exact key hl fun i x y h1 h2=>.pure (hp i x y h1 h2)
  | tuple hl hp=>exact key hl hp
theorem BoxA.fresh {P : Program} {f : FuncId} {args : List AV} {k : Key} {g sz cap : Nat} {es : List AV} {u : Value} (hs0 : sz ≠ 0) (hv : ∀ e ∈ es, ∀ x ∈ e.cells, ∃ z, x = .v z)
    (h : BoxA P (.fn f) [] args (.tuple [.own k g sz es.length cap, .v u]) [(k, g, sz, es)]) : PureF P f args (.tuple [.slice sz es .no, .v u]):=by
  refine ⟨h.1, fun w imm cargs hi hr=>?_⟩
  refine (h.2 (bareC w imm) w cargs (bareC_rel hi) (fun b o h=>by simp [bareC] at h) ⟨hr.1, fun i x y hx hy=>.pure (hr.2 i x y hx hy)⟩).mono ?_
  rintro e w' ⟨y, S', C', rfl, hle, hR', hk, hp⟩
  have hbox:=hp _ (List.mem_singleton.2 rfl)
  simp only at hbox
  obtain ⟨y0, y1, rfl, hk0, hk1⟩:=hk.tuple2
  have hgb : C'.gb k = g:=by rw [hR'.gb, hbox]
  have hbk:=hR'.box k sz es (by rw [hbox])
  have hbel : RowKit.Below w.heap.size w w':=below_of (hR'.below.mono fun b hb=>⟨hb, rfl⟩)
  have two : ∀ imm' : Nat→Nat→Prop, PRel w' imm' (.slice sz es .no) y0→PRel w' imm' (.tuple [.slice sz es .no, .v u]) (.tuple #[y0, y1]):=by
    intro imm' h0
    have h1 : y1 = u:=hk1.val rfl
    subst h1
    refine .tuple rfl fun i x y hx hy=>?_
    match i with
    | 0=>simp at hx hy;subst hx hy;exact h0
    | 1=>simp at hx hy;subst hx hy;exact .v _
    | i + 2=>simp at hx
  by_cases hne : es = []
  · subst hne
    refine ⟨_, fun _ _=>False, rfl, fun b i hb=>hb.elim, two _ ?_, hbel⟩
    cases hk0 with
    | pure hp=>cases hp
    | ownOld hlt=>omega
    | own hn hm=>exact PRel.slice (es:=[]) (fun _ _=>.bool false) hn (.inl rfl) hm (fun i e h=>by simp at h) (fun i e c x h=>by simp at h) (fun i e c x h=>by simp at h)
    | ownNil hb =>
      rcases hb with rfl|⟨x, z, rfl⟩
      · exact .nil sz .no (.inl rfl)
      · exact PRel.slice (es:=[]) (fun _ _=>.bool false) (Nat.le_refl _) (.inl rfl) (Nat.zero_le _) (fun i e h=>by simp at h) (fun i e c x h=>by simp at h) (fun i e c x h=>by simp at h)
  · obtain ⟨ho, arr, et, ha, hl, hc⟩:=hbk.own hs0 hne
    have hnew:=hR'.ownLt _ _ ho
    refine ⟨_, fun b i=>b = C'.jb k∧i < arr.size, rfl, fun b i hb=>?_, two _ ?_, hbel⟩
    · obtain ⟨rfl, _⟩:=hb
      exact ⟨hnew.2, fun hlt=>hnew.1 ⟨hlt, rfl⟩⟩
    · have hn0 : es.length ≠ 0:=fun e=>hne (List.length_eq_zero_iff.1 e)
      generalize hN : es.length = N at hk0
      cases hk0 with
      | pure hp=>cases hp
      | ownOld hlt=>omega
      | own hn hm =>
        subst hN
        rw [hR'.cw] at ha
        refine PRel.slice (fun i c=>(arr[i * sz + c]?).getD (.bool false)) hn (.inl rfl) hm (fun i e he=>hbk.wid hs0 i e he) (fun i e c x he hx=>?_) (fun i e c x he hx=>?_)
        · obtain ⟨y, hy, _, h1⟩:=hc i e c x he hx
          have hlt:=(Array.getElem?_eq_some_iff.1 hy).1
          refine ⟨?_, ⟨rfl, by omega⟩, by rw [hy];exact h1⟩
          rw [Nat.zero_add, hy, Option.getD_some]
          unfold World.cell?
          simp only [ha]
          simpa using hy
        · obtain ⟨y, hy, hk, _⟩:=hc i e c x he hx
          obtain ⟨z, rfl⟩:=hv e (List.mem_of_getElem? he) x (List.mem_of_getElem? hx)
          rw [hy, Option.getD_some, hk.val rfl]
          exact .v _
      | ownNil hb=>exact absurd hN hn0
end Go.Am
namespace Go.Proofs.YtbpiibdcncfphaaDoor
open Go.Am Go.Proofs
theorem tyVar_3 : tyVar Tryd.prog 3 = some (false, 1) := by kernel_rfl
theorem zeroA_3 : zeroA Tryd.prog 3 = some (1, .v (.int .i64 (0))) := by kernel_rfl
theorem und_3 : Tryd.prog.underlying 3 = some (.int .i64) := by kernel_rfl
theorem tyVar_4 : tyVar Tryd.prog 4 = some (false, 1) := by kernel_rfl
theorem zeroA_4 : zeroA Tryd.prog 4 = some (1, .v (.bool false)) := by kernel_rfl
theorem tyVar_5 : tyVar Tryd.prog 5 = some (false, 1) := by kernel_rfl
theorem zeroA_5 : zeroA Tryd.prog 5 = some (1, .v (.int .u8 (0))) := by kernel_rfl
theorem und_5 : Tryd.prog.underlying 5 = some (.int .u8) := by kernel_rfl
theorem tyVar_9 : tyVar Tryd.prog 9 = some (false, 1) := by kernel_rfl
theorem zeroA_9 : zeroA Tryd.prog 9 = some (1, .v (.string ⟨#[]⟩)) := by kernel_rfl
theorem und_9 : Tryd.prog.underlying 9 = some (.string) := by kernel_rfl
theorem tyVar_21 : tyVar Tryd.prog 21 = some (false, 1) := by kernel_rfl
theorem zeroA_21 : zeroA Tryd.prog 21 = some (1, .v (.int .i32 (0))) := by kernel_rfl
theorem und_21 : Tryd.prog.underlying 21 = some (.int .i32) := by kernel_rfl
theorem tyVar_23 : tyVar Tryd.prog 23 = some (true, 3) := by kernel_rfl
theorem tyArray_23 : tyArray Tryd.prog 23 = some (3, 1) := by kernel_rfl
theorem placesA_23 : placesA Tryd.prog 23 = some fun i => some (i * 1, 1) := by kernel_rfl
theorem zeroA_23 : zeroA Tryd.prog 23 = some (3, .agg [.v (.int .i64 (0)), .v (.int .i64 (0)), .v (.int .i64 (0))]) := by kernel_rfl
theorem und_23 : Tryd.prog.underlying 23 = some (.array 3 3) := by kernel_rfl
theorem tyVar_24 : tyVar Tryd.prog 24 = some (false, 1) := by kernel_rfl
theorem tySlice_24 : tySlice Tryd.prog 24 = some (68, 6, 56) := by kernel_rfl
theorem zeroA_24 : zeroA Tryd.prog 24 = some (1, .slice 0 [] .tight) := by kernel_rfl
theorem tyVar_25 : tyVar Tryd.prog 25 = some (false, 1) := by kernel_rfl
theorem tySlice_25 : tySlice Tryd.prog 25 = some (81, 6, 56) := by kernel_rfl
theorem zeroA_25 : zeroA Tryd.prog 25 = some (1, .slice 0 [] .tight) := by kernel_rfl
theorem tyVar_27 : tyVar Tryd.prog 27 = some (true, 6) := by kernel_rfl
theorem zeroA_27 : zeroA Tryd.prog 27 = some (6, .agg [.v (.int .i64 (0)), .v (.int .i64 (0)), .v (.int .i64 (0)), .v (.int .i64 (0)), .slice 0 [] .tight, .slice 0 [] .tight]) := by kernel_rfl
theorem fieldA_27_0 : fieldA Tryd.prog 27 0 = some 0 := by kernel_rfl
theorem fieldA_27_1 : fieldA Tryd.prog 27 1 = some 3 := by kernel_rfl
theorem fieldA_27_2 : fieldA Tryd.prog 27 2 = some 4 := by kernel_rfl
theorem fieldA_27_3 : fieldA Tryd.prog 27 3 = some 5 := by kernel_rfl
theorem placesA_27 : placesA Tryd.prog 27 = some fun i => (#[(0, 3), (3, 1), (4, 1), (5, 1)] : Array (Nat × Nat))[i]? := by kernel_rfl
theorem tyVar_28 : tyVar Tryd.prog 28 = some (false, 1) := by kernel_rfl
theorem tySlice_28 : tySlice Tryd.prog 28 = some (3, 1, 8) := by kernel_rfl
theorem zeroA_28 : zeroA Tryd.prog 28 = some (1, .slice 0 [] .tight) := by kernel_rfl
theorem tyVar_30 : tyVar Tryd.prog 30 = some (true, 4) := by kernel_rfl
theorem zeroA_30 : zeroA Tryd.prog 30 = some (4, .agg [.slice 0 [] .tight, .v (.int .i64 (0)), .v (.int .i64 (0)), .v (.int .i64 (0))]) := by kernel_rfl
theorem fieldA_30_0 : fieldA Tryd.prog 30 0 = some 0 := by kernel_rfl
theorem fieldA_30_1 : fieldA Tryd.prog 30 1 = some 1 := by kernel_rfl
theorem placesA_30 : placesA Tryd.prog 30 = some fun i => (#[(0, 1), (1, 3)] : Array (Nat × Nat))[i]? := by kernel_rfl
theorem tyVar_31 : tyVar Tryd.prog 31 = some (false, 1) := by kernel_rfl
theorem zeroA_31 : zeroA Tryd.prog 31 = some (1, .v (.int .i64 (0))) := by kernel_rfl
theorem und_31 : Tryd.prog.underlying 31 = some (.int .i64) := by kernel_rfl
theorem tyVar_45 : tyVar Tryd.prog 45 = some (true, 3) := by kernel_rfl
theorem tyArray_45 : tyArray Tryd.prog 45 = some (3, 1) := by kernel_rfl
theorem placesA_45 : placesA Tryd.prog 45 = some fun i => some (i * 1, 1) := by kernel_rfl
theorem zeroA_45 : zeroA Tryd.prog 45 = some (3, .agg [.v (.int .u8 (0)), .v (.int .u8 (0)), .v (.int .u8 (0))]) := by kernel_rfl
theorem und_45 : Tryd.prog.underlying 45 = some (.array 3 5) := by kernel_rfl
theorem tyVar_47 : tyVar Tryd.prog 47 = some (true, 4) := by kernel_rfl
theorem zeroA_47 : zeroA Tryd.prog 47 = some (4, .agg [.v (.int .u8 (0)), .v (.int .u8 (0)), .v (.int .u8 (0)), .v (.int .u8 (0))]) := by kernel_rfl
theorem fieldA_47_0 : fieldA Tryd.prog 47 0 = some 0 := by kernel_rfl
theorem fieldA_47_1 : fieldA Tryd.prog 47 1 = some 1 := by kernel_rfl
theorem placesA_47 : placesA Tryd.prog 47 = some fun i => (#[(0, 1), (1, 3)] : Array (Nat × Nat))[i]? := by kernel_rfl
theorem tyVar_61 : tyVar Tryd.prog 61 = some (false, 1) := by kernel_rfl
theorem tySlice_61 : tySlice Tryd.prog 61 = some (28, 1, 24) := by kernel_rfl
theorem zeroA_61 : zeroA Tryd.prog 61 = some (1, .slice 0 [] .tight) := by kernel_rfl
theorem tyVar_68 : tyVar Tryd.prog 68 = some (true, 6) := by kernel_rfl
theorem zeroA_68 : zeroA Tryd.prog 68 = some (6, .agg [.v (.string ⟨#[]⟩), .v (.int .i64 (0)), .v (.int .i64 (0)), .v (.int .i64 (0)), .v (.int .i64 (0)), .v (.bool false)]) := by kernel_rfl
theorem fieldA_68_0 : fieldA Tryd.prog 68 0 = some 0 := by kernel_rfl
theorem fieldA_68_1 : fieldA Tryd.prog 68 1 = some 1 := by kernel_rfl
theorem fieldA_68_2 : fieldA Tryd.prog 68 2 = some 4 := by kernel_rfl
theorem fieldA_68_3 : fieldA Tryd.prog 68 3 = some 5 := by kernel_rfl
theorem placesA_68 : placesA Tryd.prog 68 = some fun i => (#[(0, 1), (1, 3), (4, 1), (5, 1)] : Array (Nat × Nat))[i]? := by kernel_rfl
theorem tyVar_74 : tyVar Tryd.prog 74 = some (true, 13) := by kernel_rfl
theorem zeroA_74 : zeroA Tryd.prog 74 = some (13, .agg [.v (.int .u8 (0)), .v (.int .u8 (0)), .v (.int .u8 (0)), .v (.int .u8 (0)), .v (.int .u8 (0)), .v (.int .u8 (0)), .v (.string ⟨#[]⟩), .v (.int .i64 (0)), .v (.int .i64 (0)), .v (.int .i64 (0)), .v (.int .i64 (0)), .v (.bool false), .v (.int .u8 (0))]) := by kernel_rfl
theorem fieldA_74_0 : fieldA Tryd.prog 74 0 = some 0 := by kernel_rfl
theorem fieldA_74_1 : fieldA Tryd.prog 74 1 = some 3 := by kernel_rfl
theorem fieldA_74_2 : fieldA Tryd.prog 74 2 = some 6 := by kernel_rfl
theorem fieldA_74_3 : fieldA Tryd.prog 74 3 = some 12 := by kernel_rfl
theorem placesA_74 : placesA Tryd.prog 74 = some fun i => (#[(0, 3), (3, 3), (6, 6), (12, 1)] : Array (Nat × Nat))[i]? := by kernel_rfl
theorem tyVar_79 : tyVar Tryd.prog 79 = some (true, 2) := by kernel_rfl
theorem zeroA_79 : zeroA Tryd.prog 79 = some (2, .agg [.v (.int .i64 (0)), .v (.int .i64 (0))]) := by kernel_rfl
theorem fieldA_79_0 : fieldA Tryd.prog 79 0 = some 0 := by kernel_rfl
theorem fieldA_79_1 : fieldA Tryd.prog 79 1 = some 1 := by kernel_rfl
theorem placesA_79 : placesA Tryd.prog 79 = some fun i => (#[(0, 1), (1, 1)] : Array (Nat × Nat))[i]? := by kernel_rfl
theorem tyVar_81 : tyVar Tryd.prog 81 = some (true, 6) := by kernel_rfl
theorem zeroA_81 : zeroA Tryd.prog 81 = some (6, .agg [.v (.string ⟨#[]⟩), .v (.int .i64 (0)), .v (.int .i64 (0)), .v (.int .i64 (0)), .v (.int .i64 (0)), .v (.int .i64 (0))]) := by kernel_rfl
theorem fieldA_81_0 : fieldA Tryd.prog 81 0 = some 0 := by kernel_rfl
theorem fieldA_81_1 : fieldA Tryd.prog 81 1 = some 1 := by kernel_rfl
theorem fieldA_81_2 : fieldA Tryd.prog 81 2 = some 2 := by kernel_rfl
theorem fieldA_81_3 : fieldA Tryd.prog 81 3 = some 4 := by kernel_rfl
theorem placesA_81 : placesA Tryd.prog 81 = some fun i => (#[(0, 1), (1, 1), (2, 2), (4, 2)] : Array (Nat × Nat))[i]? := by kernel_rfl
theorem tyVar_86 : tyVar Tryd.prog 86 = some (false, 1) := by kernel_rfl
theorem zeroA_86 : zeroA Tryd.prog 86 = some (1, .v .nilFunc) := by kernel_rfl
theorem tyVar_87 : tyVar Tryd.prog 87 = some (false, 1) := by kernel_rfl
theorem zeroA_87 : zeroA Tryd.prog 87 = some (1, .v .nilFunc) := by kernel_rfl
theorem tyVar_90 : tyVar Tryd.prog 90 = some (false, 1) := by kernel_rfl
theorem zeroA_90 : zeroA Tryd.prog 90 = some (1, .v .nilFunc) := by kernel_rfl
theorem tyVar_91 : tyVar Tryd.prog 91 = some (false, 1) := by kernel_rfl
theorem zeroA_91 : zeroA Tryd.prog 91 = some (1, .v .nilFunc) := by kernel_rfl
theorem tyVar_95 : tyVar Tryd.prog 95 = some (false, 1) := by kernel_rfl
theorem tySlice_95 : tySlice Tryd.prog 95 = some (9, 1, 16) := by kernel_rfl
theorem zeroA_95 : zeroA Tryd.prog 95 = some (1, .slice 0 [] .tight) := by kernel_rfl
theorem tyVar_98 : tyVar Tryd.prog 98 = some (false, 1) := by kernel_rfl
theorem zeroA_98 : zeroA Tryd.prog 98 = some (1, .v (.pointer none)) := by kernel_rfl
theorem tyVar_101 : tyVar Tryd.prog 101 = some (true, 18) := by kernel_rfl
theorem tyArray_101 : tyArray Tryd.prog 101 = some (6, 3) := by kernel_rfl
theorem placesA_101 : placesA Tryd.prog 101 = some fun i => some (i * 3, 3) := by kernel_rfl
theorem zeroA_101 : zeroA Tryd.prog 101 = some (18, .agg [.v (.int .i64 (0)), .v (.int .i64 (0)), .v (.int .i64 (0)), .v (.int .i64 (0)), .v (.int .i64 (0)), .v (.int .i64 (0)), .v (.int .i64 (0)), .v (.int .i64 (0)), .v (.int .i64 (0)), .v (.int .i64 (0)), .v (.int .i64 (0)), .v (.int .i64 (0)), .v (.int .i64 (0)), .v (.int .i64 (0)), .v (.int .i64 (0)), .v (.int .i64 (0)), .v (.int .i64 (0)), .v (.int .i64 (0))]) := by kernel_rfl
theorem und_101 : Tryd.prog.underlying 101 = some (.array 6 23) := by kernel_rfl
theorem tyVar_102 : tyVar Tryd.prog 102 = some (false, 1) := by kernel_rfl
theorem tySlice_102 : tySlice Tryd.prog 102 = some (130, 2, 16) := by kernel_rfl
theorem zeroA_102 : zeroA Tryd.prog 102 = some (1, .slice 0 [] .tight) := by kernel_rfl
theorem tyVar_103 : tyVar Tryd.prog 103 = some (false, 1) := by kernel_rfl
theorem zeroA_103 : zeroA Tryd.prog 103 = some (1, .v (.map none)) := by kernel_rfl
theorem und_103 : Tryd.prog.underlying 103 = some (.map 23 116) := by kernel_rfl
theorem tyVar_105 : tyVar Tryd.prog 105 = some (true, 27) := by kernel_rfl
theorem zeroA_105 : zeroA Tryd.prog 105 = some (27, .agg [.v (.int .i64 (0)), .v (.int .i64 (0)), .v (.int .i64 (0)), .v (.int .i64 (0)), .slice 0 [] .tight, .slice 0 [] .tight, .v (.int .i64 (0)), .v (.int .i64 (0)), .v (.int .i64 (0)), .v (.int .i64 (0)), .v (.int .i64 (0)), .v (.int .i64 (0)), .v (.int .i64 (0)), .v (.int .i64 (0)), .v (.int .i64 (0)), .v (.int .i64 (0)), .v (.int .i64 (0)), .v (.int .i64 (0)), .v (.int .i64 (0)), .v (.int .i64 (0)), .v (.int .i64 (0)), .v (.int .i64 (0)), .v (.int .i64 (0)), .v (.int .i64 (0)), .v (.int .i64 (0)), .slice 0 [] .tight, .v (.map none)]) := by kernel_rfl
theorem fieldA_105_0 : fieldA Tryd.prog 105 0 = some 0 := by kernel_rfl
theorem fieldA_105_1 : fieldA Tryd.prog 105 1 = some 6 := by kernel_rfl
theorem fieldA_105_2 : fieldA Tryd.prog 105 2 = some 7 := by kernel_rfl
theorem fieldA_105_3 : fieldA Tryd.prog 105 3 = some 25 := by kernel_rfl
theorem fieldA_105_4 : fieldA Tryd.prog 105 4 = some 26 := by kernel_rfl
theorem placesA_105 : placesA Tryd.prog 105 = some fun i => (#[(0, 6), (6, 1), (7, 18), (25, 1), (26, 1)] : Array (Nat × Nat))[i]? := by kernel_rfl
theorem tyVar_113 : tyVar Tryd.prog 113 = some (false, 1) := by kernel_rfl
theorem zeroA_113 : zeroA Tryd.prog 113 = some (1, .v .nilFunc) := by kernel_rfl
theorem tyVar_116 : tyVar Tryd.prog 116 = some (true, 4) := by kernel_rfl
theorem zeroA_116 : zeroA Tryd.prog 116 = some (4, .agg [.v (.int .i64 (0)), .v (.int .i64 (0)), .v (.int .i64 (0)), .v (.bool false)]) := by kernel_rfl
theorem fieldA_116_0 : fieldA Tryd.prog 116 0 = some 0 := by kernel_rfl
theorem fieldA_116_1 : fieldA Tryd.prog 116 1 = some 3 := by kernel_rfl
theorem placesA_116 : placesA Tryd.prog 116 = some fun i => (#[(0, 3), (3, 1)] : Array (Nat × Nat))[i]? := by kernel_rfl
theorem tyVar_120 : tyVar Tryd.prog 120 = some (false, 1) := by kernel_rfl
theorem zeroA_120 : zeroA Tryd.prog 120 = some (1, .v .nilFunc) := by kernel_rfl
theorem tyVar_123 : tyVar Tryd.prog 123 = some (false, 1) := by kernel_rfl
theorem zeroA_123 : zeroA Tryd.prog 123 = some (1, .v .nilFunc) := by kernel_rfl
theorem tyVar_128 : tyVar Tryd.prog 128 = some (false, 1) := by kernel_rfl
theorem zeroA_128 : zeroA Tryd.prog 128 = some (1, .v .nilFunc) := by kernel_rfl
theorem tyVar_130 : tyVar Tryd.prog 130 = some (true, 2) := by kernel_rfl
theorem zeroA_130 : zeroA Tryd.prog 130 = some (2, .agg [.v (.int .i64 (0)), .v .nilFunc]) := by kernel_rfl
theorem fieldA_130_0 : fieldA Tryd.prog 130 0 = some 0 := by kernel_rfl
theorem fieldA_130_1 : fieldA Tryd.prog 130 1 = some 1 := by kernel_rfl
theorem placesA_130 : placesA Tryd.prog 130 = some fun i => (#[(0, 1), (1, 1)] : Array (Nat × Nat))[i]? := by kernel_rfl
theorem tyVar_134 : tyVar Tryd.prog 134 = some (false, 1) := by kernel_rfl
theorem zeroA_134 : zeroA Tryd.prog 134 = some (1, .v .nilFunc) := by kernel_rfl
theorem tyVar_142 : tyVar Tryd.prog 142 = some (false, 1) := by kernel_rfl
theorem zeroA_142 : zeroA Tryd.prog 142 = some (1, .v (.int .u64 (0))) := by kernel_rfl
theorem und_142 : Tryd.prog.underlying 142 = some (.int .u64) := by kernel_rfl
theorem tyVar_146 : tyVar Tryd.prog 146 = some (false, 1) := by kernel_rfl
theorem zeroA_146 : zeroA Tryd.prog 146 = some (1, .v (.int .u32 (0))) := by kernel_rfl
theorem und_146 : Tryd.prog.underlying 146 = some (.int .u32) := by kernel_rfl
theorem tyVar_148 : tyVar Tryd.prog 148 = some (false, 1) := by kernel_rfl
theorem zeroA_148 : zeroA Tryd.prog 148 = some (1, .v (.int .u64 (0))) := by kernel_rfl
theorem und_148 : Tryd.prog.underlying 148 = some (.int .u64) := by kernel_rfl
theorem tyVar_150 : tyVar Tryd.prog 150 = some (false, 1) := by kernel_rfl
theorem zeroA_150 : zeroA Tryd.prog 150 = some (1, .v (.int .i64 (0))) := by kernel_rfl
theorem und_150 : Tryd.prog.underlying 150 = some (.int .i64) := by kernel_rfl
theorem tyVar_156 : tyVar Tryd.prog 156 = some (true, 32) := by kernel_rfl
theorem tyArray_156 : tyArray Tryd.prog 156 = some (32, 1) := by kernel_rfl
theorem placesA_156 : placesA Tryd.prog 156 = some fun i => some (i * 1, 1) := by kernel_rfl
theorem zeroA_156 : zeroA Tryd.prog 156 = some (32, .agg [.v (.int .u8 (0)), .v (.int .u8 (0)), .v (.int .u8 (0)), .v (.int .u8 (0)), .v (.int .u8 (0)), .v (.int .u8 (0)), .v (.int .u8 (0)), .v (.int .u8 (0)), .v (.int .u8 (0)), .v (.int .u8 (0)), .v (.int .u8 (0)), .v (.int .u8 (0)), .v (.int .u8 (0)), .v (.int .u8 (0)), .v (.int .u8 (0)), .v (.int .u8 (0)), .v (.int .u8 (0)), .v (.int .u8 (0)), .v (.int .u8 (0)), .v (.int .u8 (0)), .v (.int .u8 (0)), .v (.int .u8 (0)), .v (.int .u8 (0)), .v (.int .u8 (0)), .v (.int .u8 (0)), .v (.int .u8 (0)), .v (.int .u8 (0)), .v (.int .u8 (0)), .v (.int .u8 (0)), .v (.int .u8 (0)), .v (.int .u8 (0)), .v (.int .u8 (0))]) := by kernel_rfl
theorem und_156 : Tryd.prog.underlying 156 = some (.array 32 5) := by kernel_rfl
theorem tyVar_157 : tyVar Tryd.prog 157 = some (true, 64) := by kernel_rfl
theorem tyArray_157 : tyArray Tryd.prog 157 = some (64, 1) := by kernel_rfl
theorem placesA_157 : placesA Tryd.prog 157 = some fun i => some (i * 1, 1) := by kernel_rfl
theorem zeroA_157 : zeroA Tryd.prog 157 = some (64, .agg [.v (.int .u8 (0)), .v (.int .u8 (0)), .v (.int .u8 (0)), .v (.int .u8 (0)), .v (.int .u8 (0)), .v (.int .u8 (0)), .v (.int .u8 (0)), .v (.int .u8 (0)), .v (.int .u8 (0)), .v (.int .u8 (0)), .v (.int .u8 (0)), .v (.int .u8 (0)), .v (.int .u8 (0)), .v (.int .u8 (0)), .v (.int .u8 (0)), .v (.int .u8 (0)), .v (.int .u8 (0)), .v (.int .u8 (0)), .v (.int .u8 (0)), .v (.int .u8 (0)), .v (.int .u8 (0)), .v (.int .u8 (0)), .v (.int .u8 (0)), .v (.int .u8 (0)), .v (.int .u8 (0)), .v (.int .u8 (0)), .v (.int .u8 (0)), .v (.int .u8 (0)), .v (.int .u8 (0)), .v (.int .u8 (0)), .v (.int .u8 (0)), .v (.int .u8 (0)), .v (.int .u8 (0)), .v (.int .u8 (0)), .v (.int .u8 (0)), .v (.int .u8 (0)), .v (.int .u8 (0)), .v (.int .u8 (0)), .v (.int .u8 (0)), .v (.int .u8 (0)), .v (.int .u8 (0)), .v (.int .u8 (0)), .v (.int .u8 (0)), .v (.int .u8 (0)), .v (.int .u8 (0)), .v (.int .u8 (0)), .v (.int .u8 (0)), .v (.int .u8 (0)), .v (.int .u8 (0)), .v (.int .u8 (0)), .v (.int .u8 (0)), .v (.int .u8 (0)), .v (.int .u8 (0)), .v (.int .u8 (0)), .v (.int .u8 (0)), .v (.int .u8 (0)), .v (.int .u8 (0)), .v (.int .u8 (0)), .v (.int .u8 (0)), .v (.int .u8 (0)), .v (.int .u8 (0)), .v (.int .u8 (0)), .v (.int .u8 (0)), .v (.int .u8 (0))]) := by kernel_rfl
theorem und_157 : Tryd.prog.underlying 157 = some (.array 64 5) := by kernel_rfl
theorem tyVar_158 : tyVar Tryd.prog 158 = some (false, 1) := by kernel_rfl
theorem zeroA_158 : zeroA Tryd.prog 158 = some (1, .v (.int .u64 (0))) := by kernel_rfl
theorem und_158 : Tryd.prog.underlying 158 = some (.int .u64) := by kernel_rfl
theorem tyVar_162 : tyVar Tryd.prog 162 = some (false, 1) := by kernel_rfl
theorem zeroA_162 : zeroA Tryd.prog 162 = some (1, .v (.pointer none)) := by kernel_rfl
theorem tyVar_164 : tyVar Tryd.prog 164 = some (false, 1) := by kernel_rfl
theorem zeroA_164 : zeroA Tryd.prog 164 = some (1, .v (.pointer none)) := by kernel_rfl
theorem call_10 : Callable Tryd.prog 10 := cO Tryd.func10
theorem call_12 : Callable Tryd.prog 12 := cO Tryd.func12
theorem call_13 : Callable Tryd.prog 13 := cO Tryd.func13
theorem call_14 : Callable Tryd.prog 14 := cO Tryd.func14
theorem call_16 : Callable Tryd.prog 16 := cO Tryd.func16
theorem call_18 : Callable Tryd.prog 18 := cO Tryd.func18
theorem call_19 : Callable Tryd.prog 19 := cO Tryd.func19
theorem call_21 : Callable Tryd.prog 21 := cO Tryd.func21
theorem call_22 : Callable Tryd.prog 22 := cO Tryd.func22
theorem call_23 : Callable Tryd.prog 23 := cO Tryd.func23
theorem call_24 : Callable Tryd.prog 24 := cO Tryd.func24
theorem call_25 : Callable Tryd.prog 25 := cO Tryd.func25
theorem call_26 : Callable Tryd.prog 26 := cO Tryd.func26
theorem call_30 : Callable Tryd.prog 30 := cO Tryd.func30
theorem call_33 : Callable Tryd.prog 33 := cO Tryd.func33
theorem call_34 : Callable Tryd.prog 34 := cO Tryd.func34
theorem call_39 : Callable Tryd.prog 39 := cO Tryd.func39
theorem call_42 : Callable Tryd.prog 42 := cO Tryd.func42
theorem call_43 : Callable Tryd.prog 43 := cO Tryd.func43
theorem call_44 : Callable Tryd.prog 44 := cO Tryd.func44
theorem call_45 : Callable Tryd.prog 45 := cO Tryd.func45
theorem call_46 : Callable Tryd.prog 46 := cO Tryd.func46
theorem call_47 : Callable Tryd.prog 47 := cO Tryd.func47
theorem call_48 : Callable Tryd.prog 48 := cO Tryd.func48
theorem call_49 : Callable Tryd.prog 49 := cO Tryd.func49
theorem call_50 : Callable Tryd.prog 50 := cO Tryd.func50
theorem call_51 : Callable Tryd.prog 51 := cO Tryd.func51
theorem call_52 : Callable Tryd.prog 52 := cO Tryd.func52
theorem call_53 : Callable Tryd.prog 53 := cO Tryd.func53
theorem call_54 : Callable Tryd.prog 54 := cO Tryd.func54
theorem call_55 : Callable Tryd.prog 55 := cO Tryd.func55
theorem call_56 : Callable Tryd.prog 56 := cO Tryd.func56
theorem call_57 : Callable Tryd.prog 57 := cO Tryd.func57
theorem call_58 : Callable Tryd.prog 58 := cO Tryd.func58
theorem call_59 : Callable Tryd.prog 59 := cO Tryd.func59
theorem call_61 : Callable Tryd.prog 61 := cO Tryd.func61
theorem call_62 : Callable Tryd.prog 62 := cO Tryd.func62
theorem call_63 : Callable Tryd.prog 63 := cO Tryd.func63
theorem call_64 : Callable Tryd.prog 64 := cO Tryd.func64
theorem call_66 : Callable Tryd.prog 66 := cO Tryd.func66
theorem call_67 : Callable Tryd.prog 67 := cO Tryd.func67
theorem call_68 : Callable Tryd.prog 68 := cO Tryd.func68
theorem call_69 : Callable Tryd.prog 69 := cO Tryd.func69
theorem call_70 : Callable Tryd.prog 70 := cO Tryd.func70
theorem call_73 : Callable Tryd.prog 73 := cO Tryd.func73
theorem call_74 : Callable Tryd.prog 74 := cO Tryd.func74
theorem call_77 : Callable Tryd.prog 77 := cO Tryd.func77
theorem call_78 : Callable Tryd.prog 78 := cO Tryd.func78
theorem call_79 : Callable Tryd.prog 79 := cO Tryd.func79
theorem call_80 : Callable Tryd.prog 80 := cO Tryd.func80
theorem call_81 : Callable Tryd.prog 81 := cO Tryd.func81
theorem call_82 : Callable Tryd.prog 82 := cO Tryd.func82
theorem call_83 : Callable Tryd.prog 83 := cO Tryd.func83
theorem call_84 : Callable Tryd.prog 84 := cO Tryd.func84
theorem call_85 : Callable Tryd.prog 85 := cO Tryd.func85
theorem call_87 : Callable Tryd.prog 87 := cO Tryd.func87
theorem call_88 : Callable Tryd.prog 88 := cO Tryd.func88
theorem call_89 : Callable Tryd.prog 89 := cO Tryd.func89
theorem call_90 : Callable Tryd.prog 90 := cO Tryd.func90
theorem call_91 : Callable Tryd.prog 91 := cO Tryd.func91
theorem call_92 : Callable Tryd.prog 92 := cO Tryd.func92
theorem call_93 : Callable Tryd.prog 93 := cO Tryd.func93
theorem call_94 : Callable Tryd.prog 94 := cO Tryd.func94
theorem call_95 : Callable Tryd.prog 95 := cO Tryd.func95
theorem call_96 : Callable Tryd.prog 96 := cO Tryd.func96
theorem call_97 : Callable Tryd.prog 97 := cO Tryd.func97
theorem call_98 : Callable Tryd.prog 98 := cO Tryd.func98
theorem call_99 : Callable Tryd.prog 99 := cO Tryd.func99
theorem call_100 : Callable Tryd.prog 100 := cO Tryd.func100
theorem call_101 : Callable Tryd.prog 101 := cO Tryd.func101
theorem call_103 : Callable Tryd.prog 103 := cO Tryd.func103
theorem call_104 : Callable Tryd.prog 104 := cO Tryd.func104
theorem call_107 : Callable Tryd.prog 107 := cO Tryd.func107
theorem call_109 : Callable Tryd.prog 109 := cO Tryd.func109
theorem call_111 : Callable Tryd.prog 111 := cO Tryd.func111
theorem call_113 : Callable Tryd.prog 113 := cO Tryd.func113
theorem call_114 : Callable Tryd.prog 114 := cO Tryd.func114
theorem call_118 : Callable Tryd.prog 118 := cO Tryd.func118
theorem call_119 : Callable Tryd.prog 119 := cO Tryd.func119
theorem call_120 : Callable Tryd.prog 120 := cO Tryd.func120
theorem eqTy_23 : (∃ n, n ≤ 10000 ∧ eqTy Tryd.prog n 23 = some [.int .i64, .int .i64, .int .i64]) ∧ isAggTy Tryd.prog 23 = true ∧ Tryd.prog.eqGuardType Tryd.prog.depth 23 = false := ⟨⟨12, by decide, by kernel_rfl⟩, by kernel_rfl, by kernel_rfl⟩
theorem eqTy_45 : (∃ n, n ≤ 10000 ∧ eqTy Tryd.prog n 45 = some [.int .u8, .int .u8, .int .u8]) ∧ isAggTy Tryd.prog 45 = true ∧ Tryd.prog.eqGuardType Tryd.prog.depth 45 = false := ⟨⟨12, by decide, by kernel_rfl⟩, by kernel_rfl, by kernel_rfl⟩
theorem eqTy_47 : (∃ n, n ≤ 10000 ∧ eqTy Tryd.prog n 47 = some [.int .u8, .int .u8, .int .u8, .int .u8]) ∧ isAggTy Tryd.prog 47 = true ∧ Tryd.prog.eqGuardType Tryd.prog.depth 47 = false := ⟨⟨12, by decide, by kernel_rfl⟩, by kernel_rfl, by kernel_rfl⟩
theorem eqTy_68 : (∃ n, n ≤ 10000 ∧ eqTy Tryd.prog n 68 = some [.str, .int .i64, .int .i64, .int .i64, .int .i64, .bool]) ∧ isAggTy Tryd.prog 68 = true ∧ Tryd.prog.eqGuardType Tryd.prog.depth 68 = false := ⟨⟨12, by decide, by kernel_rfl⟩, by kernel_rfl, by kernel_rfl⟩
theorem eqTy_74 : (∃ n, n ≤ 10000 ∧ eqTy Tryd.prog n 74 = some [.int .u8, .int .u8, .int .u8, .int .u8, .int .u8, .int .u8, .str, .int .i64, .int .i64, .int .i64, .int .i64, .bool, .int .u8]) ∧ isAggTy Tryd.prog 74 = true ∧ Tryd.prog.eqGuardType Tryd.prog.depth 74 = false := ⟨⟨12, by decide, by kernel_rfl⟩, by kernel_rfl, by kernel_rfl⟩
theorem eqTy_79 : (∃ n, n ≤ 10000 ∧ eqTy Tryd.prog n 79 = some [.int .i64, .int .i64]) ∧ isAggTy Tryd.prog 79 = true ∧ Tryd.prog.eqGuardType Tryd.prog.depth 79 = false := ⟨⟨12, by decide, by kernel_rfl⟩, by kernel_rfl, by kernel_rfl⟩
theorem eqTy_81 : (∃ n, n ≤ 10000 ∧ eqTy Tryd.prog n 81 = some [.str, .int .i64, .int .i64, .int .i64, .int .i64, .int .i64]) ∧ isAggTy Tryd.prog 81 = true ∧ Tryd.prog.eqGuardType Tryd.prog.depth 81 = false := ⟨⟨12, by decide, by kernel_rfl⟩, by kernel_rfl, by kernel_rfl⟩
theorem eqTy_101 : (∃ n, n ≤ 10000 ∧ eqTy Tryd.prog n 101 = some [.int .i64, .int .i64, .int .i64, .int .i64, .int .i64, .int .i64, .int .i64, .int .i64, .int .i64, .int .i64, .int .i64, .int .i64, .int .i64, .int .i64, .int .i64, .int .i64, .int .i64, .int .i64]) ∧ isAggTy Tryd.prog 101 = true ∧ Tryd.prog.eqGuardType Tryd.prog.depth 101 = false := ⟨⟨12, by decide, by kernel_rfl⟩, by kernel_rfl, by kernel_rfl⟩
theorem mapTy_103 : MapTy Tryd.prog 103 (.agg [.int .i64, .int .i64, .int .i64], .agg [.v (.int .i64 (0)), .v (.int .i64 (0)), .v (.int .i64 (0)), .v (.bool false)]) := mapTy_of' (n := 12) (z := .agg #[.int .i64 (0), .int .i64 (0), .int .i64 (0), .bool false]) und_103 (cs := [.int .i64, .int .i64, .int .i64]) (by kernel_rfl) (by decide) (by kernel_rfl) _ (by kernel_rfl) (by kernel_rfl)
theorem eqTy_116 : (∃ n, n ≤ 10000 ∧ eqTy Tryd.prog n 116 = some [.int .i64, .int .i64, .int .i64, .bool]) ∧ isAggTy Tryd.prog 116 = true ∧ Tryd.prog.eqGuardType Tryd.prog.depth 116 = false := ⟨⟨12, by decide, by kernel_rfl⟩, by kernel_rfl, by kernel_rfl⟩
theorem eqTy_156 : (∃ n, n ≤ 10000 ∧ eqTy Tryd.prog n 156 = some [.int .u8, .int .u8, .int .u8, .int .u8, .int .u8, .int .u8, .int .u8, .int .u8, .int .u8, .int .u8, .int .u8, .int .u8, .int .u8, .int .u8, .int .u8, .int .u8, .int .u8, .int .u8, .int .u8, .int .u8, .int .u8, .int .u8, .int .u8, .int .u8, .int .u8, .int .u8, .int .u8, .int .u8, .int .u8, .int .u8, .int .u8, .int .u8]) ∧ isAggTy Tryd.prog 156 = true ∧ Tryd.prog.eqGuardType Tryd.prog.depth 156 = false := ⟨⟨12, by decide, by kernel_rfl⟩, by kernel_rfl, by kernel_rfl⟩
theorem eqTy_157 : (∃ n, n ≤ 10000 ∧ eqTy Tryd.prog n 157 = some [.int .u8, .int .u8, .int .u8, .int .u8, .int .u8, .int .u8, .int .u8, .int .u8, .int .u8, .int .u8, .int .u8, .int .u8, .int .u8, .int .u8, .int .u8, .int .u8, .int .u8, .int .u8, .int .u8, .int .u8, .int .u8, .int .u8, .int .u8, .int .u8, .int .u8, .int .u8, .int .u8, .int .u8, .int .u8, .int .u8, .int .u8, .int .u8, .int .u8, .int .u8, .int .u8, .int .u8, .int .u8, .int .u8, .int .u8, .int .u8, .int .u8, .int .u8, .int .u8, .int .u8, .int .u8, .int .u8, .int .u8, .int .u8, .int .u8, .int .u8, .int .u8, .int .u8, .int .u8, .int .u8, .int .u8, .int .u8, .int .u8, .int .u8, .int .u8, .int .u8, .int .u8, .int .u8, .int .u8, .int .u8]) ∧ isAggTy Tryd.prog 157 = true ∧ Tryd.prog.eqGuardType Tryd.prog.depth 157 = false := ⟨⟨12, by decide, by kernel_rfl⟩, by kernel_rfl, by kernel_rfl⟩
theorem fieldsOf_27 : ∀ f o, nth [some 0, some 3, some 4, some 5] f = some (some o) → fieldA Tryd.prog 27 f = some o := by intro f o h; rw [nth_eq] at h; match f, h with
  | 0, h => simp at h; subst h; exact fieldA_27_0
  | 1, h => simp at h; subst h; exact fieldA_27_1
  | 2, h => simp at h; subst h; exact fieldA_27_2
  | 3, h => simp at h; subst h; exact fieldA_27_3
  | n + 4, h => simp at h
theorem placesL_27 : placesA Tryd.prog 27 = some fun i => ([(0, 3), (3, 1), (4, 1), (5, 1)] : List (Nat × Nat))[i]? := by rw [placesA_27]; congr 1; funext i; simp
theorem fieldsOf_30 : ∀ f o, nth [some 0, some 1] f = some (some o) → fieldA Tryd.prog 30 f = some o := by intro f o h; rw [nth_eq] at h; match f, h with
  | 0, h => simp at h; subst h; exact fieldA_30_0
  | 1, h => simp at h; subst h; exact fieldA_30_1
  | n + 2, h => simp at h
theorem placesL_30 : placesA Tryd.prog 30 = some fun i => ([(0, 1), (1, 3)] : List (Nat × Nat))[i]? := by rw [placesA_30]; congr 1; funext i; simp
theorem fieldsOf_47 : ∀ f o, nth [some 0, some 1] f = some (some o) → fieldA Tryd.prog 47 f = some o := by intro f o h; rw [nth_eq] at h; match f, h with
  | 0, h => simp at h; subst h; exact fieldA_47_0
  | 1, h => simp at h; subst h; exact fieldA_47_1
  | n + 2, h => simp at h
theorem placesL_47 : placesA Tryd.prog 47 = some fun i => ([(0, 1), (1, 3)] : List (Nat × Nat))[i]? := by rw [placesA_47]; congr 1; funext i; simp
theorem fieldsOf_68 : ∀ f o, nth [some 0, some 1, some 4, some 5] f = some (some o) → fieldA Tryd.prog 68 f = some o := by intro f o h; rw [nth_eq] at h; match f, h with
  | 0, h => simp at h; subst h; exact fieldA_68_0
  | 1, h => simp at h; subst h; exact fieldA_68_1
  | 2, h => simp at h; subst h; exact fieldA_68_2
  | 3, h => simp at h; subst h; exact fieldA_68_3
  | n + 4, h => simp at h
theorem placesL_68 : placesA Tryd.prog 68 = some fun i => ([(0, 1), (1, 3), (4, 1), (5, 1)] : List (Nat × Nat))[i]? := by rw [placesA_68]; congr 1; funext i; simp
theorem fieldsOf_74 : ∀ f o, nth [some 0, some 3, some 6, some 12] f = some (some o) → fieldA Tryd.prog 74 f = some o := by intro f o h; rw [nth_eq] at h; match f, h with
  | 0, h => simp at h; subst h; exact fieldA_74_0
  | 1, h => simp at h; subst h; exact fieldA_74_1
  | 2, h => simp at h; subst h; exact fieldA_74_2
  | 3, h => simp at h; subst h; exact fieldA_74_3
  | n + 4, h => simp at h
theorem placesL_74 : placesA Tryd.prog 74 = some fun i => ([(0, 3), (3, 3), (6, 6), (12, 1)] : List (Nat × Nat))[i]? := by rw [placesA_74]; congr 1; funext i; simp
theorem fieldsOf_79 : ∀ f o, nth [some 0, some 1] f = some (some o) → fieldA Tryd.prog 79 f = some o := by intro f o h; rw [nth_eq] at h; match f, h with
  | 0, h => simp at h; subst h; exact fieldA_79_0
  | 1, h => simp at h; subst h; exact fieldA_79_1
  | n + 2, h => simp at h
theorem placesL_79 : placesA Tryd.prog 79 = some fun i => ([(0, 1), (1, 1)] : List (Nat × Nat))[i]? := by rw [placesA_79]; congr 1; funext i; simp
theorem fieldsOf_81 : ∀ f o, nth [some 0, some 1, some 2, some 4] f = some (some o) → fieldA Tryd.prog 81 f = some o := by intro f o h; rw [nth_eq] at h; match f, h with
  | 0, h => simp at h; subst h; exact fieldA_81_0
  | 1, h => simp at h; subst h; exact fieldA_81_1
  | 2, h => simp at h; subst h; exact fieldA_81_2
  | 3, h => simp at h; subst h; exact fieldA_81_3
  | n + 4, h => simp at h
theorem placesL_81 : placesA Tryd.prog 81 = some fun i => ([(0, 1), (1, 1), (2, 2), (4, 2)] : List (Nat × Nat))[i]? := by rw [placesA_81]; congr 1; funext i; simp
theorem fieldsOf_105 : ∀ f o, nth [some 0, some 6, some 7, some 25, some 26] f = some (some o) → fieldA Tryd.prog 105 f = some o := by intro f o h; rw [nth_eq] at h; match f, h with
  | 0, h => simp at h; subst h; exact fieldA_105_0
  | 1, h => simp at h; subst h; exact fieldA_105_1
  | 2, h => simp at h; subst h; exact fieldA_105_2
  | 3, h => simp at h; subst h; exact fieldA_105_3
  | 4, h => simp at h; subst h; exact fieldA_105_4
  | n + 5, h => simp at h
theorem placesL_105 : placesA Tryd.prog 105 = some fun i => ([(0, 6), (6, 1), (7, 18), (25, 1), (26, 1)] : List (Nat × Nat))[i]? := by rw [placesA_105]; congr 1; funext i; simp
theorem fieldsOf_116 : ∀ f o, nth [some 0, some 3] f = some (some o) → fieldA Tryd.prog 116 f = some o := by intro f o h; rw [nth_eq] at h; match f, h with
  | 0, h => simp at h; subst h; exact fieldA_116_0
  | 1, h => simp at h; subst h; exact fieldA_116_1
  | n + 2, h => simp at h
theorem placesL_116 : placesA Tryd.prog 116 = some fun i => ([(0, 3), (3, 1)] : List (Nat × Nat))[i]? := by rw [placesA_116]; congr 1; funext i; simp
theorem fieldsOf_130 : ∀ f o, nth [some 0, some 1] f = some (some o) → fieldA Tryd.prog 130 f = some o := by intro f o h; rw [nth_eq] at h; match f, h with
  | 0, h => simp at h; subst h; exact fieldA_130_0
  | 1, h => simp at h; subst h; exact fieldA_130_1
  | n + 2, h => simp at h
theorem placesL_130 : placesA Tryd.prog 130 = some fun i => ([(0, 1), (1, 1)] : List (Nat × Nat))[i]? := by rw [placesA_130]; congr 1; funext i; simp
theorem partI_23 : partI Tryd.prog 23 = some (false, 3, 1) ∧ ∃ len e, Tryd.prog.underlying 23 = some (.array len e) := ⟨by kernel_rfl, _, _, und_23⟩
theorem partF_27_0 : partF Tryd.prog 27 0 = some (true, 0, 3) := by kernel_rfl
theorem partF_27_1 : partF Tryd.prog 27 1 = some (false, 3, 1) := by kernel_rfl
theorem partF_27_2 : partF Tryd.prog 27 2 = some (false, 4, 1) := by kernel_rfl
theorem partF_27_3 : partF Tryd.prog 27 3 = some (false, 5, 1) := by kernel_rfl
theorem partsOf_27 : ∀ f q, nth ([some (true, 0, 3), some (false, 3, 1), some (false, 4, 1), some (false, 5, 1)] : List (Option (Bool × Nat × Nat))) f = some (some q) → partF Tryd.prog 27 f = some q := by intro f o h; rw [nth_eq] at h; match f, h with
  | 0, h => simp at h; subst h; exact partF_27_0
  | 1, h => simp at h; subst h; exact partF_27_1
  | 2, h => simp at h; subst h; exact partF_27_2
  | 3, h => simp at h; subst h; exact partF_27_3
  | n + 4, h => simp at h
theorem partF_30_0 : partF Tryd.prog 30 0 = some (false, 0, 1) := by kernel_rfl
theorem partF_30_1 : partF Tryd.prog 30 1 = some (true, 1, 3) := by kernel_rfl
theorem partsOf_30 : ∀ f q, nth ([some (false, 0, 1), some (true, 1, 3)] : List (Option (Bool × Nat × Nat))) f = some (some q) → partF Tryd.prog 30 f = some q := by intro f o h; rw [nth_eq] at h; match f, h with
  | 0, h => simp at h; subst h; exact partF_30_0
  | 1, h => simp at h; subst h; exact partF_30_1
  | n + 2, h => simp at h
theorem partI_45 : partI Tryd.prog 45 = some (false, 3, 1) ∧ ∃ len e, Tryd.prog.underlying 45 = some (.array len e) := ⟨by kernel_rfl, _, _, und_45⟩
theorem partF_47_0 : partF Tryd.prog 47 0 = some (false, 0, 1) := by kernel_rfl
theorem partF_47_1 : partF Tryd.prog 47 1 = some (true, 1, 3) := by kernel_rfl
theorem partsOf_47 : ∀ f q, nth ([some (false, 0, 1), some (true, 1, 3)] : List (Option (Bool × Nat × Nat))) f = some (some q) → partF Tryd.prog 47 f = some q := by intro f o h; rw [nth_eq] at h; match f, h with
  | 0, h => simp at h; subst h; exact partF_47_0
  | 1, h => simp at h; subst h; exact partF_47_1
  | n + 2, h => simp at h
theorem partF_68_0 : partF Tryd.prog 68 0 = some (false, 0, 1) := by kernel_rfl
theorem partF_68_1 : partF Tryd.prog 68 1 = some (true, 1, 3) := by kernel_rfl
theorem partF_68_2 : partF Tryd.prog 68 2 = some (false, 4, 1) := by kernel_rfl
theorem partF_68_3 : partF Tryd.prog 68 3 = some (false, 5, 1) := by kernel_rfl
theorem partsOf_68 : ∀ f q, nth ([some (false, 0, 1), some (true, 1, 3), some (false, 4, 1), some (false, 5, 1)] : List (Option (Bool × Nat × Nat))) f = some (some q) → partF Tryd.prog 68 f = some q := by intro f o h; rw [nth_eq] at h; match f, h with
  | 0, h => simp at h; subst h; exact partF_68_0
  | 1, h => simp at h; subst h; exact partF_68_1
  | 2, h => simp at h; subst h; exact partF_68_2
  | 3, h => simp at h; subst h; exact partF_68_3
  | n + 4, h => simp at h
theorem partF_74_0 : partF Tryd.prog 74 0 = some (true, 0, 3) := by kernel_rfl
theorem partF_74_1 : partF Tryd.prog 74 1 = some (true, 3, 3) := by kernel_rfl
theorem partF_74_2 : partF Tryd.prog 74 2 = some (true, 6, 6) := by kernel_rfl
theorem partF_74_3 : partF Tryd.prog 74 3 = some (false, 12, 1) := by kernel_rfl
theorem partsOf_74 : ∀ f q, nth ([some (true, 0, 3), some (true, 3, 3), some (true, 6, 6), some (false, 12, 1)] : List (Option (Bool × Nat × Nat))) f = some (some q) → partF Tryd.prog 74 f = some q := by intro f o h; rw [nth_eq] at h; match f, h with
  | 0, h => simp at h; subst h; exact partF_74_0
  | 1, h => simp at h; subst h; exact partF_74_1
  | 2, h => simp at h; subst h; exact partF_74_2
  | 3, h => simp at h; subst h; exact partF_74_3
  | n + 4, h => simp at h
theorem partF_79_0 : partF Tryd.prog 79 0 = some (false, 0, 1) := by kernel_rfl
theorem partF_79_1 : partF Tryd.prog 79 1 = some (false, 1, 1) := by kernel_rfl
theorem partsOf_79 : ∀ f q, nth ([some (false, 0, 1), some (false, 1, 1)] : List (Option (Bool × Nat × Nat))) f = some (some q) → partF Tryd.prog 79 f = some q := by intro f o h; rw [nth_eq] at h; match f, h with
  | 0, h => simp at h; subst h; exact partF_79_0
  | 1, h => simp at h; subst h; exact partF_79_1
  | n + 2, h => simp at h
theorem partF_81_0 : partF Tryd.prog 81 0 = some (false, 0, 1) := by kernel_rfl
theorem partF_81_1 : partF Tryd.prog 81 1 = some (false, 1, 1) := by kernel_rfl
theorem partF_81_2 : partF Tryd.prog 81 2 = some (true, 2, 2) := by kernel_rfl
theorem partF_81_3 : partF Tryd.prog 81 3 = some (true, 4, 2) := by kernel_rfl
theorem partsOf_81 : ∀ f q, nth ([some (false, 0, 1), some (false, 1, 1), some (true, 2, 2), some (true, 4, 2)] : List (Option (Bool × Nat × Nat))) f = some (some q) → partF Tryd.prog 81 f = some q := by intro f o h; rw [nth_eq] at h; match f, h with
  | 0, h => simp at h; subst h; exact partF_81_0
  | 1, h => simp at h; subst h; exact partF_81_1
  | 2, h => simp at h; subst h; exact partF_81_2
  | 3, h => simp at h; subst h; exact partF_81_3
  | n + 4, h => simp at h
theorem partI_101 : partI Tryd.prog 101 = some (true, 6, 3) ∧ ∃ len e, Tryd.prog.underlying 101 = some (.array len e) := ⟨by kernel_rfl, _, _, und_101⟩
theorem partF_105_0 : partF Tryd.prog 105 0 = some (true, 0, 6) := by kernel_rfl
theorem partF_105_1 : partF Tryd.prog 105 1 = some (false, 6, 1) := by kernel_rfl
theorem partF_105_2 : partF Tryd.prog 105 2 = some (true, 7, 18) := by kernel_rfl
theorem partF_105_3 : partF Tryd.prog 105 3 = some (false, 25, 1) := by kernel_rfl
theorem partF_105_4 : partF Tryd.prog 105 4 = some (false, 26, 1) := by kernel_rfl
theorem partsOf_105 : ∀ f q, nth ([some (true, 0, 6), some (false, 6, 1), some (true, 7, 18), some (false, 25, 1), some (false, 26, 1)] : List (Option (Bool × Nat × Nat))) f = some (some q) → partF Tryd.prog 105 f = some q := by intro f o h; rw [nth_eq] at h; match f, h with
  | 0, h => simp at h; subst h; exact partF_105_0
  | 1, h => simp at h; subst h; exact partF_105_1
  | 2, h => simp at h; subst h; exact partF_105_2
  | 3, h => simp at h; subst h; exact partF_105_3
  | 4, h => simp at h; subst h; exact partF_105_4
  | n + 5, h => simp at h
theorem partF_116_0 : partF Tryd.prog 116 0 = some (true, 0, 3) := by kernel_rfl
theorem partF_116_1 : partF Tryd.prog 116 1 = some (false, 3, 1) := by kernel_rfl
theorem partsOf_116 : ∀ f q, nth ([some (true, 0, 3), some (false, 3, 1)] : List (Option (Bool × Nat × Nat))) f = some (some q) → partF Tryd.prog 116 f = some q := by intro f o h; rw [nth_eq] at h; match f, h with
  | 0, h => simp at h; subst h; exact partF_116_0
  | 1, h => simp at h; subst h; exact partF_116_1
  | n + 2, h => simp at h
theorem partF_130_0 : partF Tryd.prog 130 0 = some (false, 0, 1) := by kernel_rfl
theorem partF_130_1 : partF Tryd.prog 130 1 = some (false, 1, 1) := by kernel_rfl
theorem partsOf_130 : ∀ f q, nth ([some (false, 0, 1), some (false, 1, 1)] : List (Option (Bool × Nat × Nat))) f = some (some q) → partF Tryd.prog 130 f = some q := by intro f o h; rw [nth_eq] at h; match f, h with
  | 0, h => simp at h; subst h; exact partF_130_0
  | 1, h => simp at h; subst h; exact partF_130_1
  | n + 2, h => simp at h
theorem partI_156 : partI Tryd.prog 156 = some (false, 32, 1) ∧ ∃ len e, Tryd.prog.underlying 156 = some (.array len e) := ⟨by kernel_rfl, _, _, und_156⟩
theorem partI_157 : partI Tryd.prog 157 = some (false, 64, 1) ∧ ∃ len e, Tryd.prog.underlying 157 = some (.array len e) := ⟨by kernel_rfl, _, _, und_157⟩
def tab : Tab where
  var := .nd 91 (false, 1) (.nd 31 (false, 1) (.nd 23 (true, 3) (.nd 5 (false, 1) (.nd 4 (false, 1) (.nd 3 (false, 1) (.lf) (.lf)) (.lf)) (.nd 21 (false, 1) (.nd 9 (false, 1) (.lf) (.lf)) (.lf))) (.nd 27 (true, 6) (.nd 25 (false, 1) (.nd 24 (false, 1) (.lf) (.lf)) (.lf)) (.nd 30 (true, 4) (.nd 28 (false, 1) (.lf) (.lf)) (.lf)))) (.nd 79 (true, 2) (.nd 61 (false, 1) (.nd 47 (true, 4) (.nd 45 (true, 3) (.lf) (.lf)) (.lf)) (.nd 74 (true, 13) (.nd 68 (true, 6) (.lf) (.lf)) (.lf))) (.nd 87 (false, 1) (.nd 86 (false, 1) (.nd 81 (true, 6) (.lf) (.lf)) (.lf)) (.nd 90 (false, 1) (.lf) (.lf))))) (.nd 130 (true, 2) (.nd 105 (true, 27) (.nd 101 (true, 18) (.nd 98 (false, 1) (.nd 95 (false, 1) (.lf) (.lf)) (.lf)) (.nd 103 (false, 1) (.nd 102 (false, 1) (.lf) (.lf)) (.lf))) (.nd 120 (false, 1) (.nd 116 (true, 4) (.nd 113 (false, 1) (.lf) (.lf)) (.lf)) (.nd 128 (false, 1) (.nd 123 (false, 1) (.lf) (.lf)) (.lf)))) (.nd 156 (true, 32) (.nd 146 (false, 1) (.nd 142 (false, 1) (.nd 134 (false, 1) (.lf) (.lf)) (.lf)) (.nd 150 (false, 1) (.nd 148 (false, 1) (.lf) (.lf)) (.lf))) (.nd 162 (false, 1) (.nd 158 (false, 1) (.nd 157 (true, 64) (.lf) (.lf)) (.lf)) (.nd 164 (false, 1) (.lf) (.lf)))))
  slice := .nd 61 (28, 1, 24) (.nd 25 (81, 6, 56) (.nd 24 (68, 6, 56) (.lf) (.lf)) (.nd 28 (3, 1, 8) (.lf) (.lf))) (.nd 102 (130, 2, 16) (.nd 95 (9, 1, 16) (.lf) (.lf)) (.lf))
  array := .nd 101 (6, 3) (.nd 45 (3, 1) (.nd 23 (3, 1) (.lf) (.lf)) (.lf)) (.nd 157 (64, 1) (.nd 156 (32, 1) (.lf) (.lf)) (.lf))
  zero := .nd 91 (1, .v .nilFunc) (.nd 31 (1, .v (.int .i64 (0))) (.nd 23 (3, .agg [.v (.int .i64 (0)), .v (.int .i64 (0)), .v (.int .i64 (0))]) (.nd 5 (1, .v (.int .u8 (0))) (.nd 4 (1, .v (.bool false)) (.nd 3 (1, .v (.int .i64 (0))) (.lf) (.lf)) (.lf)) (.nd 21 (1, .v (.int .i32 (0))) (.nd 9 (1, .v (.string ⟨#[]⟩)) (.lf) (.lf)) (.lf))) (.nd 27 (6, .agg [.v (.int .i64 (0)), .v (.int .i64 (0)), .v (.int .i64 (0)), .v (.int .i64 (0)), .slice 0 [] .tight, .slice 0 [] .tight]) (.nd 25 (1, .slice 0 [] .tight) (.nd 24 (1, .slice 0 [] .tight) (.lf) (.lf)) (.lf)) (.nd 30 (4, .agg [.slice 0 [] .tight, .v (.int .i64 (0)), .v (.int .i64 (0)), .v (.int .i64 (0))]) (.nd 28 (1, .slice 0 [] .tight) (.lf) (.lf)) (.lf)))) (.nd 79 (2, .agg [.v (.int .i64 (0)), .v (.int .i64 (0))]) (.nd 61 (1, .slice 0 [] .tight) (.nd 47 (4, .agg [.v (.int .u8 (0)), .v (.int .u8 (0)), .v (.int .u8 (0)), .v (.int .u8 (0))]) (.nd 45 (3, .agg [.v (.int .u8 (0)), .v (.int .u8 (0)), .v (.int .u8 (0))]) (.lf) (.lf)) (.lf)) (.nd 74 (13, .agg [.v (.int .u8 (0)), .v (.int .u8 (0)), .v (.int .u8 (0)), .v (.int .u8 (0)), .v (.int .u8 (0)), .v (.int .u8 (0)), .v (.string ⟨#[]⟩), .v (.int .i64 (0)), .v (.int .i64 (0)), .v (.int .i64 (0)), .v (.int .i64 (0)), .v (.bool false), .v (.int .u8 (0))]) (.nd 68 (6, .agg [.v (.string ⟨#[]⟩), .v (.int .i64 (0)), .v (.int .i64 (0)), .v (.int .i64 (0)), .v (.int .i64 (0)), .v (.bool false)]) (.lf) (.lf)) (.lf))) (.nd 87 (1, .v .nilFunc) (.nd 86 (1, .v .nilFunc) (.nd 81 (6, .agg [.v (.string ⟨#[]⟩), .v (.int .i64 (0)), .v (.int .i64 (0)), .v (.int .i64 (0)), .v (.int .i64 (0)), .v (.int .i64 (0))]) (.lf) (.lf)) (.lf)) (.nd 90 (1, .v .nilFunc) (.lf) (.lf))))) (.nd 130 (2, .agg [.v (.int .i64 (0)), .v .nilFunc]) (.nd 105 (27, .agg [.v (.int .i64 (0)), .v (.int .i64 (0)), .v (.int .i64 (0)), .v (.int .i64 (0)), .slice 0 [] .tight, .slice 0 [] .tight, .v (.int .i64 (0)), .v (.int .i64 (0)), .v (.int .i64 (0)), .v (.int .i64 (0)), .v (.int .i64 (0)), .v (.int .i64 (0)), .v (.int .i64 (0)), .v (.int .i64 (0)), .v (.int .i64 (0)), .v (.int .i64 (0)), .v (.int .i64 (0)), .v (.int .i64 (0)), .v (.int .i64 (0)), .v (.int .i64 (0)), .v (.int .i64 (0)), .v (.int .i64 (0)), .v (.int .i64 (0)), .v (.int .i64 (0)), .v (.int .i64 (0)), .slice 0 [] .tight, .v (.map none)]) (.nd 101 (18, .agg [.v (.int .i64 (0)), .v (.int .i64 (0)), .v (.int .i64 (0)), .v (.int .i64 (0)), .v (.int .i64 (0)), .v (.int .i64 (0)), .v (.int .i64 (0)), .v (.int .i64 (0)), .v (.int .i64 (0)), .v (.int .i64 (0)), .v (.int .i64 (0)), .v (.int .i64 (0)), .v (.int .i64 (0)), .v (.int .i64 (0)), .v (.int .i64 (0)), .v (.int .i64 (0)), .v (.int .i64 (0)), .v (.int .i64 (0))]) (.nd 98 (1, .v (.pointer none)) (.nd 95 (1, .slice 0 [] .tight) (.lf) (.lf)) (.lf)) (.nd 103 (1, .v (.map none)) (.nd 102 (1, .slice 0 [] .tight) (.lf) (.lf)) (.lf))) (.nd 120 (1, .v .nilFunc) (.nd 116 (4, .agg [.v (.int .i64 (0)), .v (.int .i64 (0)), .v (.int .i64 (0)), .v (.bool false)]) (.nd 113 (1, .v .nilFunc) (.lf) (.lf)) (.lf)) (.nd 128 (1, .v .nilFunc) (.nd 123 (1, .v .nilFunc) (.lf) (.lf)) (.lf)))) (.nd 156 (32, .agg [.v (.int .u8 (0)), .v (.int .u8 (0)), .v (.int .u8 (0)), .v (.int .u8 (0)), .v (.int .u8 (0)), .v (.int .u8 (0)), .v (.int .u8 (0)), .v (.int .u8 (0)), .v (.int .u8 (0)), .v (.int .u8 (0)), .v (.int .u8 (0)), .v (.int .u8 (0)), .v (.int .u8 (0)), .v (.int .u8 (0)), .v (.int .u8 (0)), .v (.int .u8 (0)), .v (.int .u8 (0)), .v (.int .u8 (0)), .v (.int .u8 (0)), .v (.int .u8 (0)), .v (.int .u8 (0)), .v (.int .u8 (0)), .v (.int .u8 (0)), .v (.int .u8 (0)), .v (.int .u8 (0)), .v (.int .u8 (0)), .v (.int .u8 (0)), .v (.int .u8 (0)), .v (.int .u8 (0)), .v (.int .u8 (0)), .v (.int .u8 (0)), .v (.int .u8 (0))]) (.nd 146 (1, .v (.int .u32 (0))) (.nd 142 (1, .v (.int .u64 (0))) (.nd 134 (1, .v .nilFunc) (.lf) (.lf)) (.lf)) (.nd 150 (1, .v (.int .i64 (0))) (.nd 148 (1, .v (.int .u64 (0))) (.lf) (.lf)) (.lf))) (.nd 162 (1, .v (.pointer none)) (.nd 158 (1, .v (.int .u64 (0))) (.nd 157 (64, .agg [.v (.int .u8 (0)), .v (.int .u8 (0)), .v (.int .u8 (0)), .v (.int .u8 (0)), .v (.int .u8 (0)), .v (.int .u8 (0)), .v (.int .u8 (0)), .v (.int .u8 (0)), .v (.int .u8 (0)), .v (.int .u8 (0)), .v (.int .u8 (0)), .v (.int .u8 (0)), .v (.int .u8 (0)), .v (.int .u8 (0)), .v (.int .u8 (0)), .v (.int .u8 (0)), .v (.int .u8 (0)), .v (.int .u8 (0)), .v (.int .u8 (0)), .v (.int .u8 (0)), .v (.int .u8 (0)), .v (.int .u8 (0)), .v (.int .u8 (0)), .v (.int .u8 (0)), .v (.int .u8 (0)), .v (.int .u8 (0)), .v (.int .u8 (0)), .v (.int .u8 (0)), .v (.int .u8 (0)), .v (.int .u8 (0)), .v (.int .u8 (0)), .v (.int .u8 (0)), .v (.int .u8 (0)), .v (.int .u8 (0)), .v (.int .u8 (0)), .v (.int .u8 (0)), .v (.int .u8 (0)), .v (.int .u8 (0)), .v (.int .u8 (0)), .v (.int .u8 (0)), .v (.int .u8 (0)), .v (.int .u8 (0)), .v (.int .u8 (0)), .v (.int .u8 (0)), .v (.int .u8 (0)), .v (.int .u8 (0)), .v (.int .u8 (0)), .v (.int .u8 (0)), .v (.int .u8 (0)), .v (.int .u8 (0)), .v (.int .u8 (0)), .v (.int .u8 (0)), .v (.int .u8 (0)), .v (.int .u8 (0)), .v (.int .u8 (0)), .v (.int .u8 (0)), .v (.int .u8 (0)), .v (.int .u8 (0)), .v (.int .u8 (0)), .v (.int .u8 (0)), .v (.int .u8 (0)), .v (.int .u8 (0)), .v (.int .u8 (0)), .v (.int .u8 (0))]) (.lf) (.lf)) (.lf)) (.nd 164 (1, .v (.pointer none)) (.lf) (.lf)))))
  field := .nd 79 [some 0, some 1] (.nd 47 [some 0, some 1] (.nd 30 [some 0, some 1] (.nd 27 [some 0, some 3, some 4, some 5] (.lf) (.lf)) (.lf)) (.nd 74 [some 0, some 3, some 6, some 12] (.nd 68 [some 0, some 1, some 4, some 5] (.lf) (.lf)) (.lf))) (.nd 116 [some 0, some 3] (.nd 105 [some 0, some 6, some 7, some 25, some 26] (.nd 81 [some 0, some 1, some 2, some 4] (.lf) (.lf)) (.lf)) (.nd 130 [some 0, some 1] (.lf) (.lf)))
  places := .nd 79 [(0, 1), (1, 1)] (.nd 47 [(0, 1), (1, 3)] (.nd 30 [(0, 1), (1, 3)] (.nd 27 [(0, 3), (3, 1), (4, 1), (5, 1)] (.lf) (.lf)) (.lf)) (.nd 74 [(0, 3), (3, 3), (6, 6), (12, 1)] (.nd 68 [(0, 1), (1, 3), (4, 1), (5, 1)] (.lf) (.lf)) (.lf))) (.nd 116 [(0, 3), (3, 1)] (.nd 105 [(0, 6), (6, 1), (7, 18), (25, 1), (26, 1)] (.nd 81 [(0, 1), (1, 1), (2, 2), (4, 2)] (.lf) (.lf)) (.lf)) (.nd 130 [(0, 1), (1, 1)] (.lf) (.lf)))
  placesN := .nd 101 3 (.nd 45 1 (.nd 23 1 (.lf) (.lf)) (.lf)) (.nd 157 1 (.nd 156 1 (.lf) (.lf)) (.lf))
  map := .nd 103 (.agg [.int .i64, .int .i64, .int .i64], .agg [.v (.int .i64 (0)), .v (.int .i64 (0)), .v (.int .i64 (0)), .v (.bool false)]) (.lf) (.lf)
  eq := .nd 79 [.int .i64, .int .i64] (.nd 47 [.int .u8, .int .u8, .int .u8, .int .u8] (.nd 45 [.int .u8, .int .u8, .int .u8] (.nd 23 [.int .i64, .int .i64, .int .i64] (.lf) (.lf)) (.lf)) (.nd 74 [.int .u8, .int .u8, .int .u8, .int .u8, .int .u8, .int .u8, .str, .int .i64, .int .i64, .int .i64, .int .i64, .bool, .int .u8] (.nd 68 [.str, .int .i64, .int .i64, .int .i64, .int .i64, .bool] (.lf) (.lf)) (.lf))) (.nd 116 [.int .i64, .int .i64, .int .i64, .bool] (.nd 101 [.int .i64, .int .i64, .int .i64, .int .i64, .int .i64, .int .i64, .int .i64, .int .i64, .int .i64, .int .i64, .int .i64, .int .i64, .int .i64, .int .i64, .int .i64, .int .i64, .int .i64, .int .i64] (.nd 81 [.str, .int .i64, .int .i64, .int .i64, .int .i64, .int .i64] (.lf) (.lf)) (.lf)) (.nd 157 [.int .u8, .int .u8, .int .u8, .int .u8, .int .u8, .int .u8, .int .u8, .int .u8, .int .u8, .int .u8, .int .u8, .int .u8, .int .u8, .int .u8, .int .u8, .int .u8, .int .u8, .int .u8, .int .u8, .int .u8, .int .u8, .int .u8, .int .u8, .int .u8, .int .u8, .int .u8, .int .u8, .int .u8, .int .u8, .int .u8, .int .u8, .int .u8, .int .u8, .int .u8, .int .u8, .int .u8, .int .u8, .int .u8, .int .u8, .int .u8, .int .u8, .int .u8, .int .u8, .int .u8, .int .u8, .int .u8, .int .u8, .int .u8, .int .u8, .int .u8, .int .u8, .int .u8, .int .u8, .int .u8, .int .u8, .int .u8, .int .u8, .int .u8, .int .u8, .int .u8, .int .u8, .int .u8, .int .u8, .int .u8] (.nd 156 [.int .u8, .int .u8, .int .u8, .int .u8, .int .u8, .int .u8, .int .u8, .int .u8, .int .u8, .int .u8, .int .u8, .int .u8, .int .u8, .int .u8, .int .u8, .int .u8, .int .u8, .int .u8, .int .u8, .int .u8, .int .u8, .int .u8, .int .u8, .int .u8, .int .u8, .int .u8, .int .u8, .int .u8, .int .u8, .int .u8, .int .u8, .int .u8] (.lf) (.lf)) (.lf)))
  und := .nd 103 .map (.nd 9 .str (.nd 5 (.int .u8) (.nd 3 (.int .i64) (.lf) (.lf)) (.lf)) (.nd 31 (.int .i64) (.nd 21 (.int .i32) (.lf) (.lf)) (.lf))) (.nd 148 (.int .u64) (.nd 146 (.int .u32) (.nd 142 (.int .u64) (.lf) (.lf)) (.lf)) (.nd 158 (.int .u64) (.nd 150 (.int .i64) (.lf) (.lf)) (.lf)))
  fieldV := .nd 79 [some (false, 0, 1), some (false, 1, 1)] (.nd 47 [some (false, 0, 1), some (true, 1, 3)] (.nd 30 [some (false, 0, 1), some (true, 1, 3)] (.nd 27 [some (true, 0, 3), some (false, 3, 1), some (false, 4, 1), some (false, 5, 1)] (.lf) (.lf)) (.lf)) (.nd 74 [some (true, 0, 3), some (true, 3, 3), some (true, 6, 6), some (false, 12, 1)] (.nd 68 [some (false, 0, 1), some (true, 1, 3), some (false, 4, 1), some (false, 5, 1)] (.lf) (.lf)) (.lf))) (.nd 116 [some (true, 0, 3), some (false, 3, 1)] (.nd 105 [some (true, 0, 6), some (false, 6, 1), some (true, 7, 18), some (false, 25, 1), some (false, 26, 1)] (.nd 81 [some (false, 0, 1), some (false, 1, 1), some (true, 2, 2), some (true, 4, 2)] (.lf) (.lf)) (.lf)) (.nd 130 [some (false, 0, 1), some (false, 1, 1)] (.lf) (.lf)))
  indexV := .nd 101 (true, 6, 3) (.nd 45 (false, 3, 1) (.nd 23 (false, 3, 1) (.lf) (.lf)) (.lf)) (.nd 157 (false, 64, 1) (.nd 156 (false, 32, 1) (.lf) (.lf)) (.lf))
theorem tabOk : tab.Ok Tryd.prog where
  var := ⟨tyVar_91, ⟨tyVar_31, ⟨tyVar_23, ⟨tyVar_5, ⟨tyVar_4, ⟨tyVar_3, trivial, trivial⟩, trivial⟩, ⟨tyVar_21, ⟨tyVar_9, trivial, trivial⟩, trivial⟩⟩, ⟨tyVar_27, ⟨tyVar_25, ⟨tyVar_24, trivial, trivial⟩, trivial⟩, ⟨tyVar_30, ⟨tyVar_28, trivial, trivial⟩, trivial⟩⟩⟩, ⟨tyVar_79, ⟨tyVar_61, ⟨tyVar_47, ⟨tyVar_45, trivial, trivial⟩, trivial⟩, ⟨tyVar_74, ⟨tyVar_68, trivial, trivial⟩, trivial⟩⟩, ⟨tyVar_87, ⟨tyVar_86, ⟨tyVar_81, trivial, trivial⟩, trivial⟩, ⟨tyVar_90, trivial, trivial⟩⟩⟩⟩, ⟨tyVar_130, ⟨tyVar_105, ⟨tyVar_101, ⟨tyVar_98, ⟨tyVar_95, trivial, trivial⟩, trivial⟩, ⟨tyVar_103, ⟨tyVar_102, trivial, trivial⟩, trivial⟩⟩, ⟨tyVar_120, ⟨tyVar_116, ⟨tyVar_113, trivial, trivial⟩, trivial⟩, ⟨tyVar_128, ⟨tyVar_123, trivial, trivial⟩, trivial⟩⟩⟩, ⟨tyVar_156, ⟨tyVar_146, ⟨tyVar_142, ⟨tyVar_134, trivial, trivial⟩, trivial⟩, ⟨tyVar_150, ⟨tyVar_148, trivial, trivial⟩, trivial⟩⟩, ⟨tyVar_162, ⟨tyVar_158, ⟨tyVar_157, trivial, trivial⟩, trivial⟩, ⟨tyVar_164, trivial, trivial⟩⟩⟩⟩⟩
  slice := ⟨tySlice_61, ⟨tySlice_25, ⟨tySlice_24, trivial, trivial⟩, ⟨tySlice_28, trivial, trivial⟩⟩, ⟨tySlice_102, ⟨tySlice_95, trivial, trivial⟩, trivial⟩⟩
  array := ⟨tyArray_101, ⟨tyArray_45, ⟨tyArray_23, trivial, trivial⟩, trivial⟩, ⟨tyArray_157, ⟨tyArray_156, trivial, trivial⟩, trivial⟩⟩
  zero := ⟨zeroA_91, ⟨zeroA_31, ⟨zeroA_23, ⟨zeroA_5, ⟨zeroA_4, ⟨zeroA_3, trivial, trivial⟩, trivial⟩, ⟨zeroA_21, ⟨zeroA_9, trivial, trivial⟩, trivial⟩⟩, ⟨zeroA_27, ⟨zeroA_25, ⟨zeroA_24, trivial, trivial⟩, trivial⟩, ⟨zeroA_30, ⟨zeroA_28, trivial, trivial⟩, trivial⟩⟩⟩, ⟨zeroA_79, ⟨zeroA_61, ⟨zeroA_47, ⟨zeroA_45, trivial, trivial⟩, trivial⟩, ⟨zeroA_74, ⟨zeroA_68, trivial, trivial⟩, trivial⟩⟩, ⟨zeroA_87, ⟨zeroA_86, ⟨zeroA_81, trivial, trivial⟩, trivial⟩, ⟨zeroA_90, trivial, trivial⟩⟩⟩⟩, ⟨zeroA_130, ⟨zeroA_105, ⟨zeroA_101, ⟨zeroA_98, ⟨zeroA_95, trivial, trivial⟩, trivial⟩, ⟨zeroA_103, ⟨zeroA_102, trivial, trivial⟩, trivial⟩⟩, ⟨zeroA_120, ⟨zeroA_116, ⟨zeroA_113, trivial, trivial⟩, trivial⟩, ⟨zeroA_128, ⟨zeroA_123, trivial, trivial⟩, trivial⟩⟩⟩, ⟨zeroA_156, ⟨zeroA_146, ⟨zeroA_142, ⟨zeroA_134, trivial, trivial⟩, trivial⟩, ⟨zeroA_150, ⟨zeroA_148, trivial, trivial⟩, trivial⟩⟩, ⟨zeroA_162, ⟨zeroA_158, ⟨zeroA_157, trivial, trivial⟩, trivial⟩, ⟨zeroA_164, trivial, trivial⟩⟩⟩⟩⟩
  field := ⟨fieldsOf_79, ⟨fieldsOf_47, ⟨fieldsOf_30, ⟨fieldsOf_27, trivial, trivial⟩, trivial⟩, ⟨fieldsOf_74, ⟨fieldsOf_68, trivial, trivial⟩, trivial⟩⟩, ⟨fieldsOf_116, ⟨fieldsOf_105, ⟨fieldsOf_81, trivial, trivial⟩, trivial⟩, ⟨fieldsOf_130, trivial, trivial⟩⟩⟩
  places := ⟨placesL_79, ⟨placesL_47, ⟨placesL_30, ⟨placesL_27, trivial, trivial⟩, trivial⟩, ⟨placesL_74, ⟨placesL_68, trivial, trivial⟩, trivial⟩⟩, ⟨placesL_116, ⟨placesL_105, ⟨placesL_81, trivial, trivial⟩, trivial⟩, ⟨placesL_130, trivial, trivial⟩⟩⟩
  placesN := ⟨placesA_101, ⟨placesA_45, ⟨placesA_23, trivial, trivial⟩, trivial⟩, ⟨placesA_157, ⟨placesA_156, trivial, trivial⟩, trivial⟩⟩
  map := ⟨mapTy_103, trivial, trivial⟩
  eq := ⟨eqTy_79, ⟨eqTy_47, ⟨eqTy_45, ⟨eqTy_23, trivial, trivial⟩, trivial⟩, ⟨eqTy_74, ⟨eqTy_68, trivial, trivial⟩, trivial⟩⟩, ⟨eqTy_116, ⟨eqTy_101, ⟨eqTy_81, trivial, trivial⟩, trivial⟩, ⟨eqTy_157, ⟨eqTy_156, trivial, trivial⟩, trivial⟩⟩⟩
  und := ⟨⟨_, _, und_103⟩, ⟨und_9, ⟨und_5, ⟨und_3, trivial, trivial⟩, trivial⟩, ⟨und_31, ⟨und_21, trivial, trivial⟩, trivial⟩⟩, ⟨und_148, ⟨und_146, ⟨und_142, trivial, trivial⟩, trivial⟩, ⟨und_158, ⟨und_150, trivial, trivial⟩, trivial⟩⟩⟩
  fieldV := ⟨partsOf_79, ⟨partsOf_47, ⟨partsOf_30, ⟨partsOf_27, trivial, trivial⟩, trivial⟩, ⟨partsOf_74, ⟨partsOf_68, trivial, trivial⟩, trivial⟩⟩, ⟨partsOf_116, ⟨partsOf_105, ⟨partsOf_81, trivial, trivial⟩, trivial⟩, ⟨partsOf_130, trivial, trivial⟩⟩⟩
  indexV := ⟨partI_101, ⟨partI_45, ⟨partI_23, trivial, trivial⟩, trivial⟩, ⟨partI_157, ⟨partI_156, trivial, trivial⟩, trivial⟩⟩
theorem mixed : Tryd.prog.follows .mixedOrders = true := by kernel_rfl
end Go.Proofs.YtbpiibdcncfphaaDoor
namespace Go.Proofs.YtbpiibdcncfphaaDoor
open Go.Am Go.Proofs Go
structure Amt where
  b : Int
  t : Int
  c : Int
deriving DecidableEq
structure Head where
  name : ByteArray
  wax : Amt
  days : Int
  kept : Bool
deriving DecidableEq
structure Order where
  name : ByteArray
  weight : Int
  tlo : Int
  thi : Int
  clo : Int
  chi : Int
deriving DecidableEq
structure Store where
  lots : Amt
  fade : Int
  heads : List Head
  orders : List Order
def intA (n : Int) : AV:=.v (.int .i64 n)
def boolA (b : Bool) : AV:=.v (.bool b)
def strA (s : ByteArray) : AV:=.v (.string s)
def amtA (a : Amt) : AV:=.agg [intA a.b, intA a.t, intA a.c]
def headA (h : Head) : AV:=.agg [strA h.name, intA h.wax.b, intA h.wax.t, intA h.wax.c, intA h.days, boolA h.kept]
def orderA (o : Order) : AV:=.agg [strA o.name, intA o.weight, intA o.tlo, intA o.thi, intA o.clo, intA o.chi]
def spanA (lo hi : Int) : AV:=.agg [intA lo, intA hi]
def headsA (l : List Head) : AV:=.slice 6 (l.map headA) .no
def ordersA (l : List Order) : AV:=.slice 6 (l.map orderA) .no
def intsA (l : List Int) : AV:=.slice 1 (l.map intA) .no
def strsA (l : List ByteArray) : AV:=.slice 1 (l.map strA) .no
def storeC (s : Store) : List AV:=[intA s.lots.b, intA s.lots.t, intA s.lots.c, intA s.fade, headsA s.heads, ordersA s.orders]
def storeA (s : Store) : AV:=.agg [intA s.lots.b, intA s.lots.t, intA s.lots.c, intA s.fade, headsA s.heads, ordersA s.orders]
def triA (x : Int × Int × Int) : AV:=.tuple [intA x.1, intA x.2.1, intA x.2.2]
end Go.Proofs.YtbpiibdcncfphaaDoor
namespace Go.Proofs.YtbpiibdcncfphaaDoor
open Go.Am Go.Proofs Go Go.ChangeShapes Go.WideShapes Go.RowKit
theorem bulk_one {H : Type} (d : DataW H) : 1 ≤ Rows.uptoBulk d:=by
  cases d with
  | lit l=>cases l<;>simp [Rows.uptoBulk]
  | nil=>simp [Rows.uptoBulk]
  | ptr d=>simp [Rows.uptoBulk]
  | slice elems spare=>simp [Rows.uptoBulk]
  | agg parts=>simp [Rows.uptoBulk]
  | iface t d=>simp [Rows.uptoBulk]
  | map entries=>simp [Rows.uptoBulk]
  | held h=>simp [Rows.uptoBulk]
theorem bulk_part {H : Type} {d : DataW H} {l : List (DataW H)} (h : d ∈ l) : Rows.uptoBulk d ≤ Rows.uptoBulkAll l:=by
  induction l with
  | nil=>cases h
  | cons x r ih =>
    simp only [Rows.uptoBulkAll]
    cases List.mem_cons.1 h with
    | inl e=>subst e;omega
    | inr e=>have:=ih e;omega
theorem bulk_len {H : Type} (l : List (DataW H)) : l.length ≤ Rows.uptoBulkAll l:=by
  induction l with
  | nil=>simp [Rows.uptoBulkAll]
  | cons x r ih=>have:=bulk_one x;simp only [Rows.uptoBulkAll, List.length_cons];omega
theorem bulk_agg {H : Type} (l : List (DataW H)) : Rows.uptoBulkAll l ≤ Rows.uptoBulk (.agg l):=by
  simp only [Rows.uptoBulk];omega
theorem bulk_slice {H : Type} (l s : List (DataW H)) : Rows.uptoBulkAll l ≤ Rows.uptoBulk (.slice l s):=by
  simp only [Rows.uptoBulk];omega
theorem bulk_bound {H : Type} {l : List (DataW H)} (hk : Rows.uptoSmall H l = true) : Rows.uptoBulkAll l ≤ 1048576:=of_decide_eq_true hk
inductive Lf where
  | int (k : IntKind)
  | bool
  | str
def Fit1 (b : Nat) : Lf→Value→Prop
  | .int k, .int k' m=>k' = k∧(Lit.int k m).wf = true
  | .bool, .bool _=>True
  | .str, .string s=>s.size ≤ b
  | _, _=>False
def Fit (b : Nat) : List Lf→List Value→Prop
  | [], []=>True
  | l :: ls, v :: vs=>Fit1 b l v∧Fit b ls vs
  | _, _=>False
theorem Fit1.mono {b b' : Nat} (h : b ≤ b') {l : Lf} {v : Value} (hf : Fit1 b l v) : Fit1 b' l v:=by
  cases l<;>cases v<;>simp only [Fit1] at hf ⊢<;>first|exact hf|omega
theorem Fit.mono {b b' : Nat} (h : b ≤ b') : ∀ {ls : List Lf} {vs : List Value}, Fit b ls vs→Fit b' ls vs
  | [], [], _=>trivial
  | [], _ :: _, hf=>hf
  | _ :: _, [], hf=>hf
  | _ :: _, _ :: _, hf=>⟨hf.1.mono h, hf.2.mono h⟩
theorem Fit.len {b : Nat} : ∀ {ls : List Lf} {vs : List Value}, Fit b ls vs→vs.length = ls.length
  | [], [], _=>rfl
  | [], _ :: _, hf=>hf.elim
  | _ :: _, [], hf=>hf.elim
  | _ :: _, _ :: _, hf=>by simp only [List.length_cons, hf.2.len]
theorem Fit.append {b : Nat} : ∀ {ls ms : List Lf} {vs ws : List Value}, Fit b ls vs→Fit b ms ws→Fit b (ls++ms) (vs++ws)
  | [], _, [], _, _, h=>h
  | [], _, _ :: _, _, h, _=>h.elim
  | _ :: _, _, [], _, h, _=>h.elim
  | _ :: _, _, _ :: _, _, h, k=>⟨h.1, h.2.append k⟩
theorem Fit.one {b : Nat} : ∀ {ls : List Lf} {vs : List Value}, Fit b ls vs→∀ v ∈ vs, v.oneCell' = true
  | [], [], _, v, hv=>by simp at hv
  | [], _ :: _, hf, _, _=>hf.elim
  | _ :: _, [], hf, _, _=>hf.elim
  | l :: _, u :: _, hf, v, hv=>by
    rcases List.mem_cons.1 hv with e|e
    · subst e
      have:=hf.1
      cases l<;>cases v<;>simp only [Fit1] at this<;>rfl
    · exact hf.2.one v e
section
variable {H : Type} {enc : TypeId × Value→H} {P : Program} {W : World} {sp : Nat→Bool} {held : Bool}
def leafF (P : Program) (F : TypeId→Option (List Lf)) : List Field→Nat→Option (List Lf)
  | [], _=>some []
  | f :: fs, o=>match F f.type with
    | some l=>if f.offset = o∧P.cellsOf f.type = l.length then (leafF P F fs (o + l.length)).map (l++·) else none
    | none=>none
def leaves (P : Program) : Nat→TypeId→Option (List Lf)
  | 0, _=>none
  | n + 1, t=>match P.underlying t with
    | some (.int k)=>some [.int k]
    | some .bool=>some [.bool]
    | some .string=>some [.str]
    | some (.array m e)=>match leaves P n e with
      | some l=>if P.cellsOf e = l.length∧P.cellsOf t = m * l.length then some (List.replicate m l).flatten else none
      | none=>none
    | some (.struct fs)=>match leafF P (leaves P n) fs.toList 0 with
      | some l=>if P.cellsOf t = l.length then some l else none
      | none=>none
    | _=>none
theorem leafF_fit {F : TypeId→Option (List Lf)} {b : Nat} {cs : List Value} : ∀ (fs : List Field) (o : Nat) (l : List Lf), leafF P F fs o = some l→cs.length = o + l.length →
    (∀ f ∈ fs, ∀ l, F f.type = some l→P.cellsOf f.type = l.length→Fit b l ((cs.drop f.offset).take (P.cellsOf f.type)))→Fit b l (cs.drop o)
  | [], o, l, h, hl, _=>by
    simp only [leafF, Option.some.injEq] at h
    subst h
    rw [List.drop_of_length_le (by simp at hl;omega)]
    trivial
  | f :: fs, o, l, h, hl, hf=>by
    simp only [leafF] at h
    split at h
    · rename_i l1 h1
      split at h
      · rename_i hc
        obtain ⟨rfl, hc⟩:=hc
        rw [Option.map_eq_some_iff] at h
        obtain ⟨l2, h2, rfl⟩:=h
        rw [List.length_append] at hl
        have a:=hf f (List.mem_cons_self ..) l1 h1 hc
        have c:=leafF_fit fs _ l2 h2 (by omega) fun g hg=>hf g (List.mem_cons_of_mem _ hg)
        rw [hc] at a
        have e : cs.drop f.offset = (cs.drop f.offset).take l1.length++cs.drop (f.offset + l1.length):=by
          rw [← List.drop_drop, List.take_append_drop]
        rw [e]
        exact a.append c
      · cases h
    · cases h
theorem flat_fit {b : Nat} {l : List Lf} : ∀ (m : Nat) (cs : List Value), cs.length = m * l.length→(∀ i, i < m→Fit b l ((cs.drop (i * l.length)).take l.length))→Fit b (List.replicate m l).flatten cs
  | 0, cs, h, _=>by
    have : cs = []:=List.length_eq_zero_iff.1 (by omega)
    subst this
    trivial
  | m + 1, cs, h, hf=>by
    rw [List.replicate_succ, List.flatten_cons]
    have a:=hf 0 (by omega)
    simp only [Nat.zero_mul, List.drop_zero] at a
    have c:=flat_fit (b:=b) (l:=l) m (cs.drop l.length) (by rw [List.length_drop, h, Nat.succ_mul];omega) fun i hi=>by
      have:=hf (i + 1) (by omega)
      rw [List.drop_drop]
      rw [show l.length + i * l.length = (i + 1) * l.length by rw [Nat.succ_mul];omega]
      exact this
    rw [← List.take_append_drop l.length cs]
    exact a.append c
theorem leaves_fit : ∀ (n : Nat) {fuel : Nat} {t : TypeId} {cs : List Value} {x : DataW H × List MemPlace} {l : List Lf}, leaves P n t = some l→DataW.trod enc P W 0 sp held fuel t cs = some x→Fit (Rows.uptoBulk x.1) l cs
  | 0, _, _, _, _, _, h, _=>by simp [leaves] at h
  | n + 1, fuel, t, cs, x, l, h, ht=>by
    simp only [leaves] at h
    split at h
    · rename_i k hu
      cases h
      obtain ⟨m, rfl, rfl, hw⟩:=DataW.trod_int hu ht
      exact ⟨⟨rfl, hw⟩, trivial⟩
    · rename_i hu
      cases h
      obtain ⟨m, rfl, rfl⟩:=DataW.trod_bool hu ht
      exact ⟨trivial, trivial⟩
    · rename_i hu
      cases h
      obtain ⟨s, rfl, rfl, _⟩:=DataW.trod_string hu ht
      refine ⟨?_, trivial⟩
      simp only [Fit1, Rows.uptoBulk]
      simp
    · rename_i m e hu
      split at h
      · rename_i l1 h1
        split at h
        · rename_i hc
          cases h
          obtain ⟨xs, q, rfl, rfl, hl, hx, hf⟩:=DataW.trod_array hu ht
          refine flat_fit m cs (by rw [hl, hc.2]) fun i hi=>?_
          have:=hf i hi
          rw [hc.1] at this
          have hg : xs[i]? = some xs[i]:=List.getElem?_eq_getElem (by omega)
          rw [hg] at this
          refine (leaves_fit n h1 this).mono ?_
          have b1:=bulk_part (d:=xs[i].1) (l:=xs.map (·.1)) (List.mem_map.2 ⟨_, List.mem_of_getElem? hg, rfl⟩)
          have b2:=bulk_agg (xs.map (·.1))
          simp only
          omega
        · cases h
      · cases h
    · rename_i fs hu
      split at h
      · rename_i l1 h1
        split at h
        · rename_i hc
          cases h
          obtain ⟨xs, q, rfl, rfl, hl, hx, hf⟩:=DataW.trod_struct hu ht
          have:=leafF_fit (P:=P) (F:=leaves P n) (b:=Rows.uptoBulk (.agg (xs.map (·.1)))) (cs:=cs) fs.toList 0 l h1 (by rw [hl, hc];omega) fun f hfm l2 h2 h3=>by
            obtain ⟨i, hi⟩:=List.mem_iff_getElem?.1 hfm
            rw [Array.getElem?_toList] at hi
            have hq:=hf i f hi
            have hlt : i < xs.length:=by rw [hx];exact (Array.getElem?_eq_some_iff.1 hi).1
            have hg : xs[i]? = some xs[i]:=List.getElem?_eq_getElem hlt
            rw [hg] at hq
            refine (leaves_fit n h2 hq).mono ?_
            have b1:=bulk_part (d:=xs[i].1) (l:=xs.map (·.1)) (List.mem_map.2 ⟨_, List.mem_of_getElem? hg, rfl⟩)
            have b2:=bulk_agg (xs.map (·.1))
            omega
          simpa using this
        · cases h
      · cases h
    · cases h
def lies (W : World) (b _ : Nat) : Prop:=b < W.heap.size
theorem add_none {b off k : Nat} : (⟨b, off, none⟩ : Addr).add k = ⟨b, off + k, none⟩:=by
  unfold Addr.add
  split
  · subst_vars;rfl
  · rfl
theorem cell_lies {a : Addr} {v : Value} (h : W.cell? a = some v) : a.block < W.heap.size:=by
  unfold World.cell? at h
  split at h
  · rename_i hb;exact (Array.getElem?_eq_some_iff.1 hb).1
  · simp at h
theorem spot_of {t e : TypeId} {r : Reach} {b0 len cap : Nat} {a : Addr} (ht : P.underlying t = some (.slice e)) (h : Cell.okWide P W r b0 t (.slice (some a) len cap)) : a.spot = none:=by
  simp only [Cell.okWide, ht, Cell.ok, World.has] at h
  exact h.2.2.2.1
theorem slice_read {t e : TypeId} {n : Nat} {ls : List Lf} {α : Type} {A : α→AV} {good : Nat→α→Prop} (ht : P.underlying t = some (.slice e)) (hn : P.cellsOf e = ls.length) (hl : leaves P n e = some ls)
    (hA : ∀ b vs, Fit b ls vs→∃ y : α, (A y).cells = vs.map .v∧good b y) (hmono : ∀ b b' y, b ≤ b'→good b y→good b' y)
    {r : Reach} {b0 fuel : Nat} {c : Value} {x : DataW H × List MemPlace} (hk : Cell.okWide P W r b0 t c) (h : DataW.trod enc P W 0 sp held fuel t [c] = some x) :
    ∃ l : List α, l.length ≤ Rows.uptoBulk x.1∧(∀ y ∈ l, good (Rows.uptoBulk x.1) y)∧PRel W (lies W) (.slice ls.length (l.map A) .no) c∧c.oneCell' = true:=by
  rcases DataW.trod_slice ht h with ⟨h1, h2⟩|⟨a, len, cap, elems, rest, m, rfl, h1, rfl, _, hlc, hm, hlen, hE, _, _⟩
  · simp only [List.cons.injEq, and_true] at h1
    subst h1
    exact ⟨[], Nat.zero_le _, by simp, .nil _ .no (.inl rfl), rfl⟩
  · simp only [List.cons.injEq, and_true] at h1
    subst h1
    have hsp:=spot_of (P:=P) (W:=W) (r:=r) (b0:=b0) (len:=len) (cap:=cap) ht hk
    obtain ⟨blk, off, spot⟩:=a
    simp only at hsp
    subst hsp
    rw [hn] at hE
    have hb:=bulk_slice (elems.map (·.1)) (rest.map (·.1))
    have each : ∀ i, i < len→∃ y : α, good (Rows.uptoBulk (.slice (elems.map (·.1)) (rest.map (·.1)))) y∧(A y).cells.length = ls.length∧∀ c u, (A y).cells[c]? = some u→∃ v, u = .v v∧W.cell? ⟨blk, off + i * ls.length + c, none⟩ = some v∧v.oneCell' = true:=by
      intro i hi
      have:=hE i hi
      have hz : elems[i]? = some (elems[i]'(by omega)):=List.getElem?_eq_getElem _
      rw [hz, Option.bind_eq_some_iff] at this
      obtain ⟨cs', hc, ht'⟩:=this
      have hfit:=leaves_fit n hl ht'
      obtain ⟨y, hy, hg⟩:=hA _ _ hfit
      obtain ⟨_, hcl, hcc⟩:=World.cells?_some hc
      have b1:=bulk_part (d:=(elems[i]'(by omega)).1) (l:=elems.map (·.1)) (List.mem_map.2 ⟨_, List.mem_of_getElem? hz, rfl⟩)
      refine ⟨y, hmono _ _ _ (by omega) hg, by rw [hy, List.length_map, hcl], fun k u hu=>?_⟩
      rw [hy, List.getElem?_map, Option.map_eq_some_iff] at hu
      obtain ⟨v, hv, rfl⟩:=hu
      have hkn : k < ls.length:=by rw [← hcl];exact (List.getElem?_eq_some_iff.1 hv).1
      have hw:=hcc k hkn
      rw [add_none, add_none] at hw
      exact ⟨v, rfl, by rw [hw];exact hv, hfit.one v (List.mem_of_getElem? hv)⟩
    have build : ∀ k, k ≤ len→∃ l : List α, l.length = k∧∀ (i : Nat) (y : α), l[i]? = some y→good (Rows.uptoBulk (.slice (elems.map (·.1)) (rest.map (·.1)))) y∧(A y).cells.length = ls.length∧∀ c u, (A y).cells[c]? = some u→∃ v, u = .v v∧W.cell? ⟨blk, off + i * ls.length + c, none⟩ = some v∧v.oneCell' = true:=by
      intro k
      induction k with
      | zero=>exact fun _=>⟨[], rfl, fun i y h=>by simp at h⟩
      | succ k ih =>
        intro hk
        obtain ⟨l, hl, hi⟩:=ih (by omega)
        obtain ⟨y, hy⟩:=each k (by omega)
        refine ⟨l++[y], by simp [hl], fun i u hu=>?_⟩
        by_cases hlt : i < l.length
        · rw [List.getElem?_append_left hlt] at hu
          exact hi i u hu
        · rw [List.getElem?_append_right (by omega)] at hu
          have : i - l.length = 0:=by
            have:=(List.getElem?_eq_some_iff.1 hu).1
            simp at this;omega
          rw [this] at hu
          simp at hu;subst hu
          have : i = k:=by omega
          subst this
          exact hy
    obtain ⟨l, hl, hi⟩:=build len (Nat.le_refl _)
    have hbl:=bulk_len (elems.map (·.1))
    rw [List.length_map, hlen] at hbl
    refine ⟨l, by simp only;omega, fun y hy=>?_, ?_, rfl⟩
    · obtain ⟨j, hj⟩:=List.mem_iff_getElem?.1 hy
      exact (hi j y hj).1
    · subst hl
      have:=PRel.slice (w:=W) (imm:=lies W) (sz:=ls.length) (es:=l.map A) (tok:=.no) (b:=blk) (off:=off) (cap:=cap)
        (fun i c=>match l[i]? with|some y=>(match (A y).cells[c]? with|some (.v v)=>v|_=>.bool false)|none=>.bool false) (by simpa using hlc) (.inl rfl) hm
        (fun i e he=>by
          rw [List.getElem?_map, Option.map_eq_some_iff] at he
          obtain ⟨y, hy, rfl⟩:=he
          exact (hi i y hy).2.1)
        (fun i e c u he hu=>by
          rw [List.getElem?_map, Option.map_eq_some_iff] at he
          obtain ⟨y, hy, rfl⟩:=he
          obtain ⟨v, rfl, hv, h1⟩:=(hi i y hy).2.2 c u hu
          simp only [hy, hu]
          exact ⟨hv, cell_lies hv, h1⟩)
        (fun i e c u he hu=>by
          rw [List.getElem?_map, Option.map_eq_some_iff] at he
          obtain ⟨y, hy, rfl⟩:=he
          obtain ⟨v, rfl, hv, h1⟩:=(hi i y hy).2.2 c u hu
          simp only [hy, hu]
          exact .v _)
      rw [List.length_map] at this
      exact this
theorem flat_arg {t : TypeId} {n : Nat} {ls : List Lf} (hl : leaves P n t = some ls) {v : Value} {d : DataW H} {ps : List MemPlace} (h : DataW.Trod enc P W 0 sp held t v d ps) : Fit (Rows.uptoBulk d) ls v.cells.toList:=by
  obtain ⟨fuel, hf⟩:=h
  exact leaves_fit n hl hf
end
theorem kept_of_below {W W' : World} {may : MemPlace→Prop} (h : Below W.heap.size W W') : W.keptBut W' may:=by
  refine ⟨h.os, h.output, fun i hi=>?_⟩
  rw [h.block i hi]
  cases W.heap[i]? with
  | none=>rfl
  | some o=>cases o<;>first|rfl|exact ⟨rfl, rfl, rfl, fun _ _=>rfl⟩|exact .inr ⟨rfl, rfl⟩
theorem laidOut : laidOutB Tryd.prog = true:=by kernel_rfl
theorem own : ownKnob Tryd.prog.godebug = none:=by kernel_rfl
theorem law_calls {f : FuncId} {args : List AV} {W : World} {cargs : Array Value} (hg : GlobOK W (lies W)) (h : PureA Tryd.prog f args (boolA true)) (hr : PRels W (lies W) args cargs) :
    Calls Tryd.prog f cargs W fun e W'=>e = .returned (.bool true)∧Below W.heap.size W W':=by
  refine (h.2 W (lies W) cargs ⟨fun b i hb=>hb, hg⟩ hr).mono ?_
  rintro e W' ⟨y, imm', rfl, _, hy, hb⟩
  have : y = .bool true:=by
    unfold boolA at hy
    cases hy
    rfl
  subst this
  exact ⟨rfl, hb⟩
end Go.Proofs.YtbpiibdcncfphaaDoor
namespace Go.Proofs.YtbpiibdcncfphaaDoor
open Go.Am Go.Proofs Go
def idxFrom {α : Type} (p : α→Bool) : Nat→List α→Int
  | _, []=>-1
  | i, x :: xs=>if p x then i else idxFrom p (i + 1) xs
def idx {α : Type} (p : α→Bool) (l : List α) : Int:=idxFrom p 0 l
theorem idxFrom_any {α : Type} (p : α→Bool) : ∀ (l : List α) (i : Nat), decide (0 ≤ idxFrom p i l) = l.any p
  | [], i=>by simp [idxFrom]
  | x :: xs, i=>by
    simp only [idxFrom, List.any_cons]
    by_cases h : p x = true
    · simp [h]
    · simp only [h]
      have:=idxFrom_any p xs (i + 1)
      simpa using this
theorem idx_any {α : Type} (p : α→Bool) (l : List α) : decide (0 ≤ idx p l) = l.any p:=idxFrom_any p l 0
def within (n l m : Int) : Bool:=l ≤ n && n ≤ m
def outside (l m n : Int) : Bool:=n < l || m < n
theorem within_c (n l m : Int) : PureA Tryd.prog 56 [intA n, intA l, intA m] (boolA (within n l m)):=by
  refine pureA_codeB tabOk { l:=0, f:=56 } mixed call_56 Tryd.func56 (by kernel_rfl) ?_
  conv=>whnf
  repeat (any_goals (first|exact falseI|((first|refine bd ?_ ?_|refine bn ?_ ?_)<;>intro _<;>first|(exfalso;omega)|conv=>whnf)|((first|refine dI ?_|refine okI ?_|refine bt ?_|refine bi (fun _=>?_) (fun _=>?_)|refine bndI ?_|intro _)<;>conv=>whnf)))
  all_goals (refine ⟨⟨?_⟩, trivial⟩;simp [*, within, oneOf, boolA])
theorem within1_c (n l m : Int) : PureA Tryd.prog 96 [intA n, intA l, intA m] (boolA (within n l m)):=by
  refine pureA_codeB tabOk { l:=0, f:=96 } mixed call_96 Tryd.func96 (by kernel_rfl) ?_
  conv=>whnf
  repeat (any_goals (first|exact falseI|((first|refine bd ?_ ?_|refine bn ?_ ?_)<;>intro _<;>first|(exfalso;omega)|conv=>whnf)|((first|refine dI ?_|refine okI ?_|refine bt ?_|refine bi (fun _=>?_) (fun _=>?_)|refine bndI ?_|intro _)<;>conv=>whnf)))
  all_goals (refine ⟨⟨?_⟩, trivial⟩;simp [*, within, oneOf, boolA])
theorem outside_c (n l m : Int) : PureA Tryd.prog 78 [intA n, .cptr [intA l], .cptr [intA m]] (boolA (outside l m n)):=by
  refine pureA_codeB tabOk { l:=0, f:=78 } mixed call_78 Tryd.func78 (by kernel_rfl) ?_
  conv=>whnf
  repeat (any_goals (first|exact falseI|((first|refine bd ?_ ?_|refine bn ?_ ?_)<;>intro _<;>first|(exfalso;omega)|conv=>whnf)|((first|refine dI ?_|refine okI ?_|refine bt ?_|refine bi (fun _=>?_) (fun _=>?_)|refine bndI ?_|intro _)<;>conv=>whnf)))
  all_goals (refine ⟨⟨?_⟩, trivial⟩;simp [*, outside, oneOf, boolA])
theorem idxFrom_cons {α : Type} {p : α→Bool} {l : List α} {i : Nat} {x : α} (hd : l.drop i = x :: l.drop (i + 1)) (H : idx p l = idxFrom p i (l.drop i)) :
    idx p l = if p x then (i : Int) else idxFrom p (i + 1) (l.drop (i + 1)):=by rw [H, hd];rfl
theorem ioutside_c (l : List Int) (lo hi : Int) (hl : l.length ≤ 1048576) : PureA Tryd.prog 95 [intsA l, .func (.func 78) [] [.cptr [intA lo], .cptr [intA hi]]] (intA (idx (outside lo hi) l)):=by
  refine pureA_codeB tabOk { l:=0, f:=95 } mixed call_95 Tryd.func95 (by kernel_rfl) ?_
  conv=>whnf
  refine loopK tabOk { l:=0, f:=95 } mixed (fun i : Nat=>[(8, intA i)]) (fun _=>[]) (fun _=>[]) (fun i=>i ≤ l.length∧idx (outside lo hi) l = idxFrom (outside lo hi) i (l.drop i)) (fun i=>l.length - i) 0 (by kernel_rfl)
    ⟨Nat.zero_le _, rfl⟩ ?_
  conv=>whnf
  refine ⟨⟨slotsLe_cons rfl trivial, trivial, trivial⟩, ?_⟩
  intro i ⟨hi, H⟩
  conv=>whnf
  refine brP_dec (fun h1=>?_) (fun h1=>?_)
  · simp only [List.length_map] at h1
    obtain ⟨x, hx, hd⟩:=drop_cons (l:=l) (i:=i) (by omega)
    have H':=idxFrom_cons hd H
    conv=>whnf
    repeat (any_goals (first|exact falseI|((first|refine bd ?_ ?_|refine bn ?_ ?_)<;>intro _<;>first|(exfalso;omega)|conv=>whnf)|((first|refine optP_map hx rfl ?_|refine callP_a (outside_c x lo _) ?_|refine dI ?_|refine okI ?_|refine bt ?_|refine bi (fun _=>?_) (fun _=>?_)|refine bndI ?_|intro _)<;>conv=>whnf)))
    · rename_i he
      simp only [he, if_true] at H'
      (refine ⟨⟨?_⟩, trivial⟩;simp [oneOf, intA, H'])
    · rename_i he
      simp only [he, Bool.false_eq_true, if_false] at H'
      (refine ⟨i + 1, ⟨by omega, H'⟩, by omega, ?_⟩;(conv=>whnf);refine ⟨?_, ?_, ?_⟩<;>repeat (first|exact trivial|refine sc rfl ?_|refine kn ?_|refine kc rfl ?_))
  · conv=>whnf
    simp only [List.length_map] at h1
    have : i = l.length:=by omega
    subst this
    (refine ⟨⟨?_⟩, trivial⟩;simp [oneOf, intA, H, idxFrom])
theorem anyOutside_c (l : List Int) (lo hi : Int) (hl : l.length ≤ 1048576) : PureA Tryd.prog 77 [intsA l, .func (.func 78) [] [.cptr [intA lo], .cptr [intA hi]]] (boolA (l.any (outside lo hi))):=by
  refine pureA_codeB tabOk { l:=0, f:=77 } mixed call_77 Tryd.func77 (by kernel_rfl) ?_
  conv=>whnf
  refine callP_a (ioutside_c l lo hi hl) ?_
  conv=>whnf
  (refine ⟨⟨?_⟩, trivial⟩;rw [← idx_any];rfl)
theorem beyond_c (l : List Int) (lo hi : Int) (hl : l.length ≤ 1048576) : PureA Tryd.prog 44 [intA lo, intA hi, intsA l] (boolA (l.any (outside lo hi))):=by
  refine pureA_codeB tabOk { l:=0, f:=44 } mixed call_44 Tryd.func44 (by kernel_rfl) ?_
  conv=>whnf
  refine callP_f (anyOutside_c l lo hi hl) rfl ?_
  conv=>whnf
  (refine ⟨⟨?_⟩, trivial⟩;rfl)
def bLetter (b : UInt8) : Bool:=97 ≤ b.toNat && b.toNat ≤ 122
def bOther (b : UInt8) : Bool:=(48 ≤ b.toNat && b.toNat ≤ 57) || b.toNat == 46
def nameL : Bool→List UInt8→Bool
  | _, []=>true
  | first, b :: bs=>(bLetter b || (!first && bOther b)) && nameL false bs
def nameOk (s : ByteArray) : Bool:=decide (s.data.toList ≠ []) && decide (s.data.toList.length ≤ 16) && nameL true s.data.toList
theorem byteAt_of {s : ByteArray} {i : Nat} {b : UInt8} (h : s.data.toList[i]? = some b) : byteAt s i = b.toNat:=by
  unfold byteAt
  rw [Array.getD_eq_getD_getElem?, ← Array.getElem?_toList, h];rfl
theorem size_eq (s : ByteArray) : s.size = s.data.toList.length:=by simp
theorem nameL_ne {s : ByteArray} (h : s.size ≠ 0) (h2 : s.size ≤ 16) : nameOk s = nameL true s.data.toList:=by
  have e:=size_eq s
  have h1 : s.data.toList ≠ []:=fun e'=>h (by rw [e, e'];rfl)
  unfold nameOk
  rw [decide_eq_true h1, decide_eq_true (by omega)]
  simp
theorem letter_w (b : UInt8) : within (b.toNat : Int) 97 122 = bLetter b:=by rw [Bool.eq_iff_iff];simp [within, bLetter];omega
theorem other_w (b : UInt8) : bOther b = (within (b.toNat : Int) 48 57 || b.toNat == 46):=by
  have : within (b.toNat : Int) 48 57 = (48 ≤ b.toNat && b.toNat ≤ 57):=by rw [Bool.eq_iff_iff];simp [within];omega
  simp [bOther, this]
theorem refName_c (s : ByteArray) : PureA Tryd.prog 81 [strA s] (boolA (nameOk s)):=by
  have hsz:=size_eq s
  refine pureA_codeB tabOk { l:=0, f:=81 } mixed call_81 Tryd.func81 (by kernel_rfl) ?_
  conv=>whnf
  repeat (any_goals (first|exact falseI|((first|refine bd ?_ ?_|refine bn ?_ ?_)<;>intro _<;>first|(exfalso;omega)|conv=>whnf)|((first|refine dI ?_|refine okI ?_|refine bt ?_|refine bi (fun _=>?_) (fun _=>?_)|refine bndI ?_|intro _)<;>conv=>whnf)))
  · rename_i h
    have : s.data.toList = []:=List.eq_nil_of_length_eq_zero (by omega)
    (refine ⟨⟨?_⟩, trivial⟩;simp [oneOf, boolA, nameOk, this])
  · rename_i h1 h2
    have : ¬ s.data.toList.length ≤ 16:=by omega
    (refine ⟨⟨?_⟩, trivial⟩;simp [oneOf, boolA, nameOk];simp at this;omega)
  · rename_i h1 h2
    have e0:=nameL_ne (s:=s) (by omega) (by omega)
    have hle : s.size ≤ 16:=by omega
    clear h1 h2
    refine loopK tabOk { l:=0, f:=81 } mixed (fun i : Nat=>[(3, intA i)]) (fun _=>[]) (fun _=>[]) (fun i=>i ≤ s.size∧nameOk s = nameL (i == 0) (s.data.toList.drop i)) (fun i=>s.size - i) 0 (by kernel_rfl)
      ⟨Nat.zero_le _, e0⟩ ?_
    conv=>whnf
    refine ⟨⟨slotsLe_cons rfl trivial, trivial, trivial⟩, ?_⟩
    intro i ⟨hi, H⟩
    conv=>whnf
    refine brP_dec (fun h1=>?_) (fun h1=>?_)
    · obtain ⟨b, hb, hd⟩:=drop_cons (l:=s.data.toList) (i:=i) (by omega)
      have hba : byteAt s i = b.toNat:=byteAt_of hb
      have hlt:=b.toNat_lt
      have hL : PureA Tryd.prog 96 [intA (byteAt s (i : Int).toNat), intA 97, intA 122] (boolA (bLetter b)):=by rw [Int.toNat_natCast, hba, ← letter_w];exact within1_c _ _ _
      have hD : PureA Tryd.prog 96 [intA (byteAt s (i : Int).toNat), intA 48, intA 57] (boolA (within b.toNat 48 57)):=by rw [Int.toNat_natCast, hba];exact within1_c _ _ _
      have h46 : (byteAt s (i : Int).toNat = 46) = (b.toNat = 46):=by rw [Int.toNat_natCast, hba];exact propext ⟨fun h=>by omega, fun h=>by omega⟩
      have hin : inI (byteAt s (i : Int).toNat):=by rw [Int.toNat_natCast, hba];unfold inI;omega
      rw [hd] at H
      simp only [nameL, other_w] at H
      clear hlt hb hd hba e0
      conv=>whnf
      repeat (any_goals (first|exact falseI|((first|refine bd ?_ ?_|refine bn ?_ ?_)<;>intro _<;>first|(exfalso;omega)|conv=>whnf)|((first|refine callP_a hL ?_|refine callP_a hD ?_|refine And.intro hin ?_|refine dI ?_|refine okI ?_|refine bt ?_|refine bi (fun _=>?_) (fun _=>?_)|refine bndI ?_|intro _)<;>conv=>whnf)))
      all_goals clear hL hD hin
      all_goals first
        | (refine ⟨⟨?_⟩, trivial⟩;simp_all [oneOf, boolA];done)
        | (refine ⟨i + 1, ⟨by omega, by simp_all⟩, by omega, ?_⟩;(conv=>whnf);refine ⟨?_, ?_, ?_⟩<;>repeat (first|exact trivial|refine sc rfl ?_|refine kn ?_|refine kc rfl ?_))
    · conv=>whnf
      have : s.data.toList.drop i = []:=List.drop_eq_nil_of_le (by omega)
      rw [this] at H
      (refine ⟨⟨?_⟩, trivial⟩;simp [oneOf, boolA, H, nameL])
theorem get_at {s : ByteArray} {i : Nat} {b : UInt8} (h : s.data.toList[i]? = some b) : s.get! i = b:=by
  have : s.data[i]? = some b:=by rw [← Array.getElem?_toList];exact h
  show s.data[i]! = b
  rw [getElem!_def, this]
theorem decode_low {s : ByteArray} {i : Nat} {b : UInt8} (h : s.data.toList[i]? = some b) (hb : b.toNat < 128) : Utf8.decode s i = (b.toNat, 1):=by
  unfold Utf8.decode
  simp only [Nat.add_zero, get_at h, if_pos hb]
theorem decode_high {s : ByteArray} {i : Nat} {b : UInt8} (h : s.data.toList[i]? = some b) (hb : ¬ b.toNat < 128) : 128 ≤ (Utf8.decode s i).1:=by
  unfold Utf8.decode
  simp only [Nat.add_zero, get_at h, if_neg hb]
  repeat (first|split|(simp only [Utf8.runeError];omega)|(simp only [Bool.and_eq_true, decide_eq_true_eq] at *;omega))
theorem name_c (s : ByteArray) (hl : s.size ≤ 1048576) : PureA Tryd.prog 47 [strA s] (boolA (nameOk s)):=by
  have hsz:=size_eq s
  refine pureA_codeB tabOk { l:=0, f:=47 } mixed call_47 Tryd.func47 (by kernel_rfl) ?_
  conv=>whnf
  refine loopK tabOk { l:=0, f:=47 } mixed (fun _ : Nat=>[]) (fun i=>[(⟨0, 47, 7⟩, (1, some (0, [strA s, intA i])))]) (fun _=>[]) (fun i=>i ≤ s.size∧nameL true s.data.toList = nameL (i == 0) (s.data.toList.drop i)) (fun i=>s.size - i) 0 (by kernel_rfl)
    ⟨Nat.zero_le _, rfl⟩ ?_
  conv=>whnf
  refine ⟨⟨trivial, keysLe_cons rfl trivial, trivial⟩, ?_⟩
  intro i ⟨hi, H⟩
  conv=>whnf
  refine brP_dec (fun h1=>?_) (fun h1=>?_)
  · obtain ⟨b, hb, hd⟩:=drop_cons (l:=s.data.toList) (i:=i) (by omega)
    rw [hd] at H
    simp only [nameL] at H
    have hlt:=b.toNat_lt
    by_cases h128 : b.toNat < 128
    · have hdec : Utf8.decode s (i : Int).toNat = (b.toNat, 1):=by rw [Int.toNat_natCast];exact decode_low hb h128
      have hc : ((Utf8.decode s (i : Int).toNat).1 : Int) = b.toNat:=by rw [hdec]
      conv=>whnf
      repeat (any_goals (first|exact falseI|((first|refine bd ?_ ?_|refine bn ?_ ?_)<;>intro _<;>first|(exfalso;omega)|conv=>whnf)|((first|refine dI ?_|refine okI ?_|refine bt ?_|refine bi (fun _=>?_) (fun _=>?_)|refine bndI ?_|intro _)<;>conv=>whnf)))
      all_goals first
        | omega
        | (refine ⟨⟨?_⟩, trivial⟩;have hf : nameL true s.data.toList = false:=(by rw [H];first|(simp [bLetter, bOther];done)|(simp [bLetter, bOther];omega));simp [nameOk, hf, oneOf, boolA];done)
        | (refine ⟨i + 1, ⟨by omega, by (rw [H];first|(simp [bLetter, bOther];done)|(simp [bLetter, bOther];omega))⟩, by omega, ?_⟩;(conv=>whnf);exact ⟨by repeat (first|exact trivial|refine sc rfl ?_), keysLe_cons (by simp only [hdec];rfl) trivial, trivial⟩)
    · have hdec : 128 ≤ (Utf8.decode s (i : Int).toNat).1:=by rw [Int.toNat_natCast];exact decode_high hb h128
      have hf : nameL true s.data.toList = false:=by
        have h1 : bLetter b = false:=by simp [bLetter];omega
        have h2 : bOther b = false:=by simp [bOther];omega
        rw [H, h1, h2];simp
      conv=>whnf
      repeat (any_goals (first|exact falseI|((first|refine bd ?_ ?_|refine bn ?_ ?_)<;>intro _<;>first|(exfalso;omega)|conv=>whnf)|((first|refine dI ?_|refine okI ?_|refine bt ?_|refine bi (fun _=>?_) (fun _=>?_)|refine bndI ?_|intro _)<;>conv=>whnf)))
      all_goals first
        | omega
        | (refine ⟨⟨?_⟩, trivial⟩;simp [nameOk, hf, oneOf, boolA];done)
  · conv=>whnf
    have hdr : s.data.toList.drop i = []:=List.drop_eq_nil_of_le (by omega)
    rw [hdr] at H
    repeat (any_goals (first|exact falseI|((first|refine bd ?_ ?_|refine bn ?_ ?_)<;>intro _<;>first|(exfalso;omega)|conv=>whnf)|((first|refine dI ?_|refine okI ?_|refine bt ?_|refine bi (fun _=>?_) (fun _=>?_)|refine bndI ?_|intro _)<;>conv=>whnf)))
    · rename_i h
      (refine ⟨⟨?_⟩, trivial⟩;simp [nameOk, oneOf, boolA, h])
    · rename_i h
      have hne : s.data.toList ≠ []:=fun e=>h (by cases s with|mk a=>simp at e;simp [e])
      have h16 : decide ((s.size : Int) ≤ 16) = decide (s.data.toList.length ≤ 16):=by rw [hsz, Bool.eq_iff_iff, decide_eq_true_eq, decide_eq_true_eq];omega
      refine ⟨⟨?_⟩, trivial⟩
      rw [h16]
      simp only [nameOk, oneOf, boolA, H, nameL, decide_eq_true hne, Bool.and_true, Bool.true_and]
theorem pickM_min (a b : Int) : pickM false a b = min a b:=by
  simp only [pickM]
end Go.Proofs.YtbpiibdcncfphaaDoor
namespace Go.Proofs.YtbpiibdcncfphaaDoor
open Go.Am Go.Proofs Go
def headErr (before : List Head) (h : Head) : Int :=
  if nameOk h.name = false then 6 else if before.any (fun x=>decide (x.name = h.name)) = true then 5 else if ((outside 0 40 h.wax.b || outside 0 40 h.wax.t || outside 0 40 h.wax.c) || outside 0 364 h.days) = true then 7 else 0
def orderErr (before : List Order) (o : Order) : Int :=
  if nameOk o.name = false then 6 else if before.any (fun x=>decide (x.name = o.name)) = true then 5 else if (outside 1 60 o.weight || (outside 0 1000 o.tlo || outside 0 1000 o.thi || outside 0 1000 o.clo || outside 0 1000 o.chi)) = true then 7 else if (decide (o.thi < o.tlo) || decide (o.chi < o.clo)) = true then 2 else 0
def firstFrom {α : Type} (g : Nat→α→Int) : Nat→List α→Int × Int
  | _, []=>(0, 0)
  | i, x :: xs=>if g i x = 0 then firstFrom g (i + 1) xs else (i, g i x)
def Store.headsErr (s : Store) : Int × Int:=firstFrom (fun i h=>headErr (s.heads.take i) h) 0 s.heads
def Store.ordersErr (s : Store) : Int × Int:=firstFrom (fun i o=>orderErr (s.orders.take i) o) 0 s.orders
def Store.check (s : Store) : Int × Int × Int :=
  if ((outside 0 40 s.lots.b || outside 0 40 s.lots.t || outside 0 40 s.lots.c) || outside 1 364 s.fade) = true then (1, 0, 7) else if (6 : Int) < s.heads.length then (2, 0, 3) else if s.headsErr.2 ≠ 0 then (2, s.headsErr.1, s.headsErr.2)
  else if (3 : Int) < s.orders.length then (3, 0, 3) else if s.ordersErr.2 ≠ 0 then (3, s.ordersErr.1, s.ordersErr.2) else (0, 0, 0)
def Store.small (s : Store) : Prop:=s.heads.length ≤ 1048576∧s.orders.length ≤ 1048576∧(∀ h ∈ s.heads, h.name.size ≤ 1048576)∧∀ o ∈ s.orders, o.name.size ≤ 1048576
theorem sameNameH_c (x f : Head) : PureA Tryd.prog 49 [headA x, .cptr [strA f.name, intA f.wax.b, intA f.wax.t, intA f.wax.c, intA f.days, boolA f.kept]] (boolA (decide (x.name = f.name))):=by
  refine pureA_codeB tabOk { l:=0, f:=49 } mixed call_49 Tryd.func49 (by kernel_rfl) ?_
  conv=>whnf
  (refine ⟨⟨?_⟩, trivial⟩;rfl)
theorem inameH_c (l : List Head) (f : Head) (hl : l.length ≤ 1048576) : PureA Tryd.prog 79 [headsA l, .func (.func 49) [] [.cptr [strA f.name, intA f.wax.b, intA f.wax.t, intA f.wax.c, intA f.days, boolA f.kept]]] (intA (idx (fun x=>decide (x.name = f.name)) l)):=by
  refine pureA_codeB tabOk { l:=0, f:=79 } mixed call_79 Tryd.func79 (by kernel_rfl) ?_
  conv=>whnf
  refine loopK tabOk { l:=0, f:=79 } mixed (fun i : Nat=>[(8, intA i)]) (fun _=>[]) (fun _=>[]) (fun i=>i ≤ l.length∧idx (fun x : Head=>decide (x.name = f.name)) l = idxFrom (fun x : Head=>decide (x.name = f.name)) i (l.drop i)) (fun i=>l.length - i) 0 (by kernel_rfl)
    ⟨Nat.zero_le _, rfl⟩ ?_
  conv=>whnf
  refine ⟨⟨slotsLe_cons rfl trivial, trivial, trivial⟩, ?_⟩
  intro i ⟨hi, H⟩
  conv=>whnf
  refine brP_dec (fun h1=>?_) (fun h1=>?_)
  · simp only [List.length_map] at h1
    obtain ⟨x, hx, hd⟩:=drop_cons (l:=l) (i:=i) (by omega)
    have H':=idxFrom_cons hd H
    conv=>whnf
    repeat (any_goals (first|exact falseI|((first|refine bd ?_ ?_|refine bn ?_ ?_)<;>intro _<;>first|(exfalso;omega)|conv=>whnf)|((first|refine optP_map hx rfl ?_|refine callP_a (sameNameH_c x f) ?_|refine dI ?_|refine okI ?_|refine bt ?_|refine bi (fun _=>?_) (fun _=>?_)|refine bndI ?_|intro _)<;>conv=>whnf)))
    · rename_i he
      simp only [he, if_true] at H'
      (refine ⟨⟨?_⟩, trivial⟩;simp [oneOf, intA, H'])
    · rename_i he
      simp only [he, Bool.false_eq_true, if_false] at H'
      (refine ⟨i + 1, ⟨by omega, H'⟩, by omega, ?_⟩;(conv=>whnf);refine ⟨?_, ?_, ?_⟩<;>repeat (first|exact trivial|refine sc rfl ?_|refine kn ?_|refine kc rfl ?_))
  · conv=>whnf
    simp only [List.length_map] at h1
    have : i = l.length:=by omega
    subst this
    (refine ⟨⟨?_⟩, trivial⟩;simp [oneOf, intA, H, idxFrom])
theorem anyNameH_c (l : List Head) (f : Head) (hl : l.length ≤ 1048576) : PureA Tryd.prog 48 [headsA l, .func (.func 49) [] [.cptr [strA f.name, intA f.wax.b, intA f.wax.t, intA f.wax.c, intA f.days, boolA f.kept]]] (boolA (l.any (fun x=>decide (x.name = f.name)))):=by
  refine pureA_codeB tabOk { l:=0, f:=48 } mixed call_48 Tryd.func48 (by kernel_rfl) ?_
  conv=>whnf
  refine callP_a (inameH_c l f hl) ?_
  conv=>whnf
  (refine ⟨⟨?_⟩, trivial⟩;rw [← idx_any];rfl)
theorem firstH_c (s : Store) (l : List Head) (g : Nat→Head→Int) (hl : l.length ≤ 1048576)
    (h : ∀ (i : Nat) x, l[i]? = some x→PureA Tryd.prog 46 ([intA i, headA x, .cptr (storeC s)]) (intA (g i x))) :
    PureA Tryd.prog 45 [headsA l, .func (.func 46) [] [.cptr (storeC s)]] (.tuple [intA (firstFrom g 0 l).1, intA (firstFrom g 0 l).2]):=by
  refine pureA_codeB tabOk { l:=0, f:=45 } mixed call_45 Tryd.func45 (by kernel_rfl) ?_
  conv=>whnf
  refine loopK tabOk { l:=0, f:=45 } mixed (fun i : Nat=>[(11, intA i)]) (fun _=>[]) (fun _=>[]) (fun i=>i ≤ l.length∧firstFrom g 0 l = firstFrom g i (l.drop i)) (fun i=>l.length - i) 0 (by kernel_rfl)
    ⟨Nat.zero_le _, rfl⟩ ?_
  conv=>whnf
  refine ⟨⟨slotsLe_cons rfl trivial, trivial, trivial⟩, ?_⟩
  intro i ⟨hi, H⟩
  conv=>whnf
  refine brP_dec (fun h1=>?_) (fun h1=>?_)
  · simp only [List.length_map] at h1
    obtain ⟨x, hx, hd⟩:=drop_cons (l:=l) (i:=i) (by omega)
    rw [hd] at H
    have hg:=h i x hx
    generalize hy : g i x = y at *
    simp only [firstFrom, hy] at H
    conv=>whnf
    repeat (any_goals (first|exact falseI|((first|refine bd ?_ ?_|refine bn ?_ ?_)<;>intro _<;>first|(exfalso;omega)|conv=>whnf)|((first|refine optP_map hx rfl ?_|refine callP_a hg ?_|refine dI ?_|refine okI ?_|refine bt ?_|refine bi (fun _=>?_) (fun _=>?_)|refine bndI ?_|intro _)<;>conv=>whnf)))
    · rename_i h2
      rw [if_pos h2] at H
      (refine ⟨i + 1, ⟨by omega, H⟩, by omega, ?_⟩;(conv=>whnf);refine ⟨?_, ?_, ?_⟩<;>repeat (first|exact trivial|refine sc rfl ?_|refine kn ?_|refine kc rfl ?_))
    · rename_i h2
      rw [if_neg h2] at H
      (refine ⟨⟨?_⟩, trivial⟩;simp [oneOf, intA, H])
  · conv=>whnf
    simp only [List.length_map] at h1
    have : i = l.length:=by omega
    subst this
    (refine ⟨⟨?_⟩, trivial⟩;simp [oneOf, intA, H, firstFrom])
theorem sameNameO_c (x f : Order) : PureA Tryd.prog 53 [orderA x, .cptr [strA f.name, intA f.weight, intA f.tlo, intA f.thi, intA f.clo, intA f.chi]] (boolA (decide (x.name = f.name))):=by
  refine pureA_codeB tabOk { l:=0, f:=53 } mixed call_53 Tryd.func53 (by kernel_rfl) ?_
  conv=>whnf
  (refine ⟨⟨?_⟩, trivial⟩;rfl)
theorem inameO_c (l : List Order) (f : Order) (hl : l.length ≤ 1048576) : PureA Tryd.prog 80 [ordersA l, .func (.func 53) [] [.cptr [strA f.name, intA f.weight, intA f.tlo, intA f.thi, intA f.clo, intA f.chi]]] (intA (idx (fun x=>decide (x.name = f.name)) l)):=by
  refine pureA_codeB tabOk { l:=0, f:=80 } mixed call_80 Tryd.func80 (by kernel_rfl) ?_
  conv=>whnf
  refine loopK tabOk { l:=0, f:=80 } mixed (fun i : Nat=>[(8, intA i)]) (fun _=>[]) (fun _=>[]) (fun i=>i ≤ l.length∧idx (fun x : Order=>decide (x.name = f.name)) l = idxFrom (fun x : Order=>decide (x.name = f.name)) i (l.drop i)) (fun i=>l.length - i) 0 (by kernel_rfl)
    ⟨Nat.zero_le _, rfl⟩ ?_
  conv=>whnf
  refine ⟨⟨slotsLe_cons rfl trivial, trivial, trivial⟩, ?_⟩
  intro i ⟨hi, H⟩
  conv=>whnf
  refine brP_dec (fun h1=>?_) (fun h1=>?_)
  · simp only [List.length_map] at h1
    obtain ⟨x, hx, hd⟩:=drop_cons (l:=l) (i:=i) (by omega)
    have H':=idxFrom_cons hd H
    conv=>whnf
    repeat (any_goals (first|exact falseI|((first|refine bd ?_ ?_|refine bn ?_ ?_)<;>intro _<;>first|(exfalso;omega)|conv=>whnf)|((first|refine optP_map hx rfl ?_|refine callP_a (sameNameO_c x f) ?_|refine dI ?_|refine okI ?_|refine bt ?_|refine bi (fun _=>?_) (fun _=>?_)|refine bndI ?_|intro _)<;>conv=>whnf)))
    · rename_i he
      simp only [he, if_true] at H'
      (refine ⟨⟨?_⟩, trivial⟩;simp [oneOf, intA, H'])
    · rename_i he
      simp only [he, Bool.false_eq_true, if_false] at H'
      (refine ⟨i + 1, ⟨by omega, H'⟩, by omega, ?_⟩;(conv=>whnf);refine ⟨?_, ?_, ?_⟩<;>repeat (first|exact trivial|refine sc rfl ?_|refine kn ?_|refine kc rfl ?_))
  · conv=>whnf
    simp only [List.length_map] at h1
    have : i = l.length:=by omega
    subst this
    (refine ⟨⟨?_⟩, trivial⟩;simp [oneOf, intA, H, idxFrom])
theorem anyNameO_c (l : List Order) (f : Order) (hl : l.length ≤ 1048576) : PureA Tryd.prog 52 [ordersA l, .func (.func 53) [] [.cptr [strA f.name, intA f.weight, intA f.tlo, intA f.thi, intA f.clo, intA f.chi]]] (boolA (l.any (fun x=>decide (x.name = f.name)))):=by
  refine pureA_codeB tabOk { l:=0, f:=52 } mixed call_52 Tryd.func52 (by kernel_rfl) ?_
  conv=>whnf
  refine callP_a (inameO_c l f hl) ?_
  conv=>whnf
  (refine ⟨⟨?_⟩, trivial⟩;rw [← idx_any];rfl)
theorem firstO_c (s : Store) (l : List Order) (g : Nat→Order→Int) (hl : l.length ≤ 1048576)
    (h : ∀ (i : Nat) x, l[i]? = some x→PureA Tryd.prog 51 ([intA i, orderA x, .cptr (storeC s)]) (intA (g i x))) :
    PureA Tryd.prog 50 [ordersA l, .func (.func 51) [] [.cptr (storeC s)]] (.tuple [intA (firstFrom g 0 l).1, intA (firstFrom g 0 l).2]):=by
  refine pureA_codeB tabOk { l:=0, f:=50 } mixed call_50 Tryd.func50 (by kernel_rfl) ?_
  conv=>whnf
  refine loopK tabOk { l:=0, f:=50 } mixed (fun i : Nat=>[(11, intA i)]) (fun _=>[]) (fun _=>[]) (fun i=>i ≤ l.length∧firstFrom g 0 l = firstFrom g i (l.drop i)) (fun i=>l.length - i) 0 (by kernel_rfl)
    ⟨Nat.zero_le _, rfl⟩ ?_
  conv=>whnf
  refine ⟨⟨slotsLe_cons rfl trivial, trivial, trivial⟩, ?_⟩
  intro i ⟨hi, H⟩
  conv=>whnf
  refine brP_dec (fun h1=>?_) (fun h1=>?_)
  · simp only [List.length_map] at h1
    obtain ⟨x, hx, hd⟩:=drop_cons (l:=l) (i:=i) (by omega)
    rw [hd] at H
    have hg:=h i x hx
    generalize hy : g i x = y at *
    simp only [firstFrom, hy] at H
    conv=>whnf
    repeat (any_goals (first|exact falseI|((first|refine bd ?_ ?_|refine bn ?_ ?_)<;>intro _<;>first|(exfalso;omega)|conv=>whnf)|((first|refine optP_map hx rfl ?_|refine callP_a hg ?_|refine dI ?_|refine okI ?_|refine bt ?_|refine bi (fun _=>?_) (fun _=>?_)|refine bndI ?_|intro _)<;>conv=>whnf)))
    · rename_i h2
      rw [if_pos h2] at H
      (refine ⟨i + 1, ⟨by omega, H⟩, by omega, ?_⟩;(conv=>whnf);refine ⟨?_, ?_, ?_⟩<;>repeat (first|exact trivial|refine sc rfl ?_|refine kn ?_|refine kc rfl ?_))
    · rename_i h2
      rw [if_neg h2] at H
      (refine ⟨⟨?_⟩, trivial⟩;simp [oneOf, intA, H])
  · conv=>whnf
    simp only [List.length_map] at h1
    have : i = l.length:=by omega
    subst this
    (refine ⟨⟨?_⟩, trivial⟩;simp [oneOf, intA, H, firstFrom])
theorem headErr_c (s : Store) (i : Nat) (f : Head) (hr : s.small) (hi : i ≤ s.heads.length) (hf : f.name.size ≤ 1048576) :
    PureA Tryd.prog 46 [intA i, headA f, .cptr (storeC s)] (intA (headErr (s.heads.take i) f)):=by
  obtain ⟨h1, h2, _⟩:=hr
  refine pureA_codeB tabOk { l:=0, f:=46 } mixed call_46 Tryd.func46 (by kernel_rfl) ?_
  conv=>whnf
  have hn:=name_c f.name hf
  have ha : PureA Tryd.prog 48 [.slice 6 ((s.heads.map headA).take (i : Int).toNat) .no, .func (.func 49) [] [.cptr [strA f.name, intA f.wax.b, intA f.wax.t, intA f.wax.c, intA f.days, boolA f.kept]]] (boolA ((s.heads.take i).any (fun x=>decide (x.name = f.name)))):=by
    have:=anyNameH_c (s.heads.take i) f (by simp;omega)
    simpa [headsA, List.map_take] using this
  have hb1:=beyond_c [f.wax.b, f.wax.t, f.wax.c] 0 40 (by simp)
  have hb2:=beyond_c [f.days] 0 364 (by simp)
  simp only [List.any_cons, List.any_nil, Bool.or_false, ← Bool.or_assoc] at hb1 hb2
  unfold headErr
  generalize nameOk f.name = b1 at *
  generalize (s.heads.take i).any (fun x=>decide (x.name = f.name)) = b2 at *
  generalize (outside 0 40 f.wax.b || outside 0 40 f.wax.t || outside 0 40 f.wax.c) = b3 at *
  generalize outside 0 364 f.days = b4 at *
  cases b1<;>cases b2<;>cases b3<;>cases b4
  all_goals
    repeat (any_goals (first|exact falseI|((first|refine bd ?_ ?_|refine bn ?_ ?_)<;>intro _<;>first|(exfalso;omega)|conv=>whnf)|((first|refine callP_a hn ?_|refine callP_f ha rfl ?_|refine callP_f hb1 rfl ?_|refine callP_a hb2 ?_|refine dI ?_|refine okI ?_|refine bt ?_|refine bi (fun _=>?_) (fun _=>?_)|refine bndI ?_|intro _)<;>conv=>whnf)))
  all_goals (refine ⟨⟨?_⟩, trivial⟩;rfl)
theorem orderErr_c (s : Store) (i : Nat) (f : Order) (hr : s.small) (hi : i ≤ s.orders.length) (hf : f.name.size ≤ 1048576) :
    PureA Tryd.prog 51 [intA i, orderA f, .cptr (storeC s)] (intA (orderErr (s.orders.take i) f)):=by
  obtain ⟨h1, h2, _⟩:=hr
  refine pureA_codeB tabOk { l:=0, f:=51 } mixed call_51 Tryd.func51 (by kernel_rfl) ?_
  conv=>whnf
  have hn:=name_c f.name hf
  have ha : PureA Tryd.prog 52 [.slice 6 ((s.orders.map orderA).take (i : Int).toNat) .no, .func (.func 53) [] [.cptr [strA f.name, intA f.weight, intA f.tlo, intA f.thi, intA f.clo, intA f.chi]]] (boolA ((s.orders.take i).any (fun x=>decide (x.name = f.name)))):=by
    have:=anyNameO_c (s.orders.take i) f (by simp;omega)
    simpa [ordersA, List.map_take] using this
  have hb1:=beyond_c [f.weight] 1 60 (by simp)
  have hb2:=beyond_c [f.tlo, f.thi, f.clo, f.chi] 0 1000 (by simp)
  simp only [List.any_cons, List.any_nil, Bool.or_false, ← Bool.or_assoc] at hb1 hb2
  unfold orderErr
  generalize nameOk f.name = b1 at *
  generalize (s.orders.take i).any (fun x=>decide (x.name = f.name)) = b2 at *
  generalize (outside 0 1000 f.tlo || outside 0 1000 f.thi || outside 0 1000 f.clo || outside 0 1000 f.chi) = b3 at *
  generalize outside 1 60 f.weight = b4 at *
  by_cases c1 : f.thi < f.tlo<;>by_cases c2 : f.chi < f.clo
  all_goals cases b1<;>cases b2<;>cases b3<;>cases b4
  all_goals
    repeat (any_goals (first|exact falseI|((first|refine bd ?_ ?_|refine bn ?_ ?_)<;>intro _<;>first|(exfalso;omega)|conv=>whnf)|((first|refine callP_a hn ?_|refine callP_f ha rfl ?_|refine callP_a hb1 ?_|refine callP_a hb2 ?_|refine dI ?_|refine okI ?_|refine bt ?_|refine bi (fun _=>?_) (fun _=>?_)|refine bndI ?_|intro _)<;>conv=>whnf)))
  all_goals (refine ⟨⟨?_⟩, trivial⟩;simp_all [oneOf, intA])
theorem check_c (s : Store) (hr : s.small) : PureA Tryd.prog 12 [storeA s] (triA s.check):=by
  have hr':=hr
  obtain ⟨h1, h2, h3, h4⟩:=hr'
  have hf:=firstH_c s s.heads (fun i f=>headErr (s.heads.take i) f) h1 (fun i x hx=>headErr_c s i x hr (by have:=(List.getElem?_eq_some_iff.1 hx).1;omega) (h3 x (List.mem_of_getElem? hx)))
  have hs:=firstO_c s s.orders (fun i f=>orderErr (s.orders.take i) f) h2 (fun i x hx=>orderErr_c s i x hr (by have:=(List.getElem?_eq_some_iff.1 hx).1;omega) (h4 x (List.mem_of_getElem? hx)))
  have hb:=beyond_c [s.lots.b, s.lots.t, s.lots.c] 0 40 (by simp)
  have hb2:=beyond_c [s.fade] 1 364 (by simp)
  simp only [List.any_cons, List.any_nil, Bool.or_false, ← Bool.or_assoc] at hb hb2
  unfold Store.check Store.headsErr Store.ordersErr
  generalize firstFrom (fun i f=>headErr (s.heads.take i) f) 0 s.heads = a at *
  generalize firstFrom (fun i f=>orderErr (s.orders.take i) f) 0 s.orders = b at *
  generalize (outside 0 40 s.lots.b || outside 0 40 s.lots.t || outside 0 40 s.lots.c) = c at *
  generalize outside 1 364 s.fade = d at *
  obtain ⟨a1, a2⟩:=a
  obtain ⟨b1, b2⟩:=b
  refine pureA_codeB tabOk { l:=0, f:=12 } mixed call_12 Tryd.func12 (by kernel_rfl) ?_
  conv=>whnf
  cases c<;>cases d
  all_goals
    repeat (any_goals (first|exact falseI|((first|refine bd ?_ ?_|refine bn ?_ ?_)<;>intro _<;>first|(exfalso;omega)|conv=>whnf)|((first|refine callP_b hf rfl ?_|refine callP_b hs rfl ?_|refine callP_f hb rfl ?_|refine callP_a hb2 ?_|refine dI ?_|refine okI ?_|refine bt ?_|refine bi (fun _=>?_) (fun _=>?_)|refine bndI ?_|intro _)<;>conv=>whnf)))
  all_goals (clear hf hs hb hb2;simp only [List.length_map] at *)
  all_goals (refine ⟨⟨?_⟩, trivial⟩;simp [oneOf, triA, intA, *])
end Go.Proofs.YtbpiibdcncfphaaDoor
namespace Go.Proofs.YtbpiibdcncfphaaDoor
open Go.Am Go.Proofs Go Go.ChangeShapes Go.WideShapes Go.RowKit
theorem gTab0 : Tryd.prog.globalNamed "math/bits.deBruijn32tab" = some 0:=by kernel_rfl
theorem gTab1 : Tryd.prog.globalNamed "math/bits.deBruijn64tab" = some 1:=by kernel_rfl
theorem gTy0 : (Tryd.prog.globals[0]?).map (·.type) = some 156:=by kernel_rfl
theorem gTy1 : (Tryd.prog.globals[1]?).map (·.type) = some 157:=by kernel_rfl
def laidL : List (String × DataW Unit):=[("math/bits.deBruijn32tab", Rows.laid_math_bits_deBruijn32tab), ("math/bits.deBruijn64tab", Rows.laid_math_bits_deBruijn64tab)]
def tab0 : List Int:=[0, 1, 28, 2, 29, 14, 24, 3, 30, 22, 20, 15, 25, 17, 4, 8, 31, 27, 13, 23, 21, 19, 16, 7, 26, 12, 18, 6, 11, 5, 10, 9]
def tab1 : List Int:=[0, 1, 56, 2, 57, 49, 28, 3, 61, 58, 42, 50, 38, 29, 17, 4, 62, 47, 59, 36, 45, 43, 51, 22, 53, 39, 33, 30, 24, 18, 12, 5, 63, 55, 48, 27, 60, 41, 37, 16, 46, 35, 44, 21, 52, 32, 23, 11, 54, 26, 40, 15, 34, 20, 31, 10, 25, 14, 19, 9, 13, 8, 7, 6]
theorem glob_ok {W : World} (h : laidMetH Tryd.prog laidL W) : GlobOK W (lies W):=by
  have h' : laidMet Tryd.prog laidL W:=h
  obtain ⟨ps, ⟨g0, t0, cs0, f0, p0, q0, hg0, ht0, hv0, hd0, ⟨g1, t1, cs1, f1, p1, q1, hg1, ht1, hv1, hd1, _, _⟩, _⟩, _, _⟩:=h'
  obtain rfl:=Option.some.inj (gTab0.symm.trans hg0)
  obtain rfl:=Option.some.inj (gTab1.symm.trans hg1)
  obtain rfl:=Option.some.inj (gTy0.symm.trans ht0)
  obtain rfl:=Option.some.inj (gTy1.symm.trans ht1)
  have c5 : Tryd.prog.cellsOf 5 = 1:=by kernel_rfl
  have e0:=Lib.cells_of_tab (k:=.u8) (zs:=tab0) Tryd.underlying156 Tryd.underlying5 c5 (by kernel_rfl) hd0
  have e1:=Lib.cells_of_tab (k:=.u8) (zs:=tab1) Tryd.underlying157 Tryd.underlying5 c5 (by kernel_rfl) hd1
  intro g cs hg i v hv
  unfold globTab globF at hg
  have key : ∀ (g : Nat) (name : String) (cs0 : Array Value) (zs : List Int), Tryd.prog.globalNamed name = some g→W.var? Tryd.prog name = some cs0→cs0.toList = zs.map (fun z=>Value.int .u8 z)→cs = zs.map (fun z=>Value.int .u8 z) →
      lies W g i∧W.cell? ⟨g, i, none⟩ = some v∧v.oneCell' = true:=by
    intro g name cs0 zs hgn hvar he hcs
    have hc:=World.var?_cell hgn hvar i
    rw [hcs] at hv
    have hz : cs0[i]? = some v:=by
      rw [← Array.getElem?_toList, he];exact hv
    rw [hz] at hc
    refine ⟨cell_lies hc, hc, ?_⟩
    rw [List.getElem?_map, Option.map_eq_some_iff] at hv
    obtain ⟨z, _, rfl⟩:=hv
    rfl
  split at hg
  · rename_i hb
    have:=Nat.eq_of_beq_eq_true hb
    subst this
    cases hg
    exact key 0 _ cs0 tab0 gTab0 (by simpa using hv0) (by simpa using e0) rfl
  · unfold globF at hg
    split at hg
    · rename_i hb
      have:=Nat.eq_of_beq_eq_true hb
      subst this
      cases hg
      exact key 1 _ cs1 tab1 gTab1 (by simpa using hv1) (by simpa using e1) rfl
    · cases hg
section
variable {H : Type} {enc : TypeId × Value→H} {W : World} {sp : Nat→Bool} {held : Bool}
def goodH (b : Nat) (h : Head) : Prop:=h.name.size ≤ b
def goodO (b : Nat) (o : Order) : Prop:=o.name.size ≤ b
def lfH : List Lf:=[.str, .int .i64, .int .i64, .int .i64, .int .i64, .bool]
def lfO : List Lf:=[.str, .int .i64, .int .i64, .int .i64, .int .i64, .int .i64]
theorem head_fit (b : Nat) (vs : List Value) (h : Fit b lfH vs) : ∃ y : Head, (headA y).cells = vs.map .v∧goodH b y:=by
  match vs, h with
  | [.string s, .int k1 a, .int k2 c, .int k3 d, .int k4 e, .bool f], h =>
    obtain ⟨h0, ⟨rfl, _⟩, ⟨rfl, _⟩, ⟨rfl, _⟩, ⟨rfl, _⟩, _⟩:=h
    exact ⟨⟨s, ⟨a, c, d⟩, e, f⟩, rfl, h0⟩
theorem order_fit (b : Nat) (vs : List Value) (h : Fit b lfO vs) : ∃ y : Order, (orderA y).cells = vs.map .v∧goodO b y:=by
  match vs, h with
  | [.string s, .int k1 a, .int k2 c, .int k3 d, .int k4 e, .int k5 f], h =>
    obtain ⟨h0, ⟨rfl, _⟩, ⟨rfl, _⟩, ⟨rfl, _⟩, ⟨rfl, _⟩, ⟨rfl, _⟩, _⟩:=h
    exact ⟨⟨s, a, c, d, e, f⟩, rfl, h0⟩
theorem leavesH : leaves Tryd.prog 6 68 = some lfH:=by kernel_rfl
theorem leavesO : leaves Tryd.prog 6 81 = some lfO:=by kernel_rfl
theorem cellsH : Tryd.prog.cellsOf 68 = lfH.length:=by kernel_rfl
theorem cellsO : Tryd.prog.cellsOf 81 = lfO.length:=by kernel_rfl
theorem types27 : Tryd.prog.cellTypes Tryd.prog.depth 27 = some [3, 3, 3, 3, 24, 25]:=by kernel_rfl
theorem cells27 : Tryd.prog.cellsOf 27 = 6:=by kernel_rfl
theorem cells23 : Tryd.prog.cellsOf 23 = 3:=by kernel_rfl
theorem cells3 : Tryd.prog.cellsOf 3 = 1:=by kernel_rfl
theorem cells24 : Tryd.prog.cellsOf 24 = 1:=by kernel_rfl
theorem cells25 : Tryd.prog.cellsOf 25 = 1:=by kernel_rfl
theorem leaves23 : leaves Tryd.prog 6 23 = some [.int .i64, .int .i64, .int .i64]:=by kernel_rfl
theorem six {α : Type} {l : List α} (h : l.length = 6) : ∃ a b c d e f, l = [a, b, c, d, e, f] :=
  match l, h with
  | [a, b, c, d, e, f], _=>⟨a, b, c, d, e, f, rfl⟩
theorem four {α : Type} {l : List α} (h : l.length = 4) : ∃ a b c d, l = [a, b, c, d] :=
  match l, h with
  | [a, b, c, d], _=>⟨a, b, c, d, rfl⟩
set_option maxRecDepth 100000 in
theorem store_read {r : Reach} {b0 : Nat} {v : Value} {d : DataW H} {ps : List MemPlace} (hk : Value.okWide Tryd.prog W r b0 27 v) (h : DataW.Trod enc Tryd.prog W 0 sp held 27 v d ps) :
    ∃ s : Store, (s.heads.length ≤ Rows.uptoBulk d∧s.orders.length ≤ Rows.uptoBulk d∧(∀ h ∈ s.heads, h.name.size ≤ Rows.uptoBulk d)∧∀ o ∈ s.orders, o.name.size ≤ Rows.uptoBulk d)∧PRel W (lies W) (storeA s) v:=by
  simp only [Value.okWide, Tryd.underlying27] at hk
  obtain ⟨vs, rfl, hsz, ts, hts, _, hcell⟩:=hk
  rw [types27] at hts
  simp only [Option.some.injEq] at hts
  subst hts
  rw [cells27] at hsz
  obtain ⟨fuel, hf⟩:=h
  obtain ⟨l⟩:=vs
  obtain ⟨c0, c1, c2, c3, c4, c5, rfl⟩:=six (by simpa using hsz)
  obtain ⟨xs, n, rfl, e, hl, hx, hfs⟩:=DataW.trod_struct Tryd.underlying27 hf
  obtain ⟨x0, x1, x2, x3, rfl⟩:=four hx
  have h0 : DataW.trod enc Tryd.prog W 0 sp held n 23 (([c0, c1, c2, c3, c4, c5].drop 0).take (Tryd.prog.cellsOf 23)) = some x0:=hfs 0 _ rfl
  have h1 : DataW.trod enc Tryd.prog W 0 sp held n 3 (([c0, c1, c2, c3, c4, c5].drop 3).take (Tryd.prog.cellsOf 3)) = some x1:=hfs 1 _ rfl
  have h2 : DataW.trod enc Tryd.prog W 0 sp held n 24 (([c0, c1, c2, c3, c4, c5].drop 4).take (Tryd.prog.cellsOf 24)) = some x2:=hfs 2 _ rfl
  have h3 : DataW.trod enc Tryd.prog W 0 sp held n 25 (([c0, c1, c2, c3, c4, c5].drop 5).take (Tryd.prog.cellsOf 25)) = some x3:=hfs 3 _ rfl
  rw [cells23] at h0
  rw [cells3] at h1
  rw [cells24] at h2
  rw [cells25] at h3
  obtain ⟨u4, hu4, k4⟩:=hcell 4 c4 rfl
  obtain ⟨u5, hu5, k5⟩:=hcell 5 c5 rfl
  simp at hu4 hu5
  subst hu4 hu5
  have f0:=leaves_fit 6 leaves23 h0
  obtain ⟨m, e2, rfl, hw⟩:=DataW.trod_int Tryd.underlying3 h1
  obtain ⟨hs, a1, a2, a3, a4⟩:=slice_read (A:=headA) (good:=goodH) Tryd.underlying24 cellsH leavesH head_fit (fun b b' y h g=>Nat.le_trans g h) k4 h2
  obtain ⟨os, b1, b2, b3, b4⟩:=slice_read (A:=orderA) (good:=goodO) Tryd.underlying25 cellsO leavesO order_fit (fun b b' y h g=>Nat.le_trans g h) k5 h3
  simp at e2
  subst e2
  match c0, c1, c2, f0 with
  | .int _ a, .int _ b, .int _ c, ⟨⟨rfl, _⟩, ⟨rfl, _⟩, ⟨rfl, _⟩, _⟩ =>
    simp only [Prod.mk.injEq] at e
    obtain ⟨rfl, _⟩:=e
    have hb:=bulk_agg ([x0, (.lit (.int .i64 m), []), x2, x3].map (·.1))
    have p2:=bulk_part (d:=x2.1) (l:=[x0, (.lit (.int .i64 m), []), x2, x3].map (·.1)) (by simp)
    have p3:=bulk_part (d:=x3.1) (l:=[x0, (.lit (.int .i64 m), []), x2, x3].map (·.1)) (by simp)
    refine ⟨⟨⟨a, b, c⟩, m, hs, os⟩, ⟨by simp only;omega, by simp only;omega, fun h hh=>by have:=a2 h hh;unfold goodH at this;omega, fun o ho=>by have:=b2 o ho;unfold goodO at this;omega⟩, ?_⟩
    refine PRel.agg rfl (fun i x y hx hy=>?_) (fun y hy=>?_)
    · match i with
      | 0=>simp at hx hy;subst hx hy;exact .v _
      | 1=>simp at hx hy;subst hx hy;exact .v _
      | 2=>simp at hx hy;subst hx hy;exact .v _
      | 3=>simp at hx hy;subst hx hy;exact .v _
      | 4=>simp at hx hy;subst hx hy;exact a3
      | 5=>simp at hx hy;subst hx hy;exact b3
      | i + 6=>simp at hx
    · simp at hy
      rcases hy with rfl|rfl|rfl|rfl|rfl|rfl
      · rfl
      · rfl
      · rfl
      · rfl
      · exact a4
      · exact b4
end
end Go.Proofs.YtbpiibdcncfphaaDoor
namespace Go.Proofs.YtbpiibdcncfphaaDoor
open Go.Am Go.Proofs Go
def eqAll {α : Type} (p : α→α→Bool) : List α→List α→Bool
  | [], []=>true
  | x :: xs, y :: ys=>p x y && eqAll p xs ys
  | _, _=>false
theorem eqAll_len {α : Type} (p : α→α→Bool) : ∀ a b : List α, a.length ≠ b.length→eqAll p a b = false
  | [], [], h=>absurd rfl h
  | [], y :: ys, _=>rfl
  | x :: xs, [], _=>rfl
  | x :: xs, y :: ys, h=>by simp only [eqAll, eqAll_len p xs ys (by simpa using h), Bool.and_false]
theorem eqAll_dec {α : Type} (p : α→α→Bool) (a b : List α) : eqAll p a b = (decide ((a.length : Int) = b.length) && eqAll p a b):=by
  by_cases h : a.length = b.length
  · simp [h]
  · rw [eqAll_len _ a b h, Bool.and_false]
theorem ints_c (a b : List Int) (ha : a.length ≤ 1048576) (hb : b.length ≤ 1048576) : PureA Tryd.prog 30 [intsA a, intsA b] (boolA (eqAll (fun x y : Int=>decide (x = y)) a b)):=by
  have hlen : decide ((a.length : Int) = b.length) = true→a.length = b.length:=by simp;omega
  obtain ⟨R, hRe⟩ : ∃ R, R = eqAll (fun x y : Int=>decide (x = y)) a b:=⟨_, rfl⟩
  rw [← hRe]
  have hR : R = (decide ((a.length : Int) = b.length) && eqAll (fun x y : Int=>decide (x = y)) a b):=by rw [hRe];exact eqAll_dec (fun x y : Int=>decide (x = y)) a b
  clear hRe
  refine pureA_codeB tabOk { l:=0, f:=30 } mixed call_30 Tryd.func30 (by kernel_rfl) ?_
  conv=>whnf
  refine loopK tabOk { l:=0, f:=30 } mixed (fun x : Nat × Bool=>[(6, intA x.1), (5, boolA x.2)]) (fun _=>[]) (fun _=>[]) (fun x=>x.1 ≤ a.length∧(x.2 = true→a.length = b.length)∧R = (x.2 && eqAll (fun x y : Int=>decide (x = y)) (a.drop x.1) (b.drop x.1))) (fun x=>a.length - x.1) (0, decide ((a.length : Int) = b.length)) (by kernel_rfl)
    ⟨Nat.zero_le _, hlen, hR⟩ ?_
  conv=>whnf
  refine ⟨⟨slotsLe_cons rfl (slotsLe_cons (by conv => lhs; whnf
                                              simp [boolA]) trivial), trivial, trivial⟩, ?_⟩
  intro ⟨i, same⟩ ⟨hi, hs, H⟩
  simp only at hi hs H
  cases same
  · conv=>whnf
    repeat (any_goals (first|exact falseI|((first|refine bd ?_ ?_|refine bn ?_ ?_)<;>intro _<;>first|(exfalso;omega)|conv=>whnf)|((first|refine dI ?_|refine okI ?_|refine bt ?_|refine bi (fun _=>?_) (fun _=>?_)|refine bndI ?_|intro _)<;>conv=>whnf)))
    (refine ⟨⟨?_⟩, trivial⟩;rw [H];rfl)
  · have hs:=hs rfl
    rw [Bool.true_and] at H
    conv=>whnf
    refine brP_dec (fun h1=>?_) (fun h1=>?_)
    · simp only [List.length_map] at h1
      obtain ⟨x, hx, hd⟩:=drop_cons (l:=a) (i:=i) (by omega)
      obtain ⟨y, hy, he⟩:=drop_cons (l:=b) (i:=i) (by omega)
      rw [hd, he] at H
      simp only [eqAll] at H
      skip
      conv=>whnf
      repeat (any_goals (first|exact falseI|((first|refine bd ?_ ?_|refine bn ?_ ?_)<;>intro _<;>first|(exfalso;omega)|conv=>whnf)|((first|refine optP_map hx rfl ?_|refine optP_map hy rfl ?_ |refine dI ?_|refine okI ?_|refine bt ?_|refine bi (fun _=>?_) (fun _=>?_)|refine bndI ?_|intro _)<;>conv=>whnf)))
      (refine ⟨(i + 1, (fun x y : Int=>decide (x = y)) x y), ⟨by simp only;omega, fun _=>hs, H⟩, (by simp only;omega), ?_⟩;(conv=>whnf);refine ⟨?_, ?_, ?_⟩<;>repeat (first|exact trivial|refine sc rfl ?_|refine kn ?_|refine kc rfl ?_|refine sc (by rfl) ?_|refine kc (by rfl) ?_))
    · conv=>whnf
      simp only [List.length_map] at h1
      have : i = a.length:=by omega
      subst this
      rw [hs, List.drop_length, ← hs, List.drop_length] at H
      (refine ⟨⟨?_⟩, trivial⟩;rw [H];rfl)
def intssA (l : List (List Int)) : AV:=.slice 1 (l.map intsA) .no
theorem lists_c (a b : List (List Int)) (ha : a.length ≤ 1048576) (hb : b.length ≤ 1048576)(hn : ∀ x ∈ a, x.length ≤ 1048576) (hm : ∀ x ∈ b, x.length ≤ 1048576) : PureA Tryd.prog 62 [intssA a, intssA b] (boolA (eqAll (eqAll (fun x y : Int=>decide (x = y))) a b)):=by
  have hlen : decide ((a.length : Int) = b.length) = true→a.length = b.length:=by simp;omega
  obtain ⟨R, hRe⟩ : ∃ R, R = eqAll (eqAll (fun x y : Int=>decide (x = y))) a b:=⟨_, rfl⟩
  rw [← hRe]
  have hR : R = (decide ((a.length : Int) = b.length) && eqAll (eqAll (fun x y : Int=>decide (x = y))) a b):=by rw [hRe];exact eqAll_dec (eqAll (fun x y : Int=>decide (x = y))) a b
  clear hRe
  refine pureA_codeB tabOk { l:=0, f:=62 } mixed call_62 Tryd.func62 (by kernel_rfl) ?_
  conv=>whnf
  refine loopK tabOk { l:=0, f:=62 } mixed (fun x : Nat × Bool=>[(6, intA x.1), (5, boolA x.2)]) (fun _=>[]) (fun _=>[]) (fun x=>x.1 ≤ a.length∧(x.2 = true→a.length = b.length)∧R = (x.2 && eqAll (eqAll (fun x y : Int=>decide (x = y))) (a.drop x.1) (b.drop x.1))) (fun x=>a.length - x.1) (0, decide ((a.length : Int) = b.length)) (by kernel_rfl)
    ⟨Nat.zero_le _, hlen, hR⟩ ?_
  conv=>whnf
  refine ⟨⟨slotsLe_cons rfl (slotsLe_cons (by conv => lhs; whnf
                                              simp [boolA]) trivial), trivial, trivial⟩, ?_⟩
  intro ⟨i, same⟩ ⟨hi, hs, H⟩
  simp only at hi hs H
  cases same
  · conv=>whnf
    repeat (any_goals (first|exact falseI|((first|refine bd ?_ ?_|refine bn ?_ ?_)<;>intro _<;>first|(exfalso;omega)|conv=>whnf)|((first|refine dI ?_|refine okI ?_|refine bt ?_|refine bi (fun _=>?_) (fun _=>?_)|refine bndI ?_|intro _)<;>conv=>whnf)))
    (refine ⟨⟨?_⟩, trivial⟩;rw [H];rfl)
  · have hs:=hs rfl
    rw [Bool.true_and] at H
    conv=>whnf
    refine brP_dec (fun h1=>?_) (fun h1=>?_)
    · simp only [List.length_map] at h1
      obtain ⟨x, hx, hd⟩:=drop_cons (l:=a) (i:=i) (by omega)
      obtain ⟨y, hy, he⟩:=drop_cons (l:=b) (i:=i) (by omega)
      rw [hd, he] at H
      simp only [eqAll] at H
      have hc:=ints_c x y (hn x (List.mem_of_getElem? hx)) (hm y (List.mem_of_getElem? hy))
      conv=>whnf
      repeat (any_goals (first|exact falseI|((first|refine bd ?_ ?_|refine bn ?_ ?_)<;>intro _<;>first|(exfalso;omega)|conv=>whnf)|((first|refine optP_map hx rfl ?_|refine optP_map hy rfl ?_|refine callP_a hc ?_|refine dI ?_|refine okI ?_|refine bt ?_|refine bi (fun _=>?_) (fun _=>?_)|refine bndI ?_|intro _)<;>conv=>whnf)))
      (refine ⟨(i + 1, (eqAll (fun x y : Int=>decide (x = y))) x y), ⟨by simp only;omega, fun _=>hs, H⟩, (by simp only;omega), ?_⟩;(conv=>whnf);refine ⟨?_, ?_, ?_⟩<;>repeat (first|exact trivial|refine sc rfl ?_|refine kn ?_|refine kc rfl ?_|refine sc (by rfl) ?_|refine kc (by rfl) ?_))
    · conv=>whnf
      simp only [List.length_map] at h1
      have : i = a.length:=by omega
      subst this
      rw [hs, List.drop_length, ← hs, List.drop_length] at H
      (refine ⟨⟨?_⟩, trivial⟩;rw [H];rfl)
def lessL : List Int→List Int→Bool
  | [], []=>false
  | [], _ :: _=>true
  | _ :: _, []=>false
  | x :: xs, y :: ys=>if x = y then lessL xs ys else decide (x < y)
def fewer (a b : List Int) : Bool:=if (a.length : Int) = b.length then lessL a b else decide ((a.length : Int) < b.length)
theorem oneOf_c (all : List (List Int)) (l : List Int) (ha : all.length ≤ 1048576) (hn : ∀ x ∈ all, x.length ≤ 1048576) (hl : l.length ≤ 1048576) : PureA Tryd.prog 43 [intssA all, intsA l] (boolA (all.any (fun x=>eqAll (fun x y : Int=>decide (x = y)) x l))):=by
  refine pureA_codeB tabOk { l:=0, f:=43 } mixed call_43 Tryd.func43 (by kernel_rfl) ?_
  conv=>whnf
  refine loopK tabOk { l:=0, f:=43 } mixed (fun i : Nat=>[(5, intA i)]) (fun _=>[]) (fun _=>[]) (fun i=>i ≤ all.length∧all.any (fun x=>eqAll (fun x y : Int=>decide (x = y)) x l) = (all.drop i).any (fun x=>eqAll (fun x y : Int=>decide (x = y)) x l)) (fun i=>all.length - i) 0 (by kernel_rfl)
    ⟨Nat.zero_le _, rfl⟩ ?_
  conv=>whnf
  refine ⟨⟨slotsLe_cons rfl trivial, trivial, trivial⟩, ?_⟩
  intro i ⟨hi, H⟩
  conv=>whnf
  refine brP_dec (fun h1=>?_) (fun h1=>?_)
  · simp only [List.length_map] at h1
    obtain ⟨x, hx, hd⟩:=drop_cons (l:=all) (i:=i) (by omega)
    rw [hd, List.any_cons] at H
    have hc:=ints_c x l (hn x (List.mem_of_getElem? hx)) hl
    generalize eqAll (fun x y : Int=>decide (x = y)) x l = b at *
    cases b
    · conv=>whnf
      repeat (any_goals (first|exact falseI|((first|refine bd ?_ ?_|refine bn ?_ ?_)<;>intro _<;>first|(exfalso;omega)|conv=>whnf)|((first|refine optP_map hx rfl ?_|refine callP_a hc ?_|refine dI ?_|refine okI ?_|refine bt ?_|refine bi (fun _=>?_) (fun _=>?_)|refine bndI ?_|intro _)<;>conv=>whnf)))
      (refine ⟨i + 1, ⟨by omega, H⟩, by omega, ?_⟩;(conv=>whnf);refine ⟨?_, ?_, ?_⟩<;>repeat (first|exact trivial|refine sc rfl ?_|refine kn ?_|refine kc rfl ?_))
    · conv=>whnf
      repeat (any_goals (first|exact falseI|((first|refine bd ?_ ?_|refine bn ?_ ?_)<;>intro _<;>first|(exfalso;omega)|conv=>whnf)|((first|refine optP_map hx rfl ?_|refine callP_a hc ?_|refine dI ?_|refine okI ?_|refine bt ?_|refine bi (fun _=>?_) (fun _=>?_)|refine bndI ?_|intro _)<;>conv=>whnf)))
      (refine ⟨⟨?_⟩, trivial⟩;rw [H];rfl)
  · conv=>whnf
    simp only [List.length_map] at h1
    have : i = all.length:=by omega
    subst this
    rw [List.drop_length] at H
    (refine ⟨⟨?_⟩, trivial⟩;rw [H];rfl)
def cmpI (x y : Int) : Int:=if x < y then -1 else if y < x then 1 else 0
theorem isNaN_c (x : Int) : PureA Tryd.prog 114 [intA x] (boolA false):=by
  refine pureA_codeB tabOk { l:=0, f:=114 } mixed call_114 Tryd.func114 (by kernel_rfl) ?_
  conv=>whnf
  (refine ⟨⟨?_⟩, trivial⟩;simp [oneOf, boolA])
theorem cmpI_c (x y : Int) : PureA Tryd.prog 101 [intA x, intA y] (intA (cmpI x y)):=by
  have hx:=isNaN_c x
  have hy:=isNaN_c y
  unfold cmpI
  refine pureA_codeB tabOk { l:=0, f:=101 } mixed call_101 Tryd.func101 (by kernel_rfl) ?_
  conv=>whnf
  repeat (any_goals (first|exact falseI|((first|refine bd ?_ ?_|refine bn ?_ ?_)<;>intro _<;>first|(exfalso;omega)|conv=>whnf)|((first|refine callP_a hx ?_|refine callP_a hy ?_|refine dI ?_|refine okI ?_|refine bt ?_|refine bi (fun _=>?_) (fun _=>?_)|refine bndI ?_|intro _)<;>conv=>whnf)))
  all_goals
    refine ⟨⟨?_⟩, trivial⟩
    show intA (if x < y then -1 else if y < x then 1 else 0) = intA _
    congr 1
    split
    · omega
    · first|rfl|(split<;>omega)
def cmpL : List Int→List Int→Int
  | [], []=>0
  | [], _ :: _=>-1
  | _ :: _, []=>1
  | x :: xs, y :: ys=>if cmpI x y = 0 then cmpL xs ys else cmpI x y
theorem cmpL_c (a b : List Int) (ha : a.length ≤ 1048576) (hb : b.length ≤ 1048576) : PureA Tryd.prog 92 [intsA a, intsA b] (intA (cmpL a b)):=by
  have hbl : (b.map intA).length = b.length:=List.length_map ..
  refine pureA_codeB tabOk { l:=0, f:=92 } mixed call_92 Tryd.func92 (by kernel_rfl) ?_
  conv=>whnf
  refine loopK tabOk { l:=0, f:=92 } mixed (fun i : Nat=>[(11, intA i)]) (fun _=>[]) (fun _=>[]) (fun i=>i ≤ a.length∧i ≤ b.length∧cmpL a b = cmpL (a.drop i) (b.drop i)) (fun i=>a.length - i) 0 (by kernel_rfl)
    ⟨Nat.zero_le _, Nat.zero_le _, rfl⟩ ?_
  conv=>whnf
  refine ⟨⟨slotsLe_cons rfl trivial, trivial, trivial⟩, ?_⟩
  intro i ⟨hi, hj, H⟩
  generalize cmpL a b = R at *
  conv=>whnf
  refine brP_dec (fun h1=>?_) (fun h1=>?_)
  · simp only [List.length_map] at h1
    obtain ⟨x, hx, hd⟩:=drop_cons (l:=a) (i:=i) (by omega)
    rw [hd] at H
    by_cases hib : i = b.length
    · rw [hib, List.drop_length] at H
      simp only [cmpL] at H
      conv=>whnf
      repeat (any_goals (first|exact falseI|((first|refine bd ?_ ?_|refine bn ?_ ?_)<;>intro _<;>first|(exfalso;omega)|conv=>whnf)|((first|refine optP_map hx rfl ?_|refine dI ?_|refine okI ?_|refine bt ?_|refine bi (fun _=>?_) (fun _=>?_)|refine bndI ?_|intro _)<;>conv=>whnf)))
      (refine ⟨⟨?_⟩, trivial⟩;rw [H];rfl)
    · obtain ⟨y, hy, he⟩:=drop_cons (l:=b) (i:=i) (by omega)
      rw [he] at H
      simp only [cmpL] at H
      have hc:=cmpI_c x y
      generalize cmpI x y = c at *
      conv=>whnf
      repeat (any_goals (first|exact falseI|((first|refine bd ?_ ?_|refine bn ?_ ?_)<;>intro _<;>first|(exfalso;omega)|conv=>whnf)|((first|refine optP_map hx rfl ?_|refine optP_map hy rfl ?_|refine callP_a hc ?_|refine dI ?_|refine okI ?_|refine bt ?_|refine bi (fun _=>?_) (fun _=>?_)|refine bndI ?_|intro _)<;>conv=>whnf)))
      · rename_i h
        rw [if_pos h] at H
        (refine ⟨i + 1, ⟨by omega, by omega, H⟩, by omega, ?_⟩;(conv=>whnf);refine ⟨?_, ?_, ?_⟩<;>repeat (first|exact trivial|refine sc rfl ?_|refine kn ?_|refine kc rfl ?_))
      · rename_i h
        rw [if_neg h] at H
        (refine ⟨⟨?_⟩, trivial⟩;rw [H];rfl)
  · conv=>whnf
    simp only [List.length_map] at h1
    have : i = a.length:=by omega
    subst this
    rw [List.drop_length] at H
    repeat (any_goals (first|exact falseI|((first|refine bd ?_ ?_|refine bn ?_ ?_)<;>intro _<;>first|(exfalso;omega)|conv=>whnf)|((first|refine dI ?_|refine okI ?_|refine bt ?_|refine bi (fun _=>?_) (fun _=>?_)|refine bndI ?_|intro _)<;>conv=>whnf)))
    · rename_i h
      simp only [List.length_map] at h
      obtain ⟨y, hy, he⟩:=drop_cons (l:=b) (i:=a.length) (by omega)
      rw [he] at H
      (refine ⟨⟨?_⟩, trivial⟩;rw [H];rfl)
    · rename_i h
      simp only [List.length_map] at h
      rw [List.drop_of_length_le (by omega)] at H
      (refine ⟨⟨?_⟩, trivial⟩;rw [H];rfl)
def ordL (a b : List Int) : Int:=if (a.length : Int) = b.length then cmpL a b else a.length - b.length
theorem ordL_c (a b : List Int) (ha : a.length ≤ 1048576) (hb : b.length ≤ 1048576) : PureA Tryd.prog 91 [intsA a, intsA b] (intA (ordL a b)):=by
  have h:=cmpL_c a b ha hb
  unfold ordL
  generalize cmpL a b = R at *
  rw [show (a.length : Int) = ((a.map intA).length : Int) by simp, show (b.length : Int) = ((b.map intA).length : Int) by simp]
  have hal : (a.map intA).length = a.length:=List.length_map ..
  have hbl : (b.map intA).length = b.length:=List.length_map ..
  refine pureA_codeB tabOk { l:=0, f:=91 } mixed call_91 Tryd.func91 (by kernel_rfl) ?_
  conv=>whnf
  repeat (any_goals (first|exact falseI|((first|refine bd ?_ ?_|refine bn ?_ ?_)<;>intro _<;>first|(exfalso;omega)|conv=>whnf)|((first|refine callP_a h ?_|refine dI ?_|refine okI ?_|refine bt ?_|refine bi (fun _=>?_) (fun _=>?_)|refine bndI ?_|intro _)<;>conv=>whnf)))
  · rename_i q
    rw [if_pos q]
    (refine ⟨⟨?_⟩, trivial⟩;rfl)
  · rename_i q
    rw [if_neg q]
    (refine ⟨⟨?_⟩, trivial⟩;rfl)
theorem index_c (l : List Int) (n : Int) (hl : l.length ≤ 1048576) : PureA Tryd.prog 94 [intsA l, intA n] (intA (idx (fun x=>decide (n = x)) l)):=by
  refine pureA_codeB tabOk { l:=0, f:=94 } mixed call_94 Tryd.func94 (by kernel_rfl) ?_
  conv=>whnf
  refine loopK tabOk { l:=0, f:=94 } mixed (fun i : Nat=>[(8, intA i)]) (fun _=>[]) (fun _=>[]) (fun i=>i ≤ l.length∧idx (fun x=>decide (n = x)) l = idxFrom (fun x=>decide (n = x)) i (l.drop i)) (fun i=>l.length - i) 0 (by kernel_rfl)
    ⟨Nat.zero_le _, rfl⟩ ?_
  conv=>whnf
  refine ⟨⟨slotsLe_cons rfl trivial, trivial, trivial⟩, ?_⟩
  intro i ⟨hi, H⟩
  conv=>whnf
  refine brP_dec (fun h1=>?_) (fun h1=>?_)
  · simp only [List.length_map] at h1
    obtain ⟨x, hx, hd⟩:=drop_cons (l:=l) (i:=i) (by omega)
    have H':=idxFrom_cons hd H
    conv=>whnf
    repeat (any_goals (first|exact falseI|((first|refine bd ?_ ?_|refine bn ?_ ?_)<;>intro _<;>first|(exfalso;omega)|conv=>whnf)|((first|refine optP_map hx rfl ?_|refine dI ?_|refine okI ?_|refine bt ?_|refine bi (fun _=>?_) (fun _=>?_)|refine bndI ?_|intro _)<;>conv=>whnf)))
    · rename_i he
      rw [if_pos (decide_eq_true he)] at H'
      (refine ⟨⟨?_⟩, trivial⟩;rw [H'];rfl)
    · rename_i he
      simp only [he, decide_false, Bool.false_eq_true, if_false] at H'
      (refine ⟨i + 1, ⟨by omega, H'⟩, by omega, ?_⟩;(conv=>whnf);refine ⟨?_, ?_, ?_⟩<;>repeat (first|exact trivial|refine sc rfl ?_|refine kn ?_|refine kc rfl ?_))
  · conv=>whnf
    simp only [List.length_map] at h1
    have : i = l.length:=by omega
    subst this
    (refine ⟨⟨?_⟩, trivial⟩;simp [oneOf, intA, H, idxFrom])
theorem has_c (l : List Int) (n : Int) (hl : l.length ≤ 1048576) : PureA Tryd.prog 73 [intsA l, intA n] (boolA (l.any (fun x=>decide (n = x)))):=by
  refine pureA_codeB tabOk { l:=0, f:=73 } mixed call_73 Tryd.func73 (by kernel_rfl) ?_
  conv=>whnf
  refine callP_a (index_c l n hl) ?_
  conv=>whnf
  (refine ⟨⟨?_⟩, trivial⟩;rw [← idx_any];rfl)
end Go.Proofs.YtbpiibdcncfphaaDoor
namespace Go.Proofs.YtbpiibdcncfphaaDoor
open Go.Am Go.Proofs Go
def tz (n : Nat) : Nat:=if n % 2 = 1 then 0 else if n % 4 = 2 then 1 else if n % 8 = 4 then 2 else if n % 16 = 8 then 3 else if n % 32 = 16 then 4 else 5
def uA (n : Int) : AV:=.v (.int .u64 n)
set_option maxRecDepth 100000 in
set_option maxHeartbeats 4000000 in
theorem tz64_c (n : Nat) (h0 : 0 < n) (h : n < 64) : PureA Tryd.prog 103 [uA n] (intA (tz n)):=by
  rcases (by omega : n = 1∨n = 2∨n = 3∨n = 4∨n = 5∨n = 6∨n = 7∨n = 8∨n = 9∨n = 10∨n = 11∨n = 12∨n = 13∨n = 14∨n = 15∨n = 16∨n = 17∨n = 18∨n = 19∨n = 20∨n = 21∨n = 22∨n = 23∨n = 24∨n = 25∨n = 26∨n = 27∨n = 28∨n = 29∨n = 30∨n = 31∨n = 32∨n = 33∨n = 34∨n = 35∨n = 36∨n = 37∨n = 38∨n = 39∨n = 40∨n = 41∨n = 42∨n = 43∨n = 44∨n = 45∨n = 46∨n = 47∨n = 48∨n = 49∨n = 50∨n = 51∨n = 52∨n = 53∨n = 54∨n = 55∨n = 56∨n = 57∨n = 58∨n = 59∨n = 60∨n = 61∨n = 62∨n = 63) with rfl|rfl|rfl|rfl|rfl|rfl|rfl|rfl|rfl|rfl|rfl|rfl|rfl|rfl|rfl|rfl|rfl|rfl|rfl|rfl|rfl|rfl|rfl|rfl|rfl|rfl|rfl|rfl|rfl|rfl|rfl|rfl|rfl|rfl|rfl|rfl|rfl|rfl|rfl|rfl|rfl|rfl|rfl|rfl|rfl|rfl|rfl|rfl|rfl|rfl|rfl|rfl|rfl|rfl|rfl|rfl|rfl|rfl|rfl|rfl|rfl|rfl|rfl
  all_goals
    refine pureA_codeB tabOk { l:=0, f:=103 } mixed call_103 Tryd.func103 (by kernel_rfl) ?_
    conv=>whnf
    repeat (any_goals (first|exact falseI|((first|refine bd ?_ ?_|refine bn ?_ ?_)<;>intro _<;>first|(exfalso;omega)|conv=>whnf)|((first|refine dI ?_|refine okI ?_|refine bt ?_|refine bi (fun _=>?_) (fun _=>?_)|refine bndI ?_|intro _)<;>conv=>whnf)))
    refine And.intro (by decide +kernel) ?_
    conv=>whnf
    repeat (any_goals (first|exact falseI|((first|refine bd ?_ ?_|refine bn ?_ ?_)<;>intro _<;>first|(exfalso;omega)|conv=>whnf)|((first|refine dI ?_|refine okI ?_|refine bt ?_|refine bi (fun _=>?_) (fun _=>?_)|refine bndI ?_|intro _)<;>conv=>whnf)))
    (refine ⟨⟨?_⟩, trivial⟩;rfl)
theorem tz_c (n : Nat) (h0 : 0 < n) (h : n < 64) : PureA Tryd.prog 98 [uA n] (intA (tz n)):=by
  have ht:=tz64_c n h0 h
  generalize tz n = r at *
  refine pureA_codeB tabOk { l:=0, f:=98 } mixed call_98 Tryd.func98 (by kernel_rfl) ?_
  conv=>whnf
  repeat (any_goals (first|exact falseI|((first|refine bd ?_ ?_|refine bn ?_ ?_)<;>intro _<;>first|(exfalso;omega)|conv=>whnf)|((first|refine callP_a ht ?_|refine dI ?_|refine okI ?_|refine bt ?_|refine bi (fun _=>?_) (fun _=>?_)|refine bndI ?_|intro _)<;>conv=>whnf)))
  (refine ⟨⟨?_⟩, trivial⟩;rfl)
def clr : Nat→Nat→Nat
  | 0, n=>n
  | i + 1, n=>clr i n &&& (clr i n - 1)
def setF : Nat→Nat→List Int
  | 0, _=>[]
  | k + 1, n=>if n = 0 then [] else (tz n : Int) :: setF k (n &&& (n - 1))
def setL (n : Nat) : List Int:=setF 6 n
def clrOk (n : Nat) : Bool:=decide (clr (setL n).length n = 0) && decide ((setL n).length ≤ 6) && (List.range (setL n).length).all fun i=>decide (0 < clr i n) && decide (clr i n < 64) && decide ((setL n)[i]? = some (tz (clr i n) : Int))
theorem clr_ok : ∀ n, n < 64→clrOk n = true:=by decide +kernel
theorem clr_and : ∀ n : Nat, n < 64→0 < n→IntKind.i64.wrap ((BitVec.ofInt IntKind.i64.bits (n : Int) &&& BitVec.ofInt IntKind.i64.bits ((n : Int) - 1)).toNat : Int) = ((n &&& (n - 1) : Nat) : Int):=by decide +kernel
theorem u64_wrap : ∀ n : Nat, n < 64→IntKind.u64.wrap (n : Int) = (n : Int):=by decide +kernel
theorem list_c (n : Nat) (h : n < 64) : PureA Tryd.prog 88 [intA n] (intsA (setL n)):=by
  have hk:=clr_ok n h
  simp only [clrOk, Bool.and_eq_true, decide_eq_true_eq, List.all_eq_true, List.mem_range] at hk
  obtain ⟨⟨hz, hl6⟩, hs⟩:=hk
  have ht : setL n = (setL n).take (setL n).length:=by rw [List.take_length]
  have hn : n = clr 0 n:=rfl
  have hstep : ∀ i, clr (i + 1) n = clr i n &&& (clr i n - 1):=fun i=>rfl
  have htz:=tz_c
  generalize setL n = L at *
  generalize hf : (fun i=>clr i n) = f at *
  have hf' : ∀ i, clr i n = f i:=fun i=>by rw [← hf]
  simp only [hf'] at *
  clear hf hf'
  rw [hn, ht]
  clear ht
  refine pureA_codeB tabOk { l:=0, f:=88 } mixed call_88 Tryd.func88 (by kernel_rfl) ?_
  conv=>whnf
  refine loopTok 2 1 ⟨0, 88, 14⟩ ?_
  conv=>whnf
  refine loopK tabOk { l:=0, f:=88 } mixed (fun i : Nat=>[(0, intA (f i)), (2, .slice 1 ((L.take i).map intA) (.own ⟨0, 88, 14⟩ 1))]) (fun _=>[]) (fun i=>[(⟨0, 88, 14⟩, some (1, i))]) (fun i=>i ≤ L.length) (fun i=>L.length - i) 0 (by kernel_rfl)
    (Nat.zero_le _) ?_
  conv=>whnf
  refine ⟨⟨slotsLe_cons rfl (slotsLe_cons rfl trivial), trivial, keysLe_cons rfl trivial⟩, ?_⟩
  intro i hi
  by_cases hlt : i < L.length
  · obtain ⟨⟨h0, h64⟩, hx⟩:=hs i hlt
    have ht2 : L.take (i + 1) = L.take i++[(tz (f i) : Int)]:=by rw [List.take_add_one, hx];rfl
    have hc:=htz (f i) h0 h64
    have hw:=u64_wrap (f i) h64
    have hand:=clr_and (f i) h64 h0
    rw [← hstep i] at hand
    unfold uA at hc
    rw [← hw] at hc
    clear hs hx hw htz hz hn hstep
    generalize tz (f i) = q at *
    conv=>whnf
    repeat (any_goals (first|exact falseI|((first|refine bd ?_ ?_|refine bn ?_ ?_)<;>intro _<;>first|(exfalso;omega)|conv=>whnf)|((first|refine callP_a hc ?_|refine dI ?_|refine okI ?_|refine bt ?_|refine bi (fun _=>?_) (fun _=>?_)|refine bndI ?_|intro _)<;>conv=>whnf)))
    (refine ⟨i + 1, (by omega), by omega, ?_⟩;(conv=>whnf);refine ⟨?_, ?_, ?_⟩<;>repeat (first|exact trivial|refine sc rfl ?_|refine kn ?_|refine kc rfl ?_|refine sc (by first|(rw [← hand];rfl)|(simp only [ht2, List.map_append];rfl)|((conv=>lhs;whnf);simp;omega)) ?_|refine kc (by first|(rw [← hand];rfl)|(simp only [ht2, List.map_append];rfl)|((conv=>lhs;whnf);simp;omega)) ?_))
  · have : i = L.length:=by omega
    subst this
    rw [hz]
    conv=>whnf
    repeat (any_goals (first|exact falseI|((first|refine bd ?_ ?_|refine bn ?_ ?_)<;>intro _<;>first|(exfalso;omega)|conv=>whnf)|((first|refine dI ?_|refine okI ?_|refine bt ?_|refine bi (fun _=>?_) (fun _=>?_)|refine bndI ?_|intro _)<;>conv=>whnf)))
    (refine ⟨⟨?_⟩, trivial⟩;rfl)
end Go.Proofs.YtbpiibdcncfphaaDoor
namespace Go.Proofs.YtbpiibdcncfphaaDoor
open Go.Am Go.Proofs Go
def setA (n : Nat) : AV:=intsA (setL n)
def ordN (m n : Nat) : Int:=ordL (setL m) (setL n)
def cmpF : AV:=.func (.func 91) [] []
theorem setL_len (n : Nat) : (setL n).length ≤ 6:=by
  have : ∀ k n, (setF k n).length ≤ k:=by
    intro k
    induction k with
    | zero=>intro n;simp [setF]
    | succ k ih =>
      intro n
      simp only [setF]
      split
      · simp
      · have:=ih (n &&& (n - 1));simp only [List.length_cons];omega
  exact this 6 n
theorem ordN_c (m n : Nat) : PureA Tryd.prog 91 [setA m, setA n] (intA (ordN m n)) :=
  ordL_c _ _ (by have:=setL_len m;omega) (by have:=setL_len n;omega)
def bubN (a : Nat) : Nat→List Nat→List Nat
  | 0, L=>L
  | k + 1, L=>match L[a + (k + 1)]?, L[a + k]? with
    | some x, some y=>if ordN x y < 0 then bubN a k ((L.set (a + (k + 1)) y).set (a + k) x) else L
    | _, _=>L
def insF (a : Nat) : Nat→Nat→List Nat→List Nat
  | 0, _, L=>L
  | k + 1, i, L=>insF a k (i + 1) (bubN a i L)
def insN (a b : Nat) (L : List Nat) : List Nat:=insF a (b - a - 1) 1 L
theorem bubN_len (a : Nat) : ∀ (j : Nat) (L : List Nat), (bubN a j L).length = L.length
  | 0, L=>rfl
  | j + 1, L=>by
    unfold bubN
    split
    · split
      · rw [bubN_len a j];simp
      · rfl
    · rfl
theorem insF_len (a : Nat) : ∀ (k i : Nat) (L : List Nat), (insF a k i L).length = L.length
  | 0, i, L=>rfl
  | k + 1, i, L=>by rw [insF, insF_len a k, bubN_len]
theorem set_sets (l : List Nat) (a : Int) (n : Nat) (x : AV) (f : Nat) (ha : a = n) (hx : x = setA f) : (l.map setA).set a.toNat x = (l.set n f).map setA:=by
  subst ha hx
  simp [List.map_set]
theorem forceL_to {l l' : List AV} {K : List AV→Prop} (h : l = l') (k : K l') : forceL l K:=by rw [forceL_eq, h];exact k
def kA : Key:=⟨0, 87, 27⟩
theorem ins_c (g n a b : Nat) (X : List Nat) (hn : n ≤ X.length) (hb : b ≤ n) (hab : a ≤ b) (hX : X.length ≤ 1000) :
    BoxA Tryd.prog (.fn 104) [(kA, g, 1, X.map setA)] [.own kA g 1 n 0, intA a, intA b, cmpF] (.tuple []) [(kA, g, 1, (insN a b X).map setA)]:=by
  obtain ⟨R, hR⟩ : ∃ R, R = insN a b X:=⟨_, rfl⟩
  rw [← hR]
  refine boxA_codeB tabOk { l:=0, f:=104 } mixed call_104 Tryd.func104 (by kernel_rfl) ?_
  conv=>whnf
  repeat (any_goals (first|exact falseI|((first|refine bd ?_ ?_|refine bn ?_ ?_)<;>intro _<;>first|(exfalso;omega)|conv=>whnf)|((first|refine dI ?_|refine okI ?_|refine bt ?_|refine bi (fun _=>?_) (fun _=>?_)|refine bndI ?_|intro _)<;>conv=>whnf)))
  refine loopK tabOk { l:=0, f:=104 } mixed (fun x : Nat × List Nat=>[(8, intA ((a : Int) + x.1))]) (fun x=>[(kA, some (g, some (1, x.2.map setA)))]) (fun _=>[]) (fun x=>(1 ≤ x.1∧x.1 ≤ 2000)∧x.2.length = X.length∧R = insF a (b - a - x.1) x.1 x.2) (fun x=>b - a - x.1) (1, X) (by kernel_rfl)
    ⟨⟨Nat.le_refl _, by simp⟩, rfl, hR⟩ ?_
  conv=>whnf
  refine ⟨⟨slotsLe_cons rfl trivial, keysLe_cons rfl trivial, trivial⟩, ?_⟩
  intro ⟨i, L⟩ ⟨hi, hL, H⟩
  simp only at hi hL H
  conv=>whnf
  refine brP_dec (fun h1=>?_) (fun h1=>?_)
  · have h1 : (a : Int) + i < b:=h1
    have hin : a + i < b:=by omega
    rw [show b - a - i = (b - a - (i + 1)) + 1 by omega] at H
    simp only [insF] at H
    clear hR
    conv=>whnf
    have hb0:=bubN_len a i L
    generalize hB : bubN a i L = B at *
    refine loopK tabOk { l:=0, f:=104 } mixed (fun x : Nat × List Nat=>[(9, intA ((a : Int) + x.1))]) (fun x=>[(kA, some (g, some (1, x.2.map setA)))]) (fun _=>[]) (fun x=>x.1 ≤ i∧x.2.length = X.length∧B = bubN a x.1 x.2) (fun x=>x.1) (i, L) (by kernel_rfl)
      ⟨Nat.le_refl _, hL, hB.symm⟩ ?_
    conv=>whnf
    refine ⟨⟨slotsLe_cons rfl trivial, keysLe_cons rfl trivial, trivial⟩, ?_⟩
    intro ⟨j, M⟩ ⟨hj, hM, H'⟩
    simp only at hj hM H'
    conv=>whnf
    cases hd : decide ((a : Int) < (a : Int) + ((j, M).fst : Nat)) with
    | false =>
      have hj0 : j = 0:=by have:=of_decide_eq_false hd;simp only at this;omega
      subst hj0
      conv=>whnf
      repeat (any_goals (first|exact falseI|((first|refine bd ?_ ?_|refine bn ?_ ?_)<;>intro _<;>first|(exfalso;omega)|conv=>whnf)|((first|refine dI ?_|refine okI ?_|refine bt ?_|refine bi (fun _=>?_) (fun _=>?_)|refine bndI ?_|intro _)<;>conv=>whnf)))
      simp only [bubN] at H'
      subst H'
      (refine ⟨(i + 1, B), ⟨by simp only;omega, hM, by simp only;rw [H]⟩, (by simp only;omega), ?_⟩;(conv=>whnf);refine ⟨?_, ?_, ?_⟩<;>repeat (first|exact trivial|refine sc rfl ?_|refine kn ?_|refine kc rfl ?_|refine sc (by (show some (intA ((a : Int) + i + 1)) = some (intA ((a : Int) + ((i + 1 : Nat) : Int)));rw [Int.natCast_add, Int.add_assoc];rfl)) ?_|refine kc (by (show some (intA ((a : Int) + i + 1)) = some (intA ((a : Int) + ((i + 1 : Nat) : Int)));rw [Int.natCast_add, Int.add_assoc];rfl)) ?_))
    | true =>
      have hj0 : 0 < j:=by have:=of_decide_eq_true hd;simp only at this;omega
      obtain ⟨k, rfl⟩ : ∃ k, j = k + 1:=⟨j - 1, by omega⟩
      obtain ⟨x, hx, _⟩:=drop_cons (l:=M) (i:=a + (k + 1)) (by omega)
      obtain ⟨y, hy, _⟩:=drop_cons (l:=M) (i:=a + k) (by omega)
      have hc:=ordN_c x y
      simp only [bubN, hx, hy] at H'
      generalize ordN x y = v at *
      have e1 : (a : Int) + ((k + 1 : Nat) : Int) = ((a + (k + 1) : Nat) : Int):=by omega
      have e2 : (a : Int) + ((k + 1 : Nat) : Int) - 1 = ((a + k : Nat) : Int):=by omega
      have hs1:=set_sets M _ (a + (k + 1)) (setA y) y e1 rfl
      have hs2:=set_sets (M.set (a + (k + 1)) y) _ (a + k) (setA x) x e2 rfl
      have hx2 : (M.set (a + (k + 1)) y)[a + k]? = some y:=by rw [List.getElem?_set_ne (by omega), hy]
      conv=>whnf
      repeat (any_goals (first|exact falseI|((first|refine bd ?_ ?_|refine bn ?_ ?_)<;>intro _<;>first|(exfalso;omega)|conv=>whnf)|((first|refine optP_map hx e1 ?_|refine optP_map hy e2 ?_|refine optP_map hx2 e2 ?_|refine callP_a hc ?_|refine forceL_to hs1 ?_|refine forceL_to hs2 ?_|refine dI ?_|refine okI ?_|refine bt ?_|refine bi (fun _=>?_) (fun _=>?_)|refine bndI ?_|intro _)<;>conv=>whnf)))
      · rename_i hv
        rw [if_pos hv] at H'
        (refine ⟨(k, (M.set (a + (k + 1)) y).set (a + k) x), ⟨by simp only;omega, by simp [hM], H'⟩, (by simp only;omega), ?_⟩;(conv=>whnf);refine ⟨?_, ?_, ?_⟩<;>repeat (first|exact trivial|refine sc rfl ?_|refine kn ?_|refine kc rfl ?_|refine sc (by (show some (intA ((a : Int) + ((k + 1 : Nat) : Int) - 1)) = some (intA ((a : Int) + (k : Int)));rw [show (a : Int) + ((k + 1 : Nat) : Int) - 1 = (a : Int) + (k : Int) by omega])) ?_|refine kc (by (show some (intA ((a : Int) + ((k + 1 : Nat) : Int) - 1)) = some (intA ((a : Int) + (k : Int)));rw [show (a : Int) + ((k + 1 : Nat) : Int) - 1 = (a : Int) + (k : Int) by omega])) ?_))
      · rename_i hv
        rw [if_neg hv] at H'
        subst H'
        (refine ⟨(i + 1, B), ⟨by simp only;omega, hM, by simp only;rw [H]⟩, (by simp only;omega), ?_⟩;(conv=>whnf);refine ⟨?_, ?_, ?_⟩<;>repeat (first|exact trivial|refine sc rfl ?_|refine kn ?_|refine kc rfl ?_|refine sc (by (show some (intA ((a : Int) + i + 1)) = some (intA ((a : Int) + ((i + 1 : Nat) : Int)));rw [Int.natCast_add, Int.add_assoc];rfl)) ?_|refine kc (by (show some (intA ((a : Int) + i + 1)) = some (intA ((a : Int) + ((i + 1 : Nat) : Int)));rw [Int.natCast_add, Int.add_assoc];rfl)) ?_))
  · conv=>whnf
    rw [show b - a - i = 0 by have h1 : ¬ (a : Int) + i < b:=h1;omega] at H
    simp only [insF] at H
    subst H
    refine And.intro ?_ ?_
    · conv=>whnf
      refine ⟨⟨?_⟩, trivial⟩
      rfl
    · repeat (first|exact trivial|refine And.intro rfl ?_|refine And.intro (by skip) ?_)
def ltN (m n : Nat) : Bool:=decide (ordN m n < 0)
def order2N (L : List Nat) (a b s : Nat) : Nat × Nat × Nat:=if ltN (L.getD b 0) (L.getD a 0) = true then (b, a, s + 1) else (a, b, s)
def medianN (L : List Nat) (a b c s : Nat) : Nat × Nat :=
  let x:=order2N L a b s
  let y:=order2N L x.2.1 c x.2.2
  let z:=order2N L x.1 y.1 y.2.2
  (z.2.1, z.2.2)
def kW : Key:=⟨0, 107, 11⟩
theorem order2_c (g n : Nat) (L : List Nat) (a b s : Nat) (hn : n ≤ L.length) (ha : a < n) (hb : b < n) (hs : s ≤ 1000) :
    BoxA Tryd.prog (.fn 120) [(kA, g, 1, L.map setA), (kW, 1, 1, [intA s])] [.own kA g 1 n 0, intA a, intA b, .ptr kW 1 1 0 0, cmpF]
      (.tuple [intA (order2N L a b s).1, intA (order2N L a b s).2.1]) [(kA, g, 1, L.map setA), (kW, 1, 1, [intA (order2N L a b s).2.2])]:=by
  obtain ⟨x, hx, _⟩:=drop_cons (l:=L) (i:=a) (by omega)
  obtain ⟨y, hy, _⟩:=drop_cons (l:=L) (i:=b) (by omega)
  have hc:=ordN_c y x
  have e : ltN (L.getD b 0) (L.getD a 0) = decide (ordN y x < 0):=by
    rw [List.getD_eq_getElem?_getD, List.getD_eq_getElem?_getD, hx, hy];rfl
  unfold order2N
  rw [e]
  generalize ordN y x = v at *
  by_cases hv : v < 0
  · rw [if_pos (decide_eq_true hv)]
    refine boxA_codeB tabOk { l:=0, f:=120 } mixed call_120 Tryd.func120 (by kernel_rfl) ?_
    conv=>whnf
    repeat (any_goals (first|exact falseI|((first|refine bd ?_ ?_|refine bn ?_ ?_)<;>intro _<;>first|(exfalso;omega)|conv=>whnf)|((first|refine optP_map hy rfl ?_|refine optP_map hx rfl ?_|refine callP_a hc ?_|refine dI ?_|refine okI ?_|refine bt ?_|refine bi (fun _=>?_) (fun _=>?_)|refine bndI ?_|intro _)<;>conv=>whnf)))
    refine And.intro ?_ ?_
    · conv=>whnf
      refine ⟨⟨?_⟩, trivial⟩
      rfl
    · repeat (first|exact trivial|refine And.intro rfl ?_|refine And.intro (by skip) ?_)
  · rw [if_neg (by simpa using hv)]
    refine boxA_codeB tabOk { l:=0, f:=120 } mixed call_120 Tryd.func120 (by kernel_rfl) ?_
    conv=>whnf
    repeat (any_goals (first|exact falseI|((first|refine bd ?_ ?_|refine bn ?_ ?_)<;>intro _<;>first|(exfalso;omega)|conv=>whnf)|((first|refine optP_map hy rfl ?_|refine optP_map hx rfl ?_|refine callP_a hc ?_|refine dI ?_|refine okI ?_|refine bt ?_|refine bi (fun _=>?_) (fun _=>?_)|refine bndI ?_|intro _)<;>conv=>whnf)))
    refine And.intro ?_ ?_
    · conv=>whnf
      refine ⟨⟨?_⟩, trivial⟩
      rfl
    · repeat (first|exact trivial|refine And.intro rfl ?_|refine And.intro (by skip) ?_)
end Go.Proofs.YtbpiibdcncfphaaDoor
namespace Go.Proofs.YtbpiibdcncfphaaDoor
open Go.Am Go.Proofs Go
theorem tkL_map {α : Type} {f : α→AV} {g : AV→Option AV} (h : ∀ a, g (f a) = some (f a)) : ∀ l : List α, tkL g (l.map f) = some (l.map f)
  | []=>rfl
  | x :: xs=>by simp only [List.map_cons, tkL, h, tkL_map h xs]
theorem tk_sets (ks : List Key) (l : List Nat) : tkL (tk2 ks) (l.map setA) = some (l.map setA):=tkL_map (f:=setA) (g:=tk2 ks) (fun _=>rfl) l
theorem order2N_lt {L : List Nat} {a b s n : Nat} (ha : a < n) (hb : b < n) : (order2N L a b s).1 < n∧(order2N L a b s).2.1 < n∧(order2N L a b s).2.2 ≤ s + 1:=by
  unfold order2N
  split
  · exact ⟨hb, ha, Nat.le_refl _⟩
  · exact ⟨ha, hb, Nat.le_succ _⟩
theorem medianN_lt {L : List Nat} {a b c s n : Nat} (ha : a < n) (hb : b < n) (hc : c < n) : (medianN L a b c s).1 < n∧(medianN L a b c s).2 ≤ s + 3:=by
  unfold medianN
  obtain ⟨x1, x2, x3⟩:=order2N_lt (L:=L) (s:=s) ha hb
  obtain ⟨y1, y2, y3⟩:=order2N_lt (L:=L) (s:=(order2N L a b s).2.2) x2 hc
  obtain ⟨z1, z2, z3⟩:=order2N_lt (L:=L) (s:=(order2N L (order2N L a b s).2.1 c (order2N L a b s).2.2).2.2) x1 y1
  exact ⟨z2, by simp only;omega⟩
theorem median_c (g n : Nat) (L : List Nat) (a b c s : Nat) (hn : n ≤ L.length) (ha : a < n) (hb : b < n) (hc : c < n) (hs : s ≤ 900) :
    BoxA Tryd.prog (.fn 119) [(kA, g, 1, L.map setA), (kW, 1, 1, [intA s])] [.own kA g 1 n 0, intA a, intA b, intA c, .ptr kW 1 1 0 0, cmpF]
      (intA (medianN L a b c s).1) [(kA, g, 1, L.map setA), (kW, 1, 1, [intA (medianN L a b c s).2])]:=by
  unfold medianN
  have h1:=order2_c g n L a b s hn ha hb (by omega)
  obtain ⟨x1, x2, x3⟩:=order2N_lt (L:=L) (s:=s) ha hb
  generalize order2N L a b s = x at *
  obtain ⟨xa, xb, xs⟩:=x
  simp only at h1 x1 x2 x3 ⊢
  have h2:=order2_c g n L xb c xs hn x2 hc (by omega)
  obtain ⟨y1, y2, y3⟩:=order2N_lt (L:=L) (s:=xs) x2 hc
  generalize order2N L xb c xs = y at *
  obtain ⟨ya, yb, ys⟩:=y
  simp only at h2 y1 y2 y3 ⊢
  have h3:=order2_c g n L xa ya ys hn x1 y1 (by omega)
  generalize order2N L xa ya ys = z at *
  obtain ⟨za, zb, zs⟩:=z
  simp only at h3 ⊢
  refine boxA_codeB tabOk { l:=0, f:=119, mat:=[120] } mixed call_119 Tryd.func119 (by kernel_rfl) ?_
  conv=>whnf
  repeat (any_goals (first|exact falseI|((first|refine bd ?_ ?_|refine bn ?_ ?_)<;>intro _<;>first|(exfalso;omega)|conv=>whnf)|((first|refine dI ?_|refine okI ?_|refine bt ?_|refine bi (fun _=>?_) (fun _=>?_)|refine bndI ?_|intro _)<;>conv=>whnf)))
  refine ⟨[kA, kW], ?_⟩
  conv=>whnf
  refine optP_intro (tk_sets _ L) ?_
  conv=>whnf
  refine ⟨_, _, h1, ?_⟩
  conv=>whnf
  refine optP_intro (tk_sets _ L) ?_
  conv=>whnf
  repeat (any_goals (first|exact falseI|((first|refine bd ?_ ?_|refine bn ?_ ?_)<;>intro _<;>first|(exfalso;omega)|conv=>whnf)|((first|refine dI ?_|refine okI ?_|refine bt ?_|refine bi (fun _=>?_) (fun _=>?_)|refine bndI ?_|intro _)<;>conv=>whnf)))
  refine ⟨[kA, kW], ?_⟩
  conv=>whnf
  refine optP_intro (tk_sets _ L) ?_
  conv=>whnf
  refine ⟨_, _, h2, ?_⟩
  conv=>whnf
  refine optP_intro (tk_sets _ L) ?_
  conv=>whnf
  repeat (any_goals (first|exact falseI|((first|refine bd ?_ ?_|refine bn ?_ ?_)<;>intro _<;>first|(exfalso;omega)|conv=>whnf)|((first|refine dI ?_|refine okI ?_|refine bt ?_|refine bi (fun _=>?_) (fun _=>?_)|refine bndI ?_|intro _)<;>conv=>whnf)))
  refine ⟨[kA, kW], ?_⟩
  conv=>whnf
  refine optP_intro (tk_sets _ L) ?_
  conv=>whnf
  refine ⟨_, _, h3, ?_⟩
  conv=>whnf
  refine optP_intro (tk_sets _ L) ?_
  conv=>whnf
  repeat (any_goals (first|exact falseI|((first|refine bd ?_ ?_|refine bn ?_ ?_)<;>intro _<;>first|(exfalso;omega)|conv=>whnf)|((first|refine dI ?_|refine okI ?_|refine bt ?_|refine bi (fun _=>?_) (fun _=>?_)|refine bndI ?_|intro _)<;>conv=>whnf)))
  refine And.intro ?_ ?_
  · conv=>whnf
    refine ⟨⟨?_⟩, trivial⟩
    rfl
  · repeat (first|exact trivial|refine And.intro rfl ?_|refine And.intro (by skip) ?_)
theorem madj_c (g n : Nat) (L : List Nat) (a s : Nat) (hn : n ≤ L.length) (ha : 0 < a) (hb : a + 1 < n) (hn2 : n ≤ 1000) (hs : s ≤ 900) :
    BoxA Tryd.prog (.fn 118) [(kA, g, 1, L.map setA), (kW, 1, 1, [intA s])] [.own kA g 1 n 0, intA a, .ptr kW 1 1 0 0, cmpF]
      (intA (medianN L (a - 1) a (a + 1) s).1) [(kA, g, 1, L.map setA), (kW, 1, 1, [intA (medianN L (a - 1) a (a + 1) s).2])]:=by
  have h1:=median_c g n L (a - 1) a (a + 1) s hn (by omega) (by omega) hb hs
  rw [show ((a - 1 : Nat) : Int) = (a : Int) - 1 by omega, show ((a + 1 : Nat) : Int) = (a : Int) + 1 by omega] at h1
  generalize medianN L (a - 1) a (a + 1) s = x at *
  refine boxA_codeB tabOk { l:=0, f:=118, mat:=[119] } mixed call_118 Tryd.func118 (by kernel_rfl) ?_
  conv=>whnf
  repeat (any_goals (first|exact falseI|((first|refine bd ?_ ?_|refine bn ?_ ?_)<;>intro _<;>first|(exfalso;omega)|conv=>whnf)|((first|refine dI ?_|refine okI ?_|refine bt ?_|refine bi (fun _=>?_) (fun _=>?_)|refine bndI ?_|intro _)<;>conv=>whnf)))
  refine ⟨[kA, kW], ?_⟩
  conv=>whnf
  refine optP_intro (tk_sets _ L) ?_
  conv=>whnf
  refine ⟨_, _, h1, ?_⟩
  conv=>whnf
  refine optP_intro (tk_sets _ L) ?_
  conv=>whnf
  repeat (any_goals (first|exact falseI|((first|refine bd ?_ ?_|refine bn ?_ ?_)<;>intro _<;>first|(exfalso;omega)|conv=>whnf)|((first|refine dI ?_|refine okI ?_|refine bt ?_|refine bi (fun _=>?_) (fun _=>?_)|refine bndI ?_|intro _)<;>conv=>whnf)))
  refine And.intro ?_ ?_
  · conv=>whnf
    refine ⟨⟨?_⟩, trivial⟩
    rfl
  · repeat (first|exact trivial|refine And.intro rfl ?_|refine And.intro (by skip) ?_)
def chooseN (L : List Nat) (a b : Nat) : Nat × Nat :=
  if b - a < 50 then medianN L (a + (b - a) / 4) (a + (b - a) / 4 * 2) (a + (b - a) / 4 * 3) 0 else
    let x:=medianN L (a + (b - a) / 4 - 1) (a + (b - a) / 4) (a + (b - a) / 4 + 1) 0
    let y:=medianN L (a + (b - a) / 4 * 2 - 1) (a + (b - a) / 4 * 2) (a + (b - a) / 4 * 2 + 1) x.2
    let z:=medianN L (a + (b - a) / 4 * 3 - 1) (a + (b - a) / 4 * 3) (a + (b - a) / 4 * 3 + 1) y.2
    medianN L x.1 y.1 z.1 z.2
def hintN (s : Nat) : Int:=if (s : Int) = 0 then 1 else if (s : Int) = 12 then 2 else 0
theorem choose_c (g n : Nat) (L : List Nat) (a b : Nat) (hn : n ≤ L.length) (hb : b ≤ n) (hab : a + 13 ≤ b) (hn2 : n ≤ 1000) :
    BoxA Tryd.prog (.fn 107) [(kA, g, 1, L.map setA)] [.own kA g 1 n 0, intA a, intA b, cmpF]
      (.tuple [intA (chooseN L a b).1, intA (hintN (chooseN L a b).2)]) [(kA, g, 1, L.map setA)]:=by
  have hq : ((b : Int) - a).tdiv 4 = (((b - a) / 4 : Nat) : Int):=by
    rw [show (b : Int) - a = ((b - a : Nat) : Int) by omega, Int.tdiv_eq_ediv_of_nonneg (by omega)]
    rfl
  have e1 : (a : Int) + ((b : Int) - a).tdiv 4 * 1 = ((a + (b - a) / 4 : Nat) : Int):=by rw [hq];omega
  have e2 : (a : Int) + ((b : Int) - a).tdiv 4 * 2 = ((a + (b - a) / 4 * 2 : Nat) : Int):=by rw [hq];omega
  have e3 : (a : Int) + ((b : Int) - a).tdiv 4 * 3 = ((a + (b - a) / 4 * 3 : Nat) : Int):=by rw [hq];omega
  have hq0 : 0 ≤ ((b : Int) - a).tdiv 4∧((b : Int) - a).tdiv 4 ≤ 1000:=by rw [hq];omega
  unfold chooseN
  generalize hQ : (b - a) / 4 = q at *
  by_cases h50 : b - a < 50
  · rw [if_pos h50]
    have hm:=median_c g n L (a + q) (a + q * 2) (a + q * 3) 0 hn (by omega) (by omega) (by omega) (by omega)
    rw [← e1, ← e2, ← e3] at hm
    generalize medianN L (a + q) (a + q * 2) (a + q * 3) 0 = x at *
    unfold hintN
    clear e1 e2 e3 hq
    refine boxA_codeB tabOk { l:=0, f:=107, mat:=[119, 118] } mixed call_107 Tryd.func107 (by kernel_rfl) ?_
    conv=>whnf
    repeat (any_goals (first|exact falseI|((first|refine bd ?_ ?_|refine bn ?_ ?_)<;>intro _<;>first|(exfalso;omega)|conv=>whnf)|((first|refine dI ?_|refine okI ?_|refine bt ?_|refine bi (fun _=>?_) (fun _=>?_)|refine bndI ?_|intro _)<;>conv=>whnf)))
    refine ⟨[kA, kW], ?_⟩
    conv=>whnf
    refine optP_intro (tk_sets _ L) ?_
    conv=>whnf
    refine ⟨_, _, hm, ?_⟩
    conv=>whnf
    refine optP_intro (tk_sets _ L) ?_
    conv=>whnf
    repeat (any_goals (first|exact falseI|((first|refine bd ?_ ?_|refine bn ?_ ?_)<;>intro _<;>first|(exfalso;omega)|conv=>whnf)|((first|refine dI ?_|refine okI ?_|refine bt ?_|refine bi (fun _=>?_) (fun _=>?_)|refine bndI ?_|intro _)<;>conv=>whnf)))
    · rename_i h
      rw [if_pos h]
      refine And.intro ?_ ?_
      · conv=>whnf
        refine ⟨⟨?_⟩, trivial⟩
        rfl
      · repeat (first|exact trivial|refine And.intro rfl ?_|refine And.intro (by skip) ?_)
    · rename_i h h2
      rw [if_neg h, if_pos h2]
      refine And.intro ?_ ?_
      · conv=>whnf
        refine ⟨⟨?_⟩, trivial⟩
        rfl
      · repeat (first|exact trivial|refine And.intro rfl ?_|refine And.intro (by skip) ?_)
    · rename_i h h2
      rw [if_neg h, if_neg h2]
      refine And.intro ?_ ?_
      · conv=>whnf
        refine ⟨⟨?_⟩, trivial⟩
        rfl
      · repeat (first|exact trivial|refine And.intro rfl ?_|refine And.intro (by skip) ?_)
  · rw [if_neg h50]
    have hm1:=madj_c g n L (a + q) 0 hn (by omega) (by omega) hn2 (by omega)
    have k1:=medianN_lt (L:=L) (s:=0) (n:=n) (a:=a + q - 1) (b:=a + q) (c:=a + q + 1) (by omega) (by omega) (by omega)
    rw [← e1] at hm1
    generalize medianN L (a + q - 1) (a + q) (a + q + 1) 0 = x at *
    have hm2:=madj_c g n L (a + q * 2) x.2 hn (by omega) (by omega) hn2 (by omega)
    simp only
    have k2:=medianN_lt (L:=L) (s:=x.2) (n:=n) (a:=a + q * 2 - 1) (b:=a + q * 2) (c:=a + q * 2 + 1) (by omega) (by omega) (by omega)
    rw [← e2] at hm2
    generalize medianN L (a + q * 2 - 1) (a + q * 2) (a + q * 2 + 1) x.2 = y at *
    have hm3:=madj_c g n L (a + q * 3) y.2 hn (by omega) (by omega) hn2 (by omega)
    have k3:=medianN_lt (L:=L) (s:=y.2) (n:=n) (a:=a + q * 3 - 1) (b:=a + q * 3) (c:=a + q * 3 + 1) (by omega) (by omega) (by omega)
    rw [← e3] at hm3
    generalize medianN L (a + q * 3 - 1) (a + q * 3) (a + q * 3 + 1) y.2 = z at *
    have hm:=median_c g n L x.1 y.1 z.1 z.2 hn k1.1 k2.1 k3.1 (by omega)
    generalize medianN L x.1 y.1 z.1 z.2 = r at *
    unfold hintN
    clear e1 e2 e3 hq
    refine boxA_codeB tabOk { l:=0, f:=107, mat:=[119, 118] } mixed call_107 Tryd.func107 (by kernel_rfl) ?_
    conv=>whnf
    repeat (any_goals (first|exact falseI|((first|refine bd ?_ ?_|refine bn ?_ ?_)<;>intro _<;>first|(exfalso;omega)|conv=>whnf)|((first|refine dI ?_|refine okI ?_|refine bt ?_|refine bi (fun _=>?_) (fun _=>?_)|refine bndI ?_|intro _)<;>conv=>whnf)))
    refine ⟨[kA, kW], ?_⟩
    conv=>whnf
    refine optP_intro (tk_sets _ L) ?_
    conv=>whnf
    refine ⟨_, _, hm1, ?_⟩
    conv=>whnf
    refine optP_intro (tk_sets _ L) ?_
    conv=>whnf
    repeat (any_goals (first|exact falseI|((first|refine bd ?_ ?_|refine bn ?_ ?_)<;>intro _<;>first|(exfalso;omega)|conv=>whnf)|((first|refine dI ?_|refine okI ?_|refine bt ?_|refine bi (fun _=>?_) (fun _=>?_)|refine bndI ?_|intro _)<;>conv=>whnf)))
    refine ⟨[kA, kW], ?_⟩
    conv=>whnf
    refine optP_intro (tk_sets _ L) ?_
    conv=>whnf
    refine ⟨_, _, hm2, ?_⟩
    conv=>whnf
    refine optP_intro (tk_sets _ L) ?_
    conv=>whnf
    repeat (any_goals (first|exact falseI|((first|refine bd ?_ ?_|refine bn ?_ ?_)<;>intro _<;>first|(exfalso;omega)|conv=>whnf)|((first|refine dI ?_|refine okI ?_|refine bt ?_|refine bi (fun _=>?_) (fun _=>?_)|refine bndI ?_|intro _)<;>conv=>whnf)))
    refine ⟨[kA, kW], ?_⟩
    conv=>whnf
    refine optP_intro (tk_sets _ L) ?_
    conv=>whnf
    refine ⟨_, _, hm3, ?_⟩
    conv=>whnf
    refine optP_intro (tk_sets _ L) ?_
    conv=>whnf
    repeat (any_goals (first|exact falseI|((first|refine bd ?_ ?_|refine bn ?_ ?_)<;>intro _<;>first|(exfalso;omega)|conv=>whnf)|((first|refine dI ?_|refine okI ?_|refine bt ?_|refine bi (fun _=>?_) (fun _=>?_)|refine bndI ?_|intro _)<;>conv=>whnf)))
    refine ⟨[kA, kW], ?_⟩
    conv=>whnf
    refine optP_intro (tk_sets _ L) ?_
    conv=>whnf
    refine ⟨_, _, hm, ?_⟩
    conv=>whnf
    refine optP_intro (tk_sets _ L) ?_
    conv=>whnf
    repeat (any_goals (first|exact falseI|((first|refine bd ?_ ?_|refine bn ?_ ?_)<;>intro _<;>first|(exfalso;omega)|conv=>whnf)|((first|refine dI ?_|refine okI ?_|refine bt ?_|refine bi (fun _=>?_) (fun _=>?_)|refine bndI ?_|intro _)<;>conv=>whnf)))
    · rename_i h
      rw [if_pos h]
      refine And.intro ?_ ?_
      · conv=>whnf
        refine ⟨⟨?_⟩, trivial⟩
        rfl
      · repeat (first|exact trivial|refine And.intro rfl ?_|refine And.intro (by skip) ?_)
    · rename_i h h2
      rw [if_neg h, if_pos h2]
      refine And.intro ?_ ?_
      · conv=>whnf
        refine ⟨⟨?_⟩, trivial⟩
        rfl
      · repeat (first|exact trivial|refine And.intro rfl ?_|refine And.intro (by skip) ?_)
    · rename_i h h2
      rw [if_neg h, if_neg h2]
      refine And.intro ?_ ?_
      · conv=>whnf
        refine ⟨⟨?_⟩, trivial⟩
        rfl
      · repeat (first|exact trivial|refine And.intro rfl ?_|refine And.intro (by skip) ?_)
end Go.Proofs.YtbpiibdcncfphaaDoor
namespace Go.Proofs.YtbpiibdcncfphaaDoor
open Go.Am Go.Proofs Go
def atN (L : List Nat) (i : Nat) : Nat:=L.getD i 0
theorem at_get {L : List Nat} {i : Nat} (h : i < L.length) : L[i]? = some (atN L i):=by
  unfold atN;rw [List.getD_eq_getElem?_getD, List.getElem?_eq_getElem h];rfl
def scanN (L : List Nat) : Nat→Nat→Nat × Nat
  | 0, i=>(i, 0)
  | k + 1, i=>if ltN (atN L i) (atN L (i - 1)) = true then (i, k + 1) else scanN L k (i + 1)
def partialOk (L : List Nat) (a b : Nat) : Bool:=decide (b - a < 50) && decide ((scanN L (b - a - 1) (a + 1)).2 ≠ 0)
theorem partial_c (g n : Nat) (L : List Nat) (a b : Nat) (hn : n ≤ L.length) (hb : b ≤ n) (hab : a + 13 ≤ b) (hn2 : n ≤ 1000) (hok : partialOk L a b = true) :
    BoxA Tryd.prog (.fn 109) [(kA, g, 1, L.map setA)] [.own kA g 1 n 0, intA a, intA b, cmpF] (boolA false) [(kA, g, 1, L.map setA)]:=by
  simp only [partialOk, Bool.and_eq_true, decide_eq_true_eq] at hok
  obtain ⟨h50, hsc⟩:=hok
  have hcmp:=ordN_c
  refine boxA_codeB tabOk { l:=0, f:=109 } mixed call_109 Tryd.func109 (by kernel_rfl) ?_
  conv=>whnf
  repeat (any_goals (first|exact falseI|((first|refine bd ?_ ?_|refine bn ?_ ?_)<;>intro _<;>first|(exfalso;omega)|conv=>whnf)|((first|refine dI ?_|refine okI ?_|refine bt ?_|refine bi (fun _=>?_) (fun _=>?_)|refine bndI ?_|intro _)<;>conv=>whnf)))
  refine loopK tabOk { l:=0, f:=109 } mixed (fun _ : Unit=>[(9, intA ((a : Int) + 1)), (10, intA 0)]) (fun _=>[(kA, some (g, some (1, L.map setA)))]) (fun _=>[]) (fun _=>True) (fun _=>0) () (by kernel_rfl)
    trivial ?_
  conv=>whnf
  refine ⟨⟨slotsLe_cons rfl (slotsLe_cons rfl trivial), keysLe_cons rfl trivial, trivial⟩, ?_⟩
  intro _ _
  conv=>whnf
  repeat (any_goals (first|exact falseI|((first|refine bd ?_ ?_|refine bn ?_ ?_)<;>intro _<;>first|(exfalso;omega)|conv=>whnf)|((first|refine dI ?_|refine okI ?_|refine bt ?_|refine bi (fun _=>?_) (fun _=>?_)|refine bndI ?_|intro _)<;>conv=>whnf)))
  refine loopK tabOk { l:=0, f:=109 } mixed (fun x : Nat × Nat=>[(9, intA x.1)]) (fun _=>[(kA, some (g, some (1, L.map setA)))]) (fun _=>[]) (fun x=>a + 1 ≤ x.1∧x.1 + x.2 = b∧(scanN L x.2 x.1).2 ≠ 0) (fun x=>x.2) (a + 1, b - a - 1) (by kernel_rfl)
    ⟨Nat.le_refl _, by simp only;omega, hsc⟩ ?_
  conv=>whnf
  refine ⟨⟨slotsLe_cons (by show some (intA ((a : Int) + 1)) = some (intA ((a + 1 : Nat) : Int));rw [Int.natCast_add];rfl) trivial, keysLe_cons rfl trivial, trivial⟩, ?_⟩
  clear hsc
  intro ⟨i, k⟩ ⟨hi, hk, H⟩
  simp only at hi hk H
  cases k with
  | zero=>simp [scanN] at H
  | succ k =>
    have hx:=at_get (L:=L) (i:=i) (by omega)
    have hy:=at_get (L:=L) (i:=i - 1) (by omega)
    have hc:=hcmp (atN L i) (atN L (i - 1))
    have hi1 : (i : Int) - 1 = ((i - 1 : Nat) : Int):=by omega
    have hib : (i : Int) < b:=by omega
    have H' : ¬ ordN (atN L i) (atN L (i - 1)) < 0→(scanN L k (i + 1)).2 ≠ 0:=by
      intro h
      rw [scanN, if_neg (by simpa [ltN] using h)] at H
      exact H
    obtain ⟨v, hv0⟩ : ∃ v, v = ordN (atN L i) (atN L (i - 1)):=⟨_, rfl⟩
    rw [← hv0] at hc H'
    clear hv0 H
    obtain ⟨x, hx0⟩ : ∃ x, x = atN L i:=⟨_, rfl⟩
    rw [← hx0] at hx hc
    obtain ⟨y, hy0⟩ : ∃ y, y = atN L (i - 1):=⟨_, rfl⟩
    rw [← hy0] at hy hc
    clear hx0 hy0
    conv=>whnf
    by_cases hv : v < 0
    · have hne : ¬ (i : Int) = b:=by omega
      have h50' : (b : Int) - a < 50:=by omega
      repeat (any_goals (first|exact falseI|((first|refine bd ?_ ?_|refine bn ?_ ?_)<;>intro _<;>first|(exfalso;omega)|conv=>whnf)|((first|refine optP_map hx rfl ?_|refine optP_map hy hi1 ?_|refine callP_a hc ?_|refine dI ?_|refine okI ?_|refine bt ?_|refine bi (fun _=>?_) (fun _=>?_)|refine bndI ?_|intro _)<;>conv=>whnf)))
      refine And.intro ?_ ?_
      · conv=>whnf
        refine ⟨⟨?_⟩, trivial⟩
        rfl
      · repeat (first|exact trivial|refine And.intro rfl ?_|refine And.intro (by skip) ?_)
    · have H:=H' hv
      repeat (any_goals (first|exact falseI|((first|refine bd ?_ ?_|refine bn ?_ ?_)<;>intro _<;>first|(exfalso;omega)|conv=>whnf)|((first|refine optP_map hx rfl ?_|refine optP_map hy hi1 ?_|refine callP_a hc ?_|refine dI ?_|refine okI ?_|refine bt ?_|refine bi (fun _=>?_) (fun _=>?_)|refine bndI ?_|intro _)<;>conv=>whnf)))
      (refine ⟨(i + 1, k), ⟨by simp only;omega, by simp only;omega, H⟩, (by simp only;omega), ?_⟩;(conv=>whnf);refine ⟨?_, ?_, ?_⟩<;>repeat (first|exact trivial|refine sc rfl ?_|refine kn ?_|refine kc rfl ?_|refine sc (by rfl) ?_|refine kc (by rfl) ?_))
def swapN (L : List Nat) (x y : Nat) : List Nat:=(L.set x (atN L y)).set y (atN L x)
def upN (L : List Nat) (a : Nat) : Nat→Nat→Nat × Nat
  | 0, i=>(i, 0)
  | k + 1, i=>if ltN (atN L i) (atN L a) = true then upN L a k (i + 1) else (i, k + 1)
def dnN (L : List Nat) (a i : Nat) : Nat→Nat
  | 0=>0
  | k + 1=>if ltN (atN L (i + k)) (atN L a) = true then k + 1 else dnN L a i k
def partF (a : Nat) : Nat→Nat→Nat→List Nat→Option (Nat × List Nat)
  | 0, _, _, _=>none
  | f + 1, i, k, L =>
    match upN L a k i with
    | (i', k')=>match dnN L a i' k' with
      | 0=>some (i' - 1, L)
      | 1=>none
      | d + 2=>partF a f (i' + 1) d (swapN L i' (i' + d + 1))
def partN (L : List Nat) (a b p : Nat) : Option (Nat × List Nat) :=
  match upN (swapN L a p) a (b - a - 1) (a + 1) with
  | (i', k')=>match dnN (swapN L a p) a i' k' with
    | 0=>none
    | 1=>none
    | d + 2=>match partF a b (i' + 1) d (swapN (swapN L a p) i' (i' + d + 1)) with
      | none=>none
      | some (j, M)=>some (j, swapN M j a)
theorem swapN_len (L : List Nat) (x y : Nat) : (swapN L x y).length = L.length:=by simp [swapN]
end Go.Proofs.YtbpiibdcncfphaaDoor
namespace Go.Proofs.YtbpiibdcncfphaaDoor
open Go.Am Go.Proofs Go
set_option maxHeartbeats 8000000 in
theorem part_c (g n : Nat) (X : List Nat) (a b p jr : Nat) (R : List Nat) (hn : n ≤ X.length) (hb : b ≤ n) (hab : a + 13 ≤ b) (hp : a ≤ p∧p < b) (hn2 : n ≤ 1000) (hR : partN X a b p = some (jr, R)) :
    BoxA Tryd.prog (.fn 111) [(kA, g, 1, X.map setA)] [.own kA g 1 n 0, intA a, intA b, intA p, cmpF] (.tuple [intA jr, boolA false]) [(kA, g, 1, R.map setA)]:=by
  have hcmp:=ordN_c
  unfold partN at hR
  have g10:=at_get (L:=X) (i:=p) (by omega)
  have g20:=at_get (L:=X) (i:=a) (by omega)
  have g30:=at_get (L:=X.set (a) (atN X (p))) (i:=p) (by rw [List.length_set];omega)
  have s10:=set_sets X _ (a) (setA (atN X (p))) (atN X (p)) rfl rfl
  have s20:=set_sets (X.set (a) (atN X (p))) _ (p) (setA (atN X (a))) (atN X (a)) rfl rfl
  have hLL:=swapN_len X a p
  have hLe : (X.set a (atN X p)).set p (atN X a) = swapN X a p:=rfl
  rw [hLe] at s20
  generalize swapN X a p = L at *
  obtain ⟨U, hU⟩ : ∃ U, U = upN L a (b - a - 1) (a + 1):=⟨_, rfl⟩
  rw [← hU] at hR
  obtain ⟨J, hJ⟩ : ∃ J : Int, J = (b : Int) - 1:=⟨_, rfl⟩
  refine boxA_codeB tabOk { l:=0, f:=111 } mixed call_111 Tryd.func111 (by kernel_rfl) ?_
  conv=>whnf
  repeat (any_goals (first|exact falseI|((first|refine bd ?_ ?_|refine bn ?_ ?_)<;>intro _<;>first|(exfalso;omega)|conv=>whnf)|((first|refine optP_map g10 rfl ?_|refine optP_map g20 rfl ?_|refine optP_map g30 rfl ?_|refine forceL_to s10 ?_|refine forceL_to s20 ?_|refine dI ?_|refine okI ?_|refine bt ?_|refine bi (fun _=>?_) (fun _=>?_)|refine bndI ?_|intro _)<;>conv=>whnf)))
  refine loopK tabOk { l:=0, f:=111 } mixed (fun x : Nat × Nat=>[(12, intA x.1)]) (fun _=>[(kA, some (g, some (1, L.map setA)))]) (fun _=>[]) (fun x=>a + 1 ≤ x.1∧(x.1 : Int) + x.2 = J + 1∧U = upN L a x.2 x.1) (fun x=>x.2) (a + 1, b - a - 1) (by kernel_rfl)
    ⟨by simp only;omega, by simp only;omega, hU⟩ ?_
  conv=>whnf
  refine ⟨⟨slotsLe_cons rfl trivial, keysLe_cons rfl trivial, trivial⟩, ?_⟩
  clear hU
  intro ⟨i, k⟩ ⟨hi, hik, hU⟩
  simp only at hi hik hU
  cases k with
  | zero =>
    have hn0 : ¬ (i : Int) ≤ J:=by omega
    simp only [upN] at hU
    rw [hU] at hR
    simp [dnN] at hR
  | succ k =>
    have hn0 : (i : Int) ≤ J:=by omega
    have hx:=at_get (L:=L) (i:=i) (by omega)
    have hy:=at_get (L:=L) (i:=a) (by omega)
    have hc:=hcmp (atN L i) (atN L a)
    by_cases hv : ordN (atN L i) (atN L a) < 0
    · rw [upN, if_pos (by simpa [ltN] using hv)] at hU
      obtain ⟨v, hv0⟩ : ∃ v, v = ordN (atN L i) (atN L a):=⟨_, rfl⟩
      rw [← hv0] at hc hv
      conv=>whnf
      repeat (any_goals (first|exact falseI|((first|refine bd ?_ ?_|refine bn ?_ ?_)<;>intro _<;>first|(exfalso;omega)|conv=>whnf)|((first|refine optP_map hx rfl ?_|refine optP_map hy rfl ?_|refine callP_a hc ?_|refine dI ?_|refine okI ?_|refine bt ?_|refine bi (fun _=>?_) (fun _=>?_)|refine bndI ?_|intro _)<;>conv=>whnf)))
      (refine ⟨(i + 1, k), ⟨by simp only;omega, by simp only;omega, hU⟩, (by simp only;omega), ?_⟩;(conv=>whnf);refine ⟨?_, ?_, ?_⟩<;>repeat (first|exact trivial|refine sc rfl ?_|refine kn ?_|refine kc rfl ?_|refine sc (by rfl) ?_|refine kc (by rfl) ?_))
    · rw [upN, if_neg (by simpa [ltN] using hv)] at hU
      obtain ⟨v, hv0⟩ : ∃ v, v = ordN (atN L i) (atN L a):=⟨_, rfl⟩
      rw [← hv0] at hc hv
      conv=>whnf
      repeat (any_goals (first|exact falseI|((first|refine bd ?_ ?_|refine bn ?_ ?_)<;>intro _<;>first|(exfalso;omega)|conv=>whnf)|((first|refine optP_map hx rfl ?_|refine optP_map hy rfl ?_|refine callP_a hc ?_|refine dI ?_|refine okI ?_|refine bt ?_|refine bi (fun _=>?_) (fun _=>?_)|refine bndI ?_|intro _)<;>conv=>whnf)))
      clear hx hy hc hv hv0
      rw [hU] at hR
      simp only at hR
      obtain ⟨D, hD⟩ : ∃ D, D = dnN L a i (k + 1):=⟨_, rfl⟩
      rw [← hD] at hR
      refine loopK tabOk { l:=0, f:=111 } mixed (fun k : Nat=>[(13, intA ((i : Int) + k - 1))]) (fun _=>[(kA, some (g, some (1, L.map setA)))]) (fun _=>[]) (fun k=>i + k ≤ b∧D = dnN L a i k) (fun k=>k) (k + 1) (by kernel_rfl)
        ⟨by omega, hD⟩ ?_
      conv=>whnf
      refine ⟨⟨slotsLe_cons (congrArg (fun z : Int=>some (intA z)) (by first|omega|(simp only;omega))) trivial, keysLe_cons rfl trivial, trivial⟩, ?_⟩
      clear hD
      intro q ⟨hq, hD⟩
      cases q with
      | zero =>
        have hn1 : ¬ (i : Int) ≤ (i : Int) + ((0 : Nat) : Int) - 1:=by omega
        simp only [dnN] at hD
        rw [hD] at hR
        simp at hR
      | succ q =>
        have hn1 : (i : Int) ≤ (i : Int) + ((q + 1 : Nat) : Int) - 1:=by omega
        have ej : (i : Int) + ((q + 1 : Nat) : Int) - 1 = ((i + q : Nat) : Int):=by omega
        have hx:=at_get (L:=L) (i:=i + q) (by omega)
        have hy:=at_get (L:=L) (i:=a) (by omega)
        have hc:=hcmp (atN L (i + q)) (atN L a)
        by_cases hv : ordN (atN L (i + q)) (atN L a) < 0
        · rw [dnN, if_pos (by simpa [ltN] using hv)] at hD
          obtain ⟨v, hv0⟩ : ∃ v, v = ordN (atN L (i + q)) (atN L a):=⟨_, rfl⟩
          rw [← hv0] at hc hv
          rw [hD] at hR
          cases q with
          | zero=>simp at hR
          | succ d =>
            simp only at hR
            have ej2 : (i : Int) + ((d + 1 + 1 : Nat) : Int) - 1 = ((i + d + 1 : Nat) : Int):=by omega
            have g1n:=at_get (L:=L) (i:=i + d + 1) (by omega)
            have g2n:=at_get (L:=L) (i:=i) (by omega)
            have g3n:=at_get (L:=L.set (i) (atN L (i + d + 1))) (i:=i + d + 1) (by rw [List.length_set];omega)
            have s1n:=set_sets L _ (i) (setA (atN L (i + d + 1))) (atN L (i + d + 1)) rfl rfl
            have s2n:=set_sets (L.set (i) (atN L (i + d + 1))) _ (i + d + 1) (setA (atN L (i))) (atN L (i)) ej2 rfl
            obtain ⟨jr', Mr, H, hj1, hj2⟩ : ∃ jr' Mr, partF a b (i + 1) d (swapN L i (i + d + 1)) = some (jr', Mr)∧jr = jr'∧R = swapN Mr jr' a:=by
              cases hP : partF a b (i + 1) d (swapN L i (i + d + 1)) with
              | none=>rw [hP] at hR;simp at hR
              | some x=>rw [hP] at hR;simp at hR;exact ⟨x.1, x.2, rfl, hR.1.symm, hR.2.symm⟩
            subst hj1 hj2
            clear hR
            conv=>whnf
            repeat (any_goals (first|exact falseI|((first|refine bd ?_ ?_|refine bn ?_ ?_)<;>intro _<;>first|(exfalso;omega)|conv=>whnf)|((first|refine optP_map hx ej ?_|refine optP_map hy rfl ?_|refine callP_a hc ?_|refine optP_map g1n ej2 ?_|refine optP_map g2n rfl ?_|refine optP_map g3n ej2 ?_|refine forceL_to s1n ?_|refine forceL_to s2n ?_|refine dI ?_|refine okI ?_|refine bt ?_|refine bi (fun _=>?_) (fun _=>?_)|refine bndI ?_|intro _)<;>conv=>whnf)))
            clear hx hy hc hv hv0 ej hn0 hn1
            refine loopK tabOk { l:=0, f:=111 } mixed (fun x : Nat × Nat × Nat × List Nat=>[(12, intA x.2.1), (13, intA ((x.2.1 : Int) + x.2.2.1 - 1))]) (fun x=>[(kA, some (g, some (1, x.2.2.2.map setA)))]) (fun _=>[]) (fun x=>a + 1 ≤ x.2.1∧x.2.1 + x.2.2.1 ≤ b∧x.2.2.2.length = X.length∧partF a x.1 x.2.1 x.2.2.1 x.2.2.2 = some (jr, Mr)) (fun x=>x.1) (b, i + 1, d, swapN L i (i + d + 1)) (by kernel_rfl)
              ⟨by simp only;omega, by simp only;omega, by simp only;rw [swapN_len];exact hLL, H⟩ ?_
            conv=>whnf
            refine ⟨⟨slotsLe_cons rfl (slotsLe_cons (by first|rfl|exact congrArg (fun z : Int=>some (intA z)) (by first|omega|(simp only;omega))) trivial), keysLe_cons rfl trivial, trivial⟩, ?_⟩
            clear H
            intro ⟨f, i, k, M⟩ ⟨hi, hik0, hML, H⟩
            simp only at hi hik0 hML H
            cases f with
            | zero=>simp [partF] at H
            | succ f =>
              have q1 : ((f + 1, i, k, M) : Nat × Nat × Nat × List Nat).snd.fst = i:=rfl
              have q2 : ((f + 1, i, k, M) : Nat × Nat × Nat × List Nat).snd.snd.fst = k:=rfl
              rw [partF] at H
              obtain ⟨U, hU⟩ : ∃ U, U = upN M a k i:=⟨_, rfl⟩
              obtain ⟨J, hJ⟩ : ∃ J : Int, J = (i : Int) + k - 1:=⟨_, rfl⟩
              rw [← hU] at H
              conv=>whnf
              repeat (any_goals (first|exact falseI|((first|refine bd ?_ ?_|refine bn ?_ ?_)<;>intro _<;>first|(exfalso;omega)|conv=>whnf)|((first|refine dI ?_|refine okI ?_|refine bt ?_|refine bi (fun _=>?_) (fun _=>?_)|refine bndI ?_|intro _)<;>conv=>whnf)))
              refine loopK tabOk { l:=0, f:=111 } mixed (fun x : Nat × Nat=>[(12, intA x.1)]) (fun _=>[(kA, some (g, some (1, M.map setA)))]) (fun _=>[]) (fun x=>a + 1 ≤ x.1∧(x.1 : Int) + x.2 = J + 1∧U = upN M a x.2 x.1) (fun x=>x.2) (i, k) (by kernel_rfl)
                ⟨by simp only;omega, by simp only;omega, hU⟩ ?_
              conv=>whnf
              refine ⟨⟨slotsLe_cons rfl trivial, keysLe_cons rfl trivial, trivial⟩, ?_⟩
              clear hU
              intro ⟨i, k⟩ ⟨hi, hik, hU⟩
              simp only at hi hik hU
              cases k with
              | zero =>
                have hn0 : ¬ (i : Int) ≤ J:=by omega
                simp only [upN] at hU
                conv=>whnf
                repeat (any_goals (first|exact falseI|((first|refine bd ?_ ?_|refine bn ?_ ?_)<;>intro _<;>first|(exfalso;omega)|conv=>whnf)|((first|refine dI ?_|refine okI ?_|refine bt ?_|refine bi (fun _=>?_) (fun _=>?_)|refine bndI ?_|intro _)<;>conv=>whnf)))
                rw [hU] at H
                simp only at H
                obtain ⟨D, hD⟩ : ∃ D, D = dnN M a i (0):=⟨_, rfl⟩
                rw [← hD] at H
                refine loopK tabOk { l:=0, f:=111 } mixed (fun k : Nat=>[(13, intA ((i : Int) + k - 1))]) (fun _=>[(kA, some (g, some (1, M.map setA)))]) (fun _=>[]) (fun k=>i + k ≤ b∧D = dnN M a i k) (fun k=>k) (0) (by kernel_rfl)
                  ⟨by omega, hD⟩ ?_
                conv=>whnf
                refine ⟨⟨slotsLe_cons (congrArg (fun z : Int=>some (intA z)) (by first|omega|(simp only;omega))) trivial, keysLe_cons rfl trivial, trivial⟩, ?_⟩
                clear hD
                intro q ⟨hq, hD⟩
                cases q with
                | zero =>
                  have hn1 : ¬ (i : Int) ≤ (i : Int) + ((0 : Nat) : Int) - 1:=by omega
                  simp only [dnN] at hD
                  rw [hD] at H
                  have hjn : (i : Int) + ((0 : Nat) : Int) - 1 = ((i - 1 : Nat) : Int):=by omega
                  have g1f:=at_get (L:=M) (i:=a) (by omega)
                  have g2f:=at_get (L:=M) (i:=i - 1) (by omega)
                  have g3f:=at_get (L:=M.set (i - 1) (atN M (a))) (i:=a) (by rw [List.length_set];omega)
                  have s1f:=set_sets M _ (i - 1) (setA (atN M (a))) (atN M (a)) hjn rfl
                  have s2f:=set_sets (M.set (i - 1) (atN M (a))) _ (a) (setA (atN M (i - 1))) (atN M (i - 1)) rfl rfl
                  simp only [Option.some.injEq, Prod.mk.injEq] at H
                  obtain ⟨h1, h2⟩:=H
                  subst h2
                  subst h1
                  conv=>whnf
                  repeat (any_goals (first|exact falseI|((first|refine bd ?_ ?_|refine bn ?_ ?_)<;>intro _<;>first|(exfalso;omega)|conv=>whnf)|((first|refine optP_map g1f rfl ?_|refine optP_map g2f hjn ?_|refine optP_map g3f rfl ?_|refine forceL_to s1f ?_|refine forceL_to s2f ?_|refine dI ?_|refine okI ?_|refine bt ?_|refine bi (fun _=>?_) (fun _=>?_)|refine bndI ?_|intro _)<;>conv=>whnf)))
                  refine And.intro ?_ ?_
                  · conv=>whnf
                    refine ⟨⟨?_⟩, trivial⟩
                    (rw [← hjn];rfl)
                  · repeat (first|exact trivial|refine And.intro rfl ?_|refine And.intro (by rfl) ?_)
                | succ q =>
                  have hn1 : (i : Int) ≤ (i : Int) + ((q + 1 : Nat) : Int) - 1:=by omega
                  have ej : (i : Int) + ((q + 1 : Nat) : Int) - 1 = ((i + q : Nat) : Int):=by omega
                  have hx:=at_get (L:=M) (i:=i + q) (by omega)
                  have hy:=at_get (L:=M) (i:=a) (by omega)
                  have hc:=hcmp (atN M (i + q)) (atN M a)
                  by_cases hv : ordN (atN M (i + q)) (atN M a) < 0
                  · rw [dnN, if_pos (by simpa [ltN] using hv)] at hD
                    obtain ⟨v, hv0⟩ : ∃ v, v = ordN (atN M (i + q)) (atN M a):=⟨_, rfl⟩
                    rw [← hv0] at hc hv
                    rw [hD] at H
                    cases q with
                    | zero=>simp at H
                    | succ d =>
                      simp only at H
                      have ej2 : (i : Int) + ((d + 1 + 1 : Nat) : Int) - 1 = ((i + d + 1 : Nat) : Int):=by omega
                      have g1n:=at_get (L:=M) (i:=i + d + 1) (by omega)
                      have g2n:=at_get (L:=M) (i:=i) (by omega)
                      have g3n:=at_get (L:=M.set (i) (atN M (i + d + 1))) (i:=i + d + 1) (by rw [List.length_set];omega)
                      have s1n:=set_sets M _ (i) (setA (atN M (i + d + 1))) (atN M (i + d + 1)) rfl rfl
                      have s2n:=set_sets (M.set (i) (atN M (i + d + 1))) _ (i + d + 1) (setA (atN M (i))) (atN M (i)) ej2 rfl
                      conv=>whnf
                      repeat (any_goals (first|exact falseI|((first|refine bd ?_ ?_|refine bn ?_ ?_)<;>intro _<;>first|(exfalso;omega)|conv=>whnf)|((first|refine optP_map hx ej ?_|refine optP_map hy rfl ?_|refine callP_a hc ?_|refine optP_map g1n ej2 ?_|refine optP_map g2n rfl ?_|refine optP_map g3n ej2 ?_|refine forceL_to s1n ?_|refine forceL_to s2n ?_|refine dI ?_|refine okI ?_|refine bt ?_|refine bi (fun _=>?_) (fun _=>?_)|refine bndI ?_|intro _)<;>conv=>whnf)))
                      (refine ⟨(f, i + 1, d, swapN M i (i + d + 1)), ⟨by simp only;omega, by simp only;omega, by simp only;rw [swapN_len];exact hML, H⟩, (by simp only;omega), ?_⟩;(conv=>whnf);refine ⟨?_, ?_, ?_⟩<;>repeat (first|exact trivial|refine sc rfl ?_|refine kn ?_|refine kc rfl ?_|refine sc (by first|rfl|exact congrArg (fun z : Int=>some (intA z)) (by first|omega|(simp only;omega))) ?_|refine kc (by first|rfl|exact congrArg (fun z : Int=>some (intA z)) (by first|omega|(simp only;omega))) ?_))
                  · rw [dnN, if_neg (by simpa [ltN] using hv)] at hD
                    obtain ⟨v, hv0⟩ : ∃ v, v = ordN (atN M (i + q)) (atN M a):=⟨_, rfl⟩
                    rw [← hv0] at hc hv
                    conv=>whnf
                    repeat (any_goals (first|exact falseI|((first|refine bd ?_ ?_|refine bn ?_ ?_)<;>intro _<;>first|(exfalso;omega)|conv=>whnf)|((first|refine optP_map hx ej ?_|refine optP_map hy rfl ?_|refine callP_a hc ?_|refine dI ?_|refine okI ?_|refine bt ?_|refine bi (fun _=>?_) (fun _=>?_)|refine bndI ?_|intro _)<;>conv=>whnf)))
                    (refine ⟨q, ⟨by omega, hD⟩, (by omega), ?_⟩;(conv=>whnf);refine ⟨?_, ?_, ?_⟩<;>repeat (first|exact trivial|refine sc rfl ?_|refine kn ?_|refine kc rfl ?_|refine sc (by exact congrArg (fun z : Int=>some (intA z)) (by first|omega|(simp only;omega))) ?_|refine kc (by exact congrArg (fun z : Int=>some (intA z)) (by first|omega|(simp only;omega))) ?_))
              | succ k =>
                have hn0 : (i : Int) ≤ J:=by omega
                have hx:=at_get (L:=M) (i:=i) (by omega)
                have hy:=at_get (L:=M) (i:=a) (by omega)
                have hc:=hcmp (atN M i) (atN M a)
                by_cases hv : ordN (atN M i) (atN M a) < 0
                · rw [upN, if_pos (by simpa [ltN] using hv)] at hU
                  obtain ⟨v, hv0⟩ : ∃ v, v = ordN (atN M i) (atN M a):=⟨_, rfl⟩
                  rw [← hv0] at hc hv
                  conv=>whnf
                  repeat (any_goals (first|exact falseI|((first|refine bd ?_ ?_|refine bn ?_ ?_)<;>intro _<;>first|(exfalso;omega)|conv=>whnf)|((first|refine optP_map hx rfl ?_|refine optP_map hy rfl ?_|refine callP_a hc ?_|refine dI ?_|refine okI ?_|refine bt ?_|refine bi (fun _=>?_) (fun _=>?_)|refine bndI ?_|intro _)<;>conv=>whnf)))
                  (refine ⟨(i + 1, k), ⟨by simp only;omega, by simp only;omega, hU⟩, (by simp only;omega), ?_⟩;(conv=>whnf);refine ⟨?_, ?_, ?_⟩<;>repeat (first|exact trivial|refine sc rfl ?_|refine kn ?_|refine kc rfl ?_|refine sc (by rfl) ?_|refine kc (by rfl) ?_))
                · rw [upN, if_neg (by simpa [ltN] using hv)] at hU
                  obtain ⟨v, hv0⟩ : ∃ v, v = ordN (atN M i) (atN M a):=⟨_, rfl⟩
                  rw [← hv0] at hc hv
                  conv=>whnf
                  repeat (any_goals (first|exact falseI|((first|refine bd ?_ ?_|refine bn ?_ ?_)<;>intro _<;>first|(exfalso;omega)|conv=>whnf)|((first|refine optP_map hx rfl ?_|refine optP_map hy rfl ?_|refine callP_a hc ?_|refine dI ?_|refine okI ?_|refine bt ?_|refine bi (fun _=>?_) (fun _=>?_)|refine bndI ?_|intro _)<;>conv=>whnf)))
                  clear hx hy hc hv hv0
                  rw [hU] at H
                  simp only at H
                  obtain ⟨D, hD⟩ : ∃ D, D = dnN M a i (k + 1):=⟨_, rfl⟩
                  rw [← hD] at H
                  refine loopK tabOk { l:=0, f:=111 } mixed (fun k : Nat=>[(13, intA ((i : Int) + k - 1))]) (fun _=>[(kA, some (g, some (1, M.map setA)))]) (fun _=>[]) (fun k=>i + k ≤ b∧D = dnN M a i k) (fun k=>k) (k + 1) (by kernel_rfl)
                    ⟨by omega, hD⟩ ?_
                  conv=>whnf
                  refine ⟨⟨slotsLe_cons (congrArg (fun z : Int=>some (intA z)) (by first|omega|(simp only;omega))) trivial, keysLe_cons rfl trivial, trivial⟩, ?_⟩
                  clear hD
                  intro q ⟨hq, hD⟩
                  cases q with
                  | zero =>
                    have hn1 : ¬ (i : Int) ≤ (i : Int) + ((0 : Nat) : Int) - 1:=by omega
                    simp only [dnN] at hD
                    rw [hD] at H
                    have hjn : (i : Int) + ((0 : Nat) : Int) - 1 = ((i - 1 : Nat) : Int):=by omega
                    have g1f:=at_get (L:=M) (i:=a) (by omega)
                    have g2f:=at_get (L:=M) (i:=i - 1) (by omega)
                    have g3f:=at_get (L:=M.set (i - 1) (atN M (a))) (i:=a) (by rw [List.length_set];omega)
                    have s1f:=set_sets M _ (i - 1) (setA (atN M (a))) (atN M (a)) hjn rfl
                    have s2f:=set_sets (M.set (i - 1) (atN M (a))) _ (a) (setA (atN M (i - 1))) (atN M (i - 1)) rfl rfl
                    simp only [Option.some.injEq, Prod.mk.injEq] at H
                    obtain ⟨h1, h2⟩:=H
                    subst h2
                    subst h1
                    conv=>whnf
                    repeat (any_goals (first|exact falseI|((first|refine bd ?_ ?_|refine bn ?_ ?_)<;>intro _<;>first|(exfalso;omega)|conv=>whnf)|((first|refine optP_map g1f rfl ?_|refine optP_map g2f hjn ?_|refine optP_map g3f rfl ?_|refine forceL_to s1f ?_|refine forceL_to s2f ?_|refine dI ?_|refine okI ?_|refine bt ?_|refine bi (fun _=>?_) (fun _=>?_)|refine bndI ?_|intro _)<;>conv=>whnf)))
                    refine And.intro ?_ ?_
                    · conv=>whnf
                      refine ⟨⟨?_⟩, trivial⟩
                      (rw [← hjn];rfl)
                    · repeat (first|exact trivial|refine And.intro rfl ?_|refine And.intro (by rfl) ?_)
                  | succ q =>
                    have hn1 : (i : Int) ≤ (i : Int) + ((q + 1 : Nat) : Int) - 1:=by omega
                    have ej : (i : Int) + ((q + 1 : Nat) : Int) - 1 = ((i + q : Nat) : Int):=by omega
                    have hx:=at_get (L:=M) (i:=i + q) (by omega)
                    have hy:=at_get (L:=M) (i:=a) (by omega)
                    have hc:=hcmp (atN M (i + q)) (atN M a)
                    by_cases hv : ordN (atN M (i + q)) (atN M a) < 0
                    · rw [dnN, if_pos (by simpa [ltN] using hv)] at hD
                      obtain ⟨v, hv0⟩ : ∃ v, v = ordN (atN M (i + q)) (atN M a):=⟨_, rfl⟩
                      rw [← hv0] at hc hv
                      rw [hD] at H
                      cases q with
                      | zero=>simp at H
                      | succ d =>
                        simp only at H
                        have ej2 : (i : Int) + ((d + 1 + 1 : Nat) : Int) - 1 = ((i + d + 1 : Nat) : Int):=by omega
                        have g1n:=at_get (L:=M) (i:=i + d + 1) (by omega)
                        have g2n:=at_get (L:=M) (i:=i) (by omega)
                        have g3n:=at_get (L:=M.set (i) (atN M (i + d + 1))) (i:=i + d + 1) (by rw [List.length_set];omega)
                        have s1n:=set_sets M _ (i) (setA (atN M (i + d + 1))) (atN M (i + d + 1)) rfl rfl
                        have s2n:=set_sets (M.set (i) (atN M (i + d + 1))) _ (i + d + 1) (setA (atN M (i))) (atN M (i)) ej2 rfl
                        conv=>whnf
                        repeat (any_goals (first|exact falseI|((first|refine bd ?_ ?_|refine bn ?_ ?_)<;>intro _<;>first|(exfalso;omega)|conv=>whnf)|((first|refine optP_map hx ej ?_|refine optP_map hy rfl ?_|refine callP_a hc ?_|refine optP_map g1n ej2 ?_|refine optP_map g2n rfl ?_|refine optP_map g3n ej2 ?_|refine forceL_to s1n ?_|refine forceL_to s2n ?_|refine dI ?_|refine okI ?_|refine bt ?_|refine bi (fun _=>?_) (fun _=>?_)|refine bndI ?_|intro _)<;>conv=>whnf)))
                        (refine ⟨(f, i + 1, d, swapN M i (i + d + 1)), ⟨by simp only;omega, by simp only;omega, by simp only;rw [swapN_len];exact hML, H⟩, (by simp only;omega), ?_⟩;(conv=>whnf);refine ⟨?_, ?_, ?_⟩<;>repeat (first|exact trivial|refine sc rfl ?_|refine kn ?_|refine kc rfl ?_|refine sc (by first|rfl|exact congrArg (fun z : Int=>some (intA z)) (by first|omega|(simp only;omega))) ?_|refine kc (by first|rfl|exact congrArg (fun z : Int=>some (intA z)) (by first|omega|(simp only;omega))) ?_))
                    · rw [dnN, if_neg (by simpa [ltN] using hv)] at hD
                      obtain ⟨v, hv0⟩ : ∃ v, v = ordN (atN M (i + q)) (atN M a):=⟨_, rfl⟩
                      rw [← hv0] at hc hv
                      conv=>whnf
                      repeat (any_goals (first|exact falseI|((first|refine bd ?_ ?_|refine bn ?_ ?_)<;>intro _<;>first|(exfalso;omega)|conv=>whnf)|((first|refine optP_map hx ej ?_|refine optP_map hy rfl ?_|refine callP_a hc ?_|refine dI ?_|refine okI ?_|refine bt ?_|refine bi (fun _=>?_) (fun _=>?_)|refine bndI ?_|intro _)<;>conv=>whnf)))
                      (refine ⟨q, ⟨by omega, hD⟩, (by omega), ?_⟩;(conv=>whnf);refine ⟨?_, ?_, ?_⟩<;>repeat (first|exact trivial|refine sc rfl ?_|refine kn ?_|refine kc rfl ?_|refine sc (by exact congrArg (fun z : Int=>some (intA z)) (by first|omega|(simp only;omega))) ?_|refine kc (by exact congrArg (fun z : Int=>some (intA z)) (by first|omega|(simp only;omega))) ?_))
        · rw [dnN, if_neg (by simpa [ltN] using hv)] at hD
          obtain ⟨v, hv0⟩ : ∃ v, v = ordN (atN L (i + q)) (atN L a):=⟨_, rfl⟩
          rw [← hv0] at hc hv
          conv=>whnf
          repeat (any_goals (first|exact falseI|((first|refine bd ?_ ?_|refine bn ?_ ?_)<;>intro _<;>first|(exfalso;omega)|conv=>whnf)|((first|refine optP_map hx ej ?_|refine optP_map hy rfl ?_|refine callP_a hc ?_|refine dI ?_|refine okI ?_|refine bt ?_|refine bi (fun _=>?_) (fun _=>?_)|refine bndI ?_|intro _)<;>conv=>whnf)))
          (refine ⟨q, ⟨by omega, hD⟩, (by omega), ?_⟩;(conv=>whnf);refine ⟨?_, ?_, ?_⟩<;>repeat (first|exact trivial|refine sc rfl ?_|refine kn ?_|refine kc rfl ?_|refine sc (by exact congrArg (fun z : Int=>some (intA z)) (by first|omega|(simp only;omega))) ?_|refine kc (by exact congrArg (fun z : Int=>some (intA z)) (by first|omega|(simp only;omega))) ?_))
end Go.Proofs.YtbpiibdcncfphaaDoor
