/- Part 1 of the texts that the last one stands on. -/
import Derived.WalkKit
import Derived.Orders
import Derived.Laws.AppendOwn
import Derived.Laws.AppendOwnNone
import Derived.Laws.CopyOwn
import Derived.RangeFuncRecord
import Derived.Laws.BytesString
set_option linter.unusedVariables false
set_option linter.unusedSimpArgs false
namespace Go.Am
def vD:List (Nat×List Value):=[]
end Go.Am
namespace Go.Am
open Go.RowKit
structure Key where
 l:Nat
 f:Nat
 s:Nat
deriving DecidableEq
inductive Tok where
 | no
 | tight
 | own (k:Key) (g:Nat)
inductive AV where
 | v (x:Value)
 | slice (sz:Nat) (es:List AV) (tok:Tok)
 | agg (cs:List AV)
 | tuple (vs:List AV)
 | ptr (k:Key) (g:Nat) (sz i off:Nat)
 | own (k:Key) (g:Nat) (sz n cap:Nat)
 | sl (k:Key) (g:Nat) (sz i off n:Nat)
 | cptr (cs:List AV)
 | mp (k:Key) (g:Nat)
 | yld (k:Key) (g:Nat)
 | lp (st:LoopState) (pend:Option Code) (ps:Array Tmp) (assign body:Code) (l:List AV)
 | func (fn:Fn) (first captured:List AV)
 | junk
instance:Inhabited AV:=⟨.junk⟩
def AV.cells:AV→List AV
 | .agg cs=>cs
 | x=>[x]
inductive PRel (w:World) (imm:Nat→Nat→Prop):AV→Value→Prop
 | v (x:Value):PRel w imm (.v x) x
 | junk (y:Value):PRel w imm .junk y
 | nil (sz:Nat) (tok:Tok) (ht:tok = .no∨tok = .tight):PRel w imm (.slice sz [] tok) (.slice none 0 0)
 | slice {sz:Nat} {es:List AV} {tok:Tok} {b off cap:Nat} (ys:Nat→Nat→Value) (hcap:es.length≤cap) (ht:tok = .no∨(tok = .tight∧cap=es.length))
  (hm:cap≤maxLen)
  (hsz:∀(i:Nat) (e:AV),es[i]?=some e→e.cells.length=sz)
  (hc:∀(i:Nat) (e:AV) (c:Nat) (x:AV),es[i]?=some e→e.cells[c]?=some x→w.cell? ⟨b,off+i * sz+c,none⟩=some (ys i c)∧imm b (off+i * sz+c)∧(ys i c).oneCell'=true)
  (hp:∀(i:Nat) (e:AV) (c:Nat) (x:AV),es[i]?=some e→e.cells[c]?=some x→PRel w imm x (ys i c)) :
  PRel w imm (.slice sz es tok) (.slice (some ⟨b,off,none⟩) es.length cap)
 | agg {cs:List AV} {vs:Array Value} (hl:vs.size=cs.length) (hp:∀(i:Nat) (x:AV) (y:Value),cs[i]?=some x→vs[i]?=some y→PRel w imm x y)
  (h1:∀y∈vs,y.oneCell'=true):PRel w imm (.agg cs) (.agg vs)
 | tuple {cs:List AV} {vs:Array Value} (hl:vs.size=cs.length) (hp:∀(i:Nat) (x:AV) (y:Value),cs[i]?=some x→vs[i]?=some y→PRel w imm x y) :
  PRel w imm (.tuple cs) (.tuple vs)
 | cptr {cs:List AV} {b off:Nat} (ys:Nat→Value)
  (hc:∀(c:Nat) (x:AV),cs[c]?=some x→w.cell? ⟨b,off+c,none⟩=some (ys c)∧imm b (off+c)∧(ys c).oneCell'=true)
  (hp:∀(c:Nat) (x:AV),cs[c]?=some x→PRel w imm x (ys c)):PRel w imm (.cptr cs) (.pointer (some ⟨b,off,none⟩))
 | func {fn:Fn} {fs cs:List AV} {vf vc:Array Value} (hlf:vf.size=fs.length) (hlc:vc.size=cs.length)
  (hf:∀(i:Nat) (x:AV) (y:Value),fs[i]?=some x→vf[i]?=some y→PRel w imm x y) (hc:∀(i:Nat) (x:AV) (y:Value),cs[i]?=some x→vc[i]?=some y→PRel w imm x y) :
  PRel w imm (.func fn fs cs) (.func fn vf vc)
theorem PRel.mono{w w':World}{imm imm':Nat→Nat→Prop}
  (h:∀b i,imm b i→imm' b i∧w'.cell? ⟨b,i,none⟩=w.cell? ⟨b,i,none⟩) {x:AV} {y:Value} (hx:PRel w imm x y):PRel w' imm' x y:=by
 induction hx with
 | v x=>exact .v x
 | junk y=>exact .junk y
 | nil sz tok ht=>exact .nil sz tok ht
 | slice ys hcap ht hm hsz hc _ ih =>
  refine .slice ys hcap ht hm hsz (fun i e c x h1 h2=>?_) ih
  obtain⟨a,b,o⟩:=hc i e c x h1 h2
  obtain⟨b',e'⟩:=h _ _ b
  exact⟨by rw[e',a],b',o⟩
 | agg hl _ h1 ih=>exact .agg hl ih h1
 | tuple hl _ ih=>exact .tuple hl ih
 | cptr ys hc _ ih =>
  refine .cptr ys (fun c x h1=>?_) ih
  obtain⟨a,b,o⟩:=hc c x h1
  obtain⟨b',e'⟩:=h _ _ b
  exact⟨by rw[e',a],b',o⟩
 | func hlf hlc _ _ ih1 ih2=>exact .func hlf hlc ih1 ih2
inductive Owner where
 | box (k:Key)
 | tl (k:Key)
def E9(g:Nat):List (Nat×List Value)→Option (List Value)
 | []=>none
 | p::l=>match Nat.beq p.1 g with
  | true=>some p.2
  | false=>E9 g l
def jM(w:World)(imm:Nat→Nat→Prop):Prop :=
 ∀g cs,E9 g vD=some cs→∀(i:Nat) (v:Value),cs[i]?=some v→imm g i∧w.cell? ⟨g,i,none⟩=some v∧v.oneCell'=true
theorem jM.mono{w w':World}{imm imm':Nat→Nat→Prop}(h:jM w imm)(k:∀b i,imm b i→imm' b i∧w'.cell? ⟨b,i,none⟩=w.cell? ⟨b,i,none⟩):jM w' imm':=fun g cs hg i v hv=>by
 obtain⟨h1,h2,h3⟩:=h g cs hg i v hv
 obtain⟨k1,k2⟩:=k g i h1
 exact⟨k1,by rw[k2,h2],h3⟩
structure ImmOk (w:World) (imm:Nat→Nat→Prop):Prop where
 lt:∀b i,imm b i→b<w.heap.size
 glob:jM w imm
def Bw(g:Nat):AV:=match E9 g vD with
 | some cs=> .cptr (cs.map .v)
 | none=> .v (.pointer (some ⟨g,0,none⟩))
theorem Bx{w:World}{imm:Nat→Nat→Prop}(h:jM w imm)(g:Nat):PRel w imm (Bw g) (.pointer (some ⟨g,0,none⟩)):=by
 unfold Bw
 split
 ·rename_i cs hg
  refine .cptr (fun i=>(cs[i]?).getD undef) (fun i x hx=>?_) (fun i x hx=>?_)
  ·rw[List.getElem?_map]at hx
   obtain⟨v,hv,rfl⟩:=Option.map_eq_some_iff.1 hx
   obtain⟨h1,h2,h3⟩:=h g cs hg i v hv
   rw[hv]
   exact⟨by rw[Nat.zero_add];exact h2,by rw[Nat.zero_add];exact h1,h3⟩
  ·rw[List.getElem?_map]at hx
   obtain⟨v,hv,rfl⟩:=Option.map_eq_some_iff.1 hx
   rw[hv];exact .v _
 ·exact .v _
structure Ctx where
 w:World
 imm:Nat→Nat→Prop
 own:Nat→Option Owner
 gb:Key→Nat
 jb:Key→Nat
 gt:Key→Nat
 hw:Key→Nat
inductive KRel (C:Ctx):AV→Value→Prop
 | pure {x:AV} {y:Value} (h:PRel C.w C.imm x y):KRel C x y
 | tokNil (sz:Nat) (k:Key) (g:Nat):KRel C (.slice sz [] (.own k g)) (.slice none 0 0)
 | tok {sz:Nat} {es:List AV} {k:Key} {g b off cap:Nat} (h:PRel C.w C.imm (.slice sz es .no) (.slice (some ⟨b,off,none⟩) es.length cap)) (hg:g≤C.gt k)
  (hcur:g=C.gt k→es.length≤C.hw k∧(es.length=C.hw k→cap=es.length ∨
   (off=0∧C.own b=some (.tl k)∧(∀i,C.imm b i→i<C.hw k * sz)∧∃arr e,C.w.heap[b]?=some (.cells arr e (0,0))∧arr.size=cap * sz))) :
  KRel C (.slice sz es (.own k g)) (.slice (some ⟨b,off,none⟩) es.length cap)
 | ptrOld {k:Key} {g sz i off:Nat} (h:g<C.gb k) (y:Value) (h1:y.oneCell'=true):KRel C (.ptr k g sz i off) y
 | ptr {k:Key} {sz i off:Nat}:KRel C (.ptr k (C.gb k) sz i off) (.pointer (some ⟨C.jb k,i * sz+off,none⟩))
 | ownOld {k:Key} {g sz n cap:Nat} (h:g<C.gb k) (y:Value) (h1:y.oneCell'=true):KRel C (.own k g sz n cap) y
 | own {k:Key} {sz n cap c:Nat} (h:n≤c) (hm:c≤maxLen) (ho:C.own (C.jb k)=some (.box k))
  (hs:∃arr e,C.w.heap[C.jb k]?=some (.cells arr e (0,0))∧c * sz≤arr.size):KRel C (.own k (C.gb k) sz n cap) (.slice (some ⟨C.jb k,0,none⟩) n c)
 | ownNil {k:Key} {sz cap:Nat} {b:Option Addr} (hb:b=none∨∃x y,b=some ⟨x,y,none⟩):KRel C (.own k (C.gb k) sz 0 cap) (.slice b 0 0)
 | slOld {k:Key} {g sz i off n:Nat} (h:g<C.gb k) (y:Value) (h1:y.oneCell'=true):KRel C (.sl k g sz i off n) y
 | sl {k:Key} {sz i off n:Nat} (hm:n≤maxLen):KRel C (.sl k (C.gb k) sz i off n) (.slice (some ⟨C.jb k,i * sz+off,none⟩) n n)
 | mpOld {k:Key} {g:Nat} (h:g<C.gb k) (y:Value) (h1:y.oneCell'=true):KRel C (.mp k g) y
 | mp {k:Key}:KRel C (.mp k (C.gb k)) (.map (some (C.jb k)))
 | yldOld {k:Key} {g:Nat} (h:g<C.gb k) (y:Value) (h1:y.oneCell'=true):KRel C (.yld k g) y
 | yld {k:Key}:KRel C (.yld k (C.gb k)) (.func (.yield (C.jb k)) #[] #[])
 | agg {cs:List AV} {vs:Array Value} (hl:vs.size=cs.length) (hp:∀(i:Nat) (x:AV) (y:Value),cs[i]?=some x→vs[i]?=some y→KRel C x y)
  (h1:∀y∈vs,y.oneCell'=true):KRel C (.agg cs) (.agg vs)
 | tuple {cs:List AV} {vs:Array Value} (hl:vs.size=cs.length) (hp:∀(i:Nat) (x:AV) (y:Value),cs[i]?=some x→vs[i]?=some y→KRel C x y) :
  KRel C (.tuple cs) (.tuple vs)
 | func {fn:Fn} {fs cs:List AV} {vf vc:Array Value} (hlf:vf.size=fs.length) (hlc:vc.size=cs.length)
  (hf:∀(i:Nat) (x:AV) (y:Value),fs[i]?=some x→vf[i]?=some y→KRel C x y) (hc:∀(i:Nat) (x:AV) (y:Value),cs[i]?=some x→vc[i]?=some y→KRel C x y) :
  KRel C (.func fn fs cs) (.func fn vf vc)
structure Ctx.le (C C':Ctx):Prop where
 imm:∀b i,C.imm b i→C'.imm b i∧C'.w.cell? ⟨b,i,none⟩=C.w.cell? ⟨b,i,none⟩
 gb:∀k,C.gb k≤C'.gb k
 jb:∀k,C.gb k=C'.gb k→C'.jb k=C.jb k
 gt:∀k,C.gt k≤C'.gt k
 hw:∀k,C.gt k=C'.gt k→C.hw k≤C'.hw k
 tl:∀k b,C.gt k=C'.gt k→C.hw k=C'.hw k→C.own b=some (.tl k) →
  C'.own b=some (.tl k)∧(∀i,C'.imm b i→C.imm b i) ∧
   ∀arr e,C.w.heap[b]?=some (.cells arr e (0,0))→∃arr',C'.w.heap[b]?=some (.cells arr' e (0,0))∧arr'.size=arr.size
 bs:∀k,C.gb k=C'.gb k→C.own (C.jb k)=some (.box k)→C'.own (C.jb k)=some (.box k) ∧
  ∀arr e,C.w.heap[C.jb k]?=some (.cells arr e (0,0))→∃arr' e',C'.w.heap[C.jb k]?=some (.cells arr' e' (0,0))∧arr.size≤arr'.size
 size:C.w.heap.size≤C'.w.heap.size
 immOld:∀b i,b<C.w.heap.size→C'.imm b i→C.imm b i∨(∃k,C.own b=some (.tl k))∨∃k,C.own b=some (.box k)∧C'.own b=none∧C.gb k<C'.gb k
 ownOld:∀b o,b<C.w.heap.size→C'.own b=some o→C.own b=some o
 free:∀b,b<C.w.heap.size→C.own b=none→C'.w.heap[b]?=C.w.heap[b]?
structure Ctx.le0 (C C':Ctx):Prop where
 imm:∀b i,C.imm b i→C'.imm b i∧C'.w.cell? ⟨b,i,none⟩=C.w.cell? ⟨b,i,none⟩
 gb:∀k,C.gb k≤C'.gb k
 jb:∀k,C.gb k=C'.gb k→C'.jb k=C.jb k
 gt:∀k,C.gt k≤C'.gt k
 hw:∀k,C.gt k=C'.gt k→C.hw k≤C'.hw k
 tl:∀k b,C.gt k=C'.gt k→C.hw k=C'.hw k→C.own b=some (.tl k) →
  C'.own b=some (.tl k)∧(∀i,C'.imm b i→C.imm b i) ∧
   ∀arr e,C.w.heap[b]?=some (.cells arr e (0,0))→∃arr',C'.w.heap[b]?=some (.cells arr' e (0,0))∧arr'.size=arr.size
 bs:∀k,C.gb k=C'.gb k→C.own (C.jb k)=some (.box k)→C'.own (C.jb k)=some (.box k) ∧
  ∀arr e,C.w.heap[C.jb k]?=some (.cells arr e (0,0))→∃arr' e',C'.w.heap[C.jb k]?=some (.cells arr' e' (0,0))∧arr.size≤arr'.size
 size:C.w.heap.size≤C'.w.heap.size
 immOld:∀b i,b<C.w.heap.size→C'.imm b i→C.imm b i∨(∃k,C.own b=some (.tl k))∨∃k,C.own b=some (.box k)∧C'.own b=none∧C.gb k<C'.gb k
 ownOld:∀b o,b<C.w.heap.size→C'.own b=some o→C.own b=some o
theorem Ctx.le.le0{C C':Ctx}(h:C.le C'):C.le0 C':=⟨h.imm,h.gb,h.jb,h.gt,h.hw,h.tl,h.bs,h.size,h.immOld,h.ownOld⟩
theorem Ctx.le.refl(C:Ctx):C.le C :=
 ⟨fun _ _ h=>⟨h,rfl⟩,fun _=>Nat.le_refl _,fun _ _=>rfl,fun _=>Nat.le_refl _,fun _ _=>Nat.le_refl _,
  fun _ _ _ _ h=>⟨h,fun _ h=>h,fun arr _ h=>⟨arr,h,rfl⟩⟩,fun _ _ h=>⟨h,fun arr e h=>⟨arr,e,h,Nat.le_refl _⟩⟩,Nat.le_refl _,fun _ _ _ h=> .inl h,fun _ _ _ h=>h,fun _ _ _=>rfl⟩
theorem Ctx.le.trans{A B C:Ctx}(h:A.le B)(k:B.le C):A.le C where
 imm b i hi:=by
  obtain⟨a,e⟩:=h.imm b i hi
  obtain⟨a',e'⟩:=k.imm b i a
  exact⟨a',e'.trans e⟩
 gb x:=Nat.le_trans (h.gb x) (k.gb x)
 jb x e:=by
  have e1:A.gb x=B.gb x:=by have:=h.gb x;have:=k.gb x;omega
  exact(k.jb x (e1▸e)).trans (h.jb x e1)
 gt x:=Nat.le_trans (h.gt x) (k.gt x)
 hw x e:=by
  have e1:A.gt x=B.gt x:=by have:=h.gt x;have:=k.gt x;omega
  exact Nat.le_trans (h.hw x e1) (k.hw x (e1▸e))
 tl x b e eh ho:=by
  have e1:A.gt x=B.gt x:=by have:=h.gt x;have:=k.gt x;omega
  have e2:B.gt x=C.gt x:=e1▸e
  have h1:=h.hw x e1
  have h2:=k.hw x e2
  have e3:A.hw x=B.hw x:=by omega
  obtain⟨o1,i1,a1⟩:=h.tl x b e1 e3 ho
  obtain⟨o2,i2,a2⟩:=k.tl x b e2 (by omega) o1
  refine⟨o2,fun i hi=>i1 i (i2 i hi),fun arr el ha=>?_⟩
  obtain⟨arr',ha',s'⟩:=a1 arr el ha
  obtain⟨arr'',ha'',s''⟩:=a2 arr' el ha'
  exact⟨arr'',ha'',s''.trans s'⟩
 bs x e ho:=by
  have e1:A.gb x=B.gb x:=by have:=h.gb x;have:=k.gb x;omega
  obtain⟨o1,a1⟩:=h.bs x e1 ho
  have hj:=h.jb x e1
  obtain⟨o2,a2⟩:=k.bs x (e1▸e) (by rw[hj];exact o1)
  rw[hj]at o2 a2
  refine⟨o2,fun arr el ha=>?_⟩
  obtain⟨arr1,e1,h1,h2⟩:=a1 arr el ha
  obtain⟨arr2,e2,h3,h4⟩:=a2 arr1 e1 h1
  exact⟨arr2,e2,h3,Nat.le_trans h2 h4⟩
 size:=Nat.le_trans h.size k.size
 immOld b i hb hi:=by
  rcases k.immOld b i (Nat.lt_of_lt_of_le hb h.size) hi with h1|⟨x,h1⟩|⟨x,h1,h2,h3⟩
  ·rcases h.immOld b i hb h1 with h2|h2|⟨x,h2,h3,h4⟩
   ·exact .inl h2
   ·exact .inr (.inl h2)
   ·refine .inr (.inr ⟨x,h2,?_,Nat.lt_of_lt_of_le h4 (k.gb x)⟩)
    cases e:C.own b with
    | none=>rfl
    | some o=>rw[k.ownOld b o (Nat.lt_of_lt_of_le hb h.size) e]at h3;cases h3
  ·exact .inr (.inl ⟨x,h.ownOld b _ hb h1⟩)
  ·exact .inr (.inr ⟨x,h.ownOld b _ hb h1,h2,Nat.lt_of_le_of_lt (h.gb x) h3⟩)
 ownOld b o hb ho:=h.ownOld b o hb (k.ownOld b o (Nat.lt_of_lt_of_le hb h.size) ho)
 free b hb ho:=by
  have hb':B.own b=none:=by
   cases e:B.own b with
   | none=>rfl
   | some o=>rw[h.ownOld b o hb e]at ho;cases ho
  exact(k.free b (Nat.lt_of_lt_of_le hb h.size) hb').trans (h.free b hb ho)
theorem PRel.le{C C':Ctx}(h:C.le C'){x:AV}{y:Value}(hx:PRel C.w C.imm x y):PRel C'.w C'.imm x y:=hx.mono h.imm
theorem PRel.le0{C C':Ctx}(h:C.le0 C'){x:AV}{y:Value}(hx:PRel C.w C.imm x y):PRel C'.w C'.imm x y:=hx.mono h.imm
theorem KRel.le0{C C':Ctx}(h:C.le0 C'){x:AV}{y:Value}(hx:KRel C x y):KRel C' x y:=by
 induction hx with
 | pure hp=>exact .pure (hp.le0 h)
 | tokNil sz k g=>exact .tokNil sz k g
 | @tok sz es k g b off cap hp hg hcur =>
  refine .tok (hp.le0 h) (Nat.le_trans hg (h.gt k)) fun e=>?_
  have e1:C.gt k=C'.gt k:=by have:=h.gt k;omega
  obtain⟨h1,h2⟩:=hcur (by omega)
  have h3:=h.hw k e1
  refine⟨by omega,fun e2=>?_⟩
  have e3:C.hw k=C'.hw k:=by omega
  rcases h2 (by omega)with hc|⟨h0,ho,hi,arr,el,ha,hs⟩
  ·exact .inl hc
  ·obtain⟨o',i',a'⟩:=h.tl k b e1 e3 ho
   obtain⟨arr',ha',hs'⟩:=a' arr el ha
   exact .inr ⟨h0,o',fun i hi'=>by have:=hi i (i' i hi');rw[←e3];exact this,arr',el,ha',by omega⟩
 | @ptrOld k g sz i off hlt y h1=>exact .ptrOld (Nat.lt_of_lt_of_le hlt (h.gb k)) y h1
 | @ptr k sz i off =>
  by_cases e:C.gb k=C'.gb k
  ·rw[e, ←h.jb k e];exact .ptr
  ·exact .ptrOld (by have:=h.gb k;omega) _ rfl
 | @ownOld k g sz n cap hlt y h1=>exact .ownOld (Nat.lt_of_lt_of_le hlt (h.gb k)) y h1
 | @own k sz n cap c hn hm ho hs =>
  by_cases e:C.gb k=C'.gb k
  ·obtain⟨o1,a1⟩:=h.bs k e ho
   rw[e, ←h.jb k e]
   obtain⟨arr,el,ha,hsz⟩:=hs
   obtain⟨arr',e',h1,h2⟩:=a1 arr el ha
   exact .own hn hm (by rw[h.jb k e];exact o1) ⟨arr',e',by rw[h.jb k e];exact h1,Nat.le_trans hsz h2⟩
  ·exact .ownOld (by have:=h.gb k;omega) _ rfl
 | @ownNil k sz cap b hb =>
  by_cases e:C.gb k=C'.gb k
  ·rw[e];exact .ownNil hb
  ·exact .ownOld (by have:=h.gb k;omega) _ rfl
 | @slOld k g sz i off n hlt y h1=>exact .slOld (Nat.lt_of_lt_of_le hlt (h.gb k)) y h1
 | @sl k sz i off n hm =>
  by_cases e:C.gb k=C'.gb k
  ·rw[e, ←h.jb k e];exact .sl hm
  ·exact .slOld (by have:=h.gb k;omega) _ rfl
 | @mpOld k g hlt y h1=>exact .mpOld (Nat.lt_of_lt_of_le hlt (h.gb k)) y h1
 | @mp k =>
  by_cases e:C.gb k=C'.gb k
  ·rw[e, ←h.jb k e];exact .mp
  ·exact .mpOld (by have:=h.gb k;omega) _ rfl
 | @yldOld k g hlt y h1=>exact .yldOld (Nat.lt_of_lt_of_le hlt (h.gb k)) y h1
 | @yld k =>
  by_cases e:C.gb k=C'.gb k
  ·rw[e, ←h.jb k e];exact .yld
  ·exact .yldOld (by have:=h.gb k;omega) _ rfl
 | agg hl _ h1 ih=>exact .agg hl ih h1
 | tuple hl _ ih=>exact .tuple hl ih
 | func hlf hlc _ _ ih1 ih2=>exact .func hlf hlc ih1 ih2
theorem KRel.le{C C':Ctx}(h:C.le C'){x:AV}{y:Value}(hx:KRel C x y):KRel C' x y:=hx.le0 h.le0
def AV.ok1:AV→Bool
 | .v x=>x.oneCell'
 | .slice .. | .ptr .. | .own .. | .sl .. | .cptr _ | .func .. | .mp .. | .yld .. =>true
 | .agg _ | .tuple _ | .junk | .lp .. =>false
def AV.storable:AV→Bool
 | .agg _=>true
 | x=>x.ok1
theorem KRel.one{C:Ctx}{x:AV}{y:Value}(h:KRel C x y)(h1:x.ok1=true):y.oneCell'=true:=by
 cases h with
 | pure hp=>cases hp<;>first|exact h1|rfl|(simp[AV.ok1]at h1)
 | tokNil=>rfl
 | tok=>rfl
 | ptrOld _ _ h=>exact h
 | ptr=>rfl
 | ownOld _ _ h=>exact h
 | own=>rfl
 | ownNil=>rfl
 | slOld _ _ h=>exact h
 | sl=>rfl
 | mpOld _ _ h=>exact h
 | mp=>rfl
 | yldOld _ _ h=>exact h
 | yld=>rfl
 | agg=>simp[AV.ok1]at h1
 | tuple=>simp[AV.ok1]at h1
 | func=>rfl
theorem AV.cells_of_ok1{x:AV}(h:x.ok1=true):x.cells=[x]:=by cases x<;>first|rfl|simp[AV.ok1]at h
theorem Value.cells_of_one{y:Value}(h:y.oneCell'=true):y.cells=#[y]:=by cases y<;>first|rfl|simp[Value.oneCell']at h
theorem KRel.cells{C:Ctx}{x:AV}{y:Value}(h:KRel C x y)(hs:x.storable=true) :
  y.cells.size=x.cells.length∧(∀(i:Nat) (a:AV) (b:Value),x.cells[i]?=some a→y.cells[i]?=some b→KRel C a b)∧∀b∈y.cells,b.oneCell'=true:=by
 by_cases h1:x.ok1=true
 ·have hy:=h.one h1
  rw[AV.cells_of_ok1 h1,Value.cells_of_one hy]
  refine⟨rfl,fun i a b ha hb=>?_,fun b hb=>?_⟩
  ·cases i with
   | zero=>simp at ha hb;subst ha hb;exact h
   | succ i=>simp at ha
  ·simp at hb;subst hb;exact hy
 ·cases x<;>simp[AV.storable,AV.ok1]at hs h1
  ·exact absurd hs (by simp[h1])
  rename_i cs
  cases h with
  | pure hp =>
   cases hp with
   | agg hl hp h1=>exact⟨hl,fun i a b ha hb=> .pure (hp i a b ha hb),h1⟩
  | agg hl hp h1=>exact⟨hl,hp,h1⟩
theorem PRel.cells{w:World}{imm:Nat→Nat→Prop}{x:AV}{y:Value}(h:PRel w imm x y)(hs:x.storable=true) :
  y.cells.size=x.cells.length∧(∀(i:Nat) (a:AV) (b:Value),x.cells[i]?=some a→y.cells[i]?=some b→PRel w imm a b)∧∀b∈y.cells,b.oneCell'=true:=by
 by_cases h1:x.ok1=true
 ·have hy:y.oneCell'=true:=by cases h<;>first|exact h1|rfl|(simp[AV.ok1]at h1)
  rw[AV.cells_of_ok1 h1,Value.cells_of_one hy]
  refine⟨rfl,fun i a b ha hb=>?_,fun b hb=>?_⟩
  ·cases i with
   | zero=>simp at ha hb;subst ha hb;exact h
   | succ i=>simp at ha
  ·simp at hb;subst hb;exact hy
 ·cases x<;>simp[AV.storable,AV.ok1]at hs h1
  ·exact absurd hs (by simp[h1])
  rename_i cs
  cases h with
  | agg hl hp h1=>exact⟨hl,hp,h1⟩
def i5:Value→AV
 | .slice none 0 0=> .slice 0 [] .tight
 | x=> .v x
def ofValue:Value→AV
 | .agg cs=>if cs.toList.all Value.oneCell' then .agg (cs.toList.map i5)else .v (.agg cs)
 | x=>i5 x
theorem ov(w:World)(imm:Nat→Nat→Prop)(x:Value):PRel w imm (i5 x) x:=by
 unfold i5
 split
 ·exact .nil _ _ (.inr rfl)
 ·exact .v _
theorem bT(w:World)(imm:Nat→Nat→Prop)(x:Value):PRel w imm (ofValue x) x:=by
 unfold ofValue
 split
 ·rename_i cs
  split
  ·rename_i h
   refine .agg (by simp) (fun i x y hx hy=>?_) (fun y hy=>?_)
   ·simp only[List.getElem?_map,Option.map_eq_some_iff]at hx
    obtain⟨z,hz,rfl⟩:=hx
    have:z=y:=by simpa[hy]using hz.symm
    subst this
    exact ov w imm z
   ·exact List.all_eq_true.1 h y (by simpa using hy)
  ·exact .v _
 ·exact ov w imm x
def pc:AV→Option Value
 | .v x=>some x
 | _=>none
def eB:List AV→Option (List Value)
 | []=>some []
 | x::xs=>match pc x,eB xs with
  | some y,some ys=>some (y::ys)
  | _,_=>none
def dR:AV→Option Value
 | .v x=>some x
 | .agg cs=>(eB cs).map fun l=> .agg l.toArray
 | _=>none
theorem KRel.val1{C:Ctx}{x:AV}{y z:Value}(h:KRel C x y)(hz:pc x=some z):y=z:=by
 cases x<;>simp[pc]at hz
 subst hz
 cases h with
 | pure hp=>cases hp;rfl
theorem qu:∀{cs:List AV} {l:List Value},eB cs=some l→l.length=cs.length
 | [],l,h=>by simp[eB]at h;subst h;rfl
 | x::xs,l,h=>by
  simp only[eB]at h
  split at h
  ·rename_i y ys _ h2
   have:=qu h2
   simp at h;subst h;simp[this]
  ·simp at h
theorem iQ:∀{cs:List AV} {l:List Value},eB cs=some l→∀(i:Nat) (x:AV),cs[i]?=some x→∃y,l[i]?=some y∧pc x=some y
 | [],l,h,i,x,hx=>by simp at hx
 | a::xs,l,h,i,x,hx=>by
  simp only[eB]at h
  split at h
  ·rename_i y ys h1 h2
   simp at h;subst h
   cases i with
   | zero=>simp at hx;subst hx;exact⟨y,rfl,h1⟩
   | succ i=>simpa using iQ h2 i x (by simpa using hx)
  ·simp at h
theorem DH{vs:Array Value}{cs:List AV}{l:List Value}(hl:vs.size=cs.length)(hv:eB cs=some l)
  (h:∀(i:Nat) (x:AV) (y:Value),cs[i]?=some x→vs[i]?=some y→pc x=some y):vs=l.toArray:=by
 apply Array.ext'
 refine List.ext_getElem? fun i=>?_
 by_cases hi:i<cs.length
 ·obtain⟨y,hy,h1⟩:=iQ hv i cs[i] (by simp[hi])
  have h2:=h i cs[i] vs[i] (by simp[hi]) (by simp[hl,hi])
  rw[h1]at h2
  simp only[Option.some.injEq]at h2
  simp[hy,hl,hi,h2]
 ·have:=qu hv
  simp[hl,hi,this]
theorem KRel.val{C:Ctx}{x:AV}{y z:Value}(h:KRel C x y)(hz:dR x=some z):y=z:=by
 cases x<;>simp[dR]at hz
 ·subst hz
  cases h with
  | pure hp=>cases hp;rfl
 ·obtain⟨l,hl,rfl⟩:=hz
  cases h with
  | pure hp =>
   cases hp with
   | agg hs hp _ =>
    refine congrArg Value.agg (DH hs hl fun i x y hx hy=>?_)
    obtain⟨u,hu,h1⟩:=iQ hl i x hx
    rw[h1,KRel.val1 (C:=C) (.pure (hp i x y hx hy)) h1]
  | agg hs hp _ =>
   refine congrArg Value.agg (DH hs hl fun i x y hx hy=>?_)
   obtain⟨u,hu,h1⟩:=iQ hl i x hx
   rw[h1,KRel.val1 (hp i x y hx hy) h1]
def pure1:AV→Option AV
 | .slice sz es _=>some (.slice sz es .no)
 | .v x=>some (.v x)
 | .cptr cs=>some (.cptr cs)
 | .func fn [] []=>some (.func fn [] [])
 | _=>none
theorem qc{fn:Fn}{fs cs:List AV}{x':AV}(h:pure1 (.func fn fs cs)=some x'):fs=[]∧cs=[]∧x' = .func fn [] []:=by
 cases fs<;>cases cs<;>simp[pure1]at h
 exact⟨rfl,rfl,h.symm⟩
def eH:List AV→Option (List AV)
 | []=>some []
 | x::xs=>match pure1 x,eH xs with
  | some y,some ys=>some (y::ys)
  | _,_=>none
def toPure:AV→Option AV
 | .agg cs=>(eH cs).map .agg
 | .tuple cs=>(eH cs).map .tuple
 | .func fn fs cs=>match eH fs,eH cs with
  | some a,some b=>some (.func fn a b)
  | _,_=>none
 | x=>pure1 x
theorem kM:∀{cs l:List AV},eH cs=some l→l.length=cs.length
 | [],l,h=>by simp[eH]at h;subst h;rfl
 | x::xs,l,h=>by
  simp only[eH]at h
  split at h
  ·rename_i y ys _ h2
   have:=kM h2
   simp at h;subst h;simp[this]
  ·simp at h
theorem kL:∀{cs l:List AV},eH cs=some l→∀(i:Nat) (y:AV),l[i]?=some y→∃x,cs[i]?=some x∧pure1 x=some y
 | [],l,h,i,y,hy=>by simp[eH]at h;subst h;simp at hy
 | a::xs,l,h,i,y,hy=>by
  simp only[eH]at h
  split at h
  ·rename_i z zs h1 h2
   simp at h;subst h
   cases i with
   | zero=>simp at hy;subst hy;exact⟨a,rfl,h1⟩
   | succ i=>simpa using kL h2 i y (by simpa using hy)
  ·simp at h
theorem PRel.noTok{w:World}{imm:Nat→Nat→Prop}{sz:Nat}{es:List AV}{tok:Tok}{y:Value}(h:PRel w imm (.slice sz es tok) y):PRel w imm (.slice sz es .no) y:=by
 cases h with
 | nil=>exact .nil _ _ (.inl rfl)
 | slice ys hcap ht hm hsz hc hp=>exact .slice ys hcap (.inl rfl) hm hsz hc hp
theorem KRel.pure1{C:Ctx}{x x':AV}{y:Value}(h:KRel C x y)(hx:Am.pure1 x=some x'):PRel C.w C.imm x' y:=by
 by_cases hf:∃fn fs cs,x = .func fn fs cs
 ·obtain⟨fn,fs,cs,rfl⟩:=hf
  obtain⟨rfl,rfl,rfl⟩:=qc hx
  cases h with
  | pure hp=>exact hp
  | func h1 h2 h3 h4=>exact .func h1 h2 (fun i x y hx=>by simp at hx) (fun i x y hx=>by simp at hx)
 ·cases x<;>first|exact absurd ⟨_,_,_,rfl⟩ hf|(simp[Am.pure1]at hx<;>subst hx)
  ·cases h with
   | pure hp=>exact hp
  ·cases h with
   | pure hp=>exact hp.noTok
   | tokNil=>exact .nil _ _ (.inl rfl)
   | tok hp=>exact hp
  ·cases h with
   | pure hp=>exact hp
theorem KRel.toPure{C:Ctx}{x x':AV}{y:Value}(h:KRel C x y)(hx:Am.toPure x=some x'):PRel C.w C.imm x' y:=by
 have key:∀{cs l:List AV} {vs:Array Value},eH cs=some l→vs.size=cs.length→(∀(i:Nat) (x:AV) (y:Value),cs[i]?=some x→vs[i]?=some y→KRel C x y) →
   vs.size=l.length∧∀(i:Nat) (x:AV) (y:Value),l[i]?=some x→vs[i]?=some y→PRel C.w C.imm x y:=by
  intro cs l vs hl hs hp
  refine⟨by rw[kM hl,hs],fun i x y hx hy=>?_⟩
  obtain⟨z,hz,h1⟩:=kL hl i x hx
  exact(hp i z y hz hy).pure1 h1
 by_cases hc:(∃cs,x = .agg cs)∨(∃cs,x = .tuple cs)∨∃fn fs cs,x = .func fn fs cs
 ·rcases hc with⟨cs,rfl⟩|⟨cs,rfl⟩|⟨fn,fs,cs,rfl⟩
  ·simp only[Am.toPure,Option.map_eq_some_iff]at hx
   obtain⟨l,hl,rfl⟩:=hx
   cases h with
   | pure hp=>cases hp with
    | agg hs hp h1=>obtain⟨a,b⟩:=key hl hs fun i x y hx hy=> .pure (hp i x y hx hy);exact .agg a b h1
   | agg hs hp h1=>obtain⟨a,b⟩:=key hl hs hp;exact .agg a b h1
  ·simp only[Am.toPure,Option.map_eq_some_iff]at hx
   obtain⟨l,hl,rfl⟩:=hx
   cases h with
   | pure hp=>cases hp with
    | tuple hs hp=>obtain⟨a,b⟩:=key hl hs fun i x y hx hy=> .pure (hp i x y hx hy);exact .tuple a b
   | tuple hs hp=>obtain⟨a,b⟩:=key hl hs hp;exact .tuple a b
  ·simp only[Am.toPure]at hx
   split at hx
   ·rename_i l1 l2 hl1 hl2
    simp at hx;subst hx
    cases h with
    | pure hp=>cases hp with
     | func h1 h2 h3 h4 =>
      obtain⟨a,b⟩:=key hl1 h1 fun i x y hx hy=> .pure (h3 i x y hx hy)
      obtain⟨c,d⟩:=key hl2 h2 fun i x y hx hy=> .pure (h4 i x y hx hy)
      exact .func a c b d
    | func h1 h2 h3 h4 =>
     obtain⟨a,b⟩:=key hl1 h1 h3
     obtain⟨c,d⟩:=key hl2 h2 h4
     exact .func a c b d
   ·simp at hx
 ·refine h.pure1 ?_
  cases x<;>simp_all [Am.toPure]
end Go.Am
namespace Go.Am
open Go.RowKit
structure St where
 slot:Nat→AV
 box:Key→Nat×Option (Nat×List AV)
 tk:Key→Nat×Nat
inductive Wr where
 | slot (i:Nat) (v:AV)
 | box (k:Key) (c:Nat×Option (Nat×List AV))
 | tk (k:Key) (c:Nat×Nat)
inductive Loc where
 | slot (i:Nat)
 | box (k:Key)
 | tk (k:Key)
deriving DecidableEq
def upd{ι α:Type}[DecidableEq ι](f:ι→α)(i:ι)(x:α):ι→α:=fun j=>if j=i then x else f j
theorem a8{ι α:Type}[DecidableEq ι](f:ι→α)(i:ι)(x:α):upd f i x i=x:=by simp[upd]
theorem fv{ι α:Type}[DecidableEq ι](f:ι→α){i j:ι}(x:α)(h:j≠i):upd f i x j=f j:=by simp[upd,h]
def St.put(S:St):Wr→St
 | .slot i v=>{ S with slot:=upd S.slot i v}
 | .box k c=>{ S with box:=upd S.box k c}
 | .tk k c=>{ S with tk:=upd S.tk k c}
def St.puts(S:St):List Wr→St
 | []=>S
 | x::xs=>(S.put x).puts xs
def Wr.loc:Wr→Loc
 | .slot i _=> .slot i
 | .box k _=> .box k
 | .tk k _=> .tk k
structure Bel (B:Nat→Prop) (w w':World):Prop where
 os:w'.os=w.os
 tape:w'.tape=w.tape
 output:w'.output=w.output
 size:w.heap.size≤w'.heap.size
 block:∀k,B k→w'.heap[k]?=w.heap[k]?
theorem Bel.refl(B:Nat→Prop)(w:World):Bel B w w:=⟨rfl,rfl,rfl,Nat.le_refl _,fun _ _=>rfl⟩
theorem Bel.trans{B:Nat→Prop}{a b c:World}(h:Bel B a b)(k:Bel B b c):Bel B a c :=
 ⟨k.os.trans h.os,k.tape.trans h.tape,k.output.trans h.output,Nat.le_trans h.size k.size,fun i hi=>(k.block i hi).trans (h.block i hi)⟩
theorem Bel.mono{B B':Nat→Prop}{w w':World}(h:Bel B w w')(hB:∀k,B' k→B k):Bel B' w w':=⟨h.os,h.tape,h.output,h.size,fun k hk=>h.block k (hB k hk)⟩
theorem Bel.alloc{B:Nat→Prop}{a w:World}(h:Bel B a w)(hB:∀k,B k→k<w.heap.size)(o:Obj):Bel B a (w.alloc o) :=
 h.trans ⟨rfl,rfl,rfl,by simp,fun k hk=>Below.heap_alloc w o k (hB k hk)⟩
theorem Bel.setRow{B:Nat→Prop}{a w:World}(h:Bel B a w){b:Nat}(hb:¬B b)(arr:Array Value):Bel B a (w.setRow b arr) :=
 h.trans ⟨by simp,by simp,by simp,by simp,fun k hk=>setRow_other _ _ _ _ fun e=>hb (e▸hk)⟩
theorem J6{n:Nat}{w w':World}(h:Below n w w'):Bel (· < n) w w':=⟨h.os,h.tape,h.output,h.size,h.block⟩
theorem qJ{n:Nat}{w w':World}(h:Bel (· < n) w w'):Below n w w':=⟨h.os,h.tape,h.output,h.size,h.block⟩
inductive ObjRel (w:World) (imm:Nat→Nat→Prop) (R:AV→Value→Prop):List AV→Obj→Prop
 | map {es:List AV} {ents:Array MapEntry} (c:Nat) (hl:ents.size=es.length)
  (h:∀(i:Nat) (e:AV) (m:MapEntry),es[i]?=some e→ents[i]?=some m→∃a b,e = .tuple [a,b]∧PRel w imm a m.key∧PRel w imm b m.val∧m.born=c+i):ObjRel w imm R (.v (.int .i64 c)::es) (.map ents (c+ents.size))
 | iter (s:ByteArray) (pos:Nat):ObjRel w imm R [.v (.string s),.v (.int .i64 pos)] (.stringIter s pos)
 | loop {st:LoopState} {pend:Option Code} {ps:Array Tmp} {assign body:Code} {l:List AV} {ts:Array Value} {fn:FuncId} {d:Nat} (hl:ts.size=l.length)
  (h:∀(i:Nat) (x:AV) (y:Value),l[i]?=some x→ts[i]?=some y→R x y):ObjRel w imm R [.lp st pend ps assign body l] (.loop { state:=st,pending:=pend,fn,tmps:=ts,params:=ps,assign,body,defers:=d})
theorem ObjRel.mono{w w':World}{imm imm':Nat→Nat→Prop}{R R':AV→Value→Prop}{es:List AV}{o:Obj}(h:ObjRel w imm R es o)(hp:∀x y,PRel w imm x y→PRel w' imm' x y)(hr:∀x y,R x y→R' x y):ObjRel w' imm' R' es o:=by
 cases h with
 | map c hl h =>
  refine .map c hl fun i e m he hm=>?_
  obtain⟨a,b,e1,e2,e3,e4⟩:=h i e m he hm
  exact⟨a,b,e1,hp _ _ e2,hp _ _ e3,e4⟩
 | iter s pos=>exact .iter s pos
 | loop hl h=>exact .loop hl fun i x y hx hy=>hr _ _ (h i x y hx hy)
theorem ObjRel.mono'{w w':World}{imm imm':Nat→Nat→Prop}{R R':AV→Value→Prop}{c:Int}{es:List AV}{o:Obj}(h:ObjRel w imm R (.v (.int .i64 c)::es) o)(hp:∀x y,PRel w imm x y→PRel w' imm' x y):ObjRel w' imm' R' (.v (.int .i64 c)::es) o:=by
 generalize hl:(AV.v (.int .i64 c)::es)=l at h
 cases h with
 | map c hl' h =>
  cases hl
  refine .map _ hl' fun i e m he hm=>?_
  obtain⟨a,b,e1,e2,e3,e4⟩:=h i e m he hm
  exact⟨a,b,e1,hp _ _ e2,hp _ _ e3,e4⟩
 | iter=>cases hl
 | loop=>cases hl
structure BoxOK (C:Ctx) (k:Key) (sz:Nat) (es:List AV):Prop where
 wid:sz≠0→∀(i:Nat) (e:AV),es[i]?=some e→e.cells.length=sz
 map:sz=0→C.own (C.jb k)=some (.box k)∧∃o,C.w.heap[C.jb k]?=some o∧ObjRel C.w C.imm (KRel C) es o
 own:sz≠0→es≠[]→C.own (C.jb k)=some (.box k)∧∃arr et,C.w.heap[C.jb k]?=some (.cells arr et (0,0))∧es.length * sz≤arr.size ∧
  ∀(i:Nat) (e:AV) (c:Nat) (x:AV),es[i]?=some e→e.cells[c]?=some x→∃y,arr[i * sz+c]?=some y∧KRel C x y∧y.oneCell'=true
 ety:∀T,k.l=1000+2 * T→sz≠0→es≠[]→∃arr,C.w.heap[C.jb k]?=some (.cells arr T (0,0))∧arr.size=sz
 row:∀T,k.l=1001+2 * T→sz≠0→sz<1000→C.own (C.jb k)=some (.box k)∧∃arr,C.w.heap[C.jb k]?=some (.cells arr T (0,0))
def k9(w0:World)(C:Ctx)(ds:List Deferred):Prop :=
 ds.Nodup∧∀d∈ds,∃D,d={ target:= .collected D,args:=#[]}∧C.own D=none∧w0.heap.size≤D∧(∀i,¬C.imm D i)∧C.w.heap[D]?=some (.deferred (some []))
theorem k9.le{w0:World}{C C':Ctx}{ds:List Deferred}(h:k9 w0 C ds)(hle:C.le C'):k9 w0 C' ds:=by
 refine⟨h.1,fun d hd=>?_⟩
 obtain⟨D,e,h1,h2,h3,h4⟩:=h.2 d hd
 have hD:D<C.w.heap.size:=(Array.getElem?_eq_some_iff.1 h4).1
 refine⟨D,e,?_,h2,fun i hi=>?_,(hle.free D hD h1).trans h4⟩
 ·cases e:C'.own D with
  | none=>rfl
  | some o=>rw[hle.ownOld D o hD e]at h1;cases h1
 ·rcases hle.immOld D i hD hi with h|⟨k,h⟩|⟨k,h,_⟩
  ·exact h3 i h
  ·rw[h1]at h;cases h
  ·rw[h1]at h;cases h
theorem k9.nil(w0:World)(C:Ctx):k9 w0 C []:=⟨List.nodup_nil,fun _ h=>by cases h⟩
structure Rel (N:Nat) (base:Nat→Prop) (w0:World) (S:St) (C:Ctx) (a:Act) (w:World):Prop where
 cw:C.w=w
 glob:jM w C.imm
 size:a.tmps.size=N
 defers:k9 w0 C a.defers
 slot:∀i,i<N→KRel C (S.slot i) (a.tmps.getD i undef)
 gb:∀k,C.gb k=(S.box k).1
 gt:∀k,C.gt k=(S.tk k).1
 hw:∀k,C.hw k=(S.tk k).2
 box:∀k sz es,(S.box k).2=some (sz,es)→BoxOK C k sz es
 ownBox:∀b k,C.own b=some (.box k)→∀i,¬C.imm b i
 immLt:∀b i,C.imm b i→b<w.heap.size
 ownLt:∀b o,C.own b=some o→¬base b∧b<w.heap.size
 below:Bel base w0 w
 base:∀b,base b→b<w0.heap.size
section
variable {N:Nat} {base:Nat→Prop} {w0:World} {S:St} {C:Ctx} {a:Act} {w:World}
theorem Rel.globOf(hR:Rel N base w0 S C a w){C':Ctx}{w':World}(hle:C.le0 C')(hw:C'.w=w'):jM w' C'.imm:=by
 have h:=hR.glob
 rw[←hR.cw]at h
 rw[←hw]
 exact h.mono hle.imm
theorem Rel.immOk(hR:Rel N base w0 S C a w):ImmOk w C.imm:=⟨hR.immLt,hR.glob⟩
theorem Rel.baseLe(hR:Rel N base w0 S C a w):∀b,base b→b<w.heap.size:=fun b h=>Nat.lt_of_lt_of_le (hR.base b h) hR.below.size
theorem BoxOK.mono0{C C':Ctx}{k:Key}{sz:Nat}{es:List AV}(h:BoxOK C k sz es)(hle:C.le0 C')(hj:C'.jb k=C.jb k)
  (ho:C.own (C.jb k)=some (.box k)→C'.own (C.jb k)=C.own (C.jb k)) (hh:C.own (C.jb k)=some (.box k)→C'.w.heap[C.jb k]?=C.w.heap[C.jb k]?):BoxOK C' k sz es where
 wid:=h.wid
 map h0:=by
  obtain⟨o,ob,h1,h2⟩:=h.map h0
  rw[hj]
  exact⟨by rw[ho o,o],ob,by rw[hh o,h1],h2.mono (fun x y h=>h.le0 hle) (fun x y h=>h.le0 hle)⟩
 own h0 he:=by
  obtain⟨o,arr,et,ha,hl,hc⟩:=h.own h0 he
  rw[hj]
  refine⟨by rw[ho o,o],arr,et,by rw[hh o,ha],hl,fun i e c x h1 h2=>?_⟩
  obtain⟨y,hy,hk,h1⟩:=hc i e c x h1 h2
  exact⟨y,hy,hk.le0 hle,h1⟩
 ety T hT h0 he:=by
  obtain⟨o,_⟩:=h.own h0 he
  obtain⟨arr,ha,hs⟩:=h.ety T hT h0 he
  exact⟨arr,by rw[hj,hh o,ha],hs⟩
 row T hT h0 h1:=by
  obtain⟨o,arr,ha⟩:=h.row T hT h0 h1
  exact⟨by rw[hj,ho o,o],arr,by rw[hj,hh o,ha]⟩
theorem BoxOK.mono{C C':Ctx}{k:Key}{sz:Nat}{es:List AV}(h:BoxOK C k sz es)(hle:C.le C')(hj:C'.jb k=C.jb k)
 (ho:C.own (C.jb k)=some (.box k)→C'.own (C.jb k)=C.own (C.jb k)) (hh:C.own (C.jb k)=some (.box k)→C'.w.heap[C.jb k]?=C.w.heap[C.jb k]?):BoxOK C' k sz es:=h.mono0 hle.le0 hj ho hh
theorem Rel.put(hR:Rel N base w0 S C a w){v:AV}{y:Value}(hv:KRel C v y)(d:Nat):Rel N base w0 (S.put (.slot d v)) C (a.put (some d) y) w where
 cw:=hR.cw
 glob:=(by first|exact hR.glob|exact hR.globOf (by first|exact hle.le0|exact hle|exact hle0|exact hCle.le0) (by first|rfl|exact h1.cw|(rw[hC'];first|done|exact hR.cw)|exact hR.cw))
 size:=by simp[Act.put,hR.size]
 defers:=hR.defers
 slot i hi:=by
  simp only[St.put,Act.put]
  by_cases h:i=d
  ·subst h
   have h1:(a.tmps.setIfInBounds i y).getD i undef=y:=by simp[Array.getD,hR.size,hi]
   rw[a8,h1];exact hv
  ·have h1:(a.tmps.setIfInBounds d y).getD i undef=a.tmps.getD i undef:=by
    rw[Array.getD_eq_getD_getElem?,Array.getD_eq_getD_getElem?,Array.getElem?_setIfInBounds_ne (Ne.symm h)]
   rw[fv _ _ h,h1];exact hR.slot i hi
 gb:=hR.gb
 gt:=hR.gt
 hw:=hR.hw
 box:=hR.box
 ownBox:=hR.ownBox
 immLt:=hR.immLt
 ownLt:=hR.ownLt
 below:=hR.below
 base:=hR.base
theorem Rel.world(hR:Rel N base w0 S C a w){w':World}(hh:w'.heap=w.heap)(hos:w'.os=w.os)(ht:w'.tape=w.tape)(hout:w'.output=w.output) :
  C.le { C with w:=w'}∧Rel N base w0 S { C with w:=w'} a w':=by
 have hw:=hR.cw
 subst hw
 have hcell:∀x,w'.cell? x=C.w.cell? x:=fun x=>World.cell?_of_block (by rw[hh])
 have hle:C.le { C with w:=w'}:=⟨fun b i h=>⟨h,hcell _⟩,fun _=>Nat.le_refl _,fun _ _=>rfl,fun _=>Nat.le_refl _,fun _ _=>Nat.le_refl _,
  fun k b _ _ h=>⟨h,fun _ h=>h,fun arr e h'=>⟨arr,by rw[hh];exact h',rfl⟩⟩,
  fun k _ h=>⟨h,fun arr e h'=>⟨arr,e,by rw[hh];exact h',Nat.le_refl _⟩⟩,by rw[hh];exact Nat.le_refl _,fun _ _ _ h=> .inl h,fun _ _ _ h=>h,fun b _ _=>by rw[hh]⟩
 exact⟨hle,{
  cw:=rfl,glob:=(by first|exact hR.glob|exact hR.globOf (by first|exact hle.le0|exact hle|exact hle0|exact hCle.le0) (by first|rfl|exact h1.cw|(rw[hC'];first|done|exact hR.cw)|exact hR.cw)),size:=hR.size,defers:=hR.defers.le hle,slot:=fun i hi=>(hR.slot i hi).le hle,gb:=hR.gb,gt:=hR.gt,hw:=hR.hw
  box:=fun k sz es h=>(hR.box k sz es h).mono hle rfl (fun _=>rfl) (fun _=>by rw[hh])
  ownBox:=hR.ownBox,immLt:=fun b i h=>by rw[hh];exact hR.immLt b i h,ownLt:=fun b o h=>by rw[hh];exact hR.ownLt b o h
  below:=⟨hos.trans hR.below.os,ht.trans hR.below.tape,hout.trans hR.below.output,by rw[hh];exact hR.below.size,fun k hk=>by rw[hh];exact hR.below.block k hk⟩
  base:=hR.base}⟩
theorem Rel.newObj(hR:Rel N base w0 S C a w)(k:Key)(cont:Option (Nat×List AV))(o:Obj)
  (hok:∀C':Ctx,C.le C'→C'.w=w.alloc o→C'.imm=C.imm→C'.jb k=w.heap.size→C'.own w.heap.size=some (.box k)→C'.gb k=(S.box k).1+1→∀sz es,cont=some (sz,es)→BoxOK C' k sz es) :
  ∃C',C.le C'∧C'.gb k=(S.box k).1+1∧C'.jb k=w.heap.size∧C'.imm=C.imm∧C'.own w.heap.size=some (.box k)∧C'.w=w.alloc o ∧
   Rel N base w0 (S.put (.box k ((S.box k).1+1,cont))) C' a (w.alloc o):=by
 have hbase:=hR.baseLe
 have hw:=hR.cw
 subst hw
 obtain⟨C',hC'⟩:∃C':Ctx,C'={ C with w:=C.w.alloc o,own:=upd C.own C.w.heap.size (some (.box k)),gb:=upd C.gb k (C.gb k+1),jb:=upd C.jb k C.w.heap.size}:=⟨_,rfl⟩
 have hold:∀b,b<C.w.heap.size→C'.w.heap[b]?=C.w.heap[b]?:=fun b hb=>by rw[hC'];exact Below.heap_alloc _ _ _ hb
 have hown:∀b,b≠C.w.heap.size→C'.own b=C.own b:=fun b hb=>by rw[hC'];exact fv _ _ hb
 have hle:C.le C':=by
  refine⟨fun b i h=>⟨by rw[hC'];exact h,World.cell?_of_block (hold b (hR.immLt b i h))⟩,fun x=>?_,fun x e=>?_,fun x=>by rw[hC'];exact Nat.le_refl _,fun x _=>by rw[hC'];exact Nat.le_refl _,fun x b _ _ h=>?_,fun x e h=>?_,by rw[hC'];simp,fun b i _ h=>by rw[hC']at h;exact .inl h,fun b o hb h=>by rw[←hown b (by omega)];exact h,fun b hb _=>hold b hb⟩
  ·rw[hC'];simp only[upd];split<;>(try subst_vars)<;>omega
  ·rw[hC']at e ⊢;simp only[upd]at e ⊢;split at e
   ·subst_vars;omega
   ·rename_i h;simp[h]
  ·have:=(hR.ownLt b _ h).2
   exact⟨by rw[hown b (by omega)];exact h,fun i hi=>by rw[hC']at hi;exact hi,fun arr' e h'=>⟨arr',by rw[hold b this];exact h',rfl⟩⟩
  ·have:=(hR.ownLt _ _ h).2
   exact⟨by rw[hown _ (by omega)];exact h,fun arr' e h'=>⟨arr',e,by rw[hold _ this];exact h',Nat.le_refl _⟩⟩
 have hgb:C'.gb k=(S.box k).1+1:=by rw[hC', ←hR.gb];exact a8 _ _ _
 have hjb:C'.jb k=C.w.heap.size:=by rw[hC'];exact a8 _ _ _
 have hon:C'.own C.w.heap.size=some (.box k):=by rw[hC'];exact a8 _ _ _
 refine⟨C',hle,hgb,hjb,by rw[hC'],hon,by rw[hC'],?_⟩
 exact {
  cw:=by rw[hC'],glob:=(by first|exact hR.glob|exact hR.globOf (by first|exact hle.le0|exact hle|exact hle0|exact hCle.le0) (by first|rfl|exact h1.cw|(rw[hC'];first|done|exact hR.cw)|exact hR.cw)),size:=hR.size,defers:=hR.defers.le hle,slot:=fun i hi=>(hR.slot i hi).le hle
  gb:=fun x=>by
   rw[hC'];simp only[St.put,upd]
   split
   ·subst_vars;simp[hR.gb]
   ·exact hR.gb x
  gt:=fun x=>by rw[hC'];exact hR.gt x
  hw:=fun x=>by rw[hC'];exact hR.hw x
  box:=fun x sz' es' h=>by
   by_cases e:x=k
   ·subst e
    simp only[St.put,a8]at h
    exact hok C' hle (by rw[hC']) (by rw[hC']) hjb hon hgb sz' es' h
   ·simp only[St.put,fv _ _ e]at h
    have hb:=hR.box x sz' es' h
    refine hb.mono hle (by rw[hC'];exact fv _ _ e) (fun ho=>hown _ ?_) (fun ho=>hold _ ?_)
    ·have:=(hR.ownLt _ _ ho).2;omega
    ·exact(hR.ownLt _ _ ho).2
  ownBox:=fun b x h i hi=>by
   by_cases e:b=C.w.heap.size
   ·rw[hC']at hi;have:=hR.immLt b i hi;omega
   ·rw[hown b e]at h;rw[hC']at hi;exact hR.ownBox b x h i hi
  immLt:=fun b i h=>by rw[hC']at h;have:=hR.immLt b i h;simp;omega
  ownLt:=fun b o h=>by
   by_cases e:b=C.w.heap.size
   ·subst e;exact⟨fun h=>Nat.lt_irrefl _ (hbase _ h),by simp⟩
   ·rw[hown b e]at h;have:=hR.ownLt b o h;exact⟨this.1,by have:=this.2;simp;omega⟩
  below:=hR.below.alloc hbase _,base:=hR.base}
theorem Rel.newBox(hR:Rel N base w0 S C a w)(k:Key)(sz:Nat)(es:List AV)(arr:Array Value)(et:TypeId)(h0:sz≠0)(hT:∀T,k.l=1000+2 * T→et=T∧arr.size=sz)(hT2:∀T,k.l=1001+2 * T→et=T)
  (hsz:∀(i:Nat) (e:AV),es[i]?=some e→e.cells.length=sz) (hlen:es.length * sz≤arr.size)
  (hy:∀(i:Nat) (e:AV) (c:Nat) (x:AV),es[i]?=some e→e.cells[c]?=some x→∃y,arr[i * sz+c]?=some y∧KRel C x y∧y.oneCell'=true) :
  ∃C',C.le C'∧C'.gb k=(S.box k).1+1∧C'.jb k=w.heap.size∧C'.imm=C.imm∧C'.own w.heap.size=some (.box k)∧C'.w=w.alloc (.cells arr et) ∧
   Rel N base w0 (S.put (.box k ((S.box k).1+1,some (sz,es)))) C' a (w.alloc (.cells arr et)):=by
 refine hR.newObj k (some (sz,es)) (.cells arr et) fun C' hle hw him hj ho hg sz' es' he=>?_
 cases he
 refine⟨fun _=>hsz,fun h=>absurd h h0,fun _ _=>?_,fun T hk _ _=>?_,fun T hk _ _=>?_⟩
 rotate_left
 ·obtain⟨rfl,hs⟩:=hT T hk
  exact⟨arr,by rw[hj,hw];exact heap_alloc_new _ _,hs⟩
 ·obtain rfl:=hT2 T hk
  exact⟨by rw[hj];exact ho,arr,by rw[hj,hw];exact heap_alloc_new _ _⟩
 rw[hj]
 refine⟨ho,arr,et,by rw[hw];exact heap_alloc_new _ _,hlen,fun i e c y h1 h2=>?_⟩
 obtain⟨y',a1,a2,a3⟩:=hy i e c y h1 h2
 exact⟨y',a1,a2.le hle,a3⟩
theorem Rel.objWrite(hR:Rel N base w0 S C a w)(k:Key)(cont:Option (Nat×List AV))(o:C.own (C.jb k)=some (.box k)){w':World}
  (hother:∀b,b≠C.jb k→w'.heap[b]?=w.heap[b]?) (hsize:w'.heap.size=w.heap.size) (hos:w'.os=w.os) (ht:w'.tape=w.tape) (hout:w'.output=w.output)
  (hbs:∀arr e,w.heap[C.jb k]?=some (.cells arr e (0,0))→∃arr' e',w'.heap[C.jb k]?=some (.cells arr' e' (0,0))∧arr.size≤arr'.size)
  (hok:∀C':Ctx,C.le C'→C'.w=w'→C'.imm=C.imm→C'.jb=C.jb→C'.own=C.own→C'.gb=C.gb→∀sz es,cont=some (sz,es)→BoxOK C' k sz es) :
  ∃C',C.le C'∧C'.gb=C.gb∧C'.jb=C.jb∧Rel N base w0 (S.put (.box k ((S.box k).1,cont))) C' a w':=by
 have hw:=hR.cw
 subst hw
 have hni:=hR.ownBox _ _ o
 have hle:C.le { C with w:=w'}:=by
  refine⟨fun b i h=>⟨h,World.cell?_of_block (hother b fun e=>hni i (e▸h))⟩,fun x=>Nat.le_refl _,fun x e=>rfl,fun x=>Nat.le_refl _,fun x _=>Nat.le_refl _,fun x b _ _ h=>?_,fun x _ h=>⟨h,fun arr' e h'=>?_⟩,by simp[hsize],fun _ _ _ h=> .inl h,fun _ _ _ h=>h,fun b _ h=>hother b fun e=>by rw[e,o]at h;cases h⟩
  ·have hne:b≠C.jb k:=fun e=>by rw[e,o]at h;cases h
   exact⟨h,fun i hi=>hi,fun arr1 e h'=>⟨arr1,(hother b hne).trans h',rfl⟩⟩
  ·by_cases e1:C.jb x=C.jb k
   ·rw[e1]at h' ⊢;exact hbs arr' e h'
   ·exact⟨arr',e,by rw[hother _ e1];exact h',Nat.le_refl _⟩
 refine⟨_,hle,rfl,rfl,?_⟩
 exact {
  cw:=rfl,glob:=(by first|exact hR.glob|exact hR.globOf (by first|exact hle.le0|exact hle|exact hle0|exact hCle.le0) (by first|rfl|exact h1.cw|(rw[hC'];first|done|exact hR.cw)|exact hR.cw)),size:=hR.size,defers:=hR.defers.le hle,slot:=fun i hi=>(hR.slot i hi).le hle
  gb:=fun x=>by
   simp only[St.put,upd];split
   ·subst_vars;exact hR.gb _
   ·exact hR.gb x
  gt:=hR.gt,hw:=hR.hw
  box:=fun x sz' es1 h=>by
   by_cases e:x=k
   ·subst e
    simp only[St.put,a8]at h
    exact hok _ hle rfl rfl rfl rfl rfl sz' es1 h
   ·simp only[St.put,fv _ _ e]at h
    have hb:=hR.box x sz' es1 h
    refine hb.mono hle rfl (fun _=>rfl) (fun ho=>hother _ fun e'=>?_)
    rw[e',o]at ho
    cases ho;exact e rfl
  ownBox:=hR.ownBox
  immLt:=fun b i h=>by have:=hR.immLt b i h;simpa[hsize]using this
  ownLt:=fun b o h=>by have:=hR.ownLt b o h;simpa[hsize]using this
  below:=hR.below.trans ⟨hos,ht,hout,by omega,fun b hb=>hother b fun e=>(hR.ownLt _ _ o).1 (e▸hb)⟩,base:=hR.base}
theorem Rel.boxWrite(hR:Rel N base w0 S C a w)(k:Key){sz:Nat}{es:List AV}(hk:(S.box k).2=some (sz,es))(h0:sz≠0)(he:es≠[])(es':List AV){arr:Array Value}{et:TypeId}
  (harr:w.heap[C.jb k]?=some (.cells arr et (0,0))) (arr':Array Value) (hs:arr'.size=arr.size)
  (hsz:∀(i:Nat) (e:AV),es'[i]?=some e→e.cells.length=sz) (hlen:es'.length * sz≤arr'.size)
  (hy:∀(i:Nat) (e:AV) (c:Nat) (x:AV),es'[i]?=some e→e.cells[c]?=some x→∃y,arr'[i * sz+c]?=some y∧KRel C x y∧y.oneCell'=true) :
  ∃C',C.le C'∧C'.gb=C.gb∧C'.jb=C.jb∧Rel N base w0 (S.put (.box k ((S.box k).1,some (sz,es')))) C' a (w.setRow (C.jb k) arr'):=by
 obtain⟨o,_⟩:=(hR.box k sz es hk).own h0 he
 refine hR.objWrite k (some (sz,es')) o (fun b hb=>setRow_other _ _ _ _ hb) (by simp) (by simp) (by simp) (by simp) (fun arr1 e h1=>?_) fun C' hle hw him hj ho hg sz' es1 h=>?_
 ·rw[harr]at h1
  cases h1
  exact⟨arr',_,setRow_heap _ _ _ _ _ _ harr,by omega⟩
 ·cases h
  refine⟨fun _=>hsz,fun h=>absurd h h0,fun _ _=>?_,fun T hT _ _=>?_,fun T hT _ h1=>?_⟩
  rotate_left
  ·obtain⟨arr2,h2,h3⟩:=(hR.box k sz es hk).ety T hT h0 he
   rw[hR.cw,harr]at h2
   cases h2
   exact⟨arr',by rw[hw,hj];exact setRow_heap _ _ _ _ _ _ harr,by rw[hs];exact h3⟩
  ·obtain⟨_,arr2,h2⟩:=(hR.box k sz es hk).row T hT h0 h1
   rw[hR.cw,harr]at h2
   cases h2
   exact⟨by rw[hj,ho];exact o,arr',by rw[hw,hj];exact setRow_heap _ _ _ _ _ _ harr⟩
  rw[hj]
  refine⟨by rw[ho];exact o,arr',et,by rw[hw];exact setRow_heap _ _ _ _ _ _ harr,hlen,fun i e c y h1 h2=>?_⟩
  obtain⟨y',a1,a2,a3⟩:=hy i e c y h1 h2
  exact⟨y',a1,a2.le hle,a3⟩
theorem Rel.tailWrite(hR:Rel N base w0 S C a w)(k:Key)(b sz n m:Nat)(hn:C.hw k=n)(hm:0<m)(ho:C.own b=some (.tl k))(hi:∀i,C.imm b i→i<n * sz)
  {arr:Array Value} {et:TypeId} (harr:w.heap[b]?=some (.cells arr et (0,0))) (arr':Array Value) (hs:arr'.size=arr.size) (heq:∀i,i<n * sz→arr'[i]?=arr[i]?) :
  ∃C',C.le C'∧(∀i,i<(n+m) * sz→C'.imm b i)∧C'.gt k=C.gt k∧C'.hw k=n+m∧C'.own b=some (.tl k)∧(∀i,C'.imm b i→i<(n+m) * sz) ∧
   C'.w.heap[b]?=some (.cells arr' et (0,0))∧(∀x y,x≠k→C.own y=some (.tl x)→C'.own y=some (.tl x)) ∧
   Rel N base w0 (S.put (.tk k ((S.tk k).1,n+m))) C' a (w.setRow b arr'):=by
 have hw:=hR.cw
 subst hw
 have hold:∀x,x≠b→(C.w.setRow b arr').heap[x]?=C.w.heap[x]?:=fun x hx=>setRow_other _ _ _ _ hx
 have hnew:=setRow_heap C.w b arr arr' et (0,0) harr
 have hmono:n * sz≤(n+m) * sz:=Nat.mul_le_mul_right _ (by omega)
 obtain⟨C',hC'⟩:∃C':Ctx,C'={ C with w:=C.w.setRow b arr',imm:=fun x i=>C.imm x i∨(x=b∧i<(n+m) * sz),hw:=upd C.hw k (n+m)}:=⟨_,rfl⟩
 have hle:C.le C':=by
  refine⟨fun x i h=>⟨by rw[hC'];exact .inl h,?_⟩,fun x=>by rw[hC'];exact Nat.le_refl _,fun x e=>by rw[hC'],fun x=>by rw[hC'];exact Nat.le_refl _,fun x _=>?_,fun x y _ e h=>?_,fun x _ h=>?_,by rw[hC'];simp,fun x i _ h=>by
   rw[hC']at h
   rcases h with h|h
   ·exact .inl h
   ·exact .inr (.inl ⟨k,by rw[h.1];exact ho⟩),fun x o _ h=>by rw[hC']at h;exact h,fun x _ h=>by rw[hC'];exact hold x fun e=>by rw[e,ho]at h;cases h⟩
  ·by_cases e:x=b
   ·subst e
    rw[hC']
    simp only[World.cell?,hnew,harr,Option.isSome_none]
    simpa using heq i (hi i h)
   ·rw[hC'];exact World.cell?_of_block (hold x e)
  ·rw[hC'];simp only[upd];split
   ·subst_vars;omega
   ·exact Nat.le_refl _
  ·have hx:x≠k:=fun e'=>by rw[hC']at e;subst e';simp[upd]at e;omega
   have hy:y≠b:=fun e'=>by rw[e',ho]at h;cases h;exact hx rfl
   refine⟨by rw[hC'];exact h,fun i hi=>?_,fun arr1 e1 h'=>⟨arr1,by rw[hC'];exact(hold y hy).trans h',rfl⟩⟩
   rw[hC']at hi
   exact hi.resolve_right fun h=>hy h.1
  ·have hy:C.jb x≠b:=fun e'=>by rw[e',ho]at h;cases h
   exact⟨by rw[hC'];exact h,fun arr1 e h'=>⟨arr1,e,by rw[hC'];exact(hold _ hy).trans h',Nat.le_refl _⟩⟩
 refine⟨C',hle,fun i h=>by rw[hC'];exact .inr ⟨rfl,h⟩,by rw[hC'],by rw[hC'];exact a8 _ _ _,by rw[hC'];exact ho,fun i h=>?_,by rw[hC'];exact hnew,fun x y _ h=>by rw[hC'];exact h,?_⟩
 ·rw[hC']at h
  rcases h with h|h
  ·have:=hi i h;omega
  ·exact h.2
 exact {
  cw:=by rw[hC'],glob:=(by first|exact hR.glob|exact hR.globOf (by first|exact hle.le0|exact hle|exact hle0|exact hCle.le0) (by first|rfl|exact h1.cw|(rw[hC'];first|done|exact hR.cw)|exact hR.cw)),size:=hR.size,defers:=hR.defers.le hle,slot:=fun i hi=>(hR.slot i hi).le hle
  gb:=fun x=>by rw[hC'];exact hR.gb x
  gt:=fun x=>by
   rw[hC'];simp only[St.put,upd];split
   ·subst_vars;exact hR.gt _
   ·exact hR.gt x
  hw:=fun x=>by
   rw[hC'];simp only[St.put,upd];split
   ·rfl
   ·exact hR.hw x
  box:=fun x sz' es1 h=>by
   have hb:=hR.box x sz' es1 h
   refine hb.mono hle (by rw[hC']) (fun _=>by rw[hC']) (fun h1=>by rw[hC'];exact hold _ fun e'=>by rw[e',ho]at h1;cases h1)
  ownBox:=fun x y h i hi'=>by
   rw[hC']at h hi'
   rcases hi' with hi'|hi'
   ·exact hR.ownBox x y h i hi'
   ·rw[hi'.1,ho]at h;cases h
  immLt:=fun x i h=>by
   rw[hC']at h
   rcases h with h|h
   ·have:=hR.immLt x i h;simpa using this
   ·have:=(hR.ownLt _ _ ho).2;rw[h.1];simpa using this
  ownLt:=fun x o h=>by rw[hC']at h;have:=hR.ownLt x o h;simpa using this
  below:=hR.below.setRow (hR.ownLt _ _ ho).1 _,base:=hR.base}
def gL(k:Key):Option Owner→Option Owner
 | some (.tl x)=>if x=k then none else some (.tl x)
 | o=>o
theorem yH{k x:Key}{o:Option Owner}:gL k o=some (.box x)↔o=some (.box x):=by
 cases o with
 | none=>simp[gL]
 | some o=>cases o<;>simp[gL]
theorem Bd{k x:Key}{o:Option Owner}(h:x≠k):gL k o=some (.tl x)↔o=some (.tl x):=by
 cases o with
 | none=>simp[gL]
 | some o =>
  cases o<;>simp[gL]
  rintro rfl;exact h
theorem nD{k:Key}{o:Option Owner}{p:Owner}(h:gL k o=some p):o=some p:=by
 cases o with
 | none=>simp[gL]at h
 | some o =>
  cases o<;>simp[gL]at h ⊢
  ·exact h
  ·exact h.2
theorem Rel.newTail(hR:Rel N base w0 S C a w)(k:Key)(g sz n:Nat)(hg:C.gt k<g∨(g=C.gt k∧C.hw k<n))(arr:Array Value)(et:TypeId)(w':World)
  (hh:w'.heap=w.heap.push (.cells arr et)) (hos:w'.os=w.os) (ht:w'.tape=w.tape) (hout:w'.output=w.output) (hbase:∀b,base b→b<w.heap.size) :
  ∃C',C.le C'∧(∀i,i<n * sz→C'.imm w.heap.size i)∧C'.gt k=g∧C'.hw k=n∧C'.own w.heap.size=some (.tl k)∧(∀i,C'.imm w.heap.size i→i<n * sz) ∧
   C'.w.heap[w.heap.size]?=some (.cells arr et (0,0)) ∧
   Rel N base w0 (S.put (.tk k (g,n))) C' a w':=by
 have hw:=hR.cw
 subst hw
 have hold:∀x,x<C.w.heap.size→w'.heap[x]?=C.w.heap[x]?:=fun x hx=>by rw[hh,Array.getElem?_push,if_neg (by omega)]
 have hsz:w'.heap.size=C.w.heap.size+1:=by rw[hh];simp
 obtain⟨C',hC'⟩:∃C':Ctx,C'={ C with w:=w',imm:=fun x i=>C.imm x i∨(x=C.w.heap.size∧i<n * sz),own:=fun x=>if x=C.w.heap.size then some (.tl k)else gL k (C.own x),gt:=upd C.gt k g,hw:=upd C.hw k n}:=⟨_,rfl⟩
 have hown:∀x,x≠C.w.heap.size→C'.own x=gL k (C.own x):=fun x hx=>by rw[hC'];simp[hx]
 have himm:∀x i,x≠C.w.heap.size→C'.imm x i→C.imm x i:=fun x i hx h=>by rw[hC']at h;exact h.resolve_right fun h=>hx h.1
 have hle:C.le C':=by
  refine⟨fun x i h=>⟨by rw[hC'];exact .inl h,by rw[hC'];exact World.cell?_of_block (hold x (hR.immLt x i h))⟩,fun x=>by rw[hC'];exact Nat.le_refl _,fun x e=>by rw[hC'],fun x=>?_,fun x e=>?_,fun x y e e2 h=>?_,fun x _ h=>?_,by rw[hC'];simp only;omega,fun x i hx h=> .inl (himm x i (by omega) h),fun x o hx h=>by
   rw[hown x (by omega)]at h;exact nD h,fun x hx _=>by rw[hC'];exact hold x hx⟩
  ·rw[hC'];simp only[upd];split
   ·subst_vars;omega
   ·exact Nat.le_refl _
  ·rw[hC']at e ⊢;simp only[upd]at e ⊢;split
   ·subst_vars;simp at e;omega
   ·exact Nat.le_refl _
  ·have hx:x≠k:=fun e'=>by subst e';rw[hC']at e e2;simp[upd]at e e2;omega
   have hlt:=(hR.ownLt y _ h).2
   exact⟨by rw[hown y (by omega),Bd hx];exact h,fun i hi=>himm y i (by omega) hi,fun arr1 e1 h'=>⟨arr1,by rw[hC'];exact(hold y hlt).trans h',rfl⟩⟩
  ·have hlt:=(hR.ownLt _ _ h).2
   exact⟨by rw[hown _ (by omega),h];rfl,fun arr1 e h'=>⟨arr1,e,by rw[hC'];exact(hold _ hlt).trans h',Nat.le_refl _⟩⟩
 have hnewh:C'.w.heap[C.w.heap.size]?=some (.cells arr et (0,0)):=by rw[hC'];simp[hh]
 refine⟨C',hle,fun i h=>by rw[hC'];exact .inr ⟨rfl,h⟩,by rw[hC'];exact a8 _ _ _,by rw[hC'];exact a8 _ _ _,by rw[hC'];simp,fun i h=>?_,hnewh,?_⟩
 ·rw[hC']at h
  rcases h with h|h
  ·have:=hR.immLt _ i h;omega
  ·exact h.2
 exact {
  cw:=by rw[hC'],glob:=(by first|exact hR.glob|exact hR.globOf (by first|exact hle.le0|exact hle|exact hle0|exact hCle.le0) (by first|rfl|exact h1.cw|(rw[hC'];first|done|exact hR.cw)|exact hR.cw)),size:=hR.size,defers:=hR.defers.le hle,slot:=fun i hi=>(hR.slot i hi).le hle
  gb:=fun x=>by rw[hC'];exact hR.gb x
  gt:=fun x=>by
   rw[hC'];simp only[St.put,upd];split
   ·rfl
   ·exact hR.gt x
  hw:=fun x=>by
   rw[hC'];simp only[St.put,upd];split
   ·rfl
   ·exact hR.hw x
  box:=fun x sz' es1 h=>by
   have hb:=hR.box x sz' es1 h
   refine hb.mono hle (by rw[hC']) (fun h1=>?_) (fun h1=>?_)
   ·have h2:=(hR.ownLt _ _ h1).2
    rw[hown _ (by omega),h1];rfl
   ·have h2:=(hR.ownLt _ _ h1).2
    rw[hC'];exact hold _ h2
  ownBox:=fun x y h i hi'=>by
   by_cases e:x=C.w.heap.size
   ·rw[hC']at h;simp[e]at h
   ·rw[hown x e,yH]at h
    exact hR.ownBox x y h i (himm x i e hi')
  immLt:=fun x i h=>by
   rw[hsz]
   by_cases e:x=C.w.heap.size
   ·omega
   ·have:=hR.immLt x i (himm x i e h);omega
  ownLt:=fun x o h=>by
   rw[hsz]
   by_cases e:x=C.w.heap.size
   ·exact⟨fun h=>by have:=hbase _ h;omega,by omega⟩
   ·rw[hown x e]at h
    have:=hR.ownLt x o (nD h);exact⟨this.1,by have:=this.2;omega⟩
  below:=hR.below.trans ⟨hos,ht,hout,by omega,fun x hx=>hold x (by have:=hbase x hx;omega)⟩,base:=hR.base}
theorem Rel.called(hR:Rel N base w0 S C a w){w':World}(hb:Below w.heap.size w w')(imm':Nat→Nat→Prop)(hi:∀b i,imm' b i→b<w'.heap.size)(hbase:∀b,base b→b<w.heap.size) :
  ∃C',C.le C'∧C'.w=w'∧(∀b i,C'.imm b i↔(C.imm b i∨(w.heap.size≤b∧imm' b i)))∧Rel N base w0 S C' a w':=by
 have hw:=hR.cw
 subst hw
 have hle:C.le { C with w:=w',imm:=fun b i=>C.imm b i∨(C.w.heap.size≤b∧imm' b i)}:=by
  refine⟨fun x i h=>⟨.inl h,World.cell?_of_block (hb.block x (hR.immLt x i h))⟩,fun x=>Nat.le_refl _,fun x e=>rfl,fun x=>Nat.le_refl _,fun x e=>Nat.le_refl _,fun x y e e2 h=>?_,fun x _ h=>⟨h,fun arr1 e h'=>⟨arr1,e,(hb.block _ (hR.ownLt _ _ h).2).trans h',Nat.le_refl _⟩⟩,hb.size,fun x i hx h=> .inl (h.resolve_right fun h=>by omega),fun _ _ _ h=>h,fun x hx _=>hb.block x hx⟩
  have hlt:=(hR.ownLt y _ h).2
  exact⟨h,fun i hi=>hi.resolve_right fun h=>by omega,fun arr1 e1 h'=>⟨arr1,(hb.block y hlt).trans h',rfl⟩⟩
 refine⟨_,hle,rfl,fun b i=>Iff.rfl,?_⟩
 exact {
  cw:=rfl,glob:=(by first|exact hR.glob|exact hR.globOf (by first|exact hle.le0|exact hle|exact hle0|exact hCle.le0) (by first|rfl|exact h1.cw|(rw[hC'];first|done|exact hR.cw)|exact hR.cw)),size:=hR.size,defers:=hR.defers.le hle,slot:=fun i hi=>(hR.slot i hi).le hle,gb:=hR.gb,gt:=hR.gt,hw:=hR.hw
  box:=fun x sz' es1 h=>by
   have hb':=hR.box x sz' es1 h
   exact hb'.mono hle rfl (fun _=>rfl) (fun h1=>hb.block _ (hR.ownLt _ _ h1).2)
  ownBox:=fun x y h i hi'=>by
   rcases hi' with hi'|hi'
   ·exact hR.ownBox x y h i hi'
   ·have:=(hR.ownLt x _ h).2;omega
  immLt:=fun x i h=>by
   rcases h with h|h
   ·have:=hR.immLt x i h;have:=hb.size;omega
   ·exact hi x i h.2
  ownLt:=fun x o h=>by have h1:=hR.ownLt x o h;have h2:=hb.size;exact⟨h1.1,Nat.lt_of_lt_of_le h1.2 h2⟩
  below:=hR.below.trans ((J6 hb).mono hbase),base:=hR.base}
end
end Go.Am
namespace Go.Am
open Go.RowKit
def Key.beq(a b:Key):Bool :=
 match Nat.beq a.f b.f with
 | true=>match Nat.beq a.s b.s with
  | true=>Nat.beq a.l b.l
  | false=>false
 | false=>false
theorem Key.beq_eq{a b:Key}:a.beq b=true↔a=b:=by
 unfold Key.beq
 constructor
 ·intro h
  split at h
  ·rename_i h1
   split at h
   ·rename_i h2
    cases a;cases b
    simp only at h h1 h2
    simp[Nat.eq_of_beq_eq_true h,Nat.eq_of_beq_eq_true h1,Nat.eq_of_beq_eq_true h2]
   ·simp at h
  ·simp at h
 ·rintro rfl
  simp[Nat.beq_refl]
def ak(P:Program)(f:FuncId):Prop:=∀args w,(callFunc f args).run P w = .ok (.enter f args) w
def mM(w:World)(imm:Nat→Nat→Prop)(xs:List AV)(ys:Array Value):Prop :=
 ys.size=xs.length∧∀(i:Nat) (x:AV) (y:Value),xs[i]?=some x→ys[i]?=some y→PRel w imm x y
structure PureA (P:Program) (f:FuncId) (args:List AV) (res:AV):Prop where
 ok:ak P f
 run:∀(w:World) (imm:Nat→Nat→Prop) (cargs:Array Value),ImmOk w imm→mM w imm args cargs →
  Calls P f cargs w fun e w'=>∃y imm',e = .returned y∧(∀b i,imm' b i→b<w'.heap.size∧(b<w.heap.size→imm b i))∧PRel w' imm' res y∧Below w.heap.size w w'
structure PureF (P:Program) (f:FuncId) (args:List AV) (res:AV):Prop where
 ok:ak P f
 run:∀(w:World) (imm:Nat→Nat→Prop) (cargs:Array Value),ImmOk w imm→mM w imm args cargs →
  Calls P f cargs w fun e w'=>∃y imm',e = .returned y∧(∀b i,imm' b i→b<w'.heap.size∧¬b<w.heap.size)∧PRel w' imm' res y∧Below w.heap.size w w'
abbrev cr:=Key×Nat×Nat×List AV
def cD:List cr→Key→Nat×Option (Nat×List AV)
 | [],_=>(0,none)
 | (j,g,sz,es)::l,k=>if k=j then(g,some (sz,es))else cD l k
def fS(pre:List cr):St:=⟨fun _=> .junk,cD pre,fun _=>(0,0)⟩
def G7(C:Ctx)(xs:List AV)(ys:Array Value):Prop :=
 ys.size=xs.length∧∀(i:Nat) (x:AV) (y:Value),xs[i]?=some x→ys[i]?=some y→KRel C x y
inductive Tgt where
 | fn (f:FuncId)
 | yld (k:Key) (g:Nat)
def Tgt.ok(P:Program):Tgt→Prop
 | .fn f=>ak P f
 | .yld .. =>True
def Runs(P:Program)(t:Tgt)(C:Ctx)(cargs:Array Value)(w:World)(R:Ending→World→Prop):Prop :=
 match t with
 | .fn f=>Calls P f cargs w R
 | .yld k g=>C.gb k=g→∃f tmps assign body,(Instr.yield (C.jb k) cargs).run P w = .ok (.round (C.jb k) f tmps assign body) w∧RoundIn Fence.wide 0 P (C.jb k) f tmps assign body w R
theorem Runs.mono{P:Program}{t:Tgt}{C:Ctx}{cargs:Array Value}{w:World}{R R':Ending→World→Prop}(h:Runs P t C cargs w R)(hr:∀e w',R e w'→R' e w'):Runs P t C cargs w R':=by
 cases t with
 | fn f=>exact Calls.mono h hr
 | yld k g=>exact fun hg=>let ⟨f,tmps,assign,body,h1,h2⟩:=h hg;⟨f,tmps,assign,body,h1,h2.mono hr⟩
structure BoxA (P:Program) (t:Tgt) (pre:List cr) (args:List AV) (res:AV) (post:List cr):Prop where
 ok:t.ok P
 run:∀(C:Ctx) (w:World) (cargs:Array Value),Rel 0 (fun b=>b<w.heap.size∧C.own b=none) w (fS pre) C ⟨#[],[]⟩ w →
  (∀b o,C.own b=some o→∃k,o = .box k)→G7 C args cargs →
  Runs P t C cargs w fun e w'=>∃y S' C',e = .returned y∧C.le C'∧Rel 0 (fun b=>b<w.heap.size∧C.own b=none) w S' C' ⟨#[],[]⟩ w'∧KRel C' res y ∧
   ∀p∈post,S'.box p.1=(p.2.1,some (p.2.2.1,p.2.2.2))
inductive CK where
 | int (k:IntKind)
 | bool
 | str
def CK.typed:CK→Value→Bool
 | .int k,.int k' _=>match k,k' with
  | .i8,.i8 | .i16,.i16 | .i32,.i32 | .i64,.i64 | .u8,.u8 | .u16,.u16 | .u32,.u32 | .u64,.u64=>true
  | _,_=>false
 | .bool,.bool _=>true
 | .str,.string _=>true
 | _,_=>false
inductive KK where
 | one (c:CK)
 | agg (cs:List CK)
def aV:List CK→List Value→Bool
 | [],[]=>true
 | c::cs,v::vs=>match c.typed v with
  | true=>aV cs vs
  | false=>false
 | _,_=>false
def KK.typed:KK→Value→Bool
 | .one c,v=>c.typed v
 | .agg cs,.agg vs=>aV cs vs.toList
 | _,_=>false
def eqC:Value→Value→Bool
 | .int _ a,.int _ b=>decide (a=b)
 | .bool a,.bool b=>a==b
 | .string a,.string b=>decide (a=b)
 | _,_=>false
def eqL:List Value→List Value→Bool
 | [],[]=>true
 | a::as,b::bs=>eqC a b&&eqL as bs
 | _,_=>false
def eqV:Value→Value→Bool
 | .agg a,.agg b=>eqL a.toList b.toList
 | a,b=>eqC a b
def bb(kk:KK):List AV→Value→Nat→Option (Option (Nat×AV))
 | [],_,_=>some none
 | .tuple [a,b]::es,key,i=>match dR a with
  | some k'=>if kk.typed k'=true then(if eqV key k'=true then some (some (i,b))else bb kk es key (i+1))else none
  | none=>none
 | _::_,_,_=>none
structure MapTy (P:Program) (t:TypeId) (p:KK×AV):Prop where
 ty:∃kt et i z,P.underlying t=some (.map kt et)∧P.info? et=some i∧i.zero=some z∧p.2=ofValue z ∧
  (∀key ent,p.1.typed key=true→p.1.typed ent=true→∀w,(Op.equal kt key ent).run P w = .ok (eqV key ent) w) ∧
  (∀b key,p.1.typed key=true→∀w,(Instr.checkKey b 10000 kt key).run P w = .ok () w) ∧
  ∀d,P.underlying kt=some d→∀key ent b,p.1.typed key=true→p.1.typed ent=true→Instr.sameNow d key ent=some b→b=eqV key ent
inductive RM where
 | mty (k:KK×AV→RM)
 | keys (k:List Key→RM)
 | callx (f:Tgt) (args:List AV) (pre:List cr) (k:AV→List cr→RM)
 | done (ws:List Wr)
 | slot (i:Nat) (k:AV→RM)
 | box (key:Key) (k:Nat×Option (Nat×List AV)→RM)
 | tk (key:Key) (k:Nat×Nat→RM)
 | sem (s:Sem Value) (k:Value→RM)
 | call (f:FuncId) (args:List AV) (snap:Bool) (k:AV→RM)
 | need (p:Prop) (k:RM)
 | fail
def RM.wp(P:Program)(S:St):RM→(List Loc→List Wr→Prop)→Prop
 | .mty k,K=>∃p,(k p).wp P S K
 | .keys k,K=>∃ks,(k ks).wp P S K
 | .callx f args pre k,K=>∃r post,BoxA P f pre args r post∧(k r post).wp P S K
 | .done ws,K=>K [] ws
 | .slot i k,K=>(k (S.slot i)).wp P S fun l ws=>K (.slot i::l) ws
 | .box key k,K=>(k (S.box key)).wp P S fun l ws=>K (.box key::l) ws
 | .tk key k,K=>(k (S.tk key)).wp P S fun l ws=>K (.tk key::l) ws
 | .sem s k,K=>∃r,(∀w,s.run P w = .ok r w)∧(k r).wp P S K
 | .call f args snap k,K=>∃r,(if snap then PureF P f args r else PureA P f args r)∧(k r).wp P S K
 | .need p k,K=>p∧k.wp P S K
 | .fail,_=>False
theorem RM.wp_mono{P:Program}{S:St}(m:RM):∀{K K':List Loc→List Wr→Prop},(∀l ws,K l ws→K' l ws)→m.wp P S K→m.wp P S K':=by
 induction m with
 | mty k ih=>exact fun h ⟨ks,hk⟩=>⟨ks,ih _ h hk⟩
 | keys k ih=>exact fun h ⟨ks,hk⟩=>⟨ks,ih _ h hk⟩
 | callx f args pre k ih=>exact fun h ⟨r,post,hr,hk⟩=>⟨r,post,hr,ih _ _ h hk⟩
 | done ws=>exact fun h hk=>h _ _ hk
 | slot i k ih=>exact fun h hk=>ih _ (fun l ws=>h _ ws) hk
 | box key k ih=>exact fun h hk=>ih _ (fun l ws=>h _ ws) hk
 | tk key k ih=>exact fun h hk=>ih _ (fun l ws=>h _ ws) hk
 | sem s k ih=>exact fun h ⟨r,hr,hk⟩=>⟨r,hr,ih _ h hk⟩
 | call f args snap k ih=>exact fun h ⟨r,hr,hk⟩=>⟨r,hr,ih _ h hk⟩
 | need p k ih=>exact fun h ⟨hp,hk⟩=>⟨hp,ih h hk⟩
 | fail=>exact fun _ h=>h
structure Cx where
 l:Nat
 f:Nat
 mat:List Nat:=[]
 ow:List Nat:=[]
 rd:Bool:=false
 fz:List (Nat×Nat):=[]
 ty:List Nat:=[]
def Cx.key(cx:Cx)(d:Nat):Key:=⟨cx.l,cx.f,d⟩
def Cx.keyT(cx:Cx)(d:Nat)(T:TypeId):Key:=⟨1000+2 * T,cx.f,d⟩
def Cx.keyR(cx:Cx)(d:Nat)(T:TypeId):Key:=⟨1001+2 * T,cx.f,d⟩
def Jk(k:Key)(T:TypeId):Bool:=match Nat.ble k.l 999 with
 | true=>true
 | false=>Nat.beq k.l (1001+2 * T)
theorem rN{k:Key}{T:TypeId}(h:Jk k T=true):k.l≤999∨k.l=1001+2 * T:=by
 unfold Jk at h
 split at h
 ·rename_i h1;exact .inl (Nat.le_of_ble_eq_true h1)
 ·exact .inr (Nat.eq_of_beq_eq_true h)
def LA(id:Nat):List (Nat×Nat)→Option Nat
 | []=>none
 | p::l=>match Nat.beq p.1 id with
  | true=>some p.2
  | false=>LA id l
def y8(f:Nat):List Nat→Bool
 | []=>false
 | g::l=>match Nat.beq f g with
  | true=>true
  | false=>y8 f l
theorem fD{f:Nat}:∀{l:List Nat},y8 f l=l.contains f
 | []=>rfl
 | g::l=>by
  simp only[y8,List.contains_cons]
  cases hb:Nat.beq f g with
  | true=>simp[Nat.eq_of_beq_eq_true hb]
  | false =>
   have:f≠g:=fun e=>by rw[e,Nat.beq_refl]at hb;simp at hb
   simp only[fD]
   simp[this]
def Cx.loopKey(cx:Cx)(ps:Array Tmp):Key :=
 match ps.toList with
 | []=>cx.key 9999
 | p::_=>cx.key (10000+p)
def putA(dst:Option Tmp)(v:AV):List Wr :=
 match dst with
 | some d=>[.slot d v]
 | none=>[]
abbrev jd:=Nat×Option (Nat×List AV)
inductive RB where
 | find (o:Option (Option (Nat×AV))) (k:Nat→AV→RB) (k':RB)
 | keys (k:List Key→RB)
 | callx (f:Tgt) (args:List AV) (pre:List cr) (k:AV→List cr→RB)
 | absent (key:Key) (k:RB)
 | optL (o:Option (List AV)) (k:List AV→RB)
 | done (ws:List Wr)
 | slot (i:Nat) (k:AV→RB)
 | box (key:Key) (k:Nat→Nat→List AV→RB)
 | gen (key:Key) (k:Nat→RB)
 | tk (key:Key) (k:Nat→Nat→RB)
 | sem (s:Sem Value) (k:Value→RB)
 | call (f:FuncId) (args:List AV) (snap:Bool) (k:AV→RB)
 | need (p:Prop) (d:Decidable p) (k:RB)
 | ok (b:Bool) (k:RB)
 | opt (o:Option AV) (k:AV→RB)
 | lst (l:List AV) (k:List AV→RB)
 | br (b:Bool) (x y:RB)
 | fail
def RB.rm:RB→RM
 | .find o k k'=>match o with
  | some (some p)=>(k p.1 p.2).rm
  | some none=>k'.rm
  | none=> .fail
 | .keys k=> .keys fun ks=>(k ks).rm
 | .callx f args pre k=> .callx f args pre fun r post=>(k r post).rm
 | .absent key k=> .box key fun c=> .need (c=(0,none)) k.rm
 | .optL o k=>match o with
  | some e=>(k e).rm
  | none=> .fail
 | .done ws=> .done ws
 | .slot i k=> .slot i fun v=>(k v).rm
 | .box key k=> .box key fun c=>match c.2 with
  | some d=>(k c.1 d.1 d.2).rm
  | none=> .fail
 | .gen key k=> .box key fun c=>(k c.1).rm
 | .tk key k=> .tk key fun c=>(k c.1 c.2).rm
 | .sem s k=> .sem s fun v=>(k v).rm
 | .call f args snap k=> .call f args snap fun r=>(k r).rm
 | .need p _ k=> .need p k.rm
 | .ok b k=> .need (b=true) k.rm
 | .opt o k=>match o with
  | some e=>(k e).rm
  | none=> .fail
 | .lst l k=>(k l).rm
 | .br b x y=>match b with
  | true=>x.rm
  | false=>y.rm
 | .fail=> .fail
def bf(x:Operand)(k:AV→RB):RB :=
 match x with
 | .tmp t=> .slot t k
 | .const v=>k (ofValue v)
 | .global g=>k (Bw g)
 | .func f=>k (.func (.func f) [] [])
def fq:List Operand→(List AV→RB)→RB
 | [],k=>k []
 | x::xs,k=>bf x fun a=>fq xs fun l=>k (a::l)
def dJ(dst:Option Tmp)(v:AV):RB:= .done (putA dst v)
def inI(a:Int):Prop:= -9223372036854775808≤a∧a≤9223372036854775807
instance (a:Int):Decidable (inI a):=inferInstanceAs (Decidable (_∧_))
def cP(p:Prop)[d:Decidable p](k:RB):RB:= .need p d k
def At(x:AV)(k:Value→RB):RB :=
 match x with
 | .v y=>k y
 | .agg cs=>match eB cs with
  | some l=>k (.agg l.toArray)
  | none=> .fail
 | _=> .fail
end Go.Am
namespace Go.Am
open Go.RowKit
def jc(es:List AV)(sz n:Nat):Bool :=
 match Nat.beq sz n with
 | true=>true
 | false=>match es with
  | []=>true
  | _=>false
def ve(b:AV)(k:AV→RB):RB :=
 match b with
 | .v (.slice (some ⟨_,_,none⟩) 0 c)=>cP (c≤maxLen) (k (.slice 0 [] .no))
 | b=>k b
def ko(cx:Cx)(d:Tmp)(n by_ n':Nat)(x y:Operand):RB :=
 .ok (Nat.beq n' n) (.ok (Nat.ble 1 n) (bf x fun a=>bf y fun b=>match b with
  | .slice sz' es' _=> .ok (jc es' sz' n) (match a with
   | .slice _ es tok=>match es,tok with
    | [],.tight=>cP (es'.length * by_≤140737488355328∧es'.length≤maxLen)
     (.ok (Nat.ble (cx.key d).l 999) <| .gen (cx.key d) fun g=> .done [.box (cx.key d) (g+1,some (n,es')),.slot d (.own (cx.key d) (g+1) n es'.length 0)])
    | _,_=> .fail
   | .own k g sz m _=> .box k fun g' sz0 es=> .ok (Nat.beq g' g) (.ok (Nat.beq sz0 n) (.ok (Nat.beq sz n) (cP (m≤es.length∧(m+es'.length) * by_≤140737488355328∧m+es'.length≤maxLen)
     (.ok (Nat.ble k.l 999) <| .done [.box k (g'+1,some (n,es.take m++es')),.slot d (.own k (g'+1) n (m+es'.length) 0)]))))
   | _=> .fail)
  | _=> .fail))
def cm(s:ByteArray):List AV:=s.data.toList.map fun b=> .v (.int .u8 b.toNat)
theorem lc(s:ByteArray):(cm s).length=s.size:=by unfold cm;rw[List.length_map,Array.length_toList];rfl
def Cx.keyS(cx:Cx)(d:Nat)(T:TypeId):Key:=match y8 d cx.ty with
 | true=>cx.keyR d T
 | false=>cx.key d
def Lo:AV→AV
 | .v (.slice none 0 0)=> .slice 0 [] .tight
 | a=>a
def kj(cx:Cx)(d:Tmp)(e:TypeId)(n by_ n':Nat)(x y:Operand):RB :=
 .ok (Nat.beq n' n) (.ok (Nat.beq 1 n) (bf x fun a=>bf y fun b=>match b with
  | .v (.string s)=>(match Lo a with
   | .slice _ es tok=>match es,tok with
    | [],.tight=>cP (s.size * by_≤140737488355328∧s.size≤maxLen∧(0<s.size∨(cx.keyS d e).l≤999))
     (.ok (Jk (cx.keyS d e) e) <| .gen (cx.keyS d e) fun g=> .done [.box (cx.keyS d e) (g+1,some (n,cm s)),.slot d (.own (cx.keyS d e) (g+1) n s.size 0)])
    | _,_=> .fail
   | .own k g sz m _=> .box k fun g' sz0 es=> .ok (Nat.beq g' g) (.ok (Nat.beq sz0 n) (.ok (Nat.beq sz n) (cP (m≤es.length∧(m+s.size) * by_≤140737488355328∧m+s.size≤maxLen)
     (.ok (Jk k e) <| .done [.box k (g'+1,some (n,es.take m++cm s)),.slot d (.own k (g'+1) n (m+s.size) 0)]))))
   | _=> .fail)
  | _=> .fail))
def ki(cx:Cx)(d:Tmp)(n by_ n':Nat)(z:AV)(x y:Operand):RB :=
 .ok (Nat.beq n' n) (.ok (Nat.ble 1 n) (.ok z.storable (.ok (Nat.beq z.cells.length n) (bf x fun a=>bf y fun b=>match a,b with
  | .slice _ [] .tight,.v (.int _ l)=>cP (0<l∧l.toNat * by_≤140737488355328∧l.toNat≤maxLen)
   (.ok (Nat.ble (cx.key d).l 999) <| .gen (cx.key d) fun g=> .done [.box (cx.key d) (g+1,some (n,List.replicate l.toNat z)),.slot d (.own (cx.key d) (g+1) n l.toNat 0)])
  | _,_=> .fail))))
def fm(cx:Cx)(d:Tmp)(n by_ n':Nat)(z:AV)(x y:Operand):RB :=
 .ok (Nat.beq n' n) (.ok (Nat.ble 1 n) (.ok z.storable (.ok (Nat.beq z.cells.length n) (bf x fun a=>bf y fun b=>match a,b with
  | .v (.int _ l),.v (.int _ c)=>cP (0≤l∧l≤c∧c.toNat * by_≤140737488355328∧c.toNat≤maxLen)
   (.ok (Nat.ble (cx.key d).l 999) <| .gen (cx.key d) fun g=> .done [.box (cx.key d) (g+1,some (n,List.replicate c.toNat z)),.slot d (.own (cx.key d) (g+1) n l.toNat 0)])
  | _,_=> .fail))))
def m6(dst:Option Tmp)(n:Nat)(k:Key)(g sz m:Nat)(es':List AV):RB :=
 .box k fun g' sz0 es=> .ok (Nat.beq g' g) (.ok (Nat.beq sz0 n) (.ok (Nat.beq sz n) (cP (m≤es.length)
  (.done (.box k (g',some (n,es'.take (min es'.length m)++es.drop (min es'.length m)))::putA dst (.v (.int .i64 (min es'.length m:Nat))))))))
def rt(dst:Option Tmp)(n:Nat)(x y:Operand):RB :=
 .ok (Nat.ble 1 n) (bf x fun a=>bf y fun b=>match a,b with
  | .own k g sz m _,.slice sz' es' _=> .ok (jc es' sz' n) (m6 dst n k g sz m es')
  | .own k g sz m _,.own k2 g2 sz2 m2 _=> .box k2 fun g2' sz0 es2=> .ok (Nat.beq g2' g2) (.ok (Nat.beq sz0 n) (.ok (Nat.beq sz2 n) (cP (m2≤es2.length)
   (m6 dst n k g sz m (es2.take m2)))))
  | _,_=> .fail)
end Go.Am
namespace Go.Am
open Go.RowKit
def B1(a:AV)(k:Key→Nat→Int→List AV→RB):RB :=
 match a with
 | .mp key g=> .box key fun g' sz es=> .ok (Nat.beq g' g) (.ok (Nat.beq sz 0) (match es with
  | .v (.int .i64 c)::es=>k key g' c es
  | _=> .fail))
 | _=> .fail
def vM(g:Nat)(c:Int)(es:List AV):jd:=(g,some (0,.v (.int .i64 c)::es))
def BY(ok:Bool)(v:AV)(is:Bool):AV :=
 match ok with
 | true=> .tuple [v,.v (.bool is)]
 | false=>v
def oQ:List AV→Nat→AV→Option (List AV)
 | [],_,_=>none
 | e::es,0,v=>match e with
  | .tuple [a,_]=>some (.tuple [a,v]::es)
  | _=>none
 | e::es,i+1,v=>match oQ es i v with
  | some l=>some (e::l)
  | none=>none
def lM(cx:Cx)(d:Tmp):RB :=
 .gen (cx.key d) fun g=> .done [.box (cx.key d) (vM (g+1) 0 []),.slot d (.mp (cx.key d) (g+1))]
def g5(p:KK×AV)(dst:Option Tmp)(ok:Bool)(x ix:Operand):RB :=
 bf x fun a=>bf ix fun b=>At b fun key=> .ok (p.1.typed key) (match a with
  | .v (.map none)=>dJ dst (BY ok p.2 false)
  | a=>B1 a fun _ _ _ es=> .find (bb p.1 es key 0) (fun _ v=>dJ dst (BY ok v true)) (dJ dst (BY ok p.2 false)))
def kD(p:KK×AV)(x ix y:Operand):RB :=
 bf x fun a=>bf ix fun b=>bf y fun v=>At b fun key=> .ok (p.1.typed key) (.opt (toPure b) fun b'=> .opt (toPure v) fun v'=>B1 a fun k g c es =>
  .find (bb p.1 es key 0) (fun i _=> .optL (oQ es i v') fun es'=> .done [.box k (vM g c es')]) (.done [.box k (vM g c (es++[.tuple [b',v']]))]))
def kv(p:KK×AV)(dst:Option Tmp)(x ix:Operand):RB :=
 bf x fun a=>bf ix fun b=>At b fun key=> .ok (p.1.typed key) (.opt (toPure b) fun b'=>B1 a fun k g c es =>
  .find (bb p.1 es key 0) (fun i v=> .done (.box k (vM g c es)::putA dst (.tuple [v,.v (.int .i64 (c+i))])))
   (.done (.box k (vM g c (es++[.tuple [b',p.2]]))::putA dst (.tuple [p.2,.v (.int .i64 (c+es.length))]))))
def eF(x st y:Operand):RB :=
 bf x fun a=>bf st fun s=>bf y fun v=> .opt (toPure v) fun v'=>match s with
  | .v (.int _ n)=>B1 a fun k g c es=>cP (c≤n) (.optL (oQ es (n-c).toNat v') fun es'=> .done [.box k (vM g c es')])
  | _=> .fail
def tB(dst:Option Tmp)(a:AV):RB:=B1 a fun _ _ _ es=>dJ dst (.v (.int .i64 es.length))
def xX(dst:Option Tmp)(x:Operand):RB :=
 bf x fun a=>match a with
  | .slice _ es .tight=>dJ dst (.v (.int .i64 es.length))
  | _=> .fail
def ni(dst:Option Tmp)(x:Operand):RB :=
 bf x fun a=>B1 a fun k g c es=> .done (.box k (vM g (c+es.length) [])::putA dst (.v (.tuple #[])))
def zB(mx:Bool)(a b:Int):Int :=
 match mx with
 | true=>max a b
 | false=>min a b
def Ln(mx:Bool):List AV→Int→(Int→RB)→RB
 | [],a,r=>r a
 | x::l,a,r=>match x with
  | .v (.int _ b)=>Ln mx l (zB mx a b) r
  | _=> .fail
def p5(mx:Bool)(dst:Option Tmp)(xs:List Operand):RB :=
 fq xs fun l=>match l with
  | .v (.int k a)::l=>Ln mx l a fun r=>dJ dst (.v (.int k r))
  | _=> .fail
def iZ(s:ByteArray)(i:Nat):Int:=(s.data.getD i 0).toNat
def nj(dst:Option Tmp)(x ix:Operand):RB :=
 bf x fun a=>bf ix fun b=>match a,b with
  | .v (.string s),.v (.int _ n)=>cP (0≤n∧n<s.size) (dJ dst (.v (.int .u8 (iZ s n.toNat))))
  | _,_=> .fail
def nk(cx:Cx)(d:Tmp)(x:Operand):RB :=
 bf x fun a=>match a with
  | .v (.string s)=> .gen (cx.key d) fun g=> .done [.box (cx.key d) (g+1,some (0,[.v (.string s),.v (.int .i64 0)])),.slot d (.ptr (cx.key d) (g+1) 0 0 0)]
  | _=> .fail
def rA(dst:Option Tmp)(x:Operand):RB :=
 bf x fun a=>match a with
  | .ptr k g 0 _ 0=> .box k fun g' sz es=> .ok (Nat.beq g' g) (.ok (Nat.beq sz 0) (match es with
   | [.v (.string s),.v (.int .i64 p)]=> .br (decide (p<s.size))
    (.done (.box k (g',some (0,[.v (.string s),.v (.int .i64 (p+(Utf8.decode s p.toNat).2))]))::putA dst (.tuple [.v (.bool true),.v (.int .i64 p),.v (.int .i32 (Utf8.decode s p.toNat).1)])))
    (dJ dst (.tuple [.v (.bool false)]))
   | _=> .fail))
  | _=> .fail
end Go.Am
namespace Go.Am
open Go.RowKit
def bG(P:Program)(t:TypeId):Option (Bool×Nat) :=
 match P.underlying t,P.info? t with
 | some d,some i=>some ((match d with | .struct _ | .array _ _=>true|_=>false),i.size)
 | _,_=>none
def aU(P:Program)(t:TypeId):Option (TypeId×Nat×Nat) :=
 match P.underlying t with
 | some (.slice e)=>(P.info? e).map fun i=>(e,i.size,i.bytes)
 | _=>none
def ey(P:Program)(t:TypeId):Option (Nat×Nat) :=
 match P.underlying t with
 | some (.array n e)=>(P.info? e).map fun i=>(n,i.size)
 | _=>none
def bm(P:Program)(t:TypeId):Option (Nat×AV) :=
 match P.info? t with
 | some i=>match i.zero with
  | some z=>if(ofValue z).storable&&((ofValue z).cells.length==z.cells.size)then some (z.cells.size,ofValue z)else none
  | none=>none
 | none=>none
def b8(P:Program)(t:TypeId)(f:Nat):Option Nat :=
 match P.underlying t with
 | some (.struct fs)=>match fs[f]? with
  | some fd=>match P.info? fd.type with
   | some i=>if i.size=0 then none else some fd.offset
   | none=>none
  | none=>none
 | _=>none
def bS(P:Program)(t:TypeId):Option (Nat→Option (Nat×Nat)) :=
 match P.underlying t with
 | some (.array _ e)=>(P.info? e).map fun ie=>fun i=>some (i * ie.size,ie.size)
 | some (.struct fields)=>(fields.toList.mapM (fun f=>(P.info? f.type).map fun i=>(f.offset,i.size))).map fun places=>fun i=>places.toArray[i]?
 | _=>none
def val(x:Operand)(k:AV→RM):RM :=
 match x with
 | .tmp t=> .slot t k
 | .const v=>k (ofValue v)
 | .global g=>k (Bw g)
 | .func f=>k (.func (.func f) [] [])
def uE:List Operand→(List AV→RM)→RM
 | [],k=>k []
 | x::xs,k=>val x fun a=>uE xs fun l=>k (a::l)
def fo(dst:Option Tmp)(v:AV):RM:= .done (putA dst v)
def asV(x:AV)(k:Value→RM):RM :=
 match dR x with
 | some y=>k y
 | none=> .fail
def J5(x:AV)(k:AV→RM):RM :=
 match toPure x with
 | some y=>k y
 | none=> .fail
def oG(agg:Bool)(cs:List AV)(off n:Nat)(k:AV→RM):RM :=
 if agg then .need (off+n≤cs.length) (k (.agg ((cs.drop off).take n)))
 else match cs[off]? with
  | some x=>k x
  | none=> .fail
def Fz(e:AV)(off:Nat)(v:AV):AV :=
 if off=0∧v.cells.length=e.cells.length then v else .agg (e.cells.take off++v.cells++e.cells.drop (off+v.cells.length))
def g3(P:Program)(t:TypeId)(x:Operand)(k:AV→RM):RM :=
 match bG P t with
 | some (agg,n)=>val x fun
  | .ptr key g sz i off=> .box key fun c =>
   match c.2 with
   | some (sz',es)=> .need (c.1=g∧sz'=sz∧sz≠0) (match es[i]? with
    | some e=>oG agg e.cells off n k
    | none=> .fail)
   | none=> .fail
  | .cptr cs=>oG agg cs 0 n k
  | _=> .fail
 | none=> .fail
def Co(P:Program)(dst:Option Tmp)(t:TypeId)(x:Operand):RM:=g3 P t x (fo dst)
def lO(P:Program)(t:TypeId)(x y:Operand):RM :=
 match bG P t with
 | some (_,n)=>val x fun
  | .ptr k g sz i off=>val y fun v=> .box k fun c =>
   match c.2 with
   | some (sz',es)=> .need (c.1=g∧sz'=sz∧sz≠0∧v.storable=true∧v.cells.length=n∧off+n≤sz∧(v.ok1=true∨∃cs,v = .agg cs)) (match es[i]? with
    | some e=> .done [.box k (c.1,some (sz',es.set i (Fz e off v)))]
    | none=> .fail)
   | none=> .fail
  | _=> .fail
 | none=> .fail
def tt(key:Key)(d:Tmp)(v:AV):RM :=
 .need (v.storable=true∧v.cells.length≠0) (.box key fun c=> .done [.box key (c.1+1,some (v.cells.length,[v])),.slot d (.ptr key (c.1+1) v.cells.length 0 0)])
def tr(cx:Cx)(dst:Option Tmp)(v:AV):RM :=
 match dst with
 | some d=> .need ((cx.key d).l≤999) (tt (cx.key d) d v)
 | none=> .fail
def exC:AV→AV
 | .slice _ [] .tight=> .v (.slice none 0 0)
 | x=>x
def xG:AV→AV
 | .agg cs=> .agg (cs.map exC)
 | x=>x
theorem yL(x:Value):exC (i5 x) = .v x:=by
 unfold i5
 split<;>rfl
theorem yM(w:World)(imm:Nat→Nat→Prop)(x:Value):PRel w imm (xG (ofValue x)) x:=by
 unfold ofValue
 split
 ·rename_i cs
  split
  ·rename_i h
   have e:xG (.agg (cs.toList.map i5)) = .agg (cs.toList.map .v):=by
    show AV.agg ((cs.toList.map i5).map exC)=_
    rw[List.map_map]
    congr 1
    exact List.map_congr_left fun x _=>yL x
   rw[e]
   refine .agg (by simp) (fun i x y hx hy=>?_) (fun y hy=>?_)
   ·rw[List.getElem?_map,Option.map_eq_some_iff]at hx
    obtain⟨z,hz,rfl⟩:=hx
    rw[Array.getElem?_toList,hy]at hz
    cases hz
    exact .v _
   ·rw[List.all_eq_true]at h
    exact h y (by simpa using hy)
  ·exact .v _
 ·unfold i5
  split
  ·exact .nil _ _ (.inr rfl)
  ·exact .v _
def lG(P:Program)(cx:Cx)(dst:Option Tmp)(t:TypeId):RM :=
 match bm P t with
 | some (_,z)=>match dst with
  | some d=>if cx.ty.contains d then tt (cx.keyT d t) d (xG z)else tr cx (some d) z
  | none=> .fail
 | none=> .fail
def zh(dst:Option Tmp)(x:Operand):RM :=
 val x fun
  | .ptr k g sz i off=> .box k fun c=> .need (c.1=g) (fo dst (.ptr k g sz i off))
  | .cptr cs=>fo dst (.cptr cs)
  | .func (.func f) fs cs=>fo dst (.func (.func f) fs cs)
  | _=> .fail
def dP(op:BinOp)(t:TypeId)(x y:Operand)(u v:Value):Sem Value:=do eqGuard op t x y u v;binOp op t u v
def IQ:Operand→Bool
 | .const (.slice none _ _)=>true
 | _=>false
def nilA:AV→Option Bool
 | .slice _ (_::_) _=>some false
 | .v (.slice none _ _)=>some true
 | .v (.slice (some _) _ _)=>some false
 | _=>none
def tj(op:BinOp)(r:Bool)(k:Bool→RM):RM :=
 match op with
 | .eql=>k r
 | .neq=>k (!r)
 | _=> .fail
def zd(P:Program)(dst:Option Tmp)(op:BinOp)(t:TypeId)(x y:Operand):RM :=
 val x fun a=>val y fun b=>match IQ y with
  | true=>match nilA a,aU P t with
   | some r,some _=>tj op r fun r=>fo dst (.v (.bool r))
   | _,_=> .fail
  | false=>asV a fun u=>asV b fun v=> .sem (dP op t x y u v) fun r=>fo dst (ofValue r)
def sr(b:AV)(k:AV→RM):RM :=
 match b with
 | .v (.slice (some ⟨_,_,none⟩) 0 c)=> .need (c≤maxLen) (k (.slice 0 [] .no))
 | b=>k b
def J0(dst:Option Tmp)(op:UnOp)(x:Operand):RM :=
 val x fun a=>asV a fun u=> .sem (Op.unary op u) fun r=>fo dst (ofValue r)
def ld:List AV→Option (List UInt8)
 | []=>some []
 | .v (.int .u8 n)::l=>match ld l with
  | some r=>some (UInt8.ofNat n.toNat::r)
  | none=>none
 | _::_=>none
def nr(P:Program)(s t:TypeId):AV→Option (List UInt8)
 | .slice _ es _=>match P.underlying s,P.underlying t with
  | some (.slice e),some .string=>match P.underlying e with
   | some (.int .u8)=>ld es
   | _=>none
  | _,_=>none
 | _=>none
def pZ(P:Program)(dst:Option Tmp)(s t:TypeId)(x:Operand):RM :=
 val x fun a=>match nr P s t a with
  | some l=>fo dst (.v (.string ⟨l.toArray⟩))
  | none=>asV a fun u=> .sem (convert s t u) fun r=>fo dst (ofValue r)
def lK(P:Program)(dst:Option Tmp)(t:TypeId)(x:Operand)(f:Nat):RM :=
 match b8 P t f with
 | some o=>val x fun
  | .ptr k g sz i off=> .box k fun c=> .need (c.1=g) (fo dst (.ptr k g sz i (off+o)))
  | .cptr cs=>fo dst (.cptr (cs.drop o))
  | _=> .fail
 | none=> .fail
def d5(P:Program)(dst:Option Tmp)(t:TypeId)(x ix:Operand):RM :=
 val x fun a=>val ix fun j=>asV j fun
  | .int _ n=> .need (0≤n) (match a with
   | .slice sz es _=>match aU P t with
    | some (_,n',_)=> .need (n'=sz) (match es[n.toNat]? with
     | some e=>fo dst (.cptr e.cells)
     | none=> .fail)
    | none=> .fail
   | .own k g sz m cap=>match aU P t with
    | some (_,n',_)=> .need (n'=sz∧n<m) (.box k fun c=> .need (c.1=g) (fo dst (.ptr k g sz n.toNat 0)))
    | none=> .fail
   | .ptr k g sz i off=>match ey P t with
    | some (len,n')=> .need (n<len) (.box k fun c=> .need (c.1=g) (fo dst (.ptr k g sz i (off+n.toNat * n'))))
    | none=> .fail
   | .cptr cs=>match ey P t with
    | some (len,n')=> .need (n<len) (fo dst (.cptr (cs.drop (n.toNat * n'))))
    | none=> .fail
   | _=> .fail)
  | _=> .fail
def dH(P:Program)(t:TypeId)(f:Nat):Option (Bool×Nat×Nat) :=
 match P.underlying t with
 | some (.struct fs)=>match fs[f]? with
  | some fd=>(bG P fd.type).map fun q=>(q.1,fd.offset,q.2)
  | none=>none
 | _=>none
def tI(P:Program)(t:TypeId):Option (Bool×Nat×Nat) :=
 match P.underlying t with
 | some (.array len e)=>(bG P e).map fun q=>(q.1,len,q.2)
 | _=>none
def kw(P:Program)(dst:Option Tmp)(t:TypeId)(x:Operand)(f:Nat):RM :=
 val x fun
  | .agg cs=>match dH P t f with
   | some q=>oG q.1 cs q.2.1 q.2.2 (fo dst)
   | none=> .fail
  | _=> .fail
def kx(P:Program)(dst:Option Tmp)(t:TypeId)(x ix:Operand):RM :=
 val x fun a=>val ix fun j=>match a,j with
  | .agg cs,.v (.int _ n)=>match tI P t with
   | some q=> .need (0≤n∧n<q.2.1) (oG q.1 cs (n.toNat * q.2.2) q.2.2 (fo dst))
   | none=> .fail
  | _,_=> .fail
def fR(dst:Option Tmp)(x:Operand)(i:Nat):RM :=
 val x fun
  | .tuple vs=>match vs[i]? with
   | some v=>fo dst v
   | none=> .fail
  | _=> .fail
def jl(place:Nat→Option (Nat×Nat))(cs:List AV):List (Nat×AV)→Option (List AV)
 | []=>some cs
 | (i,v)::rest=>match place i with
  | some (off,n)=>if v.cells.length=n∧off+n≤cs.length∧v.storable=true then jl place (cs.take off++v.cells++cs.drop (off+n)) rest else none
  | none=>none
def lH(P:Program)(dst:Option Tmp)(t:TypeId)(parts:List (Nat×Operand)):RM :=
 match bm P t,bS P t with
 | some (_,z),some place=>uE (parts.map (·.2)) fun l =>
  match jl place z.cells ((parts.map (·.1)).zip l)with
  | some cs=>fo dst (.agg cs)
  | none=> .fail
 | _,_=> .fail
def uj(n:Nat):List AV→Bool
 | []=>true
 | x::xs=>x.cells.length==n&&x.storable&&uj n xs
def de:List AV→Option (List AV)
 | []=>some []
 | x::xs=>match toPure x,de xs with
  | some y,some ys=>some (y::ys)
  | _,_=>none
def dt(P:Program)(dst:Option Tmp)(t:TypeId)(len:Nat)(parts:List (Nat×Operand)):RM :=
 match aU P t with
 | some (e,n,_)=> .need (parts.map (·.1)=List.range len∧len * n≤2^24∧0<n∧(bm P e).map (·.1)=some n) (uE (parts.map (·.2)) fun l =>
  match de l with
  | some es=> .need (uj n es=true) (fo dst (.slice n es .tight))
  | none=> .fail)
 | none=> .fail
def eM(dst:Option Tmp)(fn:Fn)(first captured:List Operand):RM :=
 uE first fun a=>uE captured fun b=>fo dst (.func fn a b)
def zf(P:Program)(dst:Option Tmp)(t:TypeId)(x:Operand):RM :=
 val x fun
  | .slice _ es _=>match aU P t with
   | some _=>fo dst (.v (.int .i64 es.length))
   | none=> .fail
  | .own k g _ n _=>match aU P t with
   | some _=> .box k fun c=> .need (c.1=g) (fo dst (.v (.int .i64 n)))
   | none=> .fail
  | .v (.string s)=> .sem (Builtin.len_ #[t] 0 #[.string s]) fun r=>fo dst (ofValue r)
  | .mp k g=>match P.underlying t with
   | some (.map _ _)=>(tB dst (.mp k g)).rm
   | _=> .fail
  | _=> .fail
def iG(P:Program)(cx:Cx)(dst:Option Tmp)(t:TypeId)(x y:Operand):RM :=
 match aU P t,dst with
 | some (e,n,by_),some d=>val x fun a=>val y fun b=>sr b fun b =>
  match a,b with
  | .slice sz es tok,.slice sz' es' _ =>
   .need ((es.length+es'.length) * by_≤140737488355328∧es.length+es'.length≤maxLen∧0<n∧(es≠[]→sz=n)∧(es'≠[]→sz'=n)∧(bm P e).map (·.1)=some n)
    (match tok with
    | .tight=> .tk (cx.key d) fun c=> .done [.tk (cx.key d) (c.1+1,es.length+es'.length),.slot d (.slice n (es++es') (.own (cx.key d) (c.1+1)))]
    | .own k g=> .tk k fun c=> .need (c.1=g∧c.2=es.length∧sz=n) (.done [.tk k (c.1,es.length+es'.length),.slot d (.slice n (es++es') (.own k g))])
    | .no=> .fail)
  | _,_=> .fail
 | _,_=> .fail
def wN:AV→Option AV
 | .agg cs=>(eH cs).map .agg
 | x=>pure1 x
def eA:List AV→Option (List AV)
 | []=>some []
 | x::xs=>match wN x,eA xs with
  | some y,some ys=>some (y::ys)
  | _,_=>none
def Lp(x:AV):AV:=match pure1 x with
 | some y=>y
 | none=> .junk
def zL:List AV→Option (List AV)
 | []=>some []
 | x::xs=>match zL xs with
  | some ys=>some (Lp x::ys)
  | none=>none
theorem tT:∀{cs l:List AV},zL cs=some l→∀(i:Nat) (y:AV),l[i]?=some y→∃x,cs[i]?=some x∧Lp x=y
 | [],l,h,i,y,hy=>by simp[zL]at h;subst h;simp at hy
 | a::xs,l,h,i,y,hy=>by
  simp only[zL]at h
  split at h
  ·rename_i zs h2
   simp at h;subst h
   cases i with
   | zero=>simp at hy;exact⟨a,rfl,hy⟩
   | succ i=>simpa using tT h2 i y (by simpa using hy)
  ·simp at h
def oV(x:AV)(k:AV→RM):RM :=
 match x with
 | .ptr key g sz i off=> .box key fun c =>
  match c.2 with
  | some (sz',es)=> .need (c.1=g∧sz'=sz∧sz≠0) (match es[i]? with
   | some e=>match zL e.cells with
    | some cs=>k (.cptr (cs.drop off))
    | none=> .fail
   | none=> .fail)
  | none=> .fail
 | .own key g sz n _=> .box key fun c =>
  match c.2 with
  | some (sz',es)=> .need (c.1=g∧sz'=sz∧sz≠0∧n≤es.length) (match eA (es.take n)with
   | some l=>k (.slice sz l .no)
   | none=> .fail)
  | none=> .fail
 | .sl key g sz i off n=> .box key fun c =>
  match c.2 with
  | some (sz',es)=> .need (c.1=g∧sz'=sz∧sz≠0∧off+n≤sz) (match es[i]? with
   | some e=>match eH e.cells with
    | some cs=>k (.slice 1 ((cs.drop off).take n) .no)
    | none=> .fail
   | none=> .fail)
  | none=> .fail
 | x=>match toPure x with
  | some y=>k y
  | none=> .fail
def mJ:List AV→(List AV→RM)→RM
 | [],k=>k []
 | x::xs,k=>oV x fun y=>mJ xs fun l=>k (y::l)
def snap(x:AV)(k:AV→RM):RM :=
 match x with
 | .func fn fs cs=>mJ fs fun a=>mJ cs fun b=>k (.func fn a b)
 | x=>oV x k
def zT:List AV→(List AV→RM)→RM
 | [],k=>k []
 | x::xs,k=>snap x fun y=>zT xs fun l=>k (y::l)
def dC(i:Key):List Key→Bool
 | []=>false
 | j::l=>match Key.beq i j with
  | true=>true
  | false=>dC i l
theorem b9{i:Key}:∀{l:List Key},dC i l=true↔i∈l
 | []=>by simp[dC]
 | j::l=>by
  simp only[dC]
  cases hb:i.beq j with
  | true=>simp[Key.beq_eq.1 hb]
  | false =>
   have:i≠j:=fun e=>by rw[Key.beq_eq.2 e]at hb;simp at hb
   simp[b9,this]
def D6(ks:List Key)(k:Key)(v:AV):Option AV :=
 match dC k ks with
 | true=>some v
 | false=>none
def Ls(tok:Tok)(es:List AV):Tok:=match tok with
 | .tight=>match es with
  | []=> .tight
  | _::_=> .no
 | _=> .no
def tk0(ks:List Key):AV→Option AV
 | .v x=>some (.v x)
 | .slice sz es tok=>some (.slice sz es (Ls tok es))
 | .cptr cs=>some (.cptr cs)
 | .ptr k g sz i off=>D6 ks k (.ptr k g sz i off)
 | .own k g sz n c=>D6 ks k (.own k g sz n c)
 | .sl k g sz i off n=>D6 ks k (.sl k g sz i off n)
 | .mp k g=>D6 ks k (.mp k g)
 | .yld k g=>D6 ks k (.yld k g)
 | _=>none
def tkL(f:AV→Option AV):List AV→Option (List AV)
 | []=>some []
 | x::xs=>match f x,tkL f xs with
  | some y,some ys=>some (y::ys)
  | _,_=>none
def tk1(ks:List Key):AV→Option AV
 | .func fn fs cs=>match tkL (tk0 ks) fs,tkL (tk0 ks) cs with
  | some a,some b=>some (.func fn a b)
  | _,_=>none
 | x=>tk0 ks x
def tk2(ks:List Key):AV→Option AV
 | .agg cs=>match tkL (tk1 ks) cs with
  | some a=>some (.agg a)
  | none=>none
 | x=>tk1 ks x
def tk3(ks:List Key):AV→Option AV
 | .tuple cs=>match tkL (tk2 ks) cs with
  | some a=>some (.tuple a)
  | none=>none
 | x=>tk2 ks x
def fW(ks:List Key):List AV→List AV
 | []=>[]
 | x::xs=>(match tk2 ks x with
  | some y=>y
  | none=> .junk)::fW ks xs
def uv(ks:List Key)(sz:Nat)(es:List AV):Option (List AV) :=
 match sz with
 | 0=>match es with
  | [.lp st pend ps as bo l]=>some [.lp st pend ps as bo (fW ks l)]
  | es=>some es
 | _+1=>tkL (tk2 ks) es
def CJ:List Key→(List cr→RM)→RM
 | [],k=>k []
 | key::rest,k=> .box key fun c=>match c.2 with
  | some (sz,es)=>CJ rest fun l=>k ((key,c.1,sz,es)::l)
  | none=> .fail
def pb(ks:List Key):List cr→Option (List cr)
 | []=>some []
 | (k,g,sz,es)::l=>match uv ks sz es,pb ks l with
  | some es',some l'=>some ((k,g,sz,es')::l')
  | _,_=>none
def dK:List cr→List cr→Option (List cr)
 | [],q=>some q
 | (k,_,_,_)::p,(k',_,_,_)::q=>match Key.beq k k' with
  | true=>dK p q
  | false=>none
 | _::_,[]=>none
def KG:List cr→RM→RM
 | [],k=>k
 | (key,_)::rest,k=> .box key fun c=> .need (c=(0,none)) (KG rest k)
def aK:List cr→List Key
 | []=>[]
 | (k,_)::l=>k::aK l
def gC:List Key→Bool
 | []=>true
 | k::l=>match dC k l with
  | true=>false
  | false=>gC l
def wrE:List cr→List Wr
 | []=>[]
 | (k,g,sz,es)::l=> .box k (g,some (sz,es))::wrE l
def Tgt.inK(ks:List Key):Tgt→Bool
 | .fn _=>true
 | .yld k _=>dC k ks
def gX(dst:Option Tmp)(fid:Tgt)(l:List AV):RM :=
 .keys fun ks=> .need (gC ks=true∧fid.inK ks=true) (CJ ks fun pre=>match pb ks pre,tkL (tk2 ks) l with
  | some pre',some l'=> .callx fid l' pre' fun r post=>match dK pre' post with
   | some new=>KG new (.need (gC (aK post)=true) (match tk3 (aK post) r,pb (aK post) post with
    | some r',some post'=> .done (wrE post'++putA dst r')
    | _,_=> .fail))
   | none=> .fail
  | _,_=> .fail)
def oh(cx:Cx)(dst:Option Tmp)(f:Operand)(args:List Operand):RM :=
 val f fun
  | .func (.func fid) fs cs=>uE args fun l=>if cx.mat.contains fid then gX dst (.fn fid) (fs++l++cs)else match de (fs++l++cs)with
   | some l'=> .call fid l' false fun r=>fo dst r
   | none=>zT (fs++l++cs) fun l'=> .call fid l' true fun r=>fo dst r
  | .yld k g=>uE args fun l=> .box k fun c=> .need (c.1=g) (gX dst (.yld k g) l)
  | _=> .fail
def KM:List AV→Bool
 | []=>true
 | x::xs=>match Nat.beq x.cells.length 1 with
  | true=>KM xs
  | false=>false
theorem rk:∀{l:List AV},KM l=true→∀(i:Nat) (x:AV),l[i]?=some x→x.cells.length=1
 | [],_,i,x,h=>by simp at h
 | y::l,h,i,x,hx=>by
  simp only[KM]at h
  split at h
  ·rename_i hb
   cases i with
   | zero=>simp at hx;subst hx;exact Nat.eq_of_beq_eq_true hb
   | succ i=>exact rk h i x (by simpa using hx)
  ·cases h
def JC:Tok→List AV→Tok
 | .tight,[]=> .tight
 | _,_=> .no
theorem JD(tok:Tok)(es:List AV):JC tok es = .no∨(tok = .tight∧es=[]∧JC tok es = .tight):=by
 unfold JC
 split
 ·exact .inr ⟨rfl,rfl,rfl⟩
 ·exact .inl rfl
def d6(P:Program)(dst:Option Tmp)(t:TypeId)(x:Operand)(lo hi mx:Option Operand):RM :=
 val x fun a =>
  match a with
  | .slice sz es tok=>match aU P t with
   | some (_,n,_)=> .need (es≠[]→sz=n) (uE (lo.toList++hi.toList++mx.toList) fun l =>
    match lo,hi,mx,l with
    | none,some _,none,[.v (.int _ h)]=> .need (0≤h∧h≤es.length) (fo dst (.slice sz (es.take h.toNat) (JC tok es)))
    | some _,none,none,[.v (.int _ l)]=> .need (0≤l∧l≤es.length) (fo dst (.slice sz (es.drop l.toNat) .no))
    | some _,some _,none,[.v (.int _ l),.v (.int _ h)]=> .need (0≤l∧l≤h∧h≤es.length) (fo dst (.slice sz ((es.take h.toNat).drop l.toNat) .no))
    | none,none,none,[]=>fo dst (.slice sz es .no)
    | some _,some _,some _,[.v (.int _ l),.v (.int _ h),.v (.int _ m)]=> .need (0≤l∧l≤h∧h=m∧h≤es.length) (fo dst (.slice sz ((es.take h.toNat).drop l.toNat) .tight))
    | none,some _,some _,[.v (.int _ h),.v (.int _ m)]=> .need (0≤h∧h=m∧h≤es.length) (fo dst (.slice sz (es.take h.toNat) .tight))
    | _,_,_,_=> .fail)
   | none=> .fail
  | .own k g sz m cap=>match aU P t,lo,hi,mx with
   | some (_,n,_),none,some h,none=>val h fun
    | .v (.int _ h)=> .need (n=sz∧0≤h∧h≤m) (.box k fun c=> .need (c.1=g) (fo dst (.own k g sz h.toNat cap)))
    | _=> .fail
   | _,_,_,_=> .fail
  | .ptr k g sz i off=>match ey P t,lo,hi,mx with
   | some (n,1),none,none,none=> .need (n≤maxLen) (.box k fun c=> .need (c.1=g) (fo dst (.sl k g sz i off n)))
   | _,_,_,_=> .fail
  | .cptr cs=>match ey P t,lo,hi,mx with
   | some (n,1),none,none,none=> .need (n≤maxLen∧n≤cs.length∧KM (cs.take n)=true) (fo dst (.slice 1 (cs.take n) .no))
   | _,_,_,_=> .fail
  | .v (.string s)=>uE (lo.toList++hi.toList++mx.toList) fun l =>
    match lo,hi,mx,l with
    | none,some _,none,[.v u]=> .sem (Instr.sliceAt t (.string s) none (some u) none) fun r=>fo dst (ofValue r)
    | some _,none,none,[.v u]=> .sem (Instr.sliceAt t (.string s) (some u) none none) fun r=>fo dst (ofValue r)
    | some _,some _,none,[.v u,.v u']=> .sem (Instr.sliceAt t (.string s) (some u) (some u') none) fun r=>fo dst (ofValue r)
    | _,_,_,_=> .fail
  | _=> .fail
def dF(P:Program)(cx:Cx)(d:Tmp)(t:TypeId)(len:Nat)(parts:List (Nat×Operand)):RM :=
 match aU P t with
 | some (e,n,_)=> .need (parts.map (·.1)=List.range len∧len * n≤2^24∧0<n∧(bm P e).map (·.1)=some n) (uE (parts.map (·.2)) fun l =>
  match de l with
  | some es=> .need (uj n es=true∧(cx.key d).l≤999) (.box (cx.key d) fun c=> .done [.box (cx.key d) (c.1+1,some (n,es)),.slot d (.own (cx.key d) (c.1+1) n es.length 0)])
  | none=> .fail)
 | none=> .fail
def mf(P:Program)(t:TypeId)(k:KK×AV→RB):RM:= .mty fun p=> .need (MapTy P t p) (k p).rm
def opA(P:Program)(cx:Cx)(o:Oper):RM :=
 match o.op with
 | .move x | .assign x=>val x (fo o.dst)
 | .pick c a b=>val c fun c=>val a fun a=>val b fun b=>asV c fun
  | .bool t=>fo o.dst (if t then a else b)
  | _=> .fail
 | .alloc e=>lG P cx o.dst e
 | .box _ x=>val x (tr cx o.dst)
 | .build t parts=>lH P o.dst t parts.toList
 | .buildSlice t len parts=>match o.dst with
  | some d=>if cx.ow.contains d then dF P cx d t len parts.toList else dt P o.dst t len parts.toList
  | none=> .fail
 | .load t x=>Co P o.dst t x
 | .store t x y=>if o.dst=none then lO P t x y else .fail
 | .makeSlice t x y=>match o.dst with
  | some d=>match aU P t with
   | some (e,n,by_)=>match bm P e with
    | some (n',z)=>(fm cx d n by_ n' z x y).rm
    | none=> .fail
   | none=> .fail
  | none=> .fail
 | .nilCheck x=>zh o.dst x
 | .binOp op t x y _=>zd P o.dst op t x y
 | .unOp op _ x=>J0 o.dst op x
 | .convert s t x=>pZ P o.dst s t x
 | .makeFunc fn first captured=>eM o.dst fn first.toList captured.toList
 | .slice t x lo hi mx=>d6 P o.dst t x lo hi mx
 | .fieldAddr t x f=>lK P o.dst t x f
 | .indexAddr t x ix=>d5 P o.dst t x ix
 | .extract x i=>fR o.dst x i
 | .makeMap _ none=>match o.dst with
  | some d=>(lM cx d).rm
  | none=> .fail
 | .lookup t x ix ok=>mf P t fun p=>g5 p o.dst ok x ix
 | .mapUpdate t m k v | .insert t m k v=>if o.dst=none then mf P t fun p=>kD p m k v else .fail
 | .mapEntry t m k=>mf P t fun p=>kv p o.dst m k
 | .entryStore _ m s v=>if o.dst=none then(eF m s v).rm else .fail
 | .index t x ix=>match P.underlying t with
  | some .string=>(nj o.dst x ix).rm
  | some (.array _ _)=>kx P o.dst t x ix
  | _=> .fail
 | .field t x f=>kw P o.dst t x f
 | .range t x=>match P.underlying t,o.dst with
  | some .string,some d=>(nk cx d x).rm
  | _,_=> .fail
 | .next x true=>(rA o.dst x).rm
 | .call c=>match c.callee with
  | .builtin .len=>match c.args.toList,c.argTypes.toList with
   | [x],[t]=>zf P o.dst t x
   | _,_=> .fail
  | .builtin .cap=>match c.args.toList,c.argTypes.toList with
   | [x],[t]=>match aU P t with
    | some _=>(xX o.dst x).rm
    | none=> .fail
   | _,_=> .fail
  | .builtin .append=>match c.args.toList,c.argTypes.toList with
   | [x,y],[t,t']=>if t=t' then(match o.dst with
    | some d=>if cx.ow.contains d then(match aU P t with
     | some (e,n,by_)=>match bm P e with
      | some (n',_)=>(ko cx d n by_ n' x y).rm
      | none=> .fail
     | none=> .fail)else iG P cx o.dst t x y
    | none=> .fail)else(match o.dst with
    | some d=>if cx.ow.contains d then(match P.underlying t' with
     | some .string=>(match aU P t with
      | some (e,n,by_)=>match bm P e with
       | some (n',_)=>(kj cx d e n by_ n' x y).rm
       | none=> .fail
      | none=> .fail)
     | some (.int _)=>(match aU P t with
      | some (e,n,by_)=>match bm P e with
       | some (n',z)=>(ki cx d n by_ n' z x y).rm
       | none=> .fail
      | none=> .fail)
     | _=> .fail)else .fail
    | none=> .fail)
   | _,_=> .fail
  | .builtin .copy=>match c.args.toList,c.argTypes.toList with
   | [x,y],[t,t']=>if t=t' then(match aU P t with
    | some (_,n,_)=>(rt o.dst n x y).rm
    | none=> .fail)else .fail
   | _,_=> .fail
  | .builtin .min=>(p5 false o.dst c.args.toList).rm
  | .builtin .max=>(p5 true o.dst c.args.toList).rm
  | .builtin .clear=>match c.args.toList,c.argTypes.toList with
   | [x],[t]=>match P.underlying t with
    | some (.map _ _)=>(ni o.dst x).rm
    | _=> .fail
   | _,_=> .fail
  | .value f=>oh cx o.dst f c.args.toList
  | _=> .fail
 | _=> .fail
end Go.Am
namespace Go.Am
open Go.RowKit
def RM.wp0(P:Program)(S:St):RM→(List Wr→Prop)→Prop
 | .mty k,K=>∃ks,(k ks).wp0 P S K
 | .keys k,K=>∃ks,(k ks).wp0 P S K
 | .callx f args pre k,K=>∃r post,BoxA P f pre args r post∧(k r post).wp0 P S K
 | .done ws,K=>K ws
 | .slot i k,K=>(k (S.slot i)).wp0 P S K
 | .box key k,K=>(k (S.box key)).wp0 P S K
 | .tk key k,K=>(k (S.tk key)).wp0 P S K
 | .sem s k,K=>∃r,(∀w,s.run P w = .ok r w)∧(k r).wp0 P S K
 | .call f args snap k,K=>∃r,(if snap then PureF P f args r else PureA P f args r)∧(k r).wp0 P S K
 | .need p k,K=>p∧k.wp0 P S K
 | .fail,_=>False
theorem RM.wp_wp0{P:Program}{S:St}(m:RM):∀{K:List Loc→List Wr→Prop},m.wp P S K→m.wp0 P S fun ws=>∃l,K l ws:=by
 have mono:∀(m:RM) {K K':List Wr→Prop},(∀ws,K ws→K' ws)→m.wp0 P S K→m.wp0 P S K':=by
  intro m
  induction m with
  | mty k ih=>exact fun h ⟨ks,hk⟩=>⟨ks,ih _ h hk⟩
  | keys k ih=>exact fun h ⟨ks,hk⟩=>⟨ks,ih _ h hk⟩
  | callx f args pre k ih=>exact fun h ⟨r,post,hr,hk⟩=>⟨r,post,hr,ih _ _ h hk⟩
  | done ws=>exact fun h hk=>h _ hk
  | slot i k ih=>exact fun h hk=>ih _ h hk
  | box key k ih=>exact fun h hk=>ih _ h hk
  | tk key k ih=>exact fun h hk=>ih _ h hk
  | sem s k ih=>exact fun h ⟨r,hr,hk⟩=>⟨r,hr,ih _ h hk⟩
  | call f args snap k ih=>exact fun h ⟨r,hr,hk⟩=>⟨r,hr,ih _ h hk⟩
  | need p k ih=>exact fun h ⟨hp,hk⟩=>⟨hp,ih h hk⟩
  | fail=>exact fun _ h=>h
 induction m with
 | mty k ih=>exact fun⟨ks,hk⟩=>⟨ks,ih _ hk⟩
 | keys k ih=>exact fun⟨ks,hk⟩=>⟨ks,ih _ hk⟩
 | callx f args pre k ih=>exact fun⟨r,post,hr,hk⟩=>⟨r,post,hr,ih _ _ hk⟩
 | done ws=>exact fun h=>⟨_,h⟩
 | slot i k ih=>exact fun h=>mono _ (fun ws ⟨l,hl⟩=>⟨_,hl⟩) (ih _ h)
 | box key k ih=>exact fun h=>mono _ (fun ws ⟨l,hl⟩=>⟨_,hl⟩) (ih _ h)
 | tk key k ih=>exact fun h=>mono _ (fun ws ⟨l,hl⟩=>⟨_,hl⟩) (ih _ h)
 | sem s k ih=>exact fun⟨r,hr,hk⟩=>⟨r,hr,ih _ hk⟩
 | call f args snap k ih=>exact fun⟨r,hr,hk⟩=>⟨r,hr,ih _ hk⟩
 | need p k ih=>exact fun⟨hp,hk⟩=>⟨hp,ih hk⟩
 | fail=>exact fun h=>h
def St.val(S:St):Operand→AV
 | .tmp t=>S.slot t
 | .const v=>ofValue v
 | .global g=>Bw g
 | .func f=> .func (.func f) [] []
def inN(N:Nat):Operand→Bool
 | .tmp t=>t<N
 | _=>true
section
variable {P:Program} {N:Nat} {base:Nat→Prop} {w0:World} {S:St} {C:Ctx} {a:Act} {w:World} {K:List Wr→Prop} {o:Oper} {next:Act→World→Prop} {Q:Exit→Act→World→Prop}
theorem cg{x:Operand}{k:AV→RM}:(val x k).wp0 P S K↔(k (S.val x)).wp0 P S K:=by cases x<;>exact Iff.rfl
theorem eJ:∀{xs:List Operand} {k:List AV→RM},(uE xs k).wp0 P S K↔(k (xs.map S.val)).wp0 P S K
 | [],_=>Iff.rfl
 | x::xs,k=>by simp only[uE,cg,eJ,List.map_cons]
theorem Rel.val(hR:Rel N base w0 S C a w){x:Operand}(hx:inN N x=true):KRel C (S.val x) (a.eval x):=by
 cases x with
 | tmp t=>exact hR.slot t (by simpa[inN]using hx)
 | const v=>exact .pure (bT _ _ _)
 | global g=>exact .pure (Bx (by rw[hR.cw];exact hR.glob) g)
 | func f=>exact .pure (.func rfl rfl (by simp) (by simp))
def eK(N:Nat)(base:Nat→Prop)(w0:World)(S:St)(C:Ctx)(K:List Wr→Prop)(next:Act→World→Prop):Prop :=
 ∀ws C' a' w',K ws→C.le C'→Rel N base w0 (S.puts ws) C' a' w'→next a' w'
theorem wO(S:St)(l m:List Wr):S.puts (l++m)=(S.puts l).puts m:=by
 induction l generalizing S with
 | nil=>rfl
 | cons x xs ih=>exact ih _
theorem Rel.putA(hR:Rel N base w0 S C a w){v:AV}{y:Value}(hv:KRel C v y)(dst:Option Tmp):Rel N base w0 (S.puts (Am.putA dst v)) C (a.put dst y) w:=by
 cases dst with
 | none=>exact hR
 | some d=>exact hR.put hv d
theorem co{y:Value}{w':World}(hrun:(execOp a.eval o).run P w = .ok (.value y) w')(h:next (a.put o.dst y) w'):o.wp P a w next Q:=by
 unfold Oper.wp;rw[hrun];exact h
theorem qz{w':World}(hrun:(execOp a.eval o).run P w = .ok .skip w')(h:next (a.put o.dst undef) w'):o.wp P a w next Q:=by
 unfold Oper.wp;rw[hrun];exact h
theorem aZ(hR:Rel N base w0 S C a w)(hk:eK N base w0 S C K next){v:AV}{y:Value}(hrun:(execOp a.eval o).run P w = .ok (.value y) w)(hv:KRel C v y)
  (h:K (putA o.dst v)):o.wp P a w next Q :=
 co hrun (hk _ C _ _ h (.refl C) (hR.putA hv _))
theorem iR{t:TypeId}{agg:Bool}{n:Nat}(h:bG P t=some (agg,n)) :
  ∃d i,P.underlying t=some d∧P.info? t=some i∧i.size=n∧(∀w,(isAgg t).run P w = .ok agg w):=by
 unfold bG at h
 cases hd:P.underlying t with
 | none=>simp[hd]at h
 | some d =>
  cases hi:P.info? t with
  | none=>simp[hd,hi]at h
  | some i =>
   simp only[hd,hi,Option.some.injEq,Prod.mk.injEq]at h
   refine⟨d,i,rfl,rfl,h.2,fun w=>?_⟩
   rw[←h.1]
   simp only[isAgg,Sem.run_bind,run_underlying hd,Result.andThen_ok]
   cases d<;>rfl
theorem aS{t e:TypeId}{n b:Nat}(h:aU P t=some (e,n,b)):∃i,P.underlying t=some (.slice e)∧P.info? e=some i∧i.size=n∧i.bytes=b:=by
 unfold aU at h
 split at h
 ·rename_i e' hd
  simp only[Option.map_eq_some_iff,Prod.mk.injEq]at h
  obtain⟨i,hi,rfl,h2,h3⟩:=h
  exact⟨i,hd,hi,h2,h3⟩
 ·simp at h
theorem fu{t:TypeId}{n m:Nat}(h:ey P t=some (n,m)):∃e i,P.underlying t=some (.array n e)∧P.info? e=some i∧i.size=m:=by
 unfold ey at h
 split at h
 ·rename_i k e hd
  simp only[Option.map_eq_some_iff,Prod.mk.injEq]at h
  obtain⟨i,hi,rfl,h2⟩:=h
  exact⟨e,i,hd,hi,h2⟩
 ·simp at h
theorem nF{t:TypeId}{f off:Nat}(h:b8 P t f=some off)(b o:Nat)(w:World) :
  (Instr.fieldAt t (.pointer (some ⟨b,o,none⟩)) f).run P w = .ok (.pointer (some ⟨b,o+off,none⟩)) w:=by
 unfold b8 at h
 split at h
 ·rename_i fs hd
  split at h
  ·rename_i fd hf
   split at h
   ·rename_i i hi
    split at h
    ·simp at h
    ·rename_i hne
     simp only[Option.some.injEq]at h
     subst h
     simp[Instr.fieldAt,run_underlying hd,hf,Instr.sureAddr,fieldPlace,sizeOf,typeInfo,hi,hne,Addr.add_lit]
   ·simp at h
  ·simp at h
 ·simp at h
theorem cZ{t:TypeId}{n:Nat}{z:AV}(h:bm P t=some (n,z)) :
  ∃i y,P.info? t=some i∧i.zero=some y∧y.cells.size=n∧z=ofValue y∧z.storable=true∧z.cells.length=n:=by
 unfold bm at h
 split at h
 ·rename_i i hi
  split at h
  ·rename_i y hy
   split at h
   ·rename_i hc
    simp only[Option.some.injEq,Prod.mk.injEq]at h
    simp only[Bool.and_eq_true,beq_iff_eq]at hc
    obtain⟨rfl,rfl⟩:=h
    exact⟨i,y,hi,hy,rfl,rfl,hc.1,hc.2⟩
   ·simp at h
  ·simp at h
 ·simp at h
theorem mG{t:TypeId}{agg:Bool}{n:Nat}(h:bG P t=some (agg,n))(b o:Nat)(ys:Nat→Value)
  (hc:∀j,j<(if agg then n else 1)→w.cell? ⟨b,o+j,none⟩=some (ys j)) :
  (loadVar t ⟨b,o,none⟩).run P w = .ok (if agg then .agg ((List.range n).map ys).toArray else ys 0) w:=by
 obtain⟨d,i,hd,hi,hn,hag⟩:=iR h
 unfold loadVar
 simp only[Sem.run_bind,hag,Result.andThen_ok]
 cases agg with
 | true =>
  have:=run_loadCells (P:=P) w ⟨b,o,none⟩ n ys (fun j hj=>by rw[Addr.add_lit];exact hc j (by simpa using hj))
  simp[sizeOf,typeInfo,hi,hn,this]
 | false =>
  have:=hc 0 (by simp)
  simp only[Nat.add_zero]at this
  simp[this]
theorem oH{agg:Bool}{cs:List AV}{off n:Nat}{k:AV→RM}(h:(oG agg cs off n k).wp0 P S K){R:AV→Value→Prop}(ys:Nat→Value)
  (hc:∀c x,cs[off+c]?=some x→R x (ys c)) :
  ∃v,(k v).wp0 P S K∧(∀j,j<(if agg then n else 1)→∃x,cs[off+j]?=some x) ∧
   ((agg=true∧∃l,v = .agg l∧l.length=n∧∀i x,l[i]?=some x→R x (ys i))∨(agg=false∧R v (ys 0))):=by
 unfold oG at h
 cases agg with
 | true =>
  obtain⟨h1,h2⟩:=h
  refine⟨_,h2,fun j hj=>?_,.inl ⟨rfl,_,rfl,by simp;omega,fun i x hx=>?_⟩⟩
  ·simp only[if_true]at hj
   exact⟨cs[off+j],by rw[List.getElem?_eq_getElem]⟩
  ·rw[List.getElem?_take]at hx
   split at hx
   ·rw[List.getElem?_drop]at hx;exact hc i x hx
   ·simp at hx
 | false =>
  simp only[Bool.false_eq_true,if_false]at h
  split at h
  ·rename_i x hx
   refine⟨x,h,fun j hj=>?_,.inr ⟨rfl,hc 0 x hx⟩⟩
   have:j=0:=by simpa using hj
   subst this;exact⟨x,hx⟩
  ·exact h.elim
theorem jP(hR:Rel N base w0 S C a w){k:Key}{sz:Nat}{es:List AV}(hk:(S.box k).2=some (sz,es))(h0:sz≠0){i c:Nat}{e x:AV}(he:es[i]?=some e)(hx:e.cells[c]?=some x) :
  ∃y,w.cell? ⟨C.jb k,i * sz+c,none⟩=some y∧KRel C x y∧y.oneCell'=true:=by
 obtain⟨_,arr,et,ha,_,hc⟩:=(hR.box k sz es hk).own h0 (by intro h;simp[h]at he)
 obtain⟨y,hy,h1,h2⟩:=hc i e c x he hx
 refine⟨y,?_,h1,h2⟩
 rw[←hR.cw]
 simp[World.cell?,ha,hy]
theorem gh(hR:Rel N base w0 S C a w){t:TypeId}{x:Operand}{k:AV→RM}(hx:inN N x=true)
  (h:(g3 P t x k).wp0 P S K):∃(v:AV) (r:Value) (b off:Nat),(k v).wp0 P S K∧a.eval x = .pointer (some ⟨b,off,none⟩)∧(loadVar t ⟨b,off,none⟩).run P w = .ok r w∧KRel C v r:=by
 unfold g3 at h
 cases ht:bG P t with
 | none=>simp[ht]at h;exact h.elim
 | some p =>
  obtain⟨agg,n⟩:=p
  simp only[ht,cg]at h
  have hv:=hR.val hx
  revert h hv
  generalize S.val x=v
  generalize hy:a.eval x=y
  intro h hv
  cases v with
  | ptr k g sz i off =>
   simp only[RM.wp0]at h
   split at h
   ·rename_i sz' es hs
    obtain⟨⟨hg,rfl,h0⟩,h⟩:=h
    split at h
    ·rename_i e he
     have hyp:y = .pointer (some ⟨C.jb k,i * sz'+off,none⟩):=by
      cases hv with
      | pure hp=>cases hp
      | ptrOld hl=>rw[hR.gb k,hg]at hl;omega
      | ptr=>rfl
     obtain⟨r,h1,h2,h3⟩:=oH h (R:=fun x y=>KRel C x y∧y.oneCell'=true)
      (fun c=>(w.cell? ⟨C.jb k,i * sz'+off+c,none⟩).getD undef) (fun c x hx=>by
       obtain⟨y,h1,h2,h3⟩:=jP hR hs h0 he hx
       rw[←Nat.add_assoc]at h1
       simp only[h1,Option.getD_some]
       exact⟨h2,h3⟩)
     have hl:=mG (P:=P) (w:=w) ht (C.jb k) (i * sz'+off) (fun c=>(w.cell? ⟨C.jb k,i * sz'+off+c,none⟩).getD undef) (fun j hj=>by
      obtain⟨x,hx⟩:=h2 j hj
      obtain⟨y,h1,_⟩:=jP hR hs h0 he hx
      rw[←Nat.add_assoc]at h1
      simp[h1])
     refine⟨r,_,_,_,h1,hyp,hl,?_⟩
     rcases h3 with⟨rfl,l,rfl,hll,hl3⟩|⟨rfl,h4⟩
     ·refine .agg (by simp[hll]) (fun j x y hx hy=>?_) (fun y hy=>?_)
      ·have hj:j<n:=by rw[←hll];exact(List.getElem?_eq_some_iff.1 hx).1
       have:=(hl3 j x hx).1
       simp[hj]at hy
       rw[←hy];exact this
      ·simp only[if_true,List.mem_toArray,List.mem_map,List.mem_range]at hy
       obtain⟨j,hj,rfl⟩:=hy
       exact(hl3 j l[j] (by simp[hll,hj])).2
     ·exact h4.1
    ·exact h.elim
   ·exact h.elim
  | cptr cs =>
   obtain⟨b,off,ys,hyp,hc,hp⟩:∃(b off:Nat) (ys:Nat→Value),y = .pointer (some ⟨b,off,none⟩) ∧
     (∀(c:Nat) (x:AV),cs[c]?=some x→C.w.cell? ⟨b,off+c,none⟩=some (ys c)∧C.imm b (off+c)∧(ys c).oneCell'=true) ∧
     (∀(c:Nat) (x:AV),cs[c]?=some x→PRel C.w C.imm x (ys c)):=by
    cases hv with
    | pure hp=>cases hp with
     | cptr ys hc hp=>exact⟨_,_,ys,rfl,hc,hp⟩
   rw[hR.cw]at hc hp
   obtain⟨r,h1,h2,h3⟩:=oH h (R:=fun x y=>PRel w C.imm x y∧y.oneCell'=true) ys (fun c x hx=>by
    rw[Nat.zero_add]at hx;exact⟨hp c x hx,(hc c x hx).2.2⟩)
   have hl:=mG (P:=P) (w:=w) ht b off ys (fun j hj=>by
    obtain⟨x,hx⟩:=h2 j hj
    rw[Nat.zero_add]at hx
    exact(hc j x hx).1)
   refine⟨r,_,_,_,h1,hyp,hl,.pure ?_⟩
   rw[hR.cw]
   rcases h3 with⟨rfl,l,rfl,hll,hl3⟩|⟨rfl,h4⟩
   ·refine .agg (by simp[hll]) (fun j x y hx hy=>?_) (fun y hy=>?_)
    ·have hj:j<n:=by rw[←hll];exact(List.getElem?_eq_some_iff.1 hx).1
     have:=(hl3 j x hx).1
     simp[hj]at hy
     rw[←hy];exact this
    ·simp only[if_true,List.mem_toArray,List.mem_map,List.mem_range]at hy
     obtain⟨j,hj,rfl⟩:=hy
     exact(hl3 j l[j] (by simp[hll,hj])).2
   ·exact h4.1
  | _=>exact h.elim
theorem tC(hR:Rel N base w0 S C a w)(hk:eK N base w0 S C K next){t:TypeId}{x:Operand}(ho:o.op = .load t x)(hx:inN N x=true)
  (h:(Co P o.dst t x).wp0 P S K):o.wp P a w next Q:=by
 obtain⟨v,r,b,off,h,e,hl,hv⟩:=gh hR hx h
 refine aZ hR hk (v:=v) (y:=r) ?_ hv h
 simp[execOp,ho,e,Instr.loadAt,Instr.sureAddr,hl]
theorem aQ{x:Operand}{k:AV→RB}:(bf x k).rm.wp0 P S K↔(k (S.val x)).rm.wp0 P S K:=by cases x<;>exact Iff.rfl
theorem iD{x:AV}{kk:Key→Nat→Int→List AV→RB}(h:(B1 x kk).rm.wp0 P S K):∃k g c es,x = .mp k g∧S.box k=vM g c es∧(kk k g c es).rm.wp0 P S K:=by
 unfold B1 at h
 split at h
 ·rename_i k g
  simp only[RB.rm,RM.wp0]at h
  cases hb:S.box k with
  | mk g' o =>
   rw[hb]at h
   cases o with
   | none=>exact h.elim
   | some d =>
    obtain⟨sz,es⟩:=d
    simp only[RM.wp0]at h
    obtain⟨hg,hs,h⟩:=h
    have hg:=Nat.eq_of_beq_eq_true hg
    have hs:=Nat.eq_of_beq_eq_true hs
    subst hg hs
    split at h
    ·rename_i c es'
     exact⟨k,_,c,es',rfl,hb.trans rfl,h⟩
    ·exact h.elim
 ·exact h.elim
theorem B4(hR:Rel N base w0 S C a w){k:Key}{g:Nat}{c:Int}{es:List AV}(hb:S.box k=vM g c es){y:Value}(hv:KRel C (.mp k g) y) :
  y = .map (some (C.jb k))∧C.own (C.jb k)=some (.box k)∧∃(ents:Array MapEntry) (c0:Nat),c=c0∧w.heap[C.jb k]?=some (.map ents (c0+ents.size))∧ents.size=es.length ∧
   ∀(i:Nat) (e:AV) (m:MapEntry),es[i]?=some e→ents[i]?=some m→∃a b,e = .tuple [a,b]∧PRel C.w C.imm a m.key∧PRel C.w C.imm b m.val∧m.born=c0+i:=by
 obtain⟨ho,o,hh,hobj⟩:=(hR.box k 0 (.v (.int .i64 c)::es) (by rw[hb];rfl)).map rfl
 refine⟨?_,ho,?_⟩
 ·cases hv with
  | pure hp=>cases hp
  | mpOld hl=>rw[hR.gb k,hb]at hl;exact absurd hl (Nat.lt_irrefl _)
  | mp=>rfl
 ·rw[hR.cw]at hh
  generalize hl:(AV.v (.int .i64 c)::es)=l at hobj
  cases hobj with
  | map c0 h1 h2 =>
   cases hl
   exact⟨_,c0,rfl,hh,h1,h2⟩
  | iter=>cases hl
  | loop=>cases hl
theorem qG{x:AV}{k:Value→RB}(h:(At x k).rm.wp0 P S K):∃v,dR x=some v∧(k v).rm.wp0 P S K:=by
 unfold At at h
 split at h
 ·exact⟨_,rfl,h⟩
 ·split at h
  ·rename_i l hl
   exact⟨_,by simp[dR,hl],h⟩
  ·exact h.elim
 ·exact h.elim
theorem qk:∀{xs:List Operand} {k:List AV→RB},(fq xs k).rm.wp0 P S K↔(k (xs.map S.val)).rm.wp0 P S K
 | [],_=>Iff.rfl
 | x::xs,k=>by simp only[fq,aQ,qk,List.map_cons]
theorem nl{o:Option AV}{k:AV→RB}(h:(RB.opt o k).rm.wp0 P S K):∃x,o=some x∧(k x).rm.wp0 P S K:=by
 cases o with
 | none=>exact h.elim
 | some x=>exact⟨x,rfl,h⟩
theorem kE{o:Option (List AV)}{k:List AV→RB}(h:(RB.optL o k).rm.wp0 P S K):∃x,o=some x∧(k x).rm.wp0 P S K:=by
 cases o with
 | none=>exact h.elim
 | some x=>exact⟨x,rfl,h⟩
end
end Go.Am
namespace Go.Am
open Go.RowKit
section
variable {P:Program} {N:Nat} {base:Nat→Prop} {w0:World} {S:St} {C:Ctx} {a:Act} {w:World} {K:List Wr→Prop} {o:Oper} {next:Act→World→Prop} {Q:Exit→Act→World→Prop}
theorem KRel.ptrCur(hR:Rel N base w0 S C a w){k:Key}{g sz i off:Nat}{y:Value}(h:KRel C (.ptr k g sz i off) y)(hg:(S.box k).1=g) :
  y = .pointer (some ⟨C.jb k,i * sz+off,none⟩):=by
 cases h with
 | pure hp=>cases hp
 | ptrOld hl=>rw[hR.gb k,hg]at hl;omega
 | ptr=>rfl
theorem KRel.mkPtr(hR:Rel N base w0 S C a w){k:Key}{g:Nat}(hg:(S.box k).1=g)(sz i off:Nat):KRel C (.ptr k g sz i off) (.pointer (some ⟨C.jb k,i * sz+off,none⟩)):=by
 have:g=C.gb k:=by rw[hR.gb,hg]
 rw[this];exact .ptr
theorem mz(hR:Rel N base w0 S C a w)(hk:eK N base w0 S C K next){x:Operand}(ho:o.op = .move x∨o.op = .assign x)(hx:inN N x=true)
  (h:(val x (fo o.dst)).wp0 P S K):o.wp P a w next Q:=by
 rw[cg]at h
 refine aZ hR hk (v:=S.val x) (y:=a.eval x) ?_ (hR.val hx) h
 rcases ho with ho|ho<;>simp[execOp,ho]
theorem tD(hR:Rel N base w0 S C a w)(hk:eK N base w0 S C K next){c x y:Operand}(ho:o.op = .pick c x y)(hc:inN N c=true)(hx:inN N x=true)(hy:inN N y=true)
  (h:(val c fun c=>val x fun a=>val y fun b=>asV c fun
   | .bool t=>fo o.dst (if t then a else b)
   | _=> .fail).wp0 P S K):o.wp P a w next Q:=by
 simp only[cg]at h
 unfold asV at h
 cases hv:dR (S.val c)with
 | none=>simp only[hv]at h;exact h.elim
 | some u =>
  simp only[hv]at h
  have hu:=(hR.val hc).val hv
  cases u with
  | bool t =>
   refine aZ hR hk (v:=if t then S.val x else S.val y) (y:=if t then a.eval x else a.eval y) ?_ (by cases t<;>simp[hR.val hx,hR.val hy]) h
   simp[execOp,ho,hu,asBool]
  | _=>exact h.elim
theorem oO(hR:Rel N base w0 S C a w)(hk:eK N base w0 S C K next){s:Sem Value}(hrun:(execOp a.eval o).run P w=(s.run P w).andThen fun v w'=> .ok (.value v) w')
  (h:(RM.sem s fun r=>fo o.dst (ofValue r)).wp0 P S K):o.wp P a w next Q:=by
 obtain⟨r,hr,h⟩:=h
 exact aZ hR hk (v:=ofValue r) (y:=r) (by rw[hrun,hr,Result.andThen_ok]) (.pure (bT _ _ _)) h
theorem KRel.nilA{x:AV}{y:Value}{r:Bool}(h:KRel C x y)(hn:nilA x=some r):∃p l c,y = .slice p l c∧r=p.isNone:=by
 cases x with
 | v u =>
  cases u<;>first|(simp[Go.Am.nilA]at hn;done)|skip
  rename_i p l c
  have hy:y = .slice p l c:=by
   cases h with
   | pure h=>cases h;rfl
  refine⟨p,l,c,hy,?_⟩
  cases p<;>simp[Go.Am.nilA]at hn<;>simp[hn]
 | slice sz es tok =>
  cases es with
  | nil=>simp[Go.Am.nilA]at hn
  | cons e es =>
   simp[Go.Am.nilA]at hn
   subst hn
   cases h with
   | pure h=>cases h with
    | slice=>exact⟨_,_,_,rfl,rfl⟩
   | tok=>exact⟨_,_,_,rfl,rfl⟩
 | _=>simp[Go.Am.nilA]at hn
theorem FG{t:TypeId}{e:TypeId}(hu:P.underlying t=some (.slice e))(x y:Operand)(p:Option Addr)(l c l' c':Nat)(w:World) :
  (dP .eql t x y (.slice p l c) (.slice none l' c')).run P w = .ok (.bool p.isNone) w∧(dP .neq t x y (.slice p l c) (.slice none l' c')).run P w = .ok (.bool (!p.isNone)) w:=by
 have he:(Op.equal t (.slice p l c) (.slice none l' c')).run P w = .ok p.isNone w:=by
  obtain⟨d,hd⟩:∃d,Op.maxDepth=d+1:=⟨9999,rfl⟩
  unfold Op.equal
  rw[hd]
  cases p with
  | none=>simp[Op.equalIn,run_underlying hu]
  | some p=>simp[Op.equalIn,run_underlying hu]
 constructor
 ·simp[dP,eqGuard,binOp,he]
 ·simp[dP,eqGuard,binOp,he]
theorem vO(hR:Rel N base w0 S C a w)(hk:eK N base w0 S C K next){op:BinOp}{t t':TypeId}{x y:Operand}(ho:o.op = .binOp op t x y t')(hx:inN N x=true)(hy:inN N y=true)
  (h:(zd P o.dst op t x y).wp0 P S K):o.wp P a w next Q:=by
 unfold zd at h
 simp only[cg]at h
 cases hnc:IQ y with
 | true =>
  simp only[hnc]at h
  cases hn:nilA (S.val x)with
  | none=>simp only[hn]at h;exact h.elim
  | some r =>
   simp only[hn]at h
   cases hts:aU P t with
   | none=>simp only[hts]at h;exact h.elim
   | some q =>
    simp only[hts]at h
    obtain⟨p,l,c,hu,hr⟩:=(hR.val hx).nilA hn
    obtain⟨l',c',hy'⟩:∃l' c',a.eval y = .slice none l' c':=by
     cases y with
     | const v =>
      cases v<;>first|(simp[IQ]at hnc;done)|skip
      rename_i p' l' c'
      cases p' with
      | none=>exact⟨l',c',rfl⟩
      | some _=>simp[IQ]at hnc
     | _=>simp[IQ]at hnc
    obtain⟨e,n,bt⟩:=q
    obtain⟨ie,hut,_,_,_⟩:=aS hts
    have hrun:=FG (P:=P) hut x y p l c l' c' w
    unfold tj at h
    split at h
    ·refine aZ hR hk (v:= .v (.bool r)) (y:= .bool r) ?_ (.pure (.v _)) h
     simp only[execOp,ho,hu,hy']
     have:=hrun.1
     unfold dP at this
     simp only[Sem.run_bind]at this ⊢
     rw[this,hr];rfl
    ·refine aZ hR hk (v:= .v (.bool !r)) (y:= .bool !r) ?_ (.pure (.v _)) h
     simp only[execOp,ho,hu,hy']
     have:=hrun.2
     unfold dP at this
     simp only[Sem.run_bind]at this ⊢
     rw[this,hr];rfl
    ·exact h.elim
 | false =>
 simp only[hnc]at h
 unfold asV at h
 cases hv:dR (S.val x)with
 | none=>simp only[hv]at h;exact h.elim
 | some u =>
  simp only[hv]at h
  cases hv':dR (S.val y)with
  | none=>simp only[hv']at h;exact h.elim
  | some u' =>
   simp only[hv']at h
   have hu:=(hR.val hx).val hv
   have hu':=(hR.val hy).val hv'
   refine oO hR hk (s:=dP op t x y u u') ?_ h
   simp only[execOp,ho,hu,hu',dP]
   simp only[Sem.run_bind]
   rfl
theorem zj(hR:Rel N base w0 S C a w)(hk:eK N base w0 S C K next){op:UnOp}{t:TypeId}{x:Operand}(ho:o.op = .unOp op t x)(hx:inN N x=true)
  (h:(J0 o.dst op x).wp0 P S K):o.wp P a w next Q:=by
 unfold J0 at h
 simp only[cg]at h
 unfold asV at h
 cases hv:dR (S.val x)with
 | none=>simp only[hv]at h;exact h.elim
 | some u =>
  simp only[hv]at h
  have hu:=(hR.val hx).val hv
  refine oO hR hk (s:=Op.unary op u) ?_ h
  simp only[execOp,ho,hu]
  simp only[Sem.run_bind]
  rfl
theorem mj:∀{es:List AV} {l:List UInt8},ld es=some l→∃ns:List Int,es=ns.map (fun n=>AV.v (.int .u8 n))∧l=ns.map fun n=>UInt8.ofNat n.toNat
 | [],l,h=>by simp[ld]at h;exact⟨[],rfl,h⟩
 | x::es,l,h=>by
  unfold ld at h
  split at h
  ·rename_i e;cases e
  ·rename_i n l' e
   cases e
   split at h
   ·rename_i r hr
    cases h
    obtain⟨ns,rfl,rfl⟩:=mj hr
    exact⟨n::ns,rfl,rfl⟩
   ·cases h
  ·cases h
theorem gQ:∀(ns:List Int) (r:ByteArray),ns.foldl (fun r n=>r.push (UInt8.ofNat n.toNat)) r=⟨r.data++(ns.map fun n=>UInt8.ofNat n.toNat).toArray⟩
 | [],r=>by simp
 | n::ns,r=>by
  simp only[List.foldl_cons,List.map_cons]
  rw[gQ ns]
  simp[ByteArray.push]
theorem p9{w:World}{imm:Nat→Nat→Prop}{ns:List Int}{sz:Nat}{tok:Tok}{y:Value}(h:PRel w imm (.slice sz (ns.map fun n=>AV.v (.int .u8 n)) tok) y) :
  (Conv.bytesToString y).run P w = .ok (.string ⟨(ns.map fun n=>UInt8.ofNat n.toNat).toArray⟩) w:=by
 generalize hes:ns.map (fun n=>AV.v (.int .u8 n))=es at h
 cases h with
 | nil =>
  obtain rfl:ns=[]:=by simpa using hes
  rfl
 | slice ys hcap ht hm hsz hc hp =>
  rename_i b off cap
  subst hes
  have hl:(loadCells ⟨b,off,none⟩ (ns.map fun n=>AV.v (.int .u8 n)).length).run P w = .ok (ns.map (Value.int .u8)).toArray w:=by
   have:=run_loadCells_list (P:=P) w ⟨b,off,none⟩ (ns.map (Value.int .u8)) (fun j v hj=>by
    rw[List.getElem?_map,Option.map_eq_some_iff]at hj
    obtain⟨n,hn,rfl⟩:=hj
    have he:(ns.map fun n=>AV.v (.int .u8 n))[j]?=some (.v (.int .u8 n)):=by rw[List.getElem?_map,hn];rfl
    have h1:(1:Nat)=sz:=hsz j _ he
    obtain⟨h2,_⟩:=hc j _ 0 (.v (.int .u8 n)) he rfl
    have h3:=hp j _ 0 (.v (.int .u8 n)) he rfl
    generalize hy:ys j 0=y0 at h2 h3
    cases h3
    rw[←h1,Nat.mul_one,Nat.add_zero]at h2
    rw[Addr.add_lit]
    exact h2)
   rw[List.length_map]at this ⊢
   exact this
  rw[run_bytesToString w _ _ cap _ hl,gQ]
  have he0:ByteArray.empty.data=#[]:=rfl
  rw[he0]
  simp
theorem yV{C:Ctx}{ns:List Int}{sz:Nat}{tok:Tok}{y:Value}(h:KRel C (.slice sz (ns.map fun n=>AV.v (.int .u8 n)) tok) y) :
  (Conv.bytesToString y).run P C.w = .ok (.string ⟨(ns.map fun n=>UInt8.ofNat n.toNat).toArray⟩) C.w:=by
 generalize hes:ns.map (fun n=>AV.v (.int .u8 n))=es at h
 cases h with
 | pure hp=>subst hes;exact p9 hp
 | tokNil =>
  obtain rfl:ns=[]:=by simpa using hes
  rfl
 | tok hp =>
  subst hes
  have:=p9 (P:=P) hp
  exact this
theorem tz(hR:Rel N base w0 S C a w)(hk:eK N base w0 S C K next){t t':TypeId}{x:Operand}(ho:o.op = .convert t t' x)(hx:inN N x=true)
  (h:(pZ P o.dst t t' x).wp0 P S K):o.wp P a w next Q:=by
 unfold pZ at h
 simp only[cg]at h
 split at h
 ·rename_i l hl
  have hv:=hR.val hx
  revert hl hv
  generalize S.val x=v
  generalize hy:a.eval x=y
  intro hl hv
  unfold nr at hl
  split at hl
  ·rename_i sz es tok
   split at hl
   ·rename_i e hs ht
    split at hl
    ·rename_i he
     obtain⟨ns,rfl,rfl⟩:=mj hl
     have hb:=yV (P:=P) hv
     have hsl:∃A l' c,y = .slice A l' c:=by
      revert hv
      generalize ns.map (fun n=>AV.v (.int .u8 n))=es
      intro hv
      cases hv with
      | pure hp=>cases hp with
       | nil=>exact⟨_,_,_,rfl⟩
       | slice=>exact⟨_,_,_,rfl⟩
      | tokNil=>exact⟨_,_,_,rfl⟩
      | tok=>exact⟨_,_,_,rfl⟩
     obtain⟨A,l',c,rfl⟩:=hsl
     refine aZ hR hk (v:= .v (.string ⟨(ns.map fun n=>UInt8.ofNat n.toNat).toArray⟩)) (y:= .string ⟨(ns.map fun n=>UInt8.ofNat n.toNat).toArray⟩) ?_ (.pure (.v _)) (by show K (putA o.dst (AV.v (Value.string ⟨(ns.map fun n=>UInt8.ofNat n.toNat).toArray⟩)));exact h)
     have hrun:=run_convert_bytes_string (P:=P) w t t' e A l' c hs he ht
     rw[hR.cw]at hb
     rw[hb]at hrun
     simp only[execOp,ho,hy]
     simp only[Sem.run_bind,hrun]
     rfl
    ·cases hl
   ·cases hl
  ·cases hl
 unfold asV at h
 cases hv:dR (S.val x)with
 | none=>simp only[hv]at h;exact h.elim
 | some u =>
  simp only[hv]at h
  have hu:=(hR.val hx).val hv
  refine oO hR hk (s:=convert t t' u) ?_ h
  simp only[execOp,ho,hu]
  simp only[Sem.run_bind]
  rfl
theorem vW(hR:Rel N base w0 S C a w)(hk:eK N base w0 S C K next){x:Operand}(ho:o.op = .nilCheck x)(hx:inN N x=true)
  (h:(zh o.dst x).wp0 P S K):o.wp P a w next Q:=by
 unfold zh at h
 simp only[cg]at h
 have hv:=hR.val hx
 revert h hv
 generalize S.val x=v
 generalize hy:a.eval x=y
 intro h hv
 cases v with
 | ptr k g sz i off =>
  obtain⟨hg,h⟩:=h
  have e:=KRel.ptrCur hR hv hg
  refine aZ hR hk (y:=y) ?_ hv h
  simp[execOp,ho,hy,e]
 | cptr cs =>
  refine aZ hR hk (y:=y) ?_ hv h
  cases hv with
  | pure hp=>cases hp with
   | cptr=>simp[execOp,ho,hy]
 | func fn fs cs =>
  cases fn with
  | func f =>
   refine aZ hR hk (y:=y) ?_ hv h
   cases hv with
   | pure hp=>cases hp with
    | func=>simp[execOp,ho,hy]
   | func=>simp[execOp,ho,hy]
  | _=>exact h.elim
 | _=>exact h.elim
theorem ry(hR:Rel N base w0 S C a w)(hk:eK N base w0 S C K next){t:TypeId}{f:Nat}{x:Operand}(ho:o.op = .fieldAddr t x f)(hx:inN N x=true)
  (h:(lK P o.dst t x f).wp0 P S K):o.wp P a w next Q:=by
 unfold lK at h
 cases hf:b8 P t f with
 | none=>simp only[hf]at h;exact h.elim
 | some off =>
  simp only[hf,cg]at h
  have hv:=hR.val hx
  revert h hv
  generalize S.val x=v
  generalize hy:a.eval x=y
  intro h hv
  cases v with
  | ptr k g sz i off' =>
   obtain⟨hg,h⟩:=h
   have e:=KRel.ptrCur hR hv hg
   refine aZ hR hk (v:= .ptr k g sz i (off'+off)) (y:= .pointer (some ⟨C.jb k,i * sz+off'+off,none⟩)) ?_ ?_ h
   ·simp[execOp,ho,hy,e,nF hf]
   ·rw[Nat.add_assoc];exact KRel.mkPtr hR hg _ _ _
  | cptr cs =>
   cases hv with
   | pure hp=>cases hp with
    | @cptr _ b off' ys hc hp =>
     refine aZ hR hk (v:= .cptr (cs.drop off)) (y:= .pointer (some ⟨b,off'+off,none⟩)) ?_ (.pure (.cptr (fun c=>ys (off+c)) (fun c x hx=>?_) (fun c x hx=>?_))) h
     ·simp[execOp,ho,hy,nF hf]
     ·rw[List.getElem?_drop]at hx;have:=hc _ x hx;rwa [←Nat.add_assoc]at this
     ·rw[List.getElem?_drop]at hx;exact hp _ x hx
  | _=>exact h.elim
theorem p6{t:TypeId}{agg:Bool}{n off:Nat}{cs:List AV}{ys:Array Value}(ht:bG P t=some (agg,n))(hl:ys.size=cs.length)(hp:∀(i:Nat) (x:AV) (y:Value),cs[i]?=some x→ys[i]?=some y→KRel C x y)(h1:∀y∈ys,y.oneCell'=true)
  {k:AV→RM} (h:(oG agg cs off n k).wp0 P S K):∃v r,(k v).wp0 P S K∧(part t ys off).run P w = .ok r w∧KRel C v r:=by
 obtain⟨d,i,hd,hi,hn,hag⟩:=iR ht
 unfold oG at h
 cases agg with
 | true =>
  simp only[if_true]at h
  obtain⟨hb,h⟩:=h
  refine⟨_,_,h,by simp[part,hag,sizeOf,typeInfo,hi];rfl,?_⟩
  rw[hn]
  refine .agg (by simp;omega) (fun j x y hx hy=>?_) (fun y hy=>?_)
  ·rw[List.getElem?_take]at hx
   split at hx
   ·rw[List.getElem?_drop]at hx
    rw[Array.getElem?_extract]at hy
    split at hy
    ·exact hp _ x y hx hy
    ·cases hy
   ·cases hx
  ·obtain⟨j,hj,rfl⟩:=Array.mem_iff_getElem.1 hy
   simp only[Array.getElem_extract]
   exact h1 _ (Array.getElem_mem _)
 | false =>
  simp only[Bool.false_eq_true,if_false]at h
  split at h
  ·rename_i x hx
   have hlt:off<ys.size:=by rw[hl];exact(List.getElem?_eq_some_iff.1 hx).1
   have hy:ys[off]?=some ys[off]:=by simp[hlt]
   exact⟨x,ys[off],h,by simp[part,hag,hy],hp off x _ hx hy⟩
  ·exact h.elim
theorem KRel.aggV{cs:List AV}{y:Value}(h:KRel C (.agg cs) y):∃vs:Array Value,y = .agg vs∧vs.size=cs.length∧(∀(i:Nat) (x:AV) (y:Value),cs[i]?=some x→vs[i]?=some y→KRel C x y)∧∀y∈vs,y.oneCell'=true:=by
 cases h with
 | pure hp=>cases hp with
  | agg a b c=>exact⟨_,rfl,a,fun i x y h1 h2=> .pure (b i x y h1 h2),c⟩
 | agg a b c=>exact⟨_,rfl,a,b,c⟩
theorem pp(hR:Rel N base w0 S C a w)(hk:eK N base w0 S C K next){t:TypeId}{x:Operand}{f:Nat}(ho:o.op = .field t x f)(hx:inN N x=true)
  (h:(kw P o.dst t x f).wp0 P S K):o.wp P a w next Q:=by
 unfold kw at h
 simp only[cg]at h
 have hv:=hR.val hx
 revert h hv
 generalize S.val x=v
 generalize hy:a.eval x=y
 intro h hv
 split at h<;>first|exact h.elim|skip
 split at h<;>first|exact h.elim|skip
 rename_i cs q hq
 obtain⟨ys,rfl,hl,hp,h1⟩:=hv.aggV
 unfold dH at hq
 split at hq
 ·rename_i fs hu
  split at hq
  ·rename_i fd hf
   cases ht:bG P fd.type with
   | none=>rw[ht]at hq;simp at hq
   | some r =>
    rw[ht]at hq
    simp only[Option.map_some,Option.some.injEq]at hq
    subst hq
    obtain⟨v,r',h,hr,hkr⟩:=p6 (w:=w) (agg:=r.1) (n:=r.2) ht hl hp h1 h
    refine aZ hR hk (v:=v) (y:=r') ?_ hkr h
    simp[execOp,ho,hy,Instr.field,run_underlying hu,hf,asAgg,hr]
  ·cases hq
 ·cases hq
theorem pr(hR:Rel N base w0 S C a w)(hk:eK N base w0 S C K next){t e:TypeId}{len:Nat}{x ix:Operand}(ho:o.op = .index t x ix)(hu:P.underlying t=some (.array len e))(hx:inN N x=true)(hi:inN N ix=true)
  (h:(kx P o.dst t x ix).wp0 P S K):o.wp P a w next Q:=by
 unfold kx at h
 simp only[cg]at h
 have hv:=hR.val hx
 have hj:=hR.val hi
 revert h hv hj
 generalize S.val x=v
 generalize S.val ix=j
 generalize hy:a.eval x=y
 intro h hv hj
 split at h<;>first|exact h.elim|skip
 rename_i cs kd n
 have e2:=hj.val (z:= .int kd n) rfl
 split at h<;>first|exact h.elim|skip
 rename_i q hq
 obtain⟨ys,rfl,hl,hp,h1⟩:=hv.aggV
 simp only[tI,hu]at hq
 cases ht:bG P e with
 | none=>rw[ht]at hq;simp at hq
 | some r =>
  rw[ht]at hq
  simp only[Option.map_some,Option.some.injEq]at hq
  subst hq
  obtain⟨⟨h0,h2⟩,h⟩:=h
  obtain⟨d,i,hd,hii,hn,hag⟩:=iR ht
  obtain⟨v,r',h,hr,hkr⟩:=p6 (w:=w) (agg:=r.1) (n:=r.2) ht hl hp h1 h
  refine aZ hR hk (v:=v) (y:=r') ?_ hkr h
  simp only at h2
  simp[execOp,ho,hy,e2,Instr.index,asIntOf,run_underlying hu,h0,h2,sizeOf,typeInfo,hii,hn,hr]
theorem ol(hR:Rel N base w0 S C a w)(hk:eK N base w0 S C K next){i:Nat}{x:Operand}(ho:o.op = .extract x i)(hx:inN N x=true)
  (h:(fR o.dst x i).wp0 P S K):o.wp P a w next Q:=by
 unfold fR at h
 simp only[cg]at h
 have hv:=hR.val hx
 revert h hv
 generalize S.val x=v
 generalize hy:a.eval x=y
 intro h hv
 cases v with
 | tuple vs =>
  simp only at h
  split at h
  ·rename_i u hu
   have hlt:=(List.getElem?_eq_some_iff.1 hu).1
   obtain⟨ys,rfl,hs,hp⟩:∃ys:Array Value,y = .tuple ys∧ys.size=vs.length∧∀(i:Nat) (x:AV) (y:Value),vs[i]?=some x→ys[i]?=some y→KRel C x y:=by
    cases hv with
    | pure hp=>cases hp with
     | tuple hl hp=>exact⟨_,rfl,hl,fun i x y h1 h2=> .pure (hp i x y h1 h2)⟩
    | tuple hl hp=>exact⟨_,rfl,hl,hp⟩
   have hys:ys[i]?=some ys[i]:=by simp[hs,hlt]
   refine aZ hR hk (v:=u) (y:=ys[i]) ?_ (hp i u _ hu hys) h
   simp[execOp,ho,hy,Instr.extract,hys]
  ·exact h.elim
 | _=>exact h.elim
theorem kW(hR:Rel N base w0 S C a w):∀{xs:List Operand},(∀x∈xs,inN N x=true) →
  ∀(i:Nat) (x:AV) (y:Value),(xs.map S.val)[i]?=some x→(xs.map a.eval)[i]?=some y→KRel C x y:=by
 intro xs hx i x y h1 h2
 rw[List.getElem?_map,Option.map_eq_some_iff]at h1 h2
 obtain⟨u,hu,rfl⟩:=h1
 obtain⟨u',hu',rfl⟩:=h2
 rw[hu]at hu';cases hu'
 exact hR.val (hx u (List.mem_of_getElem? hu))
theorem mP(hR:Rel N base w0 S C a w)(hk:eK N base w0 S C K next){fn:Fn}{first captured:Array Operand}(ho:o.op = .makeFunc fn first captured)
  (hx:∀x∈first.toList,inN N x=true) (hy:∀x∈captured.toList,inN N x=true)
  (h:(eM o.dst fn first.toList captured.toList).wp0 P S K):o.wp P a w next Q:=by
 unfold eM at h
 simp only[eJ]at h
 refine aZ hR hk (y:= .func fn (first.map a.eval) (captured.map a.eval)) (by simp[execOp,ho,Instr.makeFunc]) ?_ h
 refine .func (by simp) (by simp) (fun i x y h1 h2=>kW hR hx i x y h1 ?_) (fun i x y h1 h2=>kW hR hy i x y h1 ?_)
 ·rw[←h2, ←Array.getElem?_toList,Array.toList_map]
 ·rw[←h2, ←Array.getElem?_toList,Array.toList_map]
theorem vV(hR:Rel N base w0 S C a w)(hk:eK N base w0 S C K next){c:Call}{t:TypeId}{x:Operand}(ho:o.op = .call c)(hb:c.callee = .builtin .len)
  (ha:c.args.toList=[x]) (hat:c.argTypes.toList=[t]) (hx:inN N x=true)
  (h:(zf P o.dst t x).wp0 P S K):o.wp P a w next Q:=by
 have ha':c.args=#[x]:=by rw[←Array.toArray_toList (xs:=c.args),ha]
 have hat':c.argTypes=#[t]:=by rw[←Array.toArray_toList (xs:=c.argTypes),hat]
 unfold zf at h
 simp only[cg]at h
 have hv:=hR.val hx
 have exec:∀T,(execOp a.eval o).run P w=((Builtin.len_ #[t] T #[a.eval x]).run P w).andThen fun v w'=> .ok (.value v) w':=by
  intro T
  simp[execOp,ho,resolve,hb,ha',hat',invoke,builtin]
  rfl
 revert h hv exec
 generalize S.val x=v
 generalize a.eval x=y
 intro h hv exec
 cases v with
 | slice sz es tok =>
  simp only at h
  split at h
  ·rename_i p hp
   obtain⟨e,n,b⟩:=p
   obtain⟨i,hu,_⟩:=aS hp
   have hl:∃A cap,y = .slice A es.length cap:=by
    cases hv with
    | pure hp=>cases hp with
     | nil=>exact⟨_,_,rfl⟩
     | slice=>exact⟨_,_,rfl⟩
    | tokNil=>exact⟨_,_,rfl⟩
    | tok=>exact⟨_,_,rfl⟩
   obtain⟨A,cap,rfl⟩:=hl
   refine aZ hR hk (y:= .int .i64 es.length) ?_ (.pure (.v _)) h
   rw[exec 0]
   simp[Builtin.len_,run_underlying hu,goInt]
  ·exact h.elim
 | own k g sz n cap =>
  simp only at h
  split at h
  ·rename_i p hp
   obtain⟨e,n',b⟩:=p
   obtain⟨i,hu,_⟩:=aS hp
   obtain⟨hg,h⟩:=h
   have hl:∃A c,y = .slice A n c:=by
    cases hv with
    | pure hp=>cases hp
    | ownOld hl=>rw[hR.gb k,hg]at hl;omega
    | own=>exact⟨_,_,rfl⟩
    | ownNil=>exact⟨_,_,rfl⟩
   obtain⟨A,c,rfl⟩:=hl
   refine aZ hR hk (y:= .int .i64 n) ?_ (.pure (.v _)) h
   rw[exec 0]
   simp[Builtin.len_,run_underlying hu,goInt]
  ·exact h.elim
 | v u =>
  cases u with
  | string s =>
   have e:=hv.val (z:= .string s) rfl
   subst e
   exact oO hR hk (exec 0) h
  | _=>exact h.elim
 | mp k g =>
  simp only at h
  split at h
  ·rename_i kt et hu
   obtain⟨k',g',c0,es,he,hb,h⟩:=iD h
   cases he
   obtain⟨hy,_,ents,c1,rfl,hh,hl,_⟩:=B4 hR hb hv
   subst hy
   refine aZ hR hk (y:= .int .i64 es.length) ?_ (.pure (.v _)) h
   rw[exec 0]
   simp[Builtin.len_,run_underlying hu,goInt,getObj,Sem.run,hh,hl]
  ·exact h.elim
 | _=>exact h.elim
theorem lL(hR:Rel N base w0 S C a w)(hk:eK N base w0 S C K next){t:TypeId}{x ix:Operand}(ho:o.op = .indexAddr t x ix)(hx:inN N x=true)(hi:inN N ix=true)
  (h:(d5 P o.dst t x ix).wp0 P S K):o.wp P a w next Q:=by
 unfold d5 at h
 simp only[cg]at h
 unfold asV at h
 cases hv':dR (S.val ix)with
 | none=>simp only[hv']at h;exact h.elim
 | some u =>
  simp only[hv']at h
  have hu:=(hR.val hi).val hv'
  cases u with
  | int kd n =>
   obtain⟨hn,h⟩:=h
   have hv:=hR.val hx
   have exec:(execOp a.eval o).run P w=((Instr.indexAt t (a.eval x) (.int kd n)).run P w).andThen fun v w'=> .ok (.value v) w':=by
    simp only[execOp,ho,hu,Sem.run_bind];rfl
   revert h hv exec
   generalize S.val x=v
   generalize a.eval x=y
   intro h hv exec
   cases v with
   | slice sz es tok =>
    simp only at h
    split at h
    ·rename_i el n' bt hp
     obtain⟨i,hut,hie,hsz,_⟩:=aS hp
     obtain⟨hnsz,h⟩:=h
     subst hnsz
     split at h
     ·rename_i e he
      have hlt:=(List.getElem?_eq_some_iff.1 he).1
      have hnn:n<es.length:=by omega
      obtain⟨b,off,cap,ys,rfl,hc,hp'⟩:∃(b off cap:Nat) (ys:Nat→Nat→Value),y = .slice (some ⟨b,off,none⟩) es.length cap ∧
        (∀(i:Nat) (e:AV) (c:Nat) (x:AV),es[i]?=some e→e.cells[c]?=some x→C.w.cell? ⟨b,off+i * n'+c,none⟩=some (ys i c)∧C.imm b (off+i * n'+c)∧(ys i c).oneCell'=true) ∧
        (∀(i:Nat) (e:AV) (c:Nat) (x:AV),es[i]?=some e→e.cells[c]?=some x→PRel C.w C.imm x (ys i c)):=by
       have key:∀{tk y},PRel C.w C.imm (.slice n' es tk) y→∃(b off cap:Nat) (ys:Nat→Nat→Value),y = .slice (some ⟨b,off,none⟩) es.length cap ∧
        (∀(i:Nat) (e:AV) (c:Nat) (x:AV),es[i]?=some e→e.cells[c]?=some x→C.w.cell? ⟨b,off+i * n'+c,none⟩=some (ys i c)∧C.imm b (off+i * n'+c)∧(ys i c).oneCell'=true) ∧
        (∀(i:Nat) (e:AV) (c:Nat) (x:AV),es[i]?=some e→e.cells[c]?=some x→PRel C.w C.imm x (ys i c)):=by
        intro tk y hp
        cases hp with
        | nil=>simp at hlt
        | slice ys _ _ _ _ hc hp=>exact⟨_,_,_,ys,rfl,hc,hp⟩
       cases hv with
       | pure hp=>exact key hp
       | tokNil=>simp at hlt
       | tok hp=>exact key hp
      refine aZ hR hk (v:= .cptr e.cells) (y:= .pointer (some ⟨b,off+n.toNat * n',none⟩)) ?_ (.pure (.cptr (ys n.toNat) (fun c x hx=>hc _ e c x he hx) (fun c x hx=>hp' _ e c x he hx))) h
      rw[exec]
      simp[Instr.indexAt,run_underlying hut,asIntOf,hn,hnn,sizeOf,typeInfo,hie,hsz,Addr.add_lit]
     ·exact h.elim
    ·exact h.elim
   | own k g sz m cap =>
    simp only at h
    split at h
    ·rename_i el n' bt hp
     obtain⟨i,hut,hie,hsz,_⟩:=aS hp
     obtain⟨⟨hnsz,hm⟩,hg,h⟩:=h
     subst hnsz
     obtain⟨c,e⟩:∃c,y = .slice (some ⟨C.jb k,0,none⟩) m c:=by
      cases hv with
      | pure hp=>cases hp
      | ownOld hl=>rw[hR.gb k,hg]at hl;omega
      | own=>exact⟨_,rfl⟩
      | ownNil=>omega
     refine aZ hR hk (v:= .ptr k g n' n.toNat 0) (y:= .pointer (some ⟨C.jb k,n.toNat * n'+0,none⟩)) ?_ (KRel.mkPtr hR hg _ _ _) h
     rw[exec,e]
     simp[Instr.indexAt,run_underlying hut,asIntOf,hn,hm,sizeOf,typeInfo,hie,hsz,Addr.add_lit]
    ·exact h.elim
   | ptr k g sz i off =>
    simp only at h
    split at h
    ·rename_i len n' hp
     obtain⟨el,i',hut,hie,hsz⟩:=fu hp
     obtain⟨hm,hg,h⟩:=h
     have e:=KRel.ptrCur hR hv hg
     refine aZ hR hk (v:= .ptr k g sz i (off+n.toNat * n')) (y:= .pointer (some ⟨C.jb k,i * sz+(off+n.toNat * n'),none⟩)) ?_ (KRel.mkPtr hR hg _ _ _) h
     rw[exec,e]
     simp[Instr.indexAt,run_underlying hut,asIntOf,hn,hm,sizeOf,typeInfo,hie,hsz,Addr.add_lit,Instr.sureAddr,Nat.add_assoc]
    ·exact h.elim
   | cptr cs =>
    simp only at h
    split at h
    ·rename_i len n' hp
     obtain⟨el,i',hut,hie,hsz⟩:=fu hp
     obtain⟨hm,h⟩:=h
     cases hv with
     | pure hp=>cases hp with
      | @cptr _ b off ys hc hp =>
       refine aZ hR hk (v:= .cptr (cs.drop (n.toNat * n'))) (y:= .pointer (some ⟨b,off+n.toNat * n',none⟩)) ?_ (.pure (.cptr (fun c=>ys (n.toNat * n'+c)) (fun c x hx=>?_) (fun c x hx=>?_))) h
       ·rw[exec]
        simp[Instr.indexAt,run_underlying hut,asIntOf,hn,hm,sizeOf,typeInfo,hie,hsz,Addr.add_lit,Instr.sureAddr]
       ·rw[List.getElem?_drop]at hx;have:=hc _ x hx;rwa [←Nat.add_assoc]at this
       ·rw[List.getElem?_drop]at hx;exact hp _ x hx
    ·exact h.elim
   | _=>exact h.elim
  | _=>exact h.elim
end
end Go.Am
namespace Go.Am
open Go.RowKit
section
variable {P:Program} {N:Nat} {base:Nat→Prop} {w0:World} {S:St} {C:Ctx} {a:Act} {w:World} {K:List Wr→Prop} {o:Oper} {next:Act→World→Prop} {Q:Exit→Act→World→Prop}
theorem bN(hk:eK N base w0 S C K next){S':St}{C':Ctx}{w':World}{v:AV}{y:Value}{ws:List Wr}(hrun:(execOp a.eval o).run P w = .ok (.value y) w')
  (hle:C.le C') (hR':Rel N base w0 S' C' a w') (hv:KRel C' v y) (h:K ws) (hS:S.puts ws=S'.puts (putA o.dst v)):o.wp P a w next Q:=by
 refine co hrun (hk ws C' _ _ h hle ?_)
 rw[hS]
 exact hR'.putA hv _
theorem xm(key:Key)(d:Nat)(hd:o.dst=some d)(hR:Rel N base w0 S C a w)(hk:eK N base w0 S C K next){v:AV}{y:Value}{t:TypeId}(hv:KRel C v y)(hT:∀T,key.l=1000+2 * T→t=T)(hT2:∀T,key.l≠1001+2 * T)
  (hrun:(execOp a.eval o).run P w = .ok (.value (.pointer (some ⟨w.heap.size,0,none⟩))) (w.alloc (.cells y.cells t)))
  (h:(tt key d v).wp0 P S K):o.wp P a w next Q:=by
 unfold tt at h
 ·obtain⟨⟨hs,h0⟩,h⟩:=h
  simp only[RM.wp0]at h
  obtain⟨hsz,hp,h1⟩:=hv.cells hs
  obtain⟨C',hle,hg,hj,_,_,_,hR'⟩:=hR.newBox key v.cells.length [v] y.cells t h0 (fun T hl=>⟨hT T hl,hsz⟩) (fun T hl=>absurd hl (hT2 T)) (fun i e he=>by
   cases i with
   | zero=>simp at he;rw[he]
   | succ i=>simp at he) (by simp[hsz]) (fun i e c x he hx=>by
   cases i with
   | zero =>
    simp at he;subst he
    have hlt:=(List.getElem?_eq_some_iff.1 hx).1
    refine⟨y.cells[c]'(by omega),by simp[hsz,hlt],hp c x _ hx (by simp[hsz,hlt]),h1 _ (by simp)⟩
   | succ i=>simp at he)
  refine bN hk hrun hle hR' (v:= .ptr key ((S.box key).1+1) v.cells.length 0 0) ?_ h (by rw[hd];rfl)
  have e:KRel C' (.ptr key (C'.gb key) v.cells.length 0 0) (.pointer (some ⟨C'.jb key,0 * v.cells.length+0,none⟩)):= .ptr
  rw[hg,hj]at e
  simpa using e
theorem AN(cx:Cx)(hR:Rel N base w0 S C a w)(hk:eK N base w0 S C K next){v:AV}{y:Value}{t:TypeId}(hv:KRel C v y)
  (hrun:(execOp a.eval o).run P w = .ok (.value (.pointer (some ⟨w.heap.size,0,none⟩))) (w.alloc (.cells y.cells t)))
  (h:(tr cx o.dst v).wp0 P S K):o.wp P a w next Q:=by
 unfold tr at h
 cases hd:o.dst with
 | none=>simp only[hd]at h;exact h.elim
 | some d =>
  simp only[hd]at h
  obtain⟨hl,h⟩:=h
  exact xm (cx.key d) d hd hR hk hv (fun T e=>by omega) (fun T e=>by omega) hrun h
theorem vQ(cx:Cx)(hR:Rel N base w0 S C a w)(hk:eK N base w0 S C K next){t:TypeId}{x:Operand}(ho:o.op = .box t x)(hx:inN N x=true)
  (h:(val x (tr cx o.dst)).wp0 P S K):o.wp P a w next Q:=by
 rw[cg]at h
 refine AN cx hR hk (hR.val hx) (t:=t) ?_ h
 simp[execOp,ho,Instr.box,newVar,newRow]
theorem ro(cx:Cx)(hR:Rel N base w0 S C a w)(hk:eK N base w0 S C K next){t:TypeId}(ho:o.op = .alloc t)
  (h:(lG P cx o.dst t).wp0 P S K):o.wp P a w next Q:=by
 unfold lG at h
 cases hz:bm P t with
 | none=>simp only[hz]at h;exact h.elim
 | some p =>
  obtain⟨n,z⟩:=p
  simp only[hz]at h
  obtain⟨i,y,hi,hy,hn,rfl,_,_⟩:=cZ hz
  have hrun:(execOp a.eval o).run P w = .ok (.value (.pointer (some ⟨w.heap.size,0,none⟩))) (w.alloc (.cells y.cells t)):=by
   simp[execOp,ho,Instr.alloc,zeroValue,typeInfo,hi,hy,newVar,newRow]
  cases hd:o.dst with
  | none=>simp only[hd]at h;exact h.elim
  | some d =>
   simp only[hd]at h
   split at h
   ·exact xm (cx.keyT d t) d hd hR hk (.pure (yM _ _ y)) (fun T e=>by have e:1000+2 * t=1000+2 * T:=e;exact Nat.eq_of_mul_eq_mul_left (by decide) (Nat.add_left_cancel e)) (fun T e=>by have e:1000+2 * t=1001+2 * T:=e;have:∀a b:Nat,1000+2 * a≠1001+2 * b:=(fun a b=>(by omega));exact this _ _ e) hrun h
   ·exact AN cx hR hk (.pure (bT _ _ y)) (t:=t) hrun (by rw[hd];exact h)
theorem iM(l:List Value)(b:Nat)(ys:List Value)(h:b+ys.length≤l.length)(p:Nat) :
  (l.take b++ys++l.drop (b+ys.length))[p]?=if p<b then l[p]? else if p<b+ys.length then ys[p-b]? else l[p]?:=by
 have hb:(l.take b).length=b:=by simp;omega
 by_cases h1:p<b
 ·rw[if_pos h1,List.append_assoc,List.getElem?_append_left (by omega),List.getElem?_take,if_pos h1]
 ·rw[if_neg h1]
  by_cases h2:p<b+ys.length
  ·rw[if_pos h2,List.append_assoc,List.getElem?_append_right (by omega),hb,List.getElem?_append_left (by omega)]
  ·rw[if_neg h2,List.getElem?_append_right (by simp;omega),List.getElem?_drop]
   congr 1
   simp
   omega
theorem FB{e v:AV}{off n sz:Nat}(he:e.cells.length=sz)(hv:v.cells.length=n)(h:off+n≤sz)(hv1:v.ok1=true∨∃cs,v = .agg cs):(Fz e off v).cells.length=sz:=by
 unfold Fz
 split
 ·rename_i hc;omega
 ·simp[AV.cells]at he hv ⊢
  omega
theorem FA{e v:AV}{off n sz:Nat}(he:e.cells.length=sz)(hv:v.cells.length=n)(h:off+n≤sz)(c:Nat) :
  (Fz e off v).cells[c]?=if c<off then e.cells[c]? else if c<off+n then v.cells[c-off]? else e.cells[c]?:=by
 unfold Fz
 split
 ·rename_i hc
  obtain⟨rfl,hc⟩:=hc
  by_cases h2:c<0+n
  ·simp only[Nat.not_lt_zero,if_false,h2,if_true,Nat.sub_zero]
  ·simp only[Nat.not_lt_zero,if_false,h2]
   rw[List.getElem?_eq_none (by omega),List.getElem?_eq_none (by omega)]
 ·show(e.cells.take off++v.cells++e.cells.drop (off+v.cells.length))[c]?=_
  have hb:(e.cells.take off).length=off:=by simp;omega
  by_cases h1:c<off
  ·rw[if_pos h1,List.append_assoc,List.getElem?_append_left (by omega),List.getElem?_take,if_pos h1]
  ·rw[if_neg h1]
   by_cases h2:c<off+n
   ·rw[if_pos h2,List.append_assoc,List.getElem?_append_right (by omega),hb,List.getElem?_append_left (by omega)]
   ·rw[if_neg h2,List.getElem?_append_right (by simp;omega),List.getElem?_drop]
    congr 1
    simp
    omega
theorem rD(hR:Rel N base w0 S C a w)(hk:eK N base w0 S C K next){t:TypeId}{x y:Operand}(ho:o.op = .store t x y)(hd:o.dst=none)(hx:inN N x=true)(hy:inN N y=true)
  (h:(lO P t x y).wp0 P S K):o.wp P a w next Q:=by
 unfold lO at h
 cases ht:bG P t with
 | none=>simp only[ht]at h;exact h.elim
 | some p =>
  obtain⟨agg,n⟩:=p
  simp only[ht,cg]at h
  have hv:=hR.val hx
  have hu:=hR.val hy
  revert h hv hu
  generalize S.val x=v
  generalize S.val y=u
  generalize hX:a.eval x=X
  generalize hY:a.eval y=Y
  intro h hv hu
  cases v with
  | ptr k g sz i off =>
   simp only[cg]at h
   simp only[RM.wp0]at h
   generalize hu':S.val y=u' at h
   split at h
   ·rename_i sz' es hs
    obtain⟨⟨hg,rfl,h0,hst,hlen,hle,hone⟩,h⟩:=h
    split at h
    ·rename_i e he
     have hXp:=KRel.ptrCur hR hv hg
     have hne:es≠[]:=by rintro rfl;simp at he
     have hbox:=hR.box k _ es hs
     obtain⟨hown,arr,et,harr,hcap,hcell⟩:=hbox.own h0 hne
     rw[hR.cw]at harr
     have huK:KRel C u' Y:=by rw[←hu', ←hY];exact hR.val hy
     obtain⟨hsz,hp,h1⟩:=huK.cells hst
     have hi:=(List.getElem?_eq_some_iff.1 he).1
     have hwe:=hbox.wid h0 i e he
     have hmul:(i+1) * sz'≤es.length * sz':=Nat.mul_le_mul_right _ hi
     rw[Nat.add_mul,Nat.one_mul]at hmul
     have hylen:Y.cells.toList.length=n:=by simp[hsz,hlen]
     have hst':=run_storeCells_at P (C.jb k) (i * sz'+off) et Y.cells.toList 0 arr w harr (by rw[hylen];omega) (fun v hv=>h1 v (by simpa using hv))
     simp only[Nat.add_zero]at hst'
     obtain⟨arr',harr'⟩:∃arr':Array Value,(arr.toList.take (i * sz'+off)++Y.cells.toList++arr.toList.drop (i * sz'+off+Y.cells.toList.length)).toArray=arr':=⟨_,rfl⟩
     rw[harr']at hst'
     have hget:∀p,arr'[p]?=if p<i * sz'+off then arr[p]? else if p<i * sz'+off+n then Y.cells[p-(i * sz'+off)]? else arr[p]?:=by
      intro p
      rw[←harr']
      have:=iM arr.toList (i * sz'+off) Y.cells.toList (by rw[hylen];simp;omega) p
      rw[hylen]at this
      simpa[hylen]using this
     have hsize:arr'.size=arr.size:=by
      rw[←harr'];simp only[List.size_toArray,List.length_append,List.length_take,List.length_drop,hylen,Array.length_toList];omega
     obtain⟨C',hle',hgb,hjb,hR'⟩:=hR.boxWrite k hs h0 hne (es.set i (Fz e off u')) harr arr' hsize (fun i' e' he'=>by
       by_cases hii:i=i'
       ·subst hii
        rw[List.getElem?_set_self hi]at he'
        simp at he';rw[←he'];exact FB hwe hlen hle hone
       ·rw[List.getElem?_set_ne hii]at he'
        exact hbox.wid h0 i' e' he') (by rw[List.length_set,hsize];exact hcap) (fun i' e' c x' he' hx'=>by
       by_cases hii:i=i'
       ·subst hii
        rw[List.getElem?_set_self hi]at he'
        ·simp at he';subst he'
         rw[FA hwe hlen hle]at hx'
         split at hx'
         ·rename_i hc
          obtain⟨y',a1,a2,a3⟩:=hcell i e c x' he hx'
          exact⟨y',by rw[hget,if_pos (by omega)];exact a1,a2,a3⟩
         ·split at hx'
          ·rename_i hc1 hc2
           have hlt:=(List.getElem?_eq_some_iff.1 hx').1
           refine⟨Y.cells[c-off]'(by omega),?_,hp (c-off) x' _ hx' (by simp[hsz,hlt]),h1 _ (by simp)⟩
           rw[hget,if_neg (by omega),if_pos (by omega)]
           have:i * sz'+c-(i * sz'+off)=c-off:=by omega
           rw[this];simp[hsz,hlt]
          ·rename_i hc1 hc2
           obtain⟨y',a1,a2,a3⟩:=hcell i e c x' he hx'
           exact⟨y',by rw[hget,if_neg (by omega),if_neg (by omega)];exact a1,a2,a3⟩
       ·rw[List.getElem?_set_ne hii]at he'
        obtain⟨y',a1,a2,a3⟩:=hcell i' e' c x' he' hx'
        have hcs:c<sz':=by rw[←hbox.wid h0 i' e' he'];exact(List.getElem?_eq_some_iff.1 hx').1
        refine⟨y',?_,a2,a3⟩
        rw[hget]
        by_cases hlt:i'<i
        ·have hm:(i'+1) * sz'≤i * sz':=Nat.mul_le_mul_right _ hlt
         rw[Nat.add_mul,Nat.one_mul]at hm
         rw[if_pos (by omega)];exact a1
        ·have hm:(i+1) * sz'≤i' * sz':=Nat.mul_le_mul_right _ (by omega)
         rw[Nat.add_mul,Nat.one_mul]at hm
         rw[if_neg (by omega),if_neg (by omega)];exact a1)
     refine qz (w':=w.setRow (C.jb k) arr') ?_ (hk _ C' _ _ h hle' ?_)
     ·obtain⟨d,ii,hd,hii,hn,_⟩:=iR ht
      simp only[execOp,ho,hX,hXp,hY,Instr.storeAt,Instr.sureAddr,storeVar]
      simp[sizeOf,typeInfo,hii,hn,hsz,hlen,hst']
     ·rw[hd];simpa[Act.put,St.puts]using hR'
    ·exact h.elim
   ·exact h.elim
  | _=>exact h.elim
end
end Go.Am
namespace Go.Am
open Go.RowKit
section
variable {P:Program} {N:Nat} {base:Nat→Prop} {w0:World} {S:St} {C:Ctx} {a:Act} {w:World} {K:List Wr→Prop} {o:Oper} {next:Act→World→Prop} {Q:Exit→Act→World→Prop}
theorem jK(off:Nat):∀(l:List Value) (k:Nat) (cs:Array Value),off+k+l.length≤cs.size→∀p,
  ((l.zipIdx k).foldl (fun cs (c,j)=>cs.setIfInBounds (off+j) c) cs)[p]?=if p<off+k then cs[p]? else if p<off+k+l.length then l[p-(off+k)]? else cs[p]?
 | [],k,cs,_,p=>by
  simp only[List.zipIdx_nil,List.foldl_nil,List.length_nil,Nat.add_zero]
  split
  ·rfl
  ·rfl
 | x::l,k,cs,h,p=>by
  simp only[List.length_cons]at h
  rw[List.zipIdx_cons,List.foldl_cons,jK off l (k+1) _ (by simp;omega) p]
  simp only[List.length_cons,Array.getElem?_setIfInBounds]
  by_cases h1:p<off+k
  ·rw[if_pos (by omega),if_pos h1,if_neg (by omega)]
  ·by_cases h2:p=off+k
   ·subst h2
    rw[if_pos (by omega),if_neg h1,if_pos rfl,if_pos (by omega),if_pos (by omega)]
    simp
   ·rw[if_neg (by omega),if_neg h1]
    by_cases h3:p<off+k+(l.length+1)
    ·rw[if_pos (by omega),if_pos h3]
     obtain⟨q,rfl⟩:∃q,p=off+k+1+q:=⟨p-(off+k+1),by omega⟩
     have e1:off+k+1+q-(off+(k+1))=q:=by omega
     have e2:off+k+1+q-(off+k)=q+1:=by omega
     rw[e1,e2];rfl
    ·rw[if_neg (by omega),if_neg h3,if_neg (by omega)]
theorem mL(off:Nat):∀(l:List Value) (k:Nat) (cs:Array Value),((l.zipIdx k).foldl (fun cs (c,j)=>cs.setIfInBounds (off+j) c) cs).size=cs.size
 | [],k,cs=>rfl
 | x::l,k,cs=>by rw[List.zipIdx_cons,List.foldl_cons,mL off l (k+1)];simp
theorem qZ(off:Nat)(v:Array Value)(cs:Array Value) :
  v.zipIdx.foldl (fun cs (c,j)=>cs.setIfInBounds (off+j) c) cs=(v.toList.zipIdx 0).foldl (fun cs (c,j)=>cs.setIfInBounds (off+j) c) cs:=by
 rw[←Array.foldl_toList,Array.toList_zipIdx]
def JW(R:AV→Value→Prop)(cs:List AV)(arr:Array Value):Prop :=
 arr.size=cs.length∧∀(i:Nat) (x:AV) (y:Value),cs[i]?=some x→arr[i]?=some y→R x y
theorem iv{R:AV→Value→Prop}(hR:∀{x:AV} {y:Value},R x y→x.storable=true→JW R x.cells y.cells)(place:Nat→Option (Nat×Nat)) :
  ∀(parts:List (Nat×AV)) (ps:List (Nat×Value)) (cs cs':List AV) (arr:Array Value),parts.length=ps.length →
   (∀(i:Nat) (p:Nat×AV) (q:Nat×Value),parts[i]?=some p→ps[i]?=some q→p.1=q.1∧R p.2 q.2) →
   JW R cs arr→jl place cs parts=some cs'→∃arr',Instr.fill place arr ps=some arr'∧JW R cs' arr'
 | [],ps,cs,cs',arr,hl,_,hp,h=>by
  have:ps=[]:=List.eq_nil_of_length_eq_zero hl.symm
  subst this
  simp only[jl,Option.some.injEq]at h
  subst h
  exact⟨arr,rfl,hp⟩
 | (i,v)::rest,[],_,_,_,hl,_,_,_=>by simp at hl
 | (i,v)::rest,(j,y)::ps,cs,cs',arr,hl,hpp,hp,h=>by
  obtain⟨rfl,hvy⟩:=hpp 0 (i,v) (j,y) rfl rfl
  simp only at hvy
  simp only[jl]at h
  simp only[Instr.fill]
  cases hpl:place i with
  | none=>simp[hpl]at h
  | some q =>
   obtain⟨off,n⟩:=q
   simp only[hpl]at h ⊢
   split at h
   ·rename_i hc
    obtain⟨hn,hle,hst⟩:=hc
    obtain⟨hs,hcell⟩:=hR hvy hst
    have hys:y.cells.size=n:=by omega
    rw[if_neg (by simp only[ne_eq,hys,not_true_eq_false,Bool.or_eq_true,decide_eq_true_eq,decide_false,Bool.false_eq_true,false_or];have:=hp.1;omega)]
    refine iv hR place rest ps _ cs' _ (by simpa using hl) (fun k p q h1 h2=>hpp (k+1) p q (by simpa using h1) (by simpa using h2)) ?_ h
    have hlen:=hp.1
    refine⟨?_,fun p x z hx hz=>?_⟩
    ·rw[qZ,mL];simp;omega
    ·rw[qZ,jK off y.cells.toList 0 arr (by simp;omega)]at hz
     have hb:(cs.take off).length=off:=by simp;omega
     by_cases h1:p<off
     ·rw[List.append_assoc,List.getElem?_append_left (by omega),List.getElem?_take,if_pos h1]at hx
      rw[if_pos (by omega)]at hz
      exact hp.2 p x z hx hz
     ·by_cases h2:p<off+n
      ·rw[List.append_assoc,List.getElem?_append_right (by omega),hb,List.getElem?_append_left (by omega)]at hx
       rw[if_neg (by omega),if_pos (by simp;omega)]at hz
       exact hcell (p-off) x z hx (by simpa using hz)
      ·rw[List.getElem?_append_right (by simp;omega),List.getElem?_drop]at hx
       rw[if_neg (by omega),if_neg (by simp;omega)]at hz
       refine hp.2 p x z ?_ hz
       rw[←hx];congr 1;simp;omega
   ·simp at h
theorem KRel.pairCells{C:Ctx}{x:AV}{y:Value}(h:KRel C x y∧True)(hs:x.storable=true):JW (fun x y=>KRel C x y∧True) x.cells y.cells:=by
 obtain⟨h1,h2,_⟩:=h.1.cells hs
 exact⟨h1,fun i a b ha hb=>⟨h2 i a b ha hb,trivial⟩⟩
theorem m9(place:Nat→Option (Nat×Nat)):∀(ps:List (Nat×Value)) (arr arr':Array Value),(∀y∈arr,y.oneCell'=true)→(∀p∈ps,∀y∈p.2.cells,y.oneCell'=true) →
  Instr.fill place arr ps=some arr'→∀y∈arr',y.oneCell'=true
 | [],arr,arr',h1,_,h=>by simp only[Instr.fill,Option.some.injEq]at h;subst h;exact h1
 | (i,v)::ps,arr,arr',h1,h2,h=>by
  simp only[Instr.fill]at h
  split at h
  ·simp at h
  ·split at h
   ·simp at h
   ·rename_i off n _ hc
    refine m9 place ps _ arr' (fun y hy=>?_) (fun p hp=>h2 p (by simp[hp])) h
    rw[qZ]at hy
    obtain⟨p,hp⟩:=Array.getElem?_of_mem hy
    simp only[ne_eq,Bool.or_eq_true,decide_eq_true_eq,not_or,Decidable.not_not,Nat.not_lt]at hc
    rw[jK off _ 0 arr (by simp;omega)]at hp
    split at hp
    ·exact h1 y (Array.mem_of_getElem? hp)
    ·split at hp
     ·have:=List.mem_of_getElem? hp
      exact h2 (i,v) (by simp) y (by simpa using this)
     ·exact h1 y (Array.mem_of_getElem? hp)
theorem fV(place:Nat→Option (Nat×Nat)):∀(parts:List (Nat×AV)) (cs cs':List AV),jl place cs parts=some cs'→∀p∈parts,p.2.storable=true
 | [],_,_,_=>by simp
 | (i,v)::rest,cs,cs',h=>by
  simp only[jl]at h
  split at h
  ·split at h
   ·rename_i hc
    intro p hp
    rcases List.mem_cons.1 hp with rfl|hp
    ·exact hc.2.2
    ·exact fV place rest _ _ h p hp
   ·simp at h
  ·simp at h
theorem rr(hR:Rel N base w0 S C a w)(hk:eK N base w0 S C K next){t:TypeId}{parts:Array (Nat×Operand)}(ho:o.op = .build t parts)
  (hx:∀p∈parts.toList,inN N p.2=true) (h:(lH P o.dst t parts.toList).wp0 P S K):o.wp P a w next Q:=by
 unfold lH at h
 cases hz:bm P t with
 | none=>simp only[hz]at h;exact h.elim
 | some q =>
  obtain⟨n,z⟩:=q
  cases hpl:bS P t with
  | none=>simp only[hz,hpl]at h;exact h.elim
  | some place =>
   simp only[hz,hpl,eJ]at h
   obtain⟨i,y,hi,hy,hn,rfl,hst,hzl⟩:=cZ hz
   split at h
   ·rename_i cs hcs
    have hzK:KRel C (ofValue y) y:= .pure (bT _ _ y)
    obtain⟨hz1,hz2,hz3⟩:=hzK.cells hst
    have hzip:(parts.toList.map (·.1)).zip ((parts.toList.map (·.2)).map S.val)=parts.toList.map fun p=>(p.1,S.val p.2):=by
     rw[List.map_map,List.zip_map'];rfl
    rw[hzip]at hcs
    obtain⟨arr',hf,hp⟩:=iv (R:=fun x y=>KRel C x y∧True) (fun h hs=>KRel.pairCells h hs) place (parts.toList.map fun p=>(p.1,S.val p.2)) (parts.toList.map fun p=>(p.1,a.eval p.2))
     (ofValue y).cells cs y.cells (by simp) (fun j p q h1 h2=>by
      rw[List.getElem?_map,Option.map_eq_some_iff]at h1 h2
      obtain⟨u,hu,rfl⟩:=h1
      obtain⟨u',hu',rfl⟩:=h2
      rw[hu]at hu';cases hu'
      exact⟨rfl,hR.val (hx u (List.mem_of_getElem? hu)),trivial⟩) ⟨hz1,fun i a b h1 h2=>⟨hz2 i a b h1 h2,trivial⟩⟩ hcs
    have hone:=m9 place _ _ _ hz3 (fun p hp=>by
     obtain⟨u,hu,rfl⟩:=List.mem_map.1 hp
     have hs:=fV place _ _ _ hcs (u.1,S.val u.2) (List.mem_map.2 ⟨u,hu,rfl⟩)
     exact((hR.val (hx u hu)).cells hs).2.2) hf
    have hbuilt:P.built t (parts.map fun p=>(p.1,a.eval p.2)).toList=some arr':=by
     unfold Program.built
     unfold bS at hpl
     cases hu:P.underlying t with
     | none=>simp[hu]at hpl
     | some d =>
      cases d with
      | array m e =>
       simp only[hu,Option.map_eq_some_iff]at hpl
       obtain⟨ie,hie,rfl⟩:=hpl
       simp only[hi,hy,hie,Array.toList_map]
       exact hf
      | struct fields =>
       simp only[hu,Option.map_eq_some_iff]at hpl
       obtain⟨places,hps,rfl⟩:=hpl
       simp only[hi,hy,hps,Array.toList_map]
       exact hf
      | _=>simp[hu]at hpl
    refine aZ hR hk (v:= .agg cs) (y:= .agg arr') ?_ (.agg hp.1 (fun i x y h1 h2=>(hp.2 i x y h1 h2).1) hone) h
    simp only[execOp,ho,Sem.run_bind,run_build w t _ arr' hbuilt,Result.andThen_ok]
    rfl
   ·exact h.elim
theorem gx:∀{cs l:List AV},de cs=some l→l.length=cs.length
 | [],l,h=>by simp[de]at h;subst h;rfl
 | x::xs,l,h=>by
  simp only[de]at h
  split at h
  ·rename_i y ys _ h2
   have:=gx h2
   simp at h;subst h;simp[this]
  ·simp at h
theorem gw:∀{cs l:List AV},de cs=some l→∀(i:Nat) (y:AV),l[i]?=some y→∃x,cs[i]?=some x∧toPure x=some y
 | [],l,h,i,y,hy=>by simp[de]at h;subst h;simp at hy
 | a::xs,l,h,i,y,hy=>by
  simp only[de]at h
  split at h
  ·rename_i z zs h1 h2
   simp at h;subst h
   cases i with
   | zero=>simp at hy;subst hy;exact⟨a,rfl,h1⟩
   | succ i=>simpa using gw h2 i y (by simpa using hy)
  ·simp at h
theorem cE{n:Nat}:∀{l:List AV},uj n l=true→∀(i:Nat) (x:AV),l[i]?=some x→x.cells.length=n∧x.storable=true
 | [],_,i,x,h=>by simp at h
 | y::ys,h,i,x,hx=>by
  simp only[uj,Bool.and_eq_true,beq_iff_eq]at h
  cases i with
  | zero=>simp at hx;subst hx;exact h.1
  | succ i=>exact cE h.2 i x (by simpa using hx)
def flat:List AV→List AV
 | []=>[]
 | x::xs=>x.cells++flat xs
theorem qY{n:Nat}:∀{l:List AV},(∀(i:Nat) (x:AV),l[i]?=some x→x.cells.length=n)→(flat l).length=l.length * n
 | [],_=>by simp[flat]
 | x::xs,h=>by
  have h0:=h 0 x rfl
  have:=qY (l:=xs) (n:=n) fun i y hy=>h (i+1) y (by simpa using hy)
  simp[flat,this,h0,Nat.add_mul];omega
theorem nc{n:Nat}:∀{l:List AV},(∀(i:Nat) (x:AV),l[i]?=some x→x.cells.length=n)→∀(i:Nat) (e:AV) (c:Nat),l[i]?=some e→c<n→(flat l)[i * n+c]?=e.cells[c]?
 | [],_,i,e,c,h,_=>by simp at h
 | x::xs,h,i,e,c,he,hc=>by
  have h0:=h 0 x rfl
  cases i with
  | zero =>
   simp at he;subst he
   simp only[flat,Nat.zero_mul,Nat.zero_add]
   rw[List.getElem?_append_left (by omega)]
  | succ i =>
   simp only[flat,Nat.add_mul,Nat.one_mul]
   rw[List.getElem?_append_right (by omega)]
   have:=nc (l:=xs) (n:=n) (fun i y hy=>h (i+1) y (by simpa using hy)) i e c (by simpa using he) hc
   rw[←this];congr 1;omega
theorem nH(n:Nat):∀(rest:List AV) (i:Nat) (pre suf:List AV),pre.length=i * n→suf.length=rest.length * n →
  (∀(i:Nat) (x:AV),rest[i]?=some x→x.cells.length=n∧x.storable=true) →
  jl (fun i=>some (i * n,n)) (pre++suf) ((List.range' i rest.length).zip rest)=some (pre++flat rest)
 | [],i,pre,suf,_,hs,_=>by
  have:suf=[]:=List.eq_nil_of_length_eq_zero (by simpa using hs)
  subst this
  simp[jl,flat]
 | x::rest,i,pre,suf,hp,hs,h=>by
  obtain⟨h0,h1⟩:=h 0 x rfl
  simp only[List.length_cons,Nat.add_mul,Nat.one_mul]at hs
  simp only[List.length_cons,List.range'_succ,List.zip_cons_cons,jl]
  rw[if_pos ⟨h0,by simp;omega,h1⟩]
  have e1:(pre++suf).take (i * n)=pre:=by rw[←hp];simp
  have e2:(pre++suf).drop (i * n+n)=suf.drop n:=by rw[←hp];simp
  rw[e1,e2]
  have:=nH n rest (i+1) (pre++x.cells) (suf.drop n) (by simp[hp,h0,Nat.add_mul]) (by simp;omega) (fun i y hy=>h (i+1) y (by simpa using hy))
  rw[this];simp[flat]
theorem ku(hR:Rel N base w0 S C a w)(hk:eK N base w0 S C K next){t:TypeId}{len:Nat}{parts:Array (Nat×Operand)}(ho:o.op = .buildSlice t len parts)
  (hx:∀p∈parts.toList,inN N p.2=true) (h:(dt P o.dst t len parts.toList).wp0 P S K):o.wp P a w next Q:=by
 unfold dt at h
 cases hts:aU P t with
 | none=>simp only[hts]at h;exact h.elim
 | some q =>
  obtain⟨e,n,bt⟩:=q
  simp only[hts]at h
  obtain⟨⟨hr,hmax,hn0,hzs⟩,h⟩:=h
  rw[eJ]at h
  obtain⟨ie,hu,hie,hsz,_⟩:=aS hts
  cases hz:bm P e with
  | none=>simp[hz]at hzs
  | some q =>
   obtain⟨nz,z⟩:=q
   simp only[hz,Option.map_some,Option.some.injEq]at hzs
   have hzs':=hzs.symm
   subst hzs'
   obtain⟨i,y,hi,hy,hyn,rfl,hst,hzl⟩:=cZ hz
   rw[hie]at hi;cases hi
   have hzK:KRel C (ofValue y) y:= .pure (bT _ _ y)
   obtain⟨_,_,hzone⟩:=hzK.cells hst
   split at h
   ·rename_i es hes
    obtain⟨hszs,h⟩:=h
    have hel:es.length=len:=by
     rw[gx hes]
     have:=congrArg List.length hr
     simpa using this
    have hpl:parts.toList.length=len:=by have:=congrArg List.length hr;simpa using this
    have hrel:∀(j:Nat) (x:AV) (v:Value),es[j]?=some x→(parts.toList.map fun p=>a.eval p.2)[j]?=some v→PRel w C.imm x v:=by
     intro j x v h1 h2
     obtain⟨u,hu,hp⟩:=gw hes j x h1
     rw[List.map_map,List.getElem?_map,Option.map_eq_some_iff]at hu
     rw[List.getElem?_map,Option.map_eq_some_iff]at h2
     obtain⟨p,hp1,rfl⟩:=hu
     obtain⟨p',hp2,rfl⟩:=h2
     rw[hp1]at hp2;cases hp2
     rw[←hR.cw]
     exact(hR.val (hx p (List.mem_of_getElem? hp1))).toPure hp
    have hzero:∀(zs:Array Value),zs.size=len * n→∃arr',Instr.fill (fun i=>some (i * n,n)) zs (parts.map fun p=>(p.1,a.eval p.2)).toList=some arr' ∧
      JW (fun x v=>PRel w C.imm x v) (flat es) arr':=by
     intro zs hzs
     have hfa:=nH n es 0 [] (List.replicate (len * n) .junk) (by simp) (by simp[hel]) (cE hszs)
     simp only[List.nil_append]at hfa
     refine iv (R:=fun x v=>PRel w C.imm x v) (fun h hs=>⟨(h.cells hs).1,(h.cells hs).2.1⟩) (fun i=>some (i * n,n)) _ _ _ _ zs (by simp[hel,hpl]) (fun j p q h1 h2=>?_)
      ⟨by simp[hzs],fun i x y hx hy=>?_⟩ hfa
     ·rw[List.getElem?_zip_eq_some]at h1
      obtain⟨h1a,h1b⟩:=h1
      rw[Array.toList_map,List.getElem?_map,Option.map_eq_some_iff]at h2
      obtain⟨u,hu,rfl⟩:=h2
      refine⟨?_,hrel j p.2 _ h1b (by rw[List.getElem?_map,hu];rfl)⟩
      have:(parts.toList.map (·.1))[j]?=some u.1:=by rw[List.getElem?_map,hu];rfl
      rw[hr,hel.symm]at this
      have e1:=(List.getElem?_eq_some_iff.1 h1a).2
      have e2:=(List.getElem?_eq_some_iff.1 this).2
      simp at e1 e2;omega
     ·have:=List.mem_of_getElem? hx
      rw[(List.mem_replicate.1 this).2];exact .junk _
    obtain⟨zc,hzc,hzone'⟩:∃zc:Array Value,zc=(Array.range (len * n)).map (fun x=>(if len * n=0 then #[]else y.cells)[x%(if len * n=0 then #[]else y.cells).size]!)∧∀v∈zc,v.oneCell'=true:=by
     refine⟨_,rfl,fun v hv=>?_⟩
     simp only[Array.mem_map,Array.mem_range]at hv
     obtain⟨p,hp,rfl⟩:=hv
     have hne:¬len * n=0:=by omega
     simp only[if_neg hne]
     have hpos:0<y.cells.size:=by omega
     have hlt:p%y.cells.size<y.cells.size:=Nat.mod_lt _ hpos
     simp only[getElem!_def,Array.getElem?_eq_getElem hlt]
     exact hzone _ (by simp)
    obtain⟨arr',hf,hpair⟩:=hzero zc (by rw[hzc];simp)
    have hflen:=qY fun i x hx=>(cE hszs i x hx).1
    have hone:=m9 _ _ _ _ hzone' (fun p hp=>by
     rw[Array.toList_map]at hp
     obtain⟨u,hu,rfl⟩:=List.mem_map.1 hp
     obtain⟨j,hj⟩:=List.getElem?_of_mem hu
     have hjl:j<es.length:=by rw[hel, ←hpl];exact(List.getElem?_eq_some_iff.1 hj).1
     have hs:=(cE hszs j es[j] (by simp[hjl])).2
     have:=hrel j es[j] (a.eval u.2) (by simp[hjl]) (by rw[List.getElem?_map,hj];rfl)
     exact(this.cells hs).2.2) hf
    have hrun:(execOp a.eval o).run P w = .ok (.value (.slice (some ⟨w.heap.size,0,none⟩) len len)) (w.alloc (.cells arr' e)):=by
     have hmax':¬ 2^24<len * n:=by omega
     rw[hzc]at hf
     simp only[execOp,ho]
     by_cases h0:len * n=0
     ·simp only[h0,if_true]at hf
      simp[Instr.buildSlice,run_underlying hu,sizeOf,typeInfo,hie,hsz,h0,newRow]at hf ⊢
      simp[hf]
     ·simp only[h0,if_false]at hf
      simp[Instr.buildSlice,run_underlying hu,sizeOf,typeInfo,zeroValue,hie,hsz,hy,h0,newRow,hmax]at hf ⊢
      simp[hf]
      omega
    have hb:Below w.heap.size w (w.alloc (.cells arr' e)):=(Below.refl _ _).alloc (Nat.le_refl _) _
    obtain⟨C',hle,hcw,himm,hR'⟩:=hR.called hb (fun b i=>b=w.heap.size∧i<arr'.size) (fun b i h=>by rw[h.1];simp) hR.baseLe
    have hcell:∀p,(w.alloc (.cells arr' e)).cell? ⟨w.heap.size,p,none⟩=arr'[p]?:=fun p=>World.cell?_alloc_new _ _ _ _
    refine bN hk hrun hle hR' (v:= .slice n es .tight) (.pure ?_) h rfl
    rw[hcw, ←hel]
    refine .slice (fun i c=>(arr'[i * n+c]?).getD undef) (Nat.le_refl _) (.inr ⟨rfl,rfl⟩) ?_ (fun i x hx=>(cE hszs i x hx).1) (fun i x c u h1 h2=>?_) (fun i x c u h1 h2=>?_)
    ·have:len≤len * n:=Nat.le_mul_of_pos_right _ hn0
     rw[hel];unfold maxLen;omega
    ·have hcn:c<n:=by rw[←(cE hszs i x h1).1];exact(List.getElem?_eq_some_iff.1 h2).1
     have hg:=nc (fun i x hx=>(cE hszs i x hx).1) i x c h1 hcn
     rw[h2]at hg
     have hlt:i * n+c<arr'.size:=by rw[hpair.1];exact(List.getElem?_eq_some_iff.1 hg).1
     refine⟨by rw[Nat.zero_add,hcell];simp[hlt],(himm _ _).2 (.inr ⟨Nat.le_refl _,rfl,by omega⟩),?_⟩
     simp only[Array.getElem?_eq_getElem hlt,Option.getD_some]
     exact hone _ (by simp)
    ·have hcn:c<n:=by rw[←(cE hszs i x h1).1];exact(List.getElem?_eq_some_iff.1 h2).1
     have hg:=nc (fun i x hx=>(cE hszs i x hx).1) i x c h1 hcn
     rw[h2]at hg
     have hlt:i * n+c<arr'.size:=by rw[hpair.1];exact(List.getElem?_eq_some_iff.1 hg).1
     have:=hpair.2 (i * n+c) u arr'[i * n+c] hg (by simp[hlt])
     simp only[Array.getElem?_eq_getElem hlt,Option.getD_some]
     have h3:=KRel.le hle (.pure (by rw[hR.cw];exact this))
     refine this.mono fun b i hi=>⟨(himm b i).2 (.inl hi),World.cell?_of_block (hb.block b (hR.immLt b i hi))⟩
   ·exact h.elim
end
end Go.Am
namespace Go.Am
open Go.RowKit
section
variable {P:Program} {N:Nat} {base:Nat→Prop} {w0:World} {S:St} {C:Ctx} {a:Act} {w:World} {K:List Wr→Prop} {o:Oper} {next:Act→World→Prop} {Q:Exit→Act→World→Prop}
theorem PRel.resz{w:World}{imm:Nat→Nat→Prop}{sz n:Nat}{es:List AV}{tok:Tok}{y:Value}(h:PRel w imm (.slice sz es tok) y)(hs:es≠[]→sz=n):PRel w imm (.slice n es tok) y:=by
 by_cases he:es=[]
 ·subst he
  cases h with
  | nil _ _ ht=>exact .nil _ _ ht
  | slice ys hcap ht hm hsz hc hp=>exact .slice ys hcap ht hm (by simp) (by simp) (by simp)
 ·rw[←hs he];exact h
theorem lY{w:World}{imm:Nat→Nat→Prop}{n b off len cap:Nat}{es:List AV}{tok:Tok}(hn:0<n)(h:PRel w imm (.slice n es tok) (.slice (some ⟨b,off,none⟩) len cap)) :
  len=es.length∧∃news:List Value,news.length=es.length * n∧(∀(j:Nat) (u:Value),news[j]?=some u→w.cell? ((⟨b,off,none⟩:Addr).add j)=some u∧imm b (off+j)) ∧
   (∀u∈news,u.oneCell'=true)∧(∀(i:Nat) (e:AV),es[i]?=some e→e.cells.length=n) ∧
   ∀(i:Nat) (e:AV) (c:Nat) (x:AV),es[i]?=some e→e.cells[c]?=some x→∃y,news[i * n+c]?=some y∧PRel w imm x y:=by
 cases h with
 | slice ys hcap ht hm hsz hc hp =>
  have hdiv:∀i c,c<n→(i * n+c)/n=i∧(i * n+c)%n=c:=fun i c hc=>by
   rw[Nat.mul_comm,Nat.mul_add_div hn,Nat.mul_add_mod]
   simp[Nat.div_eq_of_lt hc,Nat.mod_eq_of_lt hc]
  have hlook:∀j,j<es.length * n→∃(h1:j/n<es.length),j=j/n * n+j%n∧j%n<es[j/n].cells.length:=fun j hj=>by
   have h1:j/n<es.length:=Nat.div_lt_of_lt_mul (by rw[Nat.mul_comm];exact hj)
   refine⟨h1,by rw[Nat.mul_comm];exact(Nat.div_add_mod j n).symm,?_⟩
   rw[hsz (j/n) es[j/n] (by simp[h1])];exact Nat.mod_lt _ hn
  refine⟨rfl,(List.range (es.length * n)).map fun p=>ys (p/n) (p%n),by simp,fun j u hj=>?_,fun u hu=>?_,hsz,fun i e c x h1 h2=>?_⟩
  ·rw[List.getElem?_map,Option.map_eq_some_iff]at hj
   obtain⟨p,hp1,rfl⟩:=hj
   have hlt:=(List.getElem?_eq_some_iff.1 hp1)
   simp at hlt
   obtain⟨hlt,rfl⟩:=hlt
   obtain⟨h1,h2,h3⟩:=hlook j hlt
   have:=hc (j/n) es[j/n] (j%n) es[j/n].cells[j%n] (by simp[h1]) (by simp[h3])
   rw[Nat.add_assoc, ←h2]at this
   exact⟨by rw[Addr.add_lit];exact this.1,this.2.1⟩
  ·obtain⟨j,hj,rfl⟩:=List.mem_map.1 hu
   obtain⟨h1,h2,h3⟩:=hlook j (by simpa using hj)
   exact(hc (j/n) es[j/n] (j%n) es[j/n].cells[j%n] (by simp[h1]) (by simp[h3])).2.2
  ·have hcn:c<n:=by rw[←hsz i e h1];exact(List.getElem?_eq_some_iff.1 h2).1
   obtain⟨e1,e2⟩:=hdiv i c hcn
   have hi:i<es.length:=(List.getElem?_eq_some_iff.1 h1).1
   have hlt:i * n+c<es.length * n:=by
    have:(i+1) * n≤es.length * n:=Nat.mul_le_mul_right _ hi
    rw[Nat.add_mul,Nat.one_mul]at this;omega
   refine⟨ys i c,by simp[hlt,e1,e2],hp i e c x h1 h2⟩
theorem GY{C':Ctx}{k:Key}{g n b cap:Nat}{es:List AV}{arr:Array Value}{e:TypeId}(hn:0<n)(hg:C'.gt k=g)(hw:C'.hw k=es.length)
  (hb:C'.w.heap[b]?=some (.cells arr e (0,0))) (hi:∀i,i<es.length * n→C'.imm b i) (ho:C'.own b=some (.tl k)) (hi':∀i,C'.imm b i→i<es.length * n)
  (hs:arr.size=cap * n) (hcap:es.length≤cap) (hm:cap≤maxLen) (hsz:∀(i:Nat) (e:AV),es[i]?=some e→e.cells.length=n)
  (hc:∀(i:Nat) (e:AV) (c:Nat) (x:AV),es[i]?=some e→e.cells[c]?=some x→∃y,arr[i * n+c]?=some y∧PRel C'.w C'.imm x y∧y.oneCell'=true) :
  KRel C' (.slice n es (.own k g)) (.slice (some ⟨b,0,none⟩) es.length cap):=by
 refine .tok (.slice (fun i c=>(arr[i * n+c]?).getD undef) hcap (.inl rfl) hm hsz (fun i e c x h1 h2=>?_) (fun i e c x h1 h2=>?_)) (by omega) (fun _=>⟨by omega,fun _=> .inr ⟨rfl,ho,by rw[hw];exact hi',arr,_,hb,hs⟩⟩)
 ·obtain⟨y,a1,a2,a3⟩:=hc i e c x h1 h2
  have hcn:c<n:=by rw[←hsz i e h1];exact(List.getElem?_eq_some_iff.1 h2).1
  have hi2:i<es.length:=(List.getElem?_eq_some_iff.1 h1).1
  have hlt:i * n+c<es.length * n:=by
   have:(i+1) * n≤es.length * n:=Nat.mul_le_mul_right _ hi2
   rw[Nat.add_mul,Nat.one_mul]at this;omega
  simp only[Nat.zero_add]
  refine⟨by simp[World.cell?,hb,a1],hi _ hlt,by simp[a1,a3]⟩
 ·obtain⟨y,a1,a2,a3⟩:=hc i e c x h1 h2
  simp[a1,a2]
theorem Rel.newTok(hR:Rel N base w0 S C a w)(k:Key)(n:Nat) :
  ∃C',C.le C'∧C'.gt k=C.gt k+1∧C'.hw k=n∧C'.w=C.w∧C'.imm=C.imm∧Rel N base w0 (S.put (.tk k ((S.tk k).1+1,n))) C' a w:=by
 obtain⟨C',hC'⟩:∃C':Ctx,C'={ C with gt:=upd C.gt k (C.gt k+1),hw:=upd C.hw k n}:=⟨_,rfl⟩
 have hle:C.le C':=by
  refine⟨fun b i h=>⟨by rw[hC'];exact h,by rw[hC']⟩,fun x=>by rw[hC'];exact Nat.le_refl _,fun x e=>by rw[hC'],fun x=>?_,fun x e=>?_,fun x b e _ h=>?_,fun x _ h=>⟨by rw[hC'];exact h,fun arr e h'=>⟨arr,e,by rw[hC'];exact h',Nat.le_refl _⟩⟩,by rw[hC'];exact Nat.le_refl _,fun b i _ h=>by rw[hC']at h;exact .inl h,fun b o _ h=>by rw[hC']at h;exact h,fun b _ _=>by rw[hC']⟩
  ·rw[hC'];simp only[upd];split
   ·subst_vars;omega
   ·exact Nat.le_refl _
  ·rw[hC']at e ⊢;simp only[upd]at e ⊢;split at e
   ·subst_vars;omega
   ·rename_i hx;simp[hx]
  ·refine⟨by rw[hC'];exact h,fun i hi=>by rw[hC']at hi;exact hi,fun arr e1 h'=>⟨arr,by rw[hC'];exact h',rfl⟩⟩
 refine⟨C',hle,by rw[hC'];exact a8 _ _ _,by rw[hC'];exact a8 _ _ _,by rw[hC'],by rw[hC'],?_⟩
 exact {
  cw:=by rw[hC'];exact hR.cw
  glob:=(by first|exact hR.glob|exact hR.globOf (by first|exact hle.le0|exact hle|exact hle0|exact hCle.le0) (by first|rfl|exact h1.cw|(rw[hC'];first|done|exact hR.cw)|exact hR.cw))
  size:=hR.size,defers:=hR.defers.le hle,slot:=fun i hi=>(hR.slot i hi).le hle
  gb:=fun x=>by rw[hC'];exact hR.gb x
  gt:=fun x=>by
   rw[hC'];simp only[St.put,upd];split
   ·subst_vars;simp[hR.gt]
   ·exact hR.gt x
  hw:=fun x=>by
   rw[hC'];simp only[St.put,upd];split
   ·rfl
   ·exact hR.hw x
  box:=fun x sz' es1 h=>(hR.box x sz' es1 h).mono hle (by rw[hC']) (fun _=>by rw[hC']) (fun _=>by rw[hC'])
  ownBox:=fun b x h=>by rw[hC']at h ⊢;exact hR.ownBox b x h
  immLt:=fun b i h=>by rw[hC']at h;exact hR.immLt b i h
  ownLt:=fun b o h=>by rw[hC']at h;exact hR.ownLt b o h
  below:=hR.below,base:=hR.base}
theorem e8{t ty e:TypeId}{i:TypeInfo}(ht:P.underlying t=some (.slice e))(hi:P.info? e=some i)(b:Option Addr)(len cap:Nat)(hl:len≤cap)(b':Option Addr)(cap':Nat)(hb':b'=none∨∃x y,b'=some ⟨x,y,none⟩)
  (hb:b=none∨∃x y,b=some ⟨x,y,none⟩) :
  (Builtin.append_ #[t,t] ty #[.slice b len cap,.slice b' 0 cap']).run P w = .ok (.slice b len cap) w:=by
 rcases hb with rfl|⟨x,y,rfl⟩<;>rcases hb' with rfl|⟨x',y',rfl⟩ <;>
  simp[Builtin.append_,run_underlying ht,sizeOf,typeInfo,hi,Builtin.lenOf,hl,Builtin.firstCells,loadCells,loadCellsFrom,storeCells]
theorem gE(w:World)(t ty e el:TypeId)(i:TypeInfo)(ht:P.underlying t=some (.slice e))(hi:P.info? e=some i)
  (g sLen sCap:Nat) (cur:Array Value) (hg:w.heap[g]?=some (.cells cur el (0,0)))
  (a:Addr) (m c:Nat) (news:List Value) (hl:news.length=m * i.size) (hnews:∀(j:Nat) (u:Value),news[j]?=some u→w.cell? (a.add j)=some u) (h1:∀u∈news,u.oneCell'=true)
  (hroom:sLen+m≤sCap) (hfit:sLen * i.size+news.length≤cur.size) :
  (Builtin.append_ #[t,t] ty #[.slice (some ⟨g,0,none⟩) sLen sCap,.slice (some a) m c]).run P w =
   .ok (.slice (some ⟨g,0,none⟩) (sLen+m) sCap) (w.setRow g (cur.toList.take (sLen * i.size)++news++cur.toList.drop (sLen * i.size+news.length)).toArray):=by
 have hf:=run_firstCells_some (P:=P) w i.size m a m c news hl hnews
 have hst:=run_storeCells_at P g (sLen * i.size) el news 0 cur w hg (by simpa using hfit) h1
 simp only[Nat.add_zero]at hst
 simp[Builtin.append_,run_underlying ht,sizeOf,typeInfo,hi,Builtin.lenOf,hroom,hf,Addr.add_lit,hst]
theorem yI{b:AV}{Y:Value}(hb:KRel C b Y){k:AV→RM}(h:(sr b k).wp0 P S K):∃b',KRel C b' Y∧(k b').wp0 P S K:=by
 unfold sr at h
 split at h
 ·rename_i bl off c
  obtain⟨hc,h⟩:=h
  refine⟨_,?_,h⟩
  cases hb with
  | pure hp =>
   cases hp
   exact .pure (PRel.slice (es:=[]) (fun _ _=> .bool false) (Nat.zero_le _) (.inl rfl) hc (fun i e h=>by simp at h) (fun i e c x h=>by simp at h) (fun i e c x h=>by simp at h))
 ·exact⟨b,hb,h⟩
theorem pl(cx:Cx)(hR:Rel N base w0 S C a w)(hk:eK N base w0 S C K next){c:Call}{t:TypeId}{x y:Operand}(ho:o.op = .call c)(hb:c.callee = .builtin .append)
  (ha:c.args.toList=[x,y]) (hat:c.argTypes.toList=[t,t]) (hx:inN N x=true) (hy:inN N y=true)
  (h:(iG P cx o.dst t x y).wp0 P S K):o.wp P a w next Q:=by
 have ha':c.args=#[x,y]:=by rw[←Array.toArray_toList (xs:=c.args),ha]
 have hat':c.argTypes=#[t,t]:=by rw[←Array.toArray_toList (xs:=c.argTypes),hat]
 unfold iG at h
 cases hts:aU P t with
 | none=>simp only[hts]at h;exact h.elim
 | some q =>
 obtain⟨e,n,bt⟩:=q
 cases hdst:o.dst with
 | none=>simp only[hts,hdst]at h;exact h.elim
 | some d =>
 simp only[hts,hdst,cg]at h
 have hu:=hR.val hx
 obtain⟨b',hv,h⟩:=yI (hR.val hy) h
 have exec:(execOp a.eval o).run P w=((Builtin.append_ #[t,t] o.type #[a.eval x,a.eval y]).run P w).andThen fun v w'=> .ok (.value v) w':=by
  simp[execOp,ho,resolve,hb,ha',hat',invoke,builtin]
 obtain⟨ie,hut,hie,hsz,hbt⟩:=aS hts
 revert h hu hv exec
 generalize S.val x=u
 generalize b'=v
 generalize a.eval x=X
 generalize a.eval y=Y
 intro hu hv h exec
 cases u<;>first|exact h.elim|skip
 rename_i sz es tok
 cases v<;>first|exact h.elim|skip
 rename_i sz' es' tok'
 simp only at h
 obtain⟨⟨hbytes,hmax,hn,hs1,hs2,hz⟩,h⟩:=h
 obtain⟨z,hz1,hz2⟩:∃z,ie.zero=some z∧z.cells.size=n:=by
  cases hz':bm P e with
  | none=>simp[hz']at hz
  | some q =>
   obtain⟨nz,zz⟩:=q
   simp[hz']at hz
   obtain⟨i',z,h1,h2,h3,_⟩:=cZ hz'
   rw[hie]at h1;cases h1
   exact⟨z,h2,by omega⟩
 have hpv:PRel C.w C.imm (.slice n es' .no) Y:=(hv.pure1 (x':= .slice sz' es' .no) rfl).resz hs2
 have hpu:PRel C.w C.imm (.slice n es .no) X:=(hu.pure1 (x':= .slice sz es .no) rfl).resz hs1
 have shape:∀{l:List AV} {Z:Value},PRel C.w C.imm (.slice n l .no) Z→∃b cap,Z = .slice b l.length cap∧l.length≤cap∧(b=none∨∃x y,b=some ⟨x,y,none⟩)∧(b=none→l=[]∧cap=0)∧cap≤maxLen:=by
  intro l Z hZ
  cases hZ with
  | nil=>exact⟨none,0,rfl,Nat.le_refl _,.inl rfl,fun _=>⟨rfl,rfl⟩,by unfold maxLen;omega⟩
  | slice ys hcap _ hm=>exact⟨_,_,rfl,hcap,.inr ⟨_,_,rfl⟩,by simp,hm⟩
 obtain⟨bX,capX,rfl,hcapX,hbX,hnX,hmX⟩:=shape hpu
 obtain⟨bY,capY,rfl,hcapY,hbY,hnY,_⟩:=shape hpv
 obtain⟨w',hw'⟩:∃w',w'=w:=⟨_,rfl⟩
 by_cases hempty:es'=[]
 ·
  subst hempty
  have hrun:(execOp a.eval o).run P w = .ok (.value (.slice bX es.length capX)) w:=by
   rw[exec];simp only[List.length_nil]
   rw[e8 hut hie bX es.length capX hcapX bY capY hbY hbX];rfl
  cases tok with
  | no=>exact h.elim
  | tight =>
   simp only[RM.wp0]at h
   obtain⟨C',hle,hg,hh,hcw,hci,hR'⟩:=hR.newTok (cx.key d) (es.length+0)
   refine bN hk hrun hle hR' (v:= .slice n es (.own (cx.key d) ((S.tk (cx.key d)).1+1))) ?_ h (by rw[hdst];simp[St.puts,putA])
   rcases hbX with rfl|⟨bx,ox,rfl⟩
   ·obtain⟨rfl,rfl⟩:=hnX rfl
    exact .tokNil _ _ _
   ·have hcl:capX=es.length:=by
     cases hu with
     | pure hp=>cases hp with
      | slice _ _ ht=>exact(ht.resolve_left (by simp)).2
    refine .tok (hpu.le hle) (by rw[hg,hR.gt];omega) (fun _=>⟨by omega,fun _=> .inl hcl⟩)
  | own k g =>
   simp only[RM.wp0]at h
   obtain⟨⟨hg,hl,hszn⟩,h⟩:=h
   subst hszn
   have hS:S.put (.tk k ((S.tk k).1,es.length+0))=S:=by
    have hfun:upd S.tk k ((S.tk k).1,es.length+0)=S.tk:=by
     funext x;simp only[upd];split
     ·subst_vars;rw[Nat.add_zero, ←hl]
     ·rfl
    simp only[St.put,hfun]
   exact bN hk hrun (.refl C) hR hu h (by rw[hdst];simp only[List.length_nil,St.puts,putA,hS,List.append_nil])
 ·
  have hm0:0<es'.length:=List.length_pos_iff.2 hempty
  obtain⟨by_,oy,rfl⟩:∃x y,bY=some ⟨x,y,none⟩:=hbY.resolve_left fun e=>hempty (hnY e).1
  obtain⟨_,news,hnl,hnews,hnone,hnsz,hnp⟩:=lY hn hpv
  rw[hR.cw]at hnews hnp
  have h63:es.length+es'.length≤9223372036854775807:=by unfold maxLen at hmax;omega
  obtain⟨olds,hol,holds,hone,hosz,hop⟩:∃olds:List Value,olds.length=es.length * n∧(∀b o,bX=some ⟨b,o,none⟩→∀(j:Nat) (u:Value),olds[j]?=some u→w.cell? ((⟨b,o,none⟩:Addr).add j)=some u∧C.imm b (o+j)) ∧
    (∀u∈olds,u.oneCell'=true)∧(∀(i:Nat) (e:AV),es[i]?=some e→e.cells.length=n) ∧
    (∀(i:Nat) (e:AV) (c:Nat) (x:AV),es[i]?=some e→e.cells[c]?=some x→∃y,olds[i * n+c]?=some y∧PRel w C.imm x y):=by
   rcases hbX with rfl|⟨x,y,rfl⟩
   ·obtain⟨rfl,_⟩:=hnX rfl
    exact⟨[],by simp,by simp,by simp,by simp,by simp⟩
   ·obtain⟨_,olds,a1,a2,a3,a4,a5⟩:=lY hn hpu
    rw[hR.cw]at a2 a5
    exact⟨olds,a1,fun b o e=>by cases e;exact a2,a3,a4,a5⟩
  have hsz2:∀(i:Nat) (e:AV),(es++es')[i]?=some e→e.cells.length=n:=by
   intro i e he
   by_cases hi:i<es.length
   ·rw[List.getElem?_append_left hi]at he;exact hosz i e he
   ·rw[List.getElem?_append_right (by omega)]at he;exact hnsz _ e he
  have hlen2:(es++es').length=es.length+es'.length:=List.length_append
  have hcells:∀{w2:World} {imm2:Nat→Nat→Prop} (arr:Array Value),(∀b i,C.imm b i→imm2 b i∧w2.cell? ⟨b,i,none⟩=w.cell? ⟨b,i,none⟩) →
    (∀i,i<es.length * n→arr[i]?=olds[i]?)→(∀i,i<es'.length * n→arr[es.length * n+i]?=news[i]?) →
    ∀(i:Nat) (e:AV) (c:Nat) (x:AV),(es++es')[i]?=some e→e.cells[c]?=some x→∃y,arr[i * n+c]?=some y∧PRel w2 imm2 x y∧y.oneCell'=true:=by
   intro w2 imm2 arr hmono ho hn' i e c x h1 h2
   have hcn:c<n:=by rw[←hsz2 i e h1];exact(List.getElem?_eq_some_iff.1 h2).1
   by_cases hi:i<es.length
   ·rw[List.getElem?_append_left hi]at h1
    obtain⟨y,a1,a2⟩:=hop i e c x h1 h2
    have hlt:i * n+c<es.length * n:=by
     have:(i+1) * n≤es.length * n:=Nat.mul_le_mul_right _ hi
     rw[Nat.add_mul,Nat.one_mul]at this;omega
    exact⟨y,by rw[ho _ hlt];exact a1,a2.mono hmono,hone y (List.mem_of_getElem? a1)⟩
   ·rw[List.getElem?_append_right (by omega)]at h1
    obtain⟨y,a1,a2⟩:=hnp _ e c x h1 h2
    have hi2:i-es.length<es'.length:=(List.getElem?_eq_some_iff.1 h1).1
    have hlt:(i-es.length) * n+c<es'.length * n:=by
     have:(i-es.length+1) * n≤es'.length * n:=Nat.mul_le_mul_right _ hi2
     rw[Nat.add_mul,Nat.one_mul]at this;omega
    have hidx:i * n+c=es.length * n+((i-es.length) * n+c):=by
     have:i=es.length+(i-es.length):=by omega
     calc i * n+c=(es.length+(i-es.length)) * n+c:=by rw[←this]
      _=_:=by rw[Nat.add_mul];omega
    exact⟨y,by rw[hidx,hn' _ hlt];exact a1,a2.mono hmono,hnone y (List.mem_of_getElem? a1)⟩
  have grow:∀(k:Key) (g:Nat) (old:Nat),old<es.length+es'.length→(C.gt k<g∨(g=C.gt k∧C.hw k<es.length+es'.length)) →
    (Builtin.append_ #[t,t] o.type #[.slice bX es.length capX,.slice (some ⟨by_,oy,none⟩) es'.length capY]).run P w =
     .ok (.slice (some ⟨w.heap.size,0,none⟩) (es.length+es'.length) (grownCap w (es.length+es'.length) old e))
      (w.drew.alloc (.cells (olds.toArray++news.toArray++Builtin.zeroCells z.cells (grownCap w (es.length+es'.length) old e-(es.length+es'.length))) e)) →
    K [.tk k (g,es.length+es'.length),.slot d (.slice n (es++es') (.own k g))]→o.wp P a w next Q:=by
   intro k g old hold hg hrun hK
   obtain⟨arr,harr⟩:∃arr,arr=olds.toArray++news.toArray++Builtin.zeroCells z.cells (grownCap w (es.length+es'.length) old e-(es.length+es'.length)):=⟨_,rfl⟩
   rw[←harr]at hrun
   have hge:=grownCap_ge w (es.length+es'.length) old e
   have hgm:=grownCap_le_maxLen w (es.length+es'.length) old e hmax
   have hsa:arr.size=grownCap w (es.length+es'.length) old e * n:=by
    rw[harr]
    simp only[Array.size_append,List.size_toArray,size_zeroCells,hz2,hol,hnl, ←Nat.add_mul]
    congr 1;omega
   obtain⟨C',hle,hi,hg',hh,hown,hi',hblk,hR'⟩:=hR.newTail k g n (es.length+es'.length) hg arr e (w.drew.alloc (.cells arr e)) rfl rfl rfl rfl hR.baseLe
   refine bN hk (by rw[exec,hrun];rfl) hle hR' (v:= .slice n (es++es') (.own k g)) ?_ hK (by rw[hdst];rfl)
   have fin:=GY (es:=es++es') hn hg' (by rw[hlen2];exact hh) hblk (by rw[hlen2];exact hi) hown (by rw[hlen2];exact hi') hsa (by rw[hlen2];exact hge) hgm hsz2 (hcells arr (fun b i h=>?_) (fun i h=>?_) (fun i h=>?_))
   ·rw[hlen2]at fin;exact fin
   ·have:=hle.imm b i h;rw[hR.cw]at this;exact this
   ·rw[harr,Array.append_assoc,Array.getElem?_append_left (by simp[hol];exact h)];simp
   ·rw[harr,Array.getElem?_append_left (by simp[hol,hnl];omega),Array.getElem?_append_right (by simp[hol])]
    simp[hol]
  have growNil:bX=none→(Builtin.append_ #[t,t] o.type #[.slice bX es.length capX,.slice (some ⟨by_,oy,none⟩) es'.length capY]).run P w =
     .ok (.slice (some ⟨w.heap.size,0,none⟩) (es.length+es'.length) (grownCap w (es.length+es'.length) 0 e))
      (w.drew.alloc (.cells (olds.toArray++news.toArray++Builtin.zeroCells z.cells (grownCap w (es.length+es'.length) 0 e-(es.length+es'.length))) e)):=by
   intro e1
   obtain⟨rfl,rfl⟩:=hnX e1
   subst e1
   have:olds=[]:=List.eq_nil_of_length_eq_zero (by simpa using hol)
   subst this
   have:=run_append_nil (P:=P) w t o.type e ie z hut hie hz1 ⟨by_,oy,none⟩ es'.length capY news (by rw[hnl,hsz]) (fun j u hj=>(hnews j u hj).1) hm0 (by simp at h63;omega) (by rw[hbt];simp at hbytes;omega)
   simpa using this
  have growSome:∀b o',bX=some ⟨b,o',none⟩→capX<es.length+es'.length→(Builtin.append_ #[t,t] o.type #[.slice bX es.length capX,.slice (some ⟨by_,oy,none⟩) es'.length capY]).run P w =
     .ok (.slice (some ⟨w.heap.size,0,none⟩) (es.length+es'.length) (grownCap w (es.length+es'.length) capX e))
      (w.drew.alloc (.cells (olds.toArray++news.toArray++Builtin.zeroCells z.cells (grownCap w (es.length+es'.length) capX e-(es.length+es'.length))) e)):=by
   intro b o' e1 hlt
   subst e1
   exact run_append_grow (P:=P) w t o.type e ie z hut hie hz1 ⟨b,o',none⟩ es.length capX olds (by rw[hol,hsz]) (fun j u hj=>(holds b o' rfl j u hj).1) ⟨by_,oy,none⟩ es'.length capY news (by rw[hnl,hsz])
    (fun j u hj=>(hnews j u hj).1) hlt (by omega) (growslice_fits hlt (by rw[hbt];exact hbytes))
  cases tok with
  | no=>exact h.elim
  | tight =>
   simp only[RM.wp0]at h
   have hg:C.gt (cx.key d)<(S.tk (cx.key d)).1+1:=by rw[hR.gt];omega
   rcases hbX with rfl|⟨bx,ox,rfl⟩
   ·exact grow _ _ 0 (by omega) (.inl hg) (growNil rfl) h
   ·have hcl:capX=es.length:=by
     cases hu with
     | pure hp=>cases hp with
      | slice _ _ ht=>exact(ht.resolve_left (by simp)).2
    exact grow _ _ capX (by omega) (.inl hg) (growSome _ _ rfl (by omega)) h
  | own k g =>
   simp only[RM.wp0]at h
   obtain⟨⟨hg,hl,hszn⟩,h⟩:=h
   rw[hg]at h
   have hgt:g=C.gt k:=by rw[hR.gt,hg]
   have hhw:C.hw k=es.length:=by rw[hR.hw,hl]
   rcases hbX with rfl|⟨bx,ox,rfl⟩
   ·exact grow _ _ 0 (by omega) (.inr ⟨hgt,by omega⟩) (growNil rfl) h
   ·by_cases hroom:es.length+es'.length≤capX
    ·
     cases hu with
     | pure hp=>cases hp with
      | slice _ _ ht=>rcases ht with ht|ht<;>simp at ht
     | tok hp hg' hcur =>
      obtain⟨_,h2⟩:=hcur hgt
      rcases h2 hhw.symm with h2|⟨rfl,hown,hib,arr,el,hblk,hsa⟩
      ·omega
      rw[hhw,hszn]at hib
      rw[hR.cw]at hblk
      rw[hszn]at hsa
      have hfit:es.length * ie.size+news.length≤arr.size:=by rw[hnl,hsz,hsa, ←Nat.add_mul];exact Nat.mul_le_mul_right _ hroom
      have hfit':es.length * n+es'.length * n≤arr.size:=by rw[hnl,hsz]at hfit;exact hfit
      have hr:=gE (P:=P) w t o.type e el ie hut hie bx es.length capX arr hblk ⟨by_,oy,none⟩ es'.length capY news (by rw[hnl,hsz]) (fun j u hj=>(hnews j u hj).1) hnone hroom hfit
      rw[hsz]at hr
      obtain⟨arr',harr'⟩:∃arr':Array Value,arr'=(arr.toList.take (es.length * n)++news++arr.toList.drop (es.length * n+news.length)).toArray:=⟨_,rfl⟩
      rw[←harr']at hr
      have hget:∀p,arr'[p]?=if p<es.length * n then arr[p]? else if p<es.length * n+es'.length * n then news[p-es.length * n]? else arr[p]?:=by
       intro p
       rw[harr']
       have:=iM arr.toList (es.length * n) news (by rw[hnl];simpa using hfit') p
       rw[hnl]at this
       simpa[hnl]using this
      have hsize:arr'.size=arr.size:=by
       rw[harr'];simp only[List.size_toArray,List.length_append,List.length_take,List.length_drop,hnl,Array.length_toList];omega
      obtain⟨C',hle,hi,hg2,hh,hown',hi',hblk',_,hR'⟩:=hR.tailWrite k bx n es.length es'.length hhw hm0 hown hib hblk arr' hsize (fun i hi=>by rw[hget,if_pos hi])
      refine bN hk (by rw[exec,hr];rfl) hle hR' (v:= .slice n (es++es') (.own k g)) ?_ h (by rw[hdst, ←hg];rfl)
      have fin:=GY (es:=es++es') (g:=g) hn (by omega) (by rw[hlen2];exact hh) hblk' (by rw[hlen2];exact hi) hown' (by rw[hlen2];exact hi') (by rw[hsize,hsa]) (by rw[hlen2];exact hroom) hmX hsz2 (hcells arr' (fun b i h=>?_) (fun i h=>?_) (fun i h=>?_))
      ·rw[hlen2]at fin;exact fin
      ·have:=hle.imm b i h;rw[hR.cw]at this;exact this
      ·rw[hget,if_pos h]
       have hlt:i<olds.length:=by omega
       have:=(holds bx 0 rfl i olds[i] (by simp[hlt])).1
       rw[Addr.add_lit]at this
       simp[World.cell?,hblk]at this
       rw[this];simp[hlt]
      ·rw[hget,if_neg (by omega),if_pos (by omega)];congr 1;omega
    ·exact grow _ _ capX (by omega) (.inr ⟨hgt,by omega⟩) (growSome _ _ rfl (by omega)) h
end
end Go.Am
namespace Go.Am
open Go.RowKit
section
variable {P:Program} {N:Nat} {base:Nat→Prop} {w0:World} {S:St} {C:Ctx} {a:Act} {w:World} {K:List Wr→Prop} {o:Oper} {next:Act→World→Prop} {Q:Exit→Act→World→Prop}
def yo(v:Option Value)(dflt n:Nat):Prop:=(v=none∧n=dflt)∨∃k,v=some (.int k n)
theorem oN{t e:TypeId}{i:TypeInfo}(ht:P.underlying t=some (.slice e))(hi:P.info? e=some i)(b:Option Addr)(len cap l h m:Nat)(lo hi' mx:Option Value)
  (hl:yo lo 0 l) (hh:yo hi' len h) (hm:yo mx cap m) (hx:mx=none∨∃v,hi'=some v) (h1:l≤h) (h2:h≤m) (h3:m≤cap) :
  (Instr.sliceAt t (.slice b len cap) lo hi' mx).run P w = .ok (.slice (if m=l then b else b.map (·.add (l * i.size))) (h-l) (m-l)) w:=by
 rcases hl with⟨rfl,rfl⟩|⟨kl,rfl⟩<;>rcases hh with⟨rfl,rfl⟩|⟨kh,rfl⟩<;>rcases hm with⟨rfl,rfl⟩|⟨km,rfl⟩ <;>
  first
   | (exfalso;rcases hx with hx|⟨v,hx⟩<;>simp at hx;done)
   | (simp[Instr.sliceAt,Instr.slice,run_underlying ht,sizeOf,typeInfo,hi,Instr.sliceBounds,Instr.sliceBound,asIntOf,h1,h2,h3];done)
   | (
    have h4:h≤cap:=by omega
    simp[Instr.sliceAt,Instr.slice,run_underlying ht,sizeOf,typeInfo,hi,Instr.sliceBounds,Instr.sliceBound,asIntOf,h1,h2,h3,h4])
theorem Da{w:World}{imm:Nat→Nat→Prop}{n:Nat}{es:List AV}{b:Option Addr}{len cap l h m:Nat}(hp:PRel w imm (.slice n es .no) (.slice b len cap))(h1:l≤h)(h2:h≤len)(h3:h≤m)(h4:m≤cap)(tok:Tok)
  (ht:tok = .no∨(tok = .tight∧m=h)):len=es.length∧PRel w imm (.slice n ((es.take h).drop l) tok) (.slice (if m=l then b else b.map (·.add (l * n))) (h-l) (m-l)):=by
 cases hp with
 | nil =>
  have:l=0:=by omega
  subst this
  have:m=0:=by omega
  subst this
  have:h=0:=by omega
  subst this
  exact⟨rfl,by simpa using PRel.nil n tok (ht.imp id (·.1))⟩
 | @slice _ _ _ b off cap ys hcap _ hm hsz hc hp' =>
  refine⟨rfl,?_⟩
  have hlen:((es.take h).drop l).length=h-l:=by simp;omega
  have hget:∀i e,((es.take h).drop l)[i]?=some e→es[l+i]?=some e:=by
   intro i e he
   rw[List.getElem?_drop,List.getElem?_take]at he
   split at he
   ·exact he
   ·simp at he
  rw[←hlen]
  have tk:tok = .no∨(tok = .tight∧m-l=((es.take h).drop l).length):=by
   rcases ht with ht|⟨ht,e⟩
   ·exact .inl ht
   ·exact .inr ⟨ht,by omega⟩
  by_cases hml:m=l
  ·rw[if_pos hml]
   have hnil:(es.take h).drop l=[]:=List.eq_nil_of_length_eq_zero (by omega)
   rw[hnil]at tk ⊢
   exact .slice (fun _ _=> .tuple #[]) (by simp) tk (by omega) (by simp) (by simp) (by simp)
  ·rw[if_neg hml,Option.map_some,Addr.add_lit]
   refine .slice (fun i c=>ys (l+i) c) (by omega) tk (by omega) (fun i e he=>hsz _ e (hget i e he)) (fun i e c x he hx=>?_) (fun i e c x he hx=>hp' _ e c x (hget i e he) hx)
   have:=hc _ e c x (hget i e he) hx
   rw[Nat.add_mul, ←Nat.add_assoc]at this
   exact this
theorem mH{t e:TypeId}{i:TypeInfo}{n:Nat}(ht:P.underlying t=some (.array n e))(hi:P.info? e=some i)(a:Addr)(w:World) :
  (Instr.sliceAt t (.pointer (some a)) none none none).run P w = .ok (.slice (some (if n=0 then a else a.add (0 * i.size))) n n) w:=by
 simp[Instr.sliceAt,run_underlying ht,Instr.sureAddr,sizeOf,typeInfo,hi,Instr.sliceBounds]
theorem lN(hR:Rel N base w0 S C a w)(hk:eK N base w0 S C K next){t:TypeId}{x:Operand}{lo hi mx:Option Operand}(ho:o.op = .slice t x lo hi mx)(hx:inN N x=true)
  (hlo:∀x∈lo,inN N x=true) (hhi:∀x∈hi,inN N x=true) (hmx:∀x∈mx,inN N x=true)
  (h:(d6 P o.dst t x lo hi mx).wp0 P S K):o.wp P a w next Q:=by
 unfold d6 at h
 rw[cg]at h
 have hv:=hR.val hx
 have exec:(execOp a.eval o).run P w=((Instr.sliceAt t (a.eval x) (lo.map a.eval) (hi.map a.eval) (mx.map a.eval)).run P w).andThen fun v w'=> .ok (.value v) w':=by
  simp only[execOp,ho,Sem.run_bind];rfl
 have hval:∀{y:Operand} {v:Value},inN N y=true→S.val y = .v v→a.eval y=v:=fun hy e=>(hR.val hy).val (by rw[e];rfl)
 revert h hv exec
 generalize S.val x=u
 generalize a.eval x=X
 intro h hv exec
 cases u<;>first|exact h.elim|skip
 ·
  rename_i val
  cases val<;>first|exact h.elim|skip
  rename_i s
  have e:=hv.val (z:= .string s) rfl
  subst e
  simp only[eJ]at h
  cases lo<;>cases hi<;>cases mx<;>simp only[Option.toList_none,Option.toList_some,List.nil_append,List.cons_append,List.map_cons,List.map_nil]at h <;>
   first
    | exact h.elim
    | (split at h<;>first
      | exact h.elim
      | (exfalso;simp_all;done)
      | (
        rename_i heq
        simp only[List.cons.injEq,and_true]at heq
        refine oO hR hk ?_ h
        rw[exec]
        simp only[Option.map_none,Option.map_some]
        first
          | (rw[hval (hlo _ rfl) heq.1,hval (hhi _ rfl) heq.2])
          | (rw[hval (hlo _ rfl) heq])
          | (rw[hval (hhi _ rfl) heq])))
 ·
  rename_i sz es tok
  simp only at h
  cases hts:aU P t with
  | none=>simp only[hts]at h;exact h.elim
  | some q =>
   obtain⟨e,n,bt⟩:=q
   simp only[hts]at h
   obtain⟨hsz,h⟩:=h
   rw[eJ]at h
   obtain⟨ie,hut,hie,hisz,_⟩:=aS hts
   have hp:PRel C.w C.imm (.slice n es .no) X:=(hv.pure1 (x':= .slice sz es .no) rfl).resz hsz
   obtain⟨b,len,cap,rfl,hcap,hlen⟩:∃b len cap,X = .slice b len cap∧len≤cap∧len=es.length:=by
    cases hp with
    | nil=>exact⟨_,_,_,rfl,Nat.le_refl _,rfl⟩
    | slice _ hc=>exact⟨_,_,_,rfl,hc,rfl⟩
   have go:∀(l h' m:Nat) (tok:Tok) (sub:List AV),yo (lo.map a.eval) 0 l→yo (hi.map a.eval) len h'→yo (mx.map a.eval) cap m→(mx.map a.eval=none∨∃v,hi.map a.eval=some v) →
     l≤h'→h'≤len→h'≤m→m≤cap→(tok = .no∨(tok = .tight∧m=h'))→(es.take h').drop l=sub→K (putA o.dst (.slice sz sub tok))→o.wp P a w next Q:=by
    intro l h' m tok sub b1 b2 b3 b4 h1 h2 h3 h4 ht hsub hK
    have hr:=oN (P:=P) (w:=w) hut hie b len cap l h' m _ _ _ b1 b2 b3 b4 h1 h3 h4
    obtain⟨_,hpp⟩:=Da hp h1 h2 h3 h4 tok ht
    rw[hsub]at hpp
    refine aZ hR hk (v:= .slice sz sub tok) (by rw[exec,hr];rfl) (.pure ?_) hK
    rw[hisz]
    refine hpp.resz fun hne=>(hsz ?_).symm
    rintro rfl
    simp at hsub
    exact hne hsub
   have nat:∀{n:Int},0≤n→∃k:Nat,n=k:=fun h=>⟨_,(Int.toNat_of_nonneg h).symm⟩
   cases lo with
   | none =>
    cases hi with
    | none =>
     cases mx with
     | none=>exact go 0 len cap .no es (.inl ⟨rfl,rfl⟩) (.inl ⟨rfl,rfl⟩) (.inl ⟨rfl,rfl⟩) (.inl rfl) (Nat.zero_le _) (Nat.le_refl _) hcap (Nat.le_refl _) (.inl rfl) (by simp[hlen]) h
     | some z=>simp only[Option.toList_none,Option.toList_some,List.nil_append,List.map_cons,List.map_nil]at h;exact h.elim
    | some y =>
     cases mx with
     | none =>
      simp only[Option.toList_none,Option.toList_some,List.nil_append,List.append_nil,List.map_cons,List.map_nil]at h
      split at h<;>first|exact h.elim|skip
      ·rename_i heq
       simp only[List.cons.injEq,and_true]at heq
       obtain⟨⟨h0,h1⟩,h⟩:=h
       obtain⟨k,rfl⟩:=nat h0
       have ht:JC tok es = .no∨(JC tok es = .tight∧cap=k):=by
         rcases JD tok es with e|⟨rfl,rfl,e⟩
         · exact .inl e
         · refine .inr ⟨e,?_⟩
           have hk0:k=0:=by simp at h1;omega
           subst hk0
           cases hv with
           | pure hp2=>cases hp2 with
            | nil=>rfl
            | slice ys hcap ht=>exact(ht.resolve_left (by simp)).2
       refine go 0 k cap _ _ (.inl ⟨rfl,rfl⟩) (.inr ⟨_,by rw[Option.map_some,hval (hhi _ rfl) heq]⟩) (.inl ⟨rfl,rfl⟩) (.inl rfl) (Nat.zero_le _) (by omega) (by omega) (Nat.le_refl _) ht (by simp) h
      all_goals simp_all
     | some z =>
      simp only[Option.toList_none,Option.toList_some,List.nil_append,List.cons_append,List.map_cons,List.map_nil]at h
      split at h<;>first|exact h.elim|skip
      all_goals try(simp_all;done)
      rename_i heq
      simp only[List.cons.injEq,and_true]at heq
      obtain⟨⟨h0,h1,h2⟩,h⟩:=h
      obtain⟨k,rfl⟩:=nat h0
      subst h1
      exact go 0 k k .tight _ (.inl ⟨rfl,rfl⟩) (.inr ⟨_,by rw[Option.map_some,hval (hhi _ rfl) heq.1]⟩) (.inr ⟨_,by rw[Option.map_some,hval (hmx _ rfl) heq.2]⟩) (.inr ⟨_,rfl⟩) (Nat.zero_le _) (by omega) (Nat.le_refl _) (by omega) (.inr ⟨rfl,rfl⟩) (by simp) h
   | some y =>
    cases hi with
    | none =>
     cases mx with
     | none =>
      simp only[Option.toList_none,Option.toList_some,List.nil_append,List.append_nil,List.map_cons,List.map_nil]at h
      split at h<;>first|exact h.elim|skip
      all_goals try(simp_all;done)
      rename_i heq
      simp only[List.cons.injEq,and_true]at heq
      obtain⟨⟨h0,h1⟩,h⟩:=h
      obtain⟨k,rfl⟩:=nat h0
      exact go k len cap .no _ (.inr ⟨_,by rw[Option.map_some,hval (hlo _ rfl) heq]⟩) (.inl ⟨rfl,rfl⟩) (.inl ⟨rfl,rfl⟩) (.inl rfl) (by omega) (Nat.le_refl _) hcap (Nat.le_refl _) (.inl rfl) (by simp[hlen]) h
     | some z =>
      simp only[Option.toList_none,Option.toList_some,List.nil_append,List.cons_append,List.append_nil,List.map_cons,List.map_nil]at h
      exact h.elim
    | some y' =>
     cases mx with
     | none =>
      simp only[Option.toList_none,Option.toList_some,List.nil_append,List.cons_append,List.append_nil,List.map_cons,List.map_nil]at h
      split at h<;>first|exact h.elim|skip
      all_goals try(simp_all;done)
      rename_i heq
      simp only[List.cons.injEq,and_true]at heq
      obtain⟨⟨h0,h1,h2⟩,h⟩:=h
      obtain⟨k,rfl⟩:=nat h0
      obtain⟨k',rfl⟩:=nat (Int.le_trans h0 h1)
      exact go k k' cap .no _ (.inr ⟨_,by rw[Option.map_some,hval (hlo _ rfl) heq.1]⟩) (.inr ⟨_,by rw[Option.map_some,hval (hhi _ rfl) heq.2]⟩) (.inl ⟨rfl,rfl⟩) (.inl rfl) (by omega) (by omega) (by omega) (Nat.le_refl _) (.inl rfl) rfl h
     | some z =>
      simp only[Option.toList_none,Option.toList_some,List.nil_append,List.cons_append,List.append_nil,List.map_cons,List.map_nil]at h
      split at h<;>first|exact h.elim|skip
      all_goals try(simp_all;done)
      rename_i heq
      simp only[List.cons.injEq,and_true]at heq
      obtain⟨⟨h0,h1,h2,h3⟩,h⟩:=h
      obtain⟨k,rfl⟩:=nat h0
      obtain⟨k',rfl⟩:=nat (Int.le_trans h0 h1)
      subst h2
      exact go k k' k' .tight _ (.inr ⟨_,by rw[Option.map_some,hval (hlo _ rfl) heq.1]⟩) (.inr ⟨_,by rw[Option.map_some,hval (hhi _ rfl) heq.2.1]⟩) (.inr ⟨_,by rw[Option.map_some,hval (hmx _ rfl) heq.2.2]⟩) (.inr ⟨_,rfl⟩) (by omega) (by omega) (Nat.le_refl _) (by omega) (.inr ⟨rfl,rfl⟩) rfl h
 ·
  rename_i k g sz i off
  simp only at h
  split at h<;>first|exact h.elim|skip
  rename_i n hta
  obtain⟨hm,hg,h⟩:=h
  obtain⟨e,ie,hut,hie,hsz⟩:=fu hta
  rw[KRel.ptrCur hR hv hg]at exec
  have e0:∀A:Addr,A.spot=none→(if n=0 then A else A.add (0 * ie.size))=A:=fun A hA=>by
   obtain⟨b,o,s⟩:=A
   simp only at hA
   subst hA
   split
   ·rfl
   ·rw[Addr.add_lit];simp
  refine aZ hR hk (v:= .sl k g sz i off n) (by rw[exec];simp only[Option.map_none];rw[mH hut hie];rfl) ?_ h
  rw[e0 _ rfl]
  have:=hR.gb k
  rw[hg]at this
  rw[←this]
  exact .sl hm
 ·
  rename_i k g sz m cap
  simp only at h
  split at h<;>first|exact h.elim|skip
  rename_i e n bt y hts
  rw[cg]at h
  split at h<;>first|exact h.elim|skip
  rename_i kk h' heq
  obtain⟨⟨hsz,h0,h1⟩,hg,h⟩:=h
  obtain⟨ie,hut,hie,hisz,_⟩:=aS hts
  obtain⟨j,rfl⟩:∃j:Nat,h'=j:=⟨_,(Int.toNat_of_nonneg h0).symm⟩
  have hgb:=hR.gb k
  rw[hg]at hgb
  subst hgb
  have hy:a.eval y = .int kk (j:Int):=hval (hhi _ rfl) heq
  have gen:∀(b:Option Addr) (c:Nat),X = .slice b m c→m≤c→KRel C (.own k (C.gb k) sz j cap) (.slice b j c)→o.wp P a w next Q:=by
   intro b c hX hc hK
   have hr:=oN (P:=P) (w:=w) hut hie b m c 0 j c none (some (.int kk (j:Int))) none (.inl ⟨rfl,rfl⟩) (.inr ⟨_,rfl⟩) (.inl ⟨rfl,rfl⟩) (.inl rfl) (Nat.zero_le _) (by omega) (Nat.le_refl _)
   have e0:(if c=0 then b else b.map (·.add (0 * ie.size)))=b:=by
    split
    ·rfl
    ·cases b with
     | none=>rfl
     | some A=>rw[Option.map_some,Nat.zero_mul];simp[Addr.add]
   rw[e0,Nat.sub_zero,Nat.sub_zero]at hr
   refine aZ hR hk (v:= .own k (C.gb k) sz j cap) (by rw[exec,hX];simp only[Option.map_none,Option.map_some];rw[hy,hr];rfl) hK ?_
   have h:K (putA o.dst (.own k (C.gb k) sz (j:Int).toNat cap)):=h
   rw[Int.toNat_natCast]at h
   exact h
  cases hv with
  | pure hp=>cases hp
  | ownOld hlt=>omega
  | @own _ _ _ _ c hn hm ho hs=>exact gen _ _ rfl hn (.own (by omega) hm ho hs)
  | ownNil hb =>
   have:j=0:=by omega
   subst this
   exact gen _ _ rfl (Nat.le_refl _) (.ownNil hb)
 ·
  rename_i cs
  simp only at h
  split at h<;>first|exact h.elim|skip
  rename_i n hta
  obtain⟨⟨hm,hn,h1⟩,h⟩:=h
  obtain⟨e,ie,hut,hie,hsz⟩:=fu hta
  cases hv with
  | pure hp =>
   cases hp with
   | @cptr _ b off ys hc hpp =>
    have e0:(if n=0 then(⟨b,off,none⟩:Addr)else(⟨b,off,none⟩:Addr).add (0 * ie.size))=⟨b,off,none⟩:=by
     split
     ·rfl
     ·rw[Addr.add_lit];simp
    refine aZ hR hk (v:= .slice 1 (cs.take n) .no) (by rw[exec];simp only[Option.map_none];rw[mH hut hie];rfl) (.pure ?_) h
    rw[e0]
    have hl:(cs.take n).length=n:=by simp;omega
    have hget:∀(i:Nat) (e:AV) (c:Nat) (x:AV),(cs.take n)[i]?=some e→e.cells[c]?=some x→c=0∧(e.cells=[x])∧cs[i]?=some e:=fun i e c x he hx=>by
     have h2:=rk h1 i e he
     obtain⟨z,hz⟩:=List.length_eq_one_iff.1 h2
     rw[hz]at hx ⊢
     rw[List.getElem?_take]at he
     split at he
     ·cases c with
      | zero=>simp at hx;subst hx;exact⟨rfl,rfl,he⟩
      | succ c=>simp at hx
     ·cases he
    have:=PRel.slice (w:=C.w) (imm:=C.imm) (sz:=1) (es:=cs.take n) (tok:= .no) (b:=b) (off:=off) (cap:=n) (fun i _=>ys i) (by omega) (.inl rfl) hm (fun i e he=>rk h1 i e he) (fun i e c x he hx=>by
     obtain⟨rfl,_,hi⟩:=hget i e c x he hx
     have:=hc i e hi
     simpa using this) (fun i e c x he hx=>by
     obtain⟨rfl,hx',hi⟩:=hget i e c x he hx
     have hpe:=hpp i e hi
     have hone:=(hc i e hi).2.2
     cases e with
     | agg l =>
      have no:∀y:Value,PRel C.w C.imm (.agg l) y→y.oneCell'=true→False:=by
       intro y h1 h2
       cases h1 with
       | agg=>simp[Value.oneCell']at h2
      exact(no _ hpe hone).elim
     | _=>simp[AV.cells]at hx';subst hx';exact hpe)
    rw[hl]at this
    exact this
end
end Go.Am
