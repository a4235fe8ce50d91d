/- Part 2 of the texts that the last one stands on. -/
import Derived.OrdersIn
import Derived.Deep.LoopGhost
import Derived.Scope
import Derived.RangeFuncRecord
import Derived.Test.YtbpiibdcncfphaaGreatDoorA1
set_option linter.unusedVariables false
set_option linter.unusedSimpArgs false
namespace Go.Am
open Go.RowKit
section
variable {P : Program} {N : Nat} {base : Nat→Prop} {w0 : World} {S : St} {C : Ctx} {a : Act} {w : World} {K : List Wr→Prop} {o : Oper} {next : Act→World→Prop} {Q : Exit→Act→World→Prop}
theorem widthB_eq' {es : List AV} {sz n : Nat} (h : widthB es sz n = true) : es ≠ []→sz = n:=by
  intro he
  unfold widthB at h
  split at h
  · rename_i h1;exact Nat.eq_of_beq_eq_true h1
  · split at h
    · exact absurd rfl he
    · simp at h
theorem Rel.bump (hR : Rel N base w0 S C a w) (k : Key) (cont : Option (Nat × List AV)) (hok : ∀ C' : Ctx, C.le C'→C'.w = C.w→C'.imm = C.imm→C'.jb = C.jb→C'.own = C.own→∀ sz es, cont = some (sz, es)→BoxOK C' k sz es) :
    ∃ C', C.le C'∧C'.gb k = (S.box k).1 + 1∧C'.jb = C.jb∧C'.own = C.own∧C'.w = C.w∧C'.imm = C.imm∧Rel N base w0 (S.put (.box k ((S.box k).1 + 1, cont))) C' a w:=by
  obtain ⟨C', hC'⟩ : ∃ C' : Ctx, C' = { C with gb:=upd C.gb k (C.gb k + 1) }:=⟨_, rfl⟩
  have hle : C.le C':=by
    refine ⟨fun b i h=>⟨by rw [hC'];exact h, by rw [hC']⟩, fun x=>?_, fun x e=>by rw [hC'], fun x=>by rw [hC'];exact Nat.le_refl _, fun x _=>by rw [hC'];exact Nat.le_refl _, fun x b _ _ h=>⟨by rw [hC'];exact h, fun i hi=>by rw [hC'] at hi;exact hi, fun arr e h'=>⟨arr, by rw [hC'];exact h', rfl⟩⟩,
      fun x _ h=>⟨by rw [hC'];exact h, fun arr e h'=>⟨arr, e, by rw [hC'];exact h', Nat.le_refl _⟩⟩, by rw [hC'];exact Nat.le_refl _, fun b i _ h=>by rw [hC'] at h;exact .inl h, fun b o _ h=>by rw [hC'] at h;exact h, fun b _ _=>by rw [hC']⟩
    rw [hC'];simp only [upd];split
    · subst_vars;omega
    · exact Nat.le_refl _
  refine ⟨C', hle, by rw [hC', ← hR.gb];exact upd_same _ _ _, by rw [hC'], by rw [hC'], by rw [hC'], by rw [hC'], ?_⟩
  exact {
    cw:=by rw [hC'];exact hR.cw
    glob:=(by first|exact hR.glob|exact hR.globOf (by first|exact hle.le0|exact hle|exact hle0|exact hCle.le0) (by first|rfl|exact h1.cw|(rw [hC'];first|done|exact hR.cw)|exact hR.cw))
    size:=hR.size, defers:=hR.defers.le hle, slot:=fun i hi=>(hR.slot i hi).le hle
    gb:=fun x=>by
      rw [hC'];simp only [St.put, upd];split
      · subst_vars;simp [hR.gb]
      · exact hR.gb x
    gt:=fun x=>by rw [hC'];exact hR.gt x
    hw:=fun x=>by rw [hC'];exact hR.hw x
    box:=fun x sz es h=>by
      by_cases e : x = k
      · subst e
        simp only [St.put, upd_same] at h
        exact hok C' hle (by rw [hC']) (by rw [hC']) (by rw [hC']) (by rw [hC']) sz es h
      · simp only [St.put, upd_ne _ _ e] at h
        exact (hR.box x sz es h).mono hle (by rw [hC']) (fun _=>by rw [hC']) (fun _=>by rw [hC'])
    ownBox:=fun b x h=>by rw [hC'] at h ⊢;exact hR.ownBox b x h
    immLt:=fun b i h=>by rw [hC'] at h;exact hR.immLt b i h
    ownLt:=fun b o h=>by rw [hC'] at h;exact hR.ownLt b o h
    below:=hR.below, base:=hR.base }
theorem BoxOK.nil {C : Ctx} {k : Key} {sz : Nat} (h : sz ≠ 0) : BoxOK C k sz []:=⟨fun _ i e he=>by simp at he, fun h0=>absurd h0 h, fun _ he=>absurd rfl he⟩
theorem BoxOK.join {C C' : Ctx} {k k' : Key} {sz m : Nat} {es es' : List AV} (h0 : sz ≠ 0) (hj : C'.own (C'.jb k') = some (.box k')) (arr : Array Value) (et : TypeId) (ha : C'.w.heap[C'.jb k']? = some (.cells arr et (0, 0)))
    (hm : m ≤ es.length) (hlen : (m + es'.length) * sz ≤ arr.size) (hw : ∀ (i : Nat) (e : AV), es[i]? = some e→e.cells.length = sz) (hw' : ∀ (i : Nat) (e : AV), es'[i]? = some e→e.cells.length = sz)
    (h1 : ∀ (i : Nat) (e : AV) (c : Nat) (x : AV), i < m→es[i]? = some e→e.cells[c]? = some x→∃ y, arr[i * sz + c]? = some y∧KRel C' x y∧y.oneCell' = true)
    (h2 : ∀ (i : Nat) (e : AV) (c : Nat) (x : AV), es'[i]? = some e→e.cells[c]? = some x→∃ y, arr[(m + i) * sz + c]? = some y∧KRel C' x y∧y.oneCell' = true) :
    BoxOK C' k' sz (es.take m++es'):=by
  have hl : (es.take m).length = m:=by simp;omega
  refine ⟨fun _ i e he=>?_, fun h=>absurd h h0, fun _ _=>⟨hj, arr, et, ha, by rw [List.length_append, hl];exact hlen, fun i e c x he hx=>?_⟩⟩
  · by_cases hi : i < m
    · rw [List.getElem?_append_left (by omega), List.getElem?_take, if_pos hi] at he;exact hw i e he
    · rw [List.getElem?_append_right (by omega)] at he;exact hw' _ e he
  · by_cases hi : i < m
    · rw [List.getElem?_append_left (by omega), List.getElem?_take, if_pos hi] at he;exact h1 i e c x hi he hx
    · rw [List.getElem?_append_right (by omega), hl] at he
      obtain ⟨y, a1, a2⟩:=h2 _ e c x he hx
      exact ⟨y, by rw [show i = m + (i - m) by omega];exact a1, a2⟩
theorem idx_split {n i c : Nat} (l : Nat) (hi : i < l) (hc : c < n) : i * n + c < l * n:=by
  have : (i + 1) * n ≤ l * n:=Nat.mul_le_mul_right _ hi
  rw [Nat.add_mul, Nat.one_mul] at this;omega
theorem app_news {n : Nat} {es' : List AV} {sz' : Nat} {tok' : Tok} {Y : Value} (hR : Rel N base w0 S C a w) (hn : 0 < n) (hv : KRel C (.slice sz' es' tok') Y) (hs : es' ≠ []→sz' = n) :
    ∃ bY capY, Y = .slice bY es'.length capY∧(bY = none∨∃ x y, bY = some ⟨x, y, none⟩)∧es'.length ≤ capY∧capY ≤ maxLen∧∃ news : List Value, news.length = es'.length * n ∧
      (∀ ad, bY = some ad→∀ (j : Nat) (u : Value), news[j]? = some u→w.cell? (ad.add j) = some u)∧(es' ≠ []→∃ x y, bY = some ⟨x, y, none⟩)∧(∀ u ∈ news, u.oneCell' = true)∧(∀ (i : Nat) (e : AV), es'[i]? = some e→e.cells.length = n) ∧
      ∀ (i : Nat) (e : AV) (c : Nat) (x : AV), es'[i]? = some e→e.cells[c]? = some x→∃ y, news[i * n + c]? = some y∧PRel w C.imm x y∧y.oneCell' = true:=by
  have hpv : PRel C.w C.imm (.slice n es' .no) Y:=(hv.pure1 (x':=.slice sz' es' .no) rfl).resz hs
  by_cases hempty : es' = []
  · subst hempty
    cases hpv with
    | nil=>exact ⟨none, 0, rfl, .inl rfl, Nat.le_refl _, by simp, [], by simp, by simp, fun h=>absurd rfl h, by simp, by simp, by simp⟩
    | slice ys hcap _ hm=>exact ⟨_, _, rfl, .inr ⟨_, _, rfl⟩, hcap, hm, [], by simp, by simp, fun h=>absurd rfl h, by simp, by simp, by simp⟩
  · cases hY : hpv with
    | nil=>exact absurd rfl hempty
    | @slice _ _ _ b off cap ys hcap ht hm hsz hc hp =>
      obtain ⟨_, news, a1, a2, a3, a4, a5⟩:=slice_news hn hpv
      rw [hR.cw] at a2 a5
      refine ⟨_, _, rfl, .inr ⟨_, _, rfl⟩, hcap, hm, news, a1, fun ad e j u hj=>by cases e;exact (a2 j u hj).1, fun _=>⟨_, _, rfl⟩, a3, a4, fun i e c x h1 h2=>?_⟩
      obtain ⟨y, b1, b2⟩:=a5 i e c x h1 h2
      exact ⟨y, b1, b2, a3 y (List.mem_of_getElem? b1)⟩
theorem KRel.mkOwn {C' : Ctx} {k : Key} {g sz n c cap : Nat} (hg : C'.gb k = g) (hn : n ≤ c) (hm : c ≤ maxLen) (ho : C'.own (C'.jb k) = some (.box k)) {arr : Array Value} {et : TypeId}
    (ha : C'.w.heap[C'.jb k]? = some (.cells arr et (0, 0))) (hs : c * sz ≤ arr.size) : KRel C' (.own k g sz n cap) (.slice (some ⟨C'.jb k, 0, none⟩) n c):=by
  rw [← hg];exact .own hn hm ho ⟨arr, et, ha, hs⟩
theorem opAppendU_sound (cx : Cx) (hR : Rel N base w0 S C a w) (hk : Then N base w0 S C K next) {c : Call} {t e : TypeId} {n bt n' d : Nat} {z' : AV} {x y : Operand} (ho : o.op = .call c) (hb : c.callee = .builtin .append)
    (ha : c.args.toList = [x, y]) (hat : c.argTypes.toList = [t, t]) (hx : inN N x = true) (hy : inN N y = true) (hdst : o.dst = some d) (hts : tySlice P t = some (e, n, bt)) (hz : zeroA P e = some (n', z'))
    (h : (opAppendU cx d n bt n' x y).rm.wp0 P S K) : o.wp P a w next Q:=by
  have ha' : c.args = #[x, y]:=by rw [← Array.toArray_toList (xs:=c.args), ha]
  have hat' : c.argTypes = #[t, t]:=by rw [← Array.toArray_toList (xs:=c.argTypes), hat]
  unfold opAppendU at h
  obtain ⟨hn', hn, h⟩:=h
  have hn':=Nat.eq_of_beq_eq_true hn'
  have hn : 0 < n:=Nat.le_of_ble_eq_true hn
  subst hn'
  rw [slotI_wp0, slotI_wp0] at h
  have hu:=hR.val hx
  have hv:=hR.val hy
  have exec : (execOp a.eval o).run P w = ((Builtin.append_ #[t, t] o.type #[a.eval x, a.eval y]).run P w).andThen fun v w'=>.ok (.value v) w':=by
    simp [execOp, ho, resolve, hb, ha', hat', invoke, builtin]
  obtain ⟨ie, hut, hie, hsz, hbt⟩:=tySlice_some hts
  obtain ⟨i', z, hz0, hz1, hz2, _⟩:=zeroA_some hz
  rw [hie] at hz0;cases hz0
  revert h hu hv exec
  generalize S.val x = u
  generalize S.val y = v
  generalize a.eval x = X
  generalize a.eval y = Y
  intro h hu hv exec
  cases v<;>first|exact h.elim|skip
  rename_i sz' es' tok'
  simp only at h
  obtain ⟨hw, h⟩:=h
  obtain ⟨bY, capY, rfl, hbY, hcapY, hmY, news, hnl, hnews, hnY, hnone, hnsz, hnp⟩:=app_news hR hn hv (widthB_eq' hw)
  have grow : ∀ (k : Key) (g m : Nat) (es : List AV) (olds : List Value) (old : Nat) (X : Value), es' ≠ []→old < m + es'.length→m ≤ es.length→(m + es'.length) * bt ≤ 140737488355328→m + es'.length ≤ maxLen→olds.length = m * n' →
      (∀ u ∈ olds, u.oneCell' = true)→(∀ (i : Nat) (e : AV), es[i]? = some e→e.cells.length = n') →
      (∀ (i : Nat) (e : AV) (c : Nat) (x : AV), i < m→es[i]? = some e→e.cells[c]? = some x→∃ y, olds[i * n' + c]? = some y∧KRel C x y∧y.oneCell' = true) →
      (Builtin.append_ #[t, t] o.type #[X, .slice bY es'.length capY]).run P w = .ok (.slice (some ⟨w.heap.size, 0, none⟩) (m + es'.length) (grownCap w (m + es'.length) old e))
            (w.drew.alloc (.cells (olds.toArray++news.toArray++Builtin.zeroCells z.cells (grownCap w (m + es'.length) old e - (m + es'.length))) e)) →
      (execOp a.eval o).run P w = ((Builtin.append_ #[t, t] o.type #[X, .slice bY es'.length capY]).run P w).andThen (fun v w'=>.ok (.value v) w') →
      (S.box k).1 = g→K [.box k (g + 1, some (n', es.take m++es')), .slot d (.own k (g + 1) n' (m + es'.length) 0)]→o.wp P a w next Q:=by
    intro k g m es olds old X hne hold hm hbytes hmax hol hone hesz hop hrun hexec hg hK
    obtain ⟨arr, harr⟩ : ∃ arr, arr = olds.toArray++news.toArray++Builtin.zeroCells z.cells (grownCap w (m + es'.length) old e - (m + es'.length)):=⟨_, rfl⟩
    rw [← harr] at hrun
    have hge:=grownCap_ge w (m + es'.length) old e
    have hgm:=grownCap_le_maxLen w (m + es'.length) old e hmax
    have hsa : arr.size = grownCap w (m + es'.length) old e * n':=by
      rw [harr]
      simp only [Array.size_append, List.size_toArray, size_zeroCells, hz2, hol, hnl, ← Nat.add_mul]
      congr 1;omega
    obtain ⟨hle0, hR0⟩:=hR.world (w':=w.drew) rfl rfl rfl rfl
    have hget1 : ∀ i, i < m * n'→arr[i]? = olds[i]?:=fun i hi=>by
      rw [harr, Array.append_assoc, Array.getElem?_append_left (by simp [hol];exact hi)];simp
    have hget2 : ∀ i, i < es'.length * n'→arr[m * n' + i]? = news[i]?:=fun i hi=>by
      rw [harr, Array.getElem?_append_left (by simp [hol, hnl];omega), Array.getElem?_append_right (by simp [hol])]
      simp [hol]
    obtain ⟨C', hle, hgb, hjb, him, hon, hcw, hR'⟩:=hR0.newObj k (some (n', es.take m++es')) (.cells arr e) (fun C' hle hw him hj hown hg sz1 es1 h1=>by
      cases h1
      have hh : C'.w.heap[C'.jb k]? = some (.cells arr e (0, 0)):=by rw [hw, hj];exact heap_alloc_new _ _
      refine BoxOK.join (C:=C) (k:=k) (by omega) (by rw [hj];exact hown) arr e hh hm (by rw [hsa];exact Nat.mul_le_mul_right _ hge) hesz hnsz (fun i e c x hi he hx=>?_) (fun i e c x he hx=>?_)
      · obtain ⟨y, a1, a2, a3⟩:=hop i e c x hi he hx
        have hcn : c < n':=by rw [← hesz i e he];exact (List.getElem?_eq_some_iff.1 hx).1
        exact ⟨y, by rw [hget1 _ (idx_split m hi hcn)];exact a1, a2.le (hle0.trans hle), a3⟩
      · obtain ⟨y, a1, a2, a3⟩:=hnp i e c x he hx
        have hcn : c < n':=by rw [← hnsz i e he];exact (List.getElem?_eq_some_iff.1 hx).1
        refine ⟨y, by rw [Nat.add_mul, Nat.add_assoc, hget2 _ (idx_split _ (List.getElem?_eq_some_iff.1 he).1 hcn)];exact a1, .pure ?_, a3⟩
        refine a2.mono fun b i hi=>?_
        have:=(hle0.trans hle).imm b i hi
        rw [hR.cw] at this
        exact this)
    rw [hg] at hR' hgb
    refine fin_world hk (by rw [hexec, hrun];rfl) (hle0.trans hle) hR' (v:=.own k (g + 1) n' (m + es'.length) 0) ?_ hK (by rw [hdst];rfl)
    have:=KRel.mkOwn (C':=C') (k:=k) (g:=g + 1) (sz:=n') (n:=m + es'.length) (cap:=0) hgb hge hgm (by rw [hjb];exact hon) (arr:=arr) (et:=e) (by rw [hcw, hjb];exact heap_alloc_new _ _) (by rw [hsa];exact Nat.le_refl _)
    rw [hjb] at this
    exact this
  have fresh : ∀ (k : Key) (g m : Nat) (es : List AV) (bX : Option Addr), (bX = none∨∃ x y, bX = some ⟨x, y, none⟩)→m = 0→X = .slice bX 0 0→(m + es'.length) * bt ≤ 140737488355328→m + es'.length ≤ maxLen→(S.box k).1 = g →
      K [.box k (g + 1, some (n', es.take m++es')), .slot d (.own k (g + 1) n' (m + es'.length) 0)]→(∀ (i : Nat) (e : AV), es[i]? = some e→e.cells.length = n')→o.wp P a w next Q:=by
    intro k g m es bX hbX hm0 hX hbytes hmax hg hK hesz
    subst hm0 hX
    by_cases hempty : es' = []
    · subst hempty
      have hrun : (execOp a.eval o).run P w = .ok (.value (.slice bX 0 0)) w:=by
        rw [exec];simp only [List.length_nil]
        rw [run_append_zero hut hie bX 0 0 (Nat.le_refl _) bY capY hbY hbX];rfl
      obtain ⟨C', hle, hgb, hjb, _, _, _, hR'⟩:=hR.bump k (some (n', es.take 0++[])) (fun C' _ _ _ _ _ sz es h=>by cases h;exact BoxOK.nil (by omega))
      rw [hg] at hR' hgb
      refine fin_world hk hrun hle hR' (v:=.own k (g + 1) n' 0 0) ?_ hK (by rw [hdst];rfl)
      rw [← hgb];exact .ownNil hbX
    · have hm0 : 0 < es'.length:=List.length_pos_iff.2 hempty
      obtain ⟨by_, oy, rfl⟩:=hnY hempty
      refine grow k g 0 es [] 0 (.slice bX 0 0) hempty (by omega) (Nat.zero_le _) hbytes hmax (by simp) (by simp) hesz (fun i _ _ _ hi=>absurd hi (by omega)) ?_ exec hg hK
      rcases hbX with rfl|⟨bx, ox, rfl⟩
      · have:=run_append_nil (P:=P) w t o.type e ie z hut hie hz1 ⟨by_, oy, none⟩ es'.length capY news (by rw [hnl, hsz]) (fun j u hj=>hnews _ rfl j u hj) hm0 (by unfold maxLen at hmax;omega) (by rw [hbt];simp at hbytes;omega)
        simpa using this
      · have:=run_append_grow (P:=P) w t o.type e ie z hut hie hz1 ⟨bx, ox, none⟩ 0 0 [] (by simp) (by simp) ⟨by_, oy, none⟩ es'.length capY news (by rw [hnl, hsz])
          (fun j u hj=>hnews _ rfl j u hj) (by omega) (by unfold maxLen at hmax;omega) (growslice_fits (by omega) (by rw [hbt];exact hbytes))
        exact this
  cases u<;>first|exact h.elim|skip
  case slice sz es tok =>
    cases es with
    | cons _ _=>exact h.elim
    | nil =>
      cases tok<;>first|exact h.elim|skip
      obtain ⟨⟨hbytes, hmax⟩, h⟩:=h
      simp only [RB.rm, RM.wp0] at h
      have hX : ∃ b, X = .slice b 0 0∧(b = none∨∃ x y, b = some ⟨x, y, none⟩):=by
        cases hu with
        | pure hp=>cases hp with
          | nil=>exact ⟨none, rfl, .inl rfl⟩
          | slice ys hcap ht=>exact ⟨_, by rw [show _ = 0 from (ht.resolve_left (by simp)).2];rfl, .inr ⟨_, _, rfl⟩⟩
      obtain ⟨bX, hX, hbX⟩:=hX
      exact fresh (cx.key d) _ 0 [] bX hbX rfl hX (by simpa using hbytes) (by simpa using hmax) rfl (by simpa using h) (by simp)
  case own k g sz m cap =>
    simp only [RB.rm, RM.wp0] at h
    split at h
    · rename_i dd hbox
      obtain ⟨sz0, es⟩:=dd
      obtain ⟨hg, hs0, hs1, ⟨hml, hbytes, hmax⟩, h⟩:=h
      have hg:=Nat.eq_of_beq_eq_true hg
      have hs0 : n' = sz0:=(Nat.eq_of_beq_eq_true hs0).symm
      have hs1 : n' = sz:=(Nat.eq_of_beq_eq_true hs1).symm
      subst hs0 hs1
      have hB:=hR.box k _ es hbox
      have hwid:=hB.wid (by omega)
      have hcur : g = C.gb k:=by rw [hR.gb, hg]
      subst hcur
      rw [hg] at h
      cases hu with
      | pure hp=>cases hp
      | ownOld hlt=>omega
      | ownNil hbX=>exact fresh k _ 0 es _ hbX rfl rfl hbytes hmax hg h hwid
      | @own _ _ _ _ cX hmc hcm hoX hsX =>
        obtain ⟨arr, et, harr, hsa⟩:=hsX
        rw [hR.cw] at harr
        have hmul : m * n' ≤ arr.size:=Nat.le_trans (Nat.mul_le_mul_right _ hmc) hsa
        have hcell : ∀ (i : Nat) (e : AV) (c : Nat) (x : AV), i < m→es[i]? = some e→e.cells[c]? = some x→∃ y, arr[i * n' + c]? = some y∧KRel C x y∧y.oneCell' = true:=by
          intro i e c x hi he hx
          obtain ⟨_, arr2, et2, ha2, _, hc2⟩:=hB.own (by omega) (by rintro rfl;simp at he)
          rw [hR.cw, harr] at ha2
          cases ha2
          exact hc2 i e c x he hx
        have hall : ∀ j u, j < m * n'→arr[j]? = some u→u.oneCell' = true:=by
          intro j u hj hu
          have h1 : j / n' < m:=Nat.div_lt_of_lt_mul (by rw [Nat.mul_comm];exact hj)
          have hml : m ≤ es.length:=hml
          have h1' : j / n' < es.length:=by omega
          have h2 : j % n' < es[j / n'].cells.length:=by rw [hwid (j / n') es[j / n'] (by simp [h1'])];exact Nat.mod_lt _ hn
          obtain ⟨y, b1, _, b3⟩:=hcell (j / n') es[j / n'] (j % n') es[j / n'].cells[j % n'] h1 (by simp [h1']) (by simp [h2])
          rw [show j / n' * n' + j % n' = j by rw [Nat.mul_comm];exact Nat.div_add_mod j n', hu] at b1
          cases b1;exact b3
        by_cases hempty : es' = []
        · subst hempty
          have hrun : (execOp a.eval o).run P w = .ok (.value (.slice (some ⟨C.jb k, 0, none⟩) m cX)) w:=by
            rw [exec];simp only [List.length_nil]
            rw [run_append_zero hut hie _ m cX hmc bY capY hbY (.inr ⟨_, _, rfl⟩)];rfl
          obtain ⟨C', hle, hgb, hjb, hon, hcw, _, hR'⟩:=hR.bump k (some (n', es.take m++[])) (fun C' hle hw him hj hown sz1 es1 h1=>by
            cases h1
            refine BoxOK.join (C:=C) (k:=k) (es':=[]) (by omega) (by rw [hj, hown];exact hoX) arr et (by rw [hw, hj, hR.cw];exact harr) hml (by simpa using hmul) hwid (by simp) (fun i e c x hi he hx=>?_) (by simp)
            obtain ⟨y, a1, a2, a3⟩:=hcell i e c x hi he hx
            exact ⟨y, a1, a2.le hle, a3⟩)
          rw [hg] at hR' hgb
          refine fin_world hk hrun hle hR' (v:=.own k (C.gb k + 1) n' m 0) ?_ h (by rw [hdst];rfl)
          have:=KRel.mkOwn (C':=C') (k:=k) (sz:=n') (n:=m) (cap:=0) hgb hmc hcm (by rw [hjb, hon];exact hoX) (arr:=arr) (et:=et) (by rw [hcw, hjb, hR.cw];exact harr) hsa
          rw [hjb] at this
          exact this
        · have hm0 : 0 < es'.length:=List.length_pos_iff.2 hempty
          obtain ⟨by_, oy, rfl⟩:=hnY hempty
          by_cases hroom : m + es'.length ≤ cX
          · have hfit : m * n' + news.length ≤ arr.size:=by rw [hnl, ← Nat.add_mul];exact Nat.le_trans (Nat.mul_le_mul_right _ hroom) hsa
            have hrun:=run_append_room' (P:=P) w t o.type e et ie hut hie (C.jb k) m cX arr harr ⟨by_, oy, none⟩ es'.length capY news (by rw [hnl, hsz]) (fun j u hj=>hnews _ rfl j u hj) hnone hroom (by rw [hsz];exact hfit)
            rw [hsz] at hrun
            obtain ⟨arr', harr'⟩ : ∃ arr' : Array Value, (arr.toList.take (m * n')++news++arr.toList.drop (m * n' + news.length)).toArray = arr':=⟨_, rfl⟩
            rw [harr'] at hrun
            have hget : ∀ p, arr'[p]? = if p < m * n' then arr[p]? else if p < m * n' + news.length then news[p - m * n']? else arr[p]?:=by
              intro p
              rw [← harr']
              have:=splice_get arr.toList (m * n') news (by simp;omega) p
              simpa using this
            have hsize : arr'.size = arr.size:=by
              rw [← harr'];simp only [List.size_toArray, List.length_append, List.length_take, List.length_drop, Array.length_toList];omega
            obtain ⟨C1, hle1, hg1, hj1, hR1⟩:=hR.objWrite k none hoX (w':=w.setRow (C.jb k) arr') (fun b hb=>setRow_other _ _ _ _ hb) (by simp) (by simp) (by simp) (by simp) (fun arr1 e1 h1=>by
              rw [harr] at h1;cases h1
              exact ⟨arr', _, setRow_heap _ _ _ _ _ _ harr, by omega⟩) (fun _ _ _ _ _ _ _ _ _ h=>by cases h)
            have ho1 : C1.own (C1.jb k) = some (.box k):=by
              have:=(hle1.bs k (by rw [hg1]) hoX).1
              rw [hj1];exact this
            have hh1 : C1.w.heap[C1.jb k]? = some (.cells arr' et (0, 0)):=by rw [hR1.cw, hj1];exact setRow_heap _ _ _ _ _ _ harr
            obtain ⟨C', hle, hgb, hjb, hon, hcw, _, hR'⟩:=hR1.bump k (some (n', es.take m++es')) (fun C' hle hw him hj hown sz1 es1 h1=>by
              cases h1
              refine BoxOK.join (C:=C) (k:=k) (by omega) (by rw [hj, hown];exact ho1) arr' et (by rw [hw, hj];exact hh1) hml (by rw [hsize];exact Nat.le_trans (Nat.mul_le_mul_right _ hroom) hsa) hwid hnsz (fun i e c x hi he hx=>?_) (fun i e c x he hx=>?_)
              · obtain ⟨y, a1, a2, a3⟩:=hcell i e c x hi he hx
                have hcn : c < n':=by rw [← hwid i e he];exact (List.getElem?_eq_some_iff.1 hx).1
                exact ⟨y, by rw [hget, if_pos (idx_split m hi hcn)];exact a1, a2.le (hle1.trans hle), a3⟩
              · obtain ⟨y, a1, a2, a3⟩:=hnp i e c x he hx
                have hcn : c < n':=by rw [← hnsz i e he];exact (List.getElem?_eq_some_iff.1 hx).1
                have hlt:=idx_split es'.length (List.getElem?_eq_some_iff.1 he).1 hcn
                refine ⟨y, ?_, .pure ?_, a3⟩
                · rw [hget, if_neg (by rw [Nat.add_mul];omega), if_pos (by rw [hnl, Nat.add_mul];omega), Nat.add_mul, show m * n' + i * n' + c - m * n' = i * n' + c by omega];exact a1
                · refine a2.mono fun b i hi=>?_
                  have:=(hle1.trans hle).imm b i hi
                  rw [hR.cw] at this
                  exact this)
            have e1 : ((S.put (.box k ((S.box k).1, none))).box k).1 = C.gb k:=by simp only [St.put, upd_same];exact hg
            rw [e1] at hR' hgb
            have e2 : (S.put (.box k ((S.box k).1, none))).put (.box k (C.gb k + 1, some (n', es.take m++es'))) = S.put (.box k (C.gb k + 1, some (n', es.take m++es'))):=by
              have hf : upd (upd S.box k ((S.box k).1, none)) k (C.gb k + 1, some (n', es.take m++es')) = upd S.box k (C.gb k + 1, some (n', es.take m++es')):=by
                funext j
                simp only [upd]
                by_cases hj : j = k<;>simp [hj]
              simp only [St.put, hf]
            rw [e2] at hR'
            refine fin_world hk (by rw [exec, hrun];rfl) (hle1.trans hle) hR' (v:=.own k (C.gb k + 1) n' (m + es'.length) 0) ?_ h (by rw [hdst];rfl)
            have:=KRel.mkOwn (C':=C') (k:=k) (sz:=n') (n:=m + es'.length) (cap:=0) hgb hroom hcm (by rw [hjb, hon];exact ho1) (arr:=arr') (et:=et) (by rw [hcw, hjb];exact hh1) (by rw [hsize];exact hsa)
            rw [hjb, hj1] at this
            exact this
          · have hol : (arr.toList.take (m * n')).length = m * n':=by simp;omega
            have hget : ∀ j, j < m * n'→(arr.toList.take (m * n'))[j]? = arr[j]?:=fun j hj=>by rw [List.getElem?_take, if_pos hj];simp
            refine grow k _ m es (arr.toList.take (m * n')) cX _ hempty (by omega) hml hbytes hmax hol (fun u hu=>?_) hwid (fun i e c x hi he hx=>?_) ?_ exec hg h
            · obtain ⟨j, hj⟩:=List.mem_iff_getElem?.1 hu
              have hlt : j < m * n':=by rw [← hol];exact (List.getElem?_eq_some_iff.1 hj).1
              rw [hget j hlt] at hj
              exact hall j u hlt hj
            · obtain ⟨y, a1, a2, a3⟩:=hcell i e c x hi he hx
              have hcn : c < n':=by rw [← hwid i e he];exact (List.getElem?_eq_some_iff.1 hx).1
              exact ⟨y, by rw [hget _ (idx_split m hi hcn)];exact a1, a2, a3⟩
            · exact run_append_grow (P:=P) w t o.type e ie z hut hie hz1 ⟨C.jb k, 0, none⟩ m cX _ (by rw [hol, hsz]) (fun j v hj=>by
                have hlt : j < m * n':=by rw [← hol];exact (List.getElem?_eq_some_iff.1 hj).1
                rw [hget j hlt] at hj
                simp [Addr.add_lit, World.cell?, harr, hj]) ⟨by_, oy, none⟩ es'.length capY news (by rw [hnl, hsz])
                (fun j u hj=>hnews _ rfl j u hj) (by omega) (by unfold maxLen at hmax;omega) (growslice_fits (by omega) (by rw [hbt];exact hbytes))
    · exact h.elim
theorem run_makeSlice' {t e : TypeId} {i : TypeInfo} {z : Value} (w : World) (ht : P.underlying t = some (.slice e)) (hi : P.info? e = some i) (hz : i.zero = some z)
    (kl kc : IntKind) (l c : Int) (h0 : 0 ≤ l) (hlc : l ≤ c) (hroom : c.toNat * i.bytes ≤ 140737488355328) (h63 : c.toNat ≤ maxLen) (hs : i.size ≠ 0) :
    ∃ arr : Array Value, (Instr.makeSlice t (.int kl l) (.int kc c)).run P w = .ok (.slice (some ⟨w.heap.size, 0, none⟩) l.toNat c.toNat) (w.alloc (.cells arr e)) ∧
      arr = (Array.range (c.toNat * i.size)).map (z.cells[· % z.cells.size]!):=by
  unfold maxLen at h63
  have wl : IntKind.i64.wrap l = l:=by rw [IntKind.wrap_i64];omega
  have wc : IntKind.i64.wrap c = c:=by rw [IntKind.wrap_i64];omega
  have n1 : ¬ c < 0:=by omega
  have hb : (i.bytes : Int) * c ≤ 281474976710656:=by
    have h1 : ((c.toNat * i.bytes : Nat) : Int) ≤ 140737488355328:=Int.ofNat_le.2 hroom
    have h2 : (c.toNat : Int) = c:=by omega
    rw [Int.natCast_mul, h2, Int.mul_comm] at h1
    omega
  have n2 : ¬ (281474976710656 < (i.bytes : Int) * c):=by omega
  have n3 : ¬ l < 0:=by omega
  have n4 : ¬ c < l:=by omega
  have n5 : ¬ (140737488355328 < c.toNat * i.bytes):=by omega
  refine ⟨_, ?_, rfl⟩
  by_cases hn : c.toNat * i.size = 0
  · simp [Instr.makeSlice, run_underlying ht, asInt, asIntOf, typeInfo, hi, sizeOf, wl, wc, n1, n2, n3, n4, n5, hn, newRow, askRoom, roomBytes]
    rw [show Array.range 0 = #[] from rfl];simp
  · simp [Instr.makeSlice, run_underlying ht, asInt, asIntOf, typeInfo, hi, sizeOf, zeroValue, hz, wl, wc, n1, n2, n3, n4, n5, hn, newRow, askRoom, roomBytes]
theorem opMakeSliceU_sound (cx : Cx) (hR : Rel N base w0 S C a w) (hk : Then N base w0 S C K next) {t e : TypeId} {n bt n' d : Nat} {z' : AV} {x y : Operand} (ho : o.op = .makeSlice t x y)
    (hx : inN N x = true) (hy : inN N y = true) (hdst : o.dst = some d) (hts : tySlice P t = some (e, n, bt)) (hz : zeroA P e = some (n', z'))
    (h : (opMakeSliceU cx d n bt n' z' x y).rm.wp0 P S K) : o.wp P a w next Q:=by
  unfold opMakeSliceU at h
  obtain ⟨hn', hn, hst, hzl, h⟩:=h
  have hn' : n = n':=(Nat.eq_of_beq_eq_true hn').symm
  have hn : 0 < n:=Nat.le_of_ble_eq_true hn
  have hzl:=Nat.eq_of_beq_eq_true hzl
  subst hn'
  rw [slotI_wp0, slotI_wp0] at h
  have hu:=hR.val hx
  have hv:=hR.val hy
  have exec : (execOp a.eval o).run P w = ((Instr.makeSlice t (a.eval x) (a.eval y)).run P w).andThen fun v w'=>.ok (.value v) w':=by
    simp [execOp, ho]
  obtain ⟨ie, hut, hie, hsz, hbt⟩:=tySlice_some hts
  obtain ⟨i', z, hz0, hz1, hz2, hz3, _⟩:=zeroA_some hz
  rw [hie] at hz0;cases hz0
  revert h hu hv exec
  generalize S.val x = u
  generalize S.val y = v
  generalize a.eval x = X
  generalize a.eval y = Y
  intro h hu hv exec
  split at h
  · rename_i kl l kc c
    obtain ⟨⟨h1, h2, h3, h4⟩, h⟩:=h
    have hX : X = .int kl l:=hu.val rfl
    have hY : Y = .int kc c:=hv.val rfl
    subst hX hY
    simp only [RB.rm, RM.wp0] at h
    obtain ⟨arr, hrun, harr⟩:=run_makeSlice' (P:=P) w hut hie hz1 kl kc l c h1 h2 (by rw [hbt];exact h3) h4 (by omega)
    have hsa : arr.size = c.toNat * n:=by rw [harr];simp [hsz]
    have hcell : ∀ i cc, i < c.toNat→cc < n→arr[i * n + cc]? = z.cells[cc]?:=fun i cc hi hc=>by
      have hlt:=idx_split c.toNat hi hc
      rw [harr]
      have hmod : (i * n + cc) % n = cc:=by rw [Nat.mul_comm, Nat.mul_add_mod];exact Nat.mod_eq_of_lt hc
      have hlt2 : cc < z.cells.size:=by omega
      rw [hsz, hz2]
      rw [Array.getElem?_map, Array.getElem?_range, if_pos hlt]
      simp only [Option.map_some, hmod]
      rw [getElem!_pos z.cells cc hlt2];simp [hlt2]
    obtain ⟨_, hp, hone⟩:=(KRel.pure (C:=C) (pRel_ofValue C.w C.imm z)).cells (by rw [← hz3];exact hst)
    rw [← hz3] at hp
    obtain ⟨C', hle, hgb, hjb, him, hon, hcw, hR'⟩:=hR.newBox (cx.key d) n (List.replicate c.toNat z') arr e (by omega) (fun i e he=>by
      rw [List.getElem?_replicate] at he
      split at he
      · cases he;exact hzl
      · simp at he) (by simp [hsa]) (fun i e cc x he hx=>by
      rw [List.getElem?_replicate] at he
      split at he
      · rename_i hi
        cases he
        have hc : cc < n:=by rw [← hzl];exact (List.getElem?_eq_some_iff.1 hx).1
        have hc2 : cc < z.cells.size:=by omega
        exact ⟨z.cells[cc], by rw [hcell i cc hi hc];simp [hc2], hp cc x _ hx (by simp [hc2]), hone _ (by simp)⟩
      · simp at he)
    refine fin_world hk (by rw [exec, hrun];rfl) hle hR' (v:=.own (cx.key d) ((S.box (cx.key d)).1 + 1) n l.toNat 0) ?_ h (by rw [hdst];rfl)
    have:=KRel.mkOwn (C':=C') (k:=cx.key d) (sz:=n) (n:=l.toNat) (c:=c.toNat) (cap:=0) hgb (by omega) h4 (by rw [hjb];exact hon) (arr:=arr) (et:=e) (by rw [hcw, hjb];exact heap_alloc_new _ _) (by rw [hsa];exact Nat.le_refl _)
    rw [hjb] at this
    exact this
  · exact h.elim
theorem opBuildSliceU_sound (cx : Cx) (hR : Rel N base w0 S C a w) (hk : Then N base w0 S C K next) {t : TypeId} {len : Nat} {parts : Array (Nat × Operand)} (ho : o.op = .buildSlice t len parts)
    (hx : ∀ p ∈ parts.toList, inN N p.2 = true) {d : Nat} (hdst : o.dst = some d) (h : (opBuildSliceU P cx d t len parts.toList).wp0 P S K) : o.wp P a w next Q:=by
  unfold opBuildSliceU at h
  cases hts : tySlice P t with
  | none=>simp only [hts] at h;exact h.elim
  | some q =>
    obtain ⟨e, n, bt⟩:=q
    simp only [hts] at h
    obtain ⟨⟨hr, hmax, hn0, hzs⟩, h⟩:=h
    rw [vals_wp0] at h
    obtain ⟨ie, hu, hie, hsz, _⟩:=tySlice_some hts
    cases hz : zeroA P e with
    | none=>simp [hz] at hzs
    | some q =>
      obtain ⟨nz, z⟩:=q
      simp only [hz, Option.map_some, Option.some.injEq] at hzs
      have hzs':=hzs.symm
      subst hzs'
      obtain ⟨i, y, hi, hy, hyn, rfl, hst, hzl⟩:=zeroA_some hz
      rw [hie] at hi;cases hi
      have hzK : KRel C (ofValue y) y:=.pure (pRel_ofValue _ _ y)
      obtain ⟨_, _, hzone⟩:=hzK.cells hst
      split at h
      · rename_i es hes
        obtain ⟨hszs, h⟩:=h
        have hel : es.length = len:=by
          rw [topures_len hes]
          have:=congrArg List.length hr
          simpa using this
        have hpl : parts.toList.length = len:=by have:=congrArg List.length hr;simpa using this
        have hrel : ∀ (j : Nat) (x : AV) (v : Value), es[j]? = some x→(parts.toList.map fun p=>a.eval p.2)[j]? = some v→PRel w C.imm x v:=by
          intro j x v h1 h2
          obtain ⟨u, hu, hp⟩:=topures_get hes j x h1
          rw [List.map_map, List.getElem?_map, Option.map_eq_some_iff] at hu
          rw [List.getElem?_map, Option.map_eq_some_iff] at h2
          obtain ⟨p, hp1, rfl⟩:=hu
          obtain ⟨p', hp2, rfl⟩:=h2
          rw [hp1] at hp2;cases hp2
          rw [← hR.cw]
          exact (hR.val (hx p (List.mem_of_getElem? hp1))).toPure hp
        have hzero : ∀ (zs : Array Value), zs.size = len * n→∃ arr', Instr.fill (fun i=>some (i * n, n)) zs (parts.map fun p=>(p.1, a.eval p.2)).toList = some arr' ∧
            Pair (fun x v=>PRel w C.imm x v) (flat es) arr':=by
          intro zs hzs
          have hfa:=fillA_all n es 0 [] (List.replicate (len * n) .junk) (by simp) (by simp [hel]) (sizes_get hszs)
          simp only [List.nil_append] at hfa
          refine fill_sound (R:=fun x v=>PRel w C.imm x v) (fun h hs=>⟨(h.cells hs).1, (h.cells hs).2.1⟩) (fun i=>some (i * n, n)) _ _ _ _ zs (by simp [hel, hpl]) (fun j p q h1 h2=>?_)
            ⟨by simp [hzs], fun i x y hx hy=>?_⟩ hfa
          · rw [List.getElem?_zip_eq_some] at h1
            obtain ⟨h1a, h1b⟩:=h1
            rw [Array.toList_map, List.getElem?_map, Option.map_eq_some_iff] at h2
            obtain ⟨u, hu, rfl⟩:=h2
            refine ⟨?_, hrel j p.2 _ h1b (by rw [List.getElem?_map, hu];rfl)⟩
            have : (parts.toList.map (·.1))[j]? = some u.1:=by rw [List.getElem?_map, hu];rfl
            rw [hr, hel.symm] at this
            have e1:=(List.getElem?_eq_some_iff.1 h1a).2
            have e2:=(List.getElem?_eq_some_iff.1 this).2
            simp at e1 e2;omega
          · have:=List.mem_of_getElem? hx
            rw [(List.mem_replicate.1 this).2];exact .junk _
        obtain ⟨zc, hzc, hzone'⟩ : ∃ zc : Array Value, zc = (Array.range (len * n)).map (fun x=>(if len * n = 0 then #[] else y.cells)[x % (if len * n = 0 then #[] else y.cells).size]!)∧∀ v ∈ zc, v.oneCell' = true:=by
          refine ⟨_, rfl, fun v hv=>?_⟩
          simp only [Array.mem_map, Array.mem_range] at hv
          obtain ⟨p, hp, rfl⟩:=hv
          have hne : ¬ len * n = 0:=by omega
          simp only [if_neg hne]
          have hpos : 0 < y.cells.size:=by omega
          have hlt : p % y.cells.size < y.cells.size:=Nat.mod_lt _ hpos
          simp only [getElem!_def, Array.getElem?_eq_getElem hlt]
          exact hzone _ (by simp)
        obtain ⟨arr', hf, hpair⟩:=hzero zc (by rw [hzc];simp)
        have hflen:=flat_len fun i x hx=>(sizes_get hszs i x hx).1
        have hone:=fill_one _ _ _ _ hzone' (fun p hp=>by
          rw [Array.toList_map] at hp
          obtain ⟨u, hu, rfl⟩:=List.mem_map.1 hp
          obtain ⟨j, hj⟩:=List.getElem?_of_mem hu
          have hjl : j < es.length:=by rw [hel, ← hpl];exact (List.getElem?_eq_some_iff.1 hj).1
          have hs:=(sizes_get hszs j es[j] (by simp [hjl])).2
          have:=hrel j es[j] (a.eval u.2) (by simp [hjl]) (by rw [List.getElem?_map, hj];rfl)
          exact (this.cells hs).2.2) hf
        have hrun : (execOp a.eval o).run P w = .ok (.value (.slice (some ⟨w.heap.size, 0, none⟩) len len)) (w.alloc (.cells arr' e)):=by
          have hmax' : ¬ 2 ^ 24 < len * n:=by omega
          rw [hzc] at hf
          simp only [execOp, ho]
          by_cases h0 : len * n = 0
          · simp only [h0, if_true] at hf
            simp [Instr.buildSlice, run_underlying hu, sizeOf, typeInfo, hie, hsz, h0, newRow] at hf ⊢
            simp [hf]
          · simp only [h0, if_false] at hf
            simp [Instr.buildSlice, run_underlying hu, sizeOf, typeInfo, zeroValue, hie, hsz, hy, h0, newRow, hmax] at hf ⊢
            simp [hf]
            omega
        simp only [RM.wp0] at h
        have hszs' : ∀ (i : Nat) (x : AV), es[i]? = some x→x.cells.length = n:=fun i x hx=>(sizes_get hszs i x hx).1
        have hsa : arr'.size = len * n:=by rw [hpair.1, hflen, hel]
        have hlen : len ≤ maxLen:=by
          have : len ≤ len * n:=Nat.le_mul_of_pos_right _ hn0
          unfold maxLen;omega
        obtain ⟨C', hle, hgb, hjb, him, hon, hcw, hR'⟩:=hR.newBox (cx.key d) n es arr' e (by omega) hszs' (by rw [hel, hsa];exact Nat.le_refl _) (fun i x c u h1 h2=>by
          have hcn : c < n:=by rw [← hszs' i x h1];exact (List.getElem?_eq_some_iff.1 h2).1
          have hg:=flat_get hszs' i x c h1 hcn
          rw [h2] at hg
          have hlt : i * n + c < arr'.size:=by rw [hpair.1];exact (List.getElem?_eq_some_iff.1 hg).1
          have:=hpair.2 (i * n + c) u arr'[i * n + c] hg (by simp [hlt])
          exact ⟨arr'[i * n + c], by simp [hlt], .pure (by rw [hR.cw];exact this), hone _ (by simp)⟩)
        refine fin_world hk hrun hle hR' (v:=.own (cx.key d) ((S.box (cx.key d)).1 + 1) n es.length 0) ?_ h (by rw [hdst];rfl)
        have:=KRel.mkOwn (C':=C') (k:=cx.key d) (sz:=n) (n:=len) (c:=len) (cap:=0) hgb (Nat.le_refl _) hlen (by rw [hjb];exact hon) (arr:=arr') (et:=e) (by rw [hcw, hjb];exact heap_alloc_new _ _) (by rw [hsa];exact Nat.le_refl _)
        rw [hjb] at this
        rw [hel]
        exact this
      · exact h.elim
theorem opCopyU_sound (hR : Rel N base w0 S C a w) (hk : Then N base w0 S C K next) {c : Call} {t e : TypeId} {n bt : Nat} {x y : Operand} (ho : o.op = .call c) (hb : c.callee = .builtin .copy)
    (ha : c.args.toList = [x, y]) (hat : c.argTypes.toList = [t, t]) (hx : inN N x = true) (hy : inN N y = true) (hts : tySlice P t = some (e, n, bt))
    (h : (opCopyU o.dst n x y).rm.wp0 P S K) : o.wp P a w next Q:=by
  have ha' : c.args = #[x, y]:=by rw [← Array.toArray_toList (xs:=c.args), ha]
  have hat' : c.argTypes = #[t, t]:=by rw [← Array.toArray_toList (xs:=c.argTypes), hat]
  unfold opCopyU at h
  obtain ⟨hn, h⟩:=h
  have hn : 0 < n:=Nat.le_of_ble_eq_true hn
  rw [slotI_wp0, slotI_wp0] at h
  have hu:=hR.val hx
  have hv:=hR.val hy
  have exec : (execOp a.eval o).run P w = ((Builtin.copy_ #[t, t] o.type #[a.eval x, a.eval y]).run P w).andThen fun v w'=>.ok (.value v) w':=by
    simp [execOp, ho, resolve, hb, ha', hat', invoke, builtin]
  obtain ⟨ie, hut, hie, hsz, hbt⟩:=tySlice_some hts
  revert h hu hv exec
  generalize S.val x = u
  generalize S.val y = v
  generalize a.eval x = X
  generalize a.eval y = Y
  intro h hu hv exec
  split at h
  · rename_i k g sz m cap sz' es' tok'
    obtain ⟨hw, h⟩:=h
    obtain ⟨bY, capY, rfl, hbY, hcapY, hmY, news, hnl, hnews, hnY, hnone, hnsz, hnp⟩:=app_news hR hn hv (widthB_eq' hw)
    simp only [RB.rm, RM.wp0] at h
    split at h
    · rename_i dd hbox
      obtain ⟨sz0, es⟩:=dd
      obtain ⟨hg, hs0, hs1, hml, h⟩:=h
      have hg:=Nat.eq_of_beq_eq_true hg
      have hs0 : n = sz0:=(Nat.eq_of_beq_eq_true hs0).symm
      have hs1 : n = sz:=(Nat.eq_of_beq_eq_true hs1).symm
      subst hs0 hs1
      have hB:=hR.box k _ es hbox
      have hwid:=hB.wid (by omega)
      have hcur : g = C.gb k:=by rw [hR.gb, hg]
      subst hcur
      have hml : m ≤ es.length:=hml
      obtain ⟨j, hj⟩ : ∃ j, j = min es'.length m:=⟨_, rfl⟩
      rw [← hj] at h
      by_cases hj0 : j = 0
      · have hsame : es'.take j++es.drop j = es:=by rw [hj0];simp
        have hput : S.put (.box k (C.gb k, some (n, es))) = S:=by
          have : upd S.box k (C.gb k, some (n, es)) = S.box:=by
            funext q
            simp only [upd]
            split
            · subst_vars;rw [← hbox, ← hg]
            · rfl
          simp only [St.put, this]
        have hrun : (execOp a.eval o).run P w = .ok (.value (.int .i64 (j : Nat))) w:=by
          have hmin : Nat.min es'.length m = 0 := by have : min es'.length m = 0 := by omega
                                                     exact this
          have hX : ∃ b c, X = .slice b m c∧(b = none∨∃ q r, b = some ⟨q, r, none⟩):=by
            cases hu with
            | pure hp=>cases hp
            | ownOld hlt=>omega
            | own=>exact ⟨_, _, rfl, .inr ⟨_, _, rfl⟩⟩
            | ownNil hb=>exact ⟨_, _, rfl, hb⟩
          obtain ⟨b, cc, rfl, hb'⟩:=hX
          rw [exec, hj0]
          rcases hb' with rfl|⟨q, r, rfl⟩<;>rcases hbY with rfl|⟨q', r', rfl⟩ <;>
            simp [Builtin.copy_, run_underlying hut, Builtin.lenOf, sizeOf, typeInfo, hie, hmin, Builtin.firstCells, loadCells, loadCellsFrom, storeCells, goInt]
        have h' : K (putA o.dst (.v (.int .i64 (j : Nat))))∨True:=.inr trivial
        rw [hsame] at h
        rw [hg] at h
        refine wp_of_value hrun (hk _ C _ _ h (.refl C) ?_)
        simp only [St.puts, hput]
        exact hR.putA (.pure (.v _)) _
      · have hm0 : 0 < m:=by omega
        have hne' : es' ≠ []:=by rintro rfl;simp at hj;omega
        obtain ⟨by_, oy, rfl⟩:=hnY hne'
        have hne : es ≠ []:=by rintro rfl;simp at hml;omega
        obtain ⟨hoX, arr, et, harr, hcap, hcell⟩:=hB.own (by omega) hne
        rw [hR.cw] at harr
        cases hu with
        | pure hp=>cases hp
        | ownOld hlt=>omega
        | ownNil hb=>omega
        | @own _ _ _ _ cX hmc hcm _ _ =>
          have hjn : j * n ≤ news.length:=by rw [hnl];exact Nat.mul_le_mul_right _ (by omega)
          have hlt : j * n ≤ arr.size:=Nat.le_trans (Nat.mul_le_mul_right _ (by omega)) hcap
          have htl : (news.take (j * n)).length = j * n:=by simp;omega
          have hfirst:=run_firstCells_some (P:=P) (w:=w) n j ⟨by_, oy, none⟩ es'.length capY (news.take (j * n)) htl (fun i u hi=>by
            rw [List.getElem?_take] at hi
            split at hi
            · exact hnews _ rfl i u hi
            · simp at hi)
          have hst:=run_storeCells_at P (C.jb k) 0 et (news.take (j * n)) 0 arr w harr (by rw [htl];omega) (fun u hu=>hnone u (List.mem_of_mem_take hu))
          simp only [Nat.add_zero, List.take_zero, List.nil_append, Nat.zero_add] at hst
          obtain ⟨arr', harr'⟩ : ∃ arr' : Array Value, (news.take (j * n)++arr.toList.drop (news.take (j * n)).length).toArray = arr':=⟨_, rfl⟩
          rw [harr'] at hst
          have hget : ∀ p, arr'[p]? = if p < j * n then news[p]? else arr[p]?:=by
            intro p
            rw [← harr', htl]
            simp only [List.getElem?_toArray]
            by_cases hp : p < j * n
            · rw [List.getElem?_append_left (by rw [htl];exact hp), List.getElem?_take, if_pos hp, if_pos hp]
            · rw [List.getElem?_append_right (by rw [htl];omega), htl, List.getElem?_drop, if_neg hp]
              rw [show j * n + (p - j * n) = p by omega];simp
          have hsize : arr'.size = arr.size:=by
            rw [← harr', htl];simp only [List.size_toArray, List.length_append, htl, List.length_drop, Array.length_toList];omega
          have hlen2 : (es'.take j++es.drop j).length = es.length:=by simp;omega
          have htj : (es'.take j).length = j:=by simp;omega
          obtain ⟨C', hle, hgb, hjb, hR'⟩:=hR.boxWrite k hbox (by omega) hne (es'.take j++es.drop j) harr arr' hsize (fun i e he=>by
              by_cases hi : i < j
              · rw [List.getElem?_append_left (by omega), List.getElem?_take, if_pos hi] at he;exact hnsz i e he
              · rw [List.getElem?_append_right (by omega), htj, List.getElem?_drop] at he;exact hwid _ e he) (by rw [hlen2, hsize];exact hcap) (fun i e cc u he hx=>by
              by_cases hi : i < j
              · rw [List.getElem?_append_left (by omega), List.getElem?_take, if_pos hi] at he
                obtain ⟨y, a1, a2, a3⟩:=hnp i e cc u he hx
                have hcn : cc < n:=by rw [← hnsz i e he];exact (List.getElem?_eq_some_iff.1 hx).1
                exact ⟨y, by rw [hget, if_pos (idx_split j hi hcn)];exact a1, .pure (by rw [hR.cw];exact a2), a3⟩
              · rw [List.getElem?_append_right (by omega), htj, List.getElem?_drop, show j + (i - j) = i by omega] at he
                obtain ⟨y, a1, a2, a3⟩:=hcell i e cc u he hx
                refine ⟨y, ?_, a2, a3⟩
                have : j * n ≤ i * n:=Nat.mul_le_mul_right _ (by omega)
                rw [hget, if_neg (by omega)];exact a1)
          rw [hg] at hR' h
          have hrun : (execOp a.eval o).run P w = .ok (.value (.int .i64 (j : Nat))) (w.setRow (C.jb k) arr'):=by
            have hmin : Nat.min es'.length m = j := by have : min es'.length m = j := by omega
                                                       exact this
            rw [exec]
            simp [Builtin.copy_, run_underlying hut, Builtin.lenOf, sizeOf, typeInfo, hie, hsz, hmin, hfirst, hst, goInt]
          refine wp_of_value hrun (hk _ C' _ _ h hle ?_)
          simp only [St.puts]
          exact hR'.putA (.pure (.v _)) _
    · exact h.elim
  · exact h.elim
end
end Go.Am
namespace Go.Am
open Go.RowKit
theorem CK.typed_inv {c : CK} {v : Value} (h : c.typed v = true) : (∃ k n, c = .int k∧v = .int k n)∨(∃ b, c = .bool∧v = .bool b)∨∃ s, c = .str∧v = .string s:=by
  cases c with
  | int k =>
    cases v with
    | int k' n =>
      refine .inl ⟨k, n, rfl, ?_⟩
      cases k<;>cases k'<;>first|rfl|(simp [CK.typed] at h)
    | _=>simp [CK.typed] at h
  | bool =>
    cases v with
    | bool b=>exact .inr (.inl ⟨b, rfl, rfl⟩)
    | _=>simp [CK.typed] at h
  | str =>
    cases v with
    | string s=>exact .inr (.inr ⟨s, rfl, rfl⟩)
    | _=>simp [CK.typed] at h
def eqFs (P : Program) (g : TypeId→Option (List CK)) : List Field→Nat→Option (List CK)
  | [], _=>some []
  | f :: fs, off=>match g f.type, P.info? f.type with
    | some cs, some i=>if f.name ≠ "_"∧f.offset = off∧i.size = cs.length then (match eqFs P g fs (off + cs.length) with
      | some r=>some (cs++r)
      | none=>none) else none
    | _, _=>none
def times (cs : List CK) : Nat→List CK
  | 0=>[]
  | n + 1=>cs++times cs n
def eqTy (P : Program) : Nat→TypeId→Option (List CK)
  | 0, _=>none
  | n + 1, t=>match P.underlying t with
    | some .bool=>some [.bool]
    | some (.int k)=>some [.int k]
    | some .string=>some [.str]
    | some (.struct fs)=>if P.stoodInHeld t = true then none else eqFs P (eqTy P n) fs.toList 0
    | some (.array len e)=>match eqTy P n e, P.info? e with
      | some cs, some i=>if i.size = cs.length then some (times cs len) else none
      | _, _=>none
    | _=>none
def isAggTy (P : Program) (t : TypeId) : Bool :=
  match P.underlying t with
  | some (.struct _)|some (.array _ _)=>true
  | _=>false
def CellsOf (P : Program) (t : TypeId) (u : Value) (us : List Value) : Prop :=
  if isAggTy P t = true then ∃ a, u = .agg a∧a.toList = us else us = [u]
theorem typedL_len : ∀ {cs : List CK} {us : List Value}, typedL cs us = true→us.length = cs.length
  | [], [], _=>rfl
  | [], _ :: _, h=>by simp [typedL] at h
  | _ :: _, [], h=>by simp [typedL] at h
  | c :: cs, u :: us, h=>by
    simp only [typedL] at h
    split at h
    · simp [typedL_len h]
    · simp at h
theorem typedL_split : ∀ {cs rs : List CK} {us : List Value}, typedL (cs++rs) us = true→typedL cs (us.take cs.length) = true∧typedL rs (us.drop cs.length) = true
  | [], rs, us, h=>by simpa [typedL] using h
  | c :: cs, rs, [], h=>by simp [typedL] at h
  | c :: cs, rs, u :: us, h=>by
    simp only [List.cons_append, typedL] at h
    split at h
    · rename_i hc
      obtain ⟨h1, h2⟩:=typedL_split h
      simp only [List.length_cons, List.take_succ_cons, List.drop_succ_cons, typedL, hc]
      exact ⟨h1, h2⟩
    · simp at h
theorem eqL_split : ∀ (n : Nat) (us vs : List Value), us.length = vs.length→eqL us vs = (eqL (us.take n) (vs.take n) && eqL (us.drop n) (vs.drop n))
  | 0, us, vs, h=>by simp [eqL]
  | n + 1, [], [], h=>by simp [eqL]
  | n + 1, [], _ :: _, h=>by simp at h
  | n + 1, _ :: _, [], h=>by simp at h
  | n + 1, u :: us, v :: vs, h=>by
    simp only [List.take_succ_cons, List.drop_succ_cons, eqL]
    rw [eqL_split n us vs (by simpa using h), Bool.and_assoc]
section
variable {P : Program}
theorem run_isAgg {t : TypeId} {d : TypeDesc} (hd : P.underlying t = some d) (w : World) : (isAgg t).run P w = .ok (isAggTy P t) w:=by
  simp only [isAgg, Sem.run_bind, run_underlying hd, Result.andThen_ok, isAggTy, hd]
  cases d<;>rfl
theorem eqTy_und {n : Nat} {t : TypeId} {cs : List CK} (h : eqTy P n t = some cs) : ∃ d, P.underlying t = some d:=by
  cases n with
  | zero=>simp [eqTy] at h
  | succ n =>
    simp only [eqTy] at h
    split at h<;>first|exact ⟨_, by assumption⟩|simp at h
theorem run_part {t : TypeId} {d : TypeDesc} {i : TypeInfo} (hd : P.underlying t = some d) (hi : P.info? t = some i) (a : Array Value) (off n : Nat) (hn : i.size = n) (hlen : isAggTy P t = false→off < a.size) (h1 : isAggTy P t = false→n = 1) (w : World) :
    ∃ u, (part t a off).run P w = .ok u w∧CellsOf P t u ((a.toList.drop off).take n):=by
  unfold part
  simp only [Sem.run_bind, run_isAgg hd, Result.andThen_ok]
  cases hag : isAggTy P t with
  | true =>
    refine ⟨.agg (a.extract off (off + n)), by simp [sizeOf, typeInfo, hi, hn], ?_⟩
    simp only [CellsOf, hag, if_true]
    exact ⟨_, rfl, by simp [Array.toList_extract, List.extract_eq_take_drop]⟩
  | false =>
    have:=h1 hag
    subst this
    have hlt : off < a.size:=hlen hag
    refine ⟨a[off], by simp [hlt], ?_⟩
    simp only [CellsOf, hag, Bool.false_eq_true, if_false]
    rw [List.drop_eq_getElem_cons (by simpa using hlt)]
    simp
theorem eqTy_one {n : Nat} {t : TypeId} {cs : List CK} (h : eqTy P n t = some cs) (ha : isAggTy P t = false) : cs.length = 1:=by
  cases n with
  | zero=>simp [eqTy] at h
  | succ n =>
    unfold isAggTy at ha
    simp only [eqTy] at h
    split at h<;>first
      | (simp at h;subst h;rfl)
      | (rename_i hd;simp [hd] at ha;done)
      | (simp at h;done)
theorem eqFs_typed {g : TypeId→Option (List CK)} {fs : List Field} {off : Nat} {cs : List CK} (h : eqFs P g fs off = some cs) :
    fs = []∧cs = []∨∃ f fs' c1 c2 i, fs = f :: fs'∧cs = c1++c2∧g f.type = some c1∧P.info? f.type = some i∧f.name ≠ "_"∧f.offset = off∧i.size = c1.length∧eqFs P g fs' (off + c1.length) = some c2:=by
  cases fs with
  | nil=>simp [eqFs] at h;exact .inl ⟨rfl, h⟩
  | cons f fs' =>
    simp only [eqFs] at h
    split at h
    · rename_i c1 i h1 h2
      split at h
      · rename_i hc
        split at h
        · rename_i r hr
          simp at h
          exact .inr ⟨f, fs', c1, r, i, rfl, h.symm, h1, h2, hc.1, hc.2.1, hc.2.2, hr⟩
        · simp at h
      · simp at h
    · simp at h
theorem run_forIn_ask {α σ : Type} {s0 s1 : σ} {g : α→σ→Sem (ForInStep σ)} {w : World} : ∀ (fs : List α) (r : List Bool), r.length = fs.length →
    (∀ (i : Nat) (f : α) (b : Bool), fs[i]? = some f→r[i]? = some b→(g f s0).run P w = .ok (if b then .yield s0 else .done s1) w)→(forIn fs s0 g).run P w = .ok (if r.all id then s0 else s1) w
  | [], [], _, _=>rfl
  | [], _ :: _, h, _=>by simp at h
  | _ :: _, [], h, _=>by simp at h
  | f :: fs, b :: r, hl, hr=>by
    have hb:=hr 0 f b rfl rfl
    rw [List.forIn_cons]
    simp only [Sem.run_bind, hb, Result.andThen_ok]
    cases b with
    | false=>simp
    | true =>
      have:=run_forIn_ask fs r (by simpa using hl) (fun i f b h1 h2=>hr (i + 1) f b (by simpa using h1) (by simpa using h2))
      simp only [if_true, this]
      simp
theorem fields_ask {ask : Field→Sem Bool} {g : TypeId→Option (List CK)} {a b : Array Value} {w : World} : ∀ (fs : List Field) (off : Nat) {cs : List CK}, eqFs P g fs off = some cs→typedL cs (a.toList.drop off) = true→typedL cs (b.toList.drop off) = true →
    (∀ f c1 i o, f ∈ fs→g f.type = some c1→P.info? f.type = some i→i.size = c1.length→f.offset = o→typedL c1 ((a.toList.drop o).take c1.length) = true→typedL c1 ((b.toList.drop o).take c1.length) = true →
      (ask f).run P w = .ok (eqL ((a.toList.drop o).take c1.length) ((b.toList.drop o).take c1.length)) w) →
    ∃ r : List Bool, r.length = fs.length∧(∀ (i : Nat) (f : Field) (b : Bool), fs[i]? = some f→r[i]? = some b→f.name ≠ "_"∧(ask f).run P w = .ok b w)∧r.all id = eqL (a.toList.drop off) (b.toList.drop off)
  | [], off, cs, h, h1, h2, _=>by
    rcases eqFs_typed h with ⟨_, rfl⟩|⟨f, fs', _, _, _, e, _⟩
    · have e1:=List.eq_nil_of_length_eq_zero (typedL_len h1)
      have e2:=List.eq_nil_of_length_eq_zero (typedL_len h2)
      exact ⟨[], rfl, by simp, by rw [e1, e2];rfl⟩
    · cases e
  | f :: fs, off, cs, h, h1, h2, hask=>by
    rcases eqFs_typed h with ⟨e, _⟩|⟨f', fs', c1, c2, i, e, rfl, hg, hi, hn, ho, hsz, hr⟩
    · cases e
    · cases e
      obtain ⟨a1, a2⟩:=typedL_split h1
      obtain ⟨b1, b2⟩:=typedL_split h2
      rw [List.drop_drop] at a2 b2
      obtain ⟨r, r1, r2, r3⟩:=fields_ask fs (off + c1.length) hr a2 b2 (fun f c i o hf=>hask f c i o (List.mem_cons_of_mem _ hf))
      have hq:=hask f c1 i off (by simp) hg hi hsz ho a1 b1
      refine ⟨eqL ((a.toList.drop off).take c1.length) ((b.toList.drop off).take c1.length) :: r, by simp [r1], fun j f' b' h1 h2=>?_, ?_⟩
      · cases j with
        | zero=>simp at h1 h2;subst h1 h2;exact ⟨hn, hq⟩
        | succ j=>exact r2 j f' b' (by simpa using h1) (by simpa using h2)
      · rw [eqL_split c1.length (a.toList.drop off) (b.toList.drop off) (by rw [typedL_len h1, typedL_len h2]), List.drop_drop, List.drop_drop, List.all_cons, r3]
        rfl
theorem elems_ask {ask : Nat→Sem Bool} {c : List CK} {a b : Array Value} {w : World} : ∀ (len k : Nat), typedL (times c len) (a.toList.drop (k * c.length)) = true→typedL (times c len) (b.toList.drop (k * c.length)) = true →
    (∀ i, k ≤ i→i < k + len→typedL c ((a.toList.drop (i * c.length)).take c.length) = true→typedL c ((b.toList.drop (i * c.length)).take c.length) = true →
      (ask i).run P w = .ok (eqL ((a.toList.drop (i * c.length)).take c.length) ((b.toList.drop (i * c.length)).take c.length)) w) →
    ∃ r : List Bool, r.length = len∧(∀ (i j : Nat) (b : Bool), (List.range' k len)[i]? = some j→r[i]? = some b→(ask j).run P w = .ok b w)∧r.all id = eqL (a.toList.drop (k * c.length)) (b.toList.drop (k * c.length))
  | 0, k, h1, h2, _=>by
    have e1:=List.eq_nil_of_length_eq_zero (typedL_len h1)
    have e2:=List.eq_nil_of_length_eq_zero (typedL_len h2)
    exact ⟨[], rfl, by simp, by rw [e1, e2];rfl⟩
  | len + 1, k, h1, h2, hask=>by
    obtain ⟨a1, a2⟩:=typedL_split h1
    obtain ⟨b1, b2⟩:=typedL_split h2
    have hk : k * c.length + c.length = (k + 1) * c.length:=by rw [Nat.add_mul, Nat.one_mul]
    rw [List.drop_drop, hk] at a2 b2
    obtain ⟨r, r1, r2, r3⟩:=elems_ask len (k + 1) a2 b2 (fun i h h'=>hask i (by omega) (by omega))
    have hq:=hask k (Nat.le_refl _) (by omega) a1 b1
    refine ⟨eqL ((a.toList.drop (k * c.length)).take c.length) ((b.toList.drop (k * c.length)).take c.length) :: r, by simp [r1], fun i j b' h1 h2=>?_, ?_⟩
    · cases i with
      | zero=>simp [List.range'_succ] at h1 h2;subst h1 h2;exact hq
      | succ i=>exact r2 i j b' (by simpa [List.range'_succ] using h1) (by simpa using h2)
    · rw [eqL_split c.length (a.toList.drop (k * c.length)) (b.toList.drop (k * c.length)) (by rw [typedL_len h1, typedL_len h2]), List.drop_drop, List.drop_drop, List.all_cons, r3, hk]
      rfl
theorem typedL_one {u : Value} {c : CK} (h : typedL [c] [u] = true) : c.typed u = true:=by
  simp only [typedL] at h
  split at h
  · assumption
  · simp at h
theorem bytes_beq {s s' : ByteArray} : (s == s') = true↔s = s':=by
  cases s with|mk a =>
  cases s' with|mk b =>
  have : ((ByteArray.mk a) == (ByteArray.mk b)) = (a == b):=rfl
  rw [this]
  simp
theorem part_ok {t : TypeId} {c : List CK} {n o : Nat} {i : TypeInfo} {a : Array Value} (hg : eqTy P n t = some c) (hi : P.info? t = some i) (hsz : i.size = c.length) (h : typedL c ((a.toList.drop o).take c.length) = true) (w : World) :
    ∃ u, (part t a o).run P w = .ok u w∧CellsOf P t u ((a.toList.drop o).take c.length):=by
  obtain ⟨d, hd⟩:=eqTy_und hg
  refine run_part hd hi a o c.length hsz (fun hf=>?_) (fun hf=>eqTy_one hg hf) w
  have h1:=eqTy_one hg hf
  have h2:=typedL_len h
  rw [h1] at h2
  simp at h2
  omega
theorem run_equalIn : ∀ (n d : Nat) {t : TypeId} {cs : List CK}, eqTy P n t = some cs→n ≤ d→∀ {u v : Value} {us vs : List Value}, CellsOf P t u us→CellsOf P t v vs→typedL cs us = true→typedL cs vs = true →
    ∀ w, (Op.equalIn d t u v).run P w = .ok (eqL us vs) w
  | 0, _, _, _, h, _, _, _, _, _, _, _, _, _, _=>by simp [eqTy] at h
  | n + 1, 0, _, _, _, hd, _, _, _, _, _, _, _, _, _=>by omega
  | n + 1, d + 1, t, cs, h, hd, u, v, us, vs, hu, hv, h1, h2, w=>by
    simp only [eqTy] at h
    split at h
    · rename_i hund
      simp at h;subst h
      simp only [CellsOf, isAggTy, hund, Bool.false_eq_true, if_false] at hu hv
      subst hu hv
      rcases CK.typed_inv (typedL_one h1) with ⟨_, _, e, _⟩|⟨b, _, rfl⟩|⟨_, e, _⟩<;>try cases e
      rcases CK.typed_inv (typedL_one h2) with ⟨_, _, e, _⟩|⟨b', _, rfl⟩|⟨_, e, _⟩<;>try cases e
      simp [Op.equalIn, run_underlying hund, eqL, eqC]
    · rename_i k hund
      simp at h;subst h
      simp only [CellsOf, isAggTy, hund, Bool.false_eq_true, if_false] at hu hv
      subst hu hv
      rcases CK.typed_inv (typedL_one h1) with ⟨k1, m1, e, rfl⟩|⟨b, e, _⟩|⟨_, e, _⟩<;>try cases e
      rcases CK.typed_inv (typedL_one h2) with ⟨k2, m2, e, rfl⟩|⟨b', e, _⟩|⟨_, e, _⟩<;>try cases e
      simp [Op.equalIn, run_underlying hund, eqL, eqC]
      rfl
    · rename_i hund
      simp at h;subst h
      simp only [CellsOf, isAggTy, hund, Bool.false_eq_true, if_false] at hu hv
      subst hu hv
      rcases CK.typed_inv (typedL_one h1) with ⟨_, _, e, _⟩|⟨b, e, _⟩|⟨s, _, rfl⟩<;>try cases e
      rcases CK.typed_inv (typedL_one h2) with ⟨_, _, e, _⟩|⟨b', e, _⟩|⟨s', _, rfl⟩<;>try cases e
      have : (s == s') = decide (s = s'):=by
        rw [Bool.eq_iff_iff, decide_eq_true_eq]
        exact bytes_beq
      simp [Op.equalIn, run_underlying hund, eqL, eqC, this]
    · rename_i fs hund
      split at h
      · simp at h
      · rename_i hst
        simp only [CellsOf, isAggTy, hund, if_true] at hu hv
        obtain ⟨a, rfl, rfl⟩:=hu
        obtain ⟨b, rfl, rfl⟩:=hv
        have hla:=typedL_len h1
        have hlb:=typedL_len h2
        obtain ⟨r, r1, r2, r3⟩:=fields_ask (P:=P) (a:=a) (b:=b) (w:=w) (ask:=fun f=>do let x ← part f.type a f.offset;let y ← part f.type b f.offset;Op.equalIn d f.type x y) fs.toList 0 h (by simpa using h1) (by simpa using h2)
          (fun f c1 i o hf hg hi hsz ho t1 t2=>by
            subst ho
            obtain ⟨x, hx, hx'⟩:=part_ok hg hi hsz t1 w
            obtain ⟨y, hy, hy'⟩:=part_ok hg hi hsz t2 w
            simp only [Sem.run_bind, hx, hy, Result.andThen_ok]
            exact run_equalIn n d hg (by omega) hx' hy' t1 t2 w)
        simp [Op.equalIn, run_underlying hund, run_program, hst]
        rw [← Array.forIn_toList, run_forIn_ask (s0:=(none, ())) (s1:=(some false, ())) fs.toList r r1 (fun i f b' hf hb=>by
          obtain ⟨hn, hr⟩:=r2 i f b' hf hb
          simp only [Sem.run_bind] at hr
          rw [if_neg hn]
          simp only [Sem.run_bind]
          revert hr
          cases (part f.type a f.offset).run P w with
          | halt=>intro hr;cases hr
          | ok x w1 =>
            simp only [Result.andThen_ok]
            cases (part f.type b f.offset).run P w1 with
            | halt=>intro hr;cases hr
            | ok y w2 =>
              simp only [Result.andThen_ok]
              intro hr
              rw [hr]
              cases b'<;>rfl), r3]
        simp only [List.drop_zero]
        cases eqL a.toList b.toList<;>rfl
    · rename_i len e hund
      split at h
      · rename_i c i hc hi
        split at h
        · rename_i hsz
          simp at h;subst h
          simp only [CellsOf, isAggTy, hund, if_true] at hu hv
          obtain ⟨a, rfl, rfl⟩:=hu
          obtain ⟨b, rfl, rfl⟩:=hv
          obtain ⟨r, r1, r2, r3⟩:=elems_ask (P:=P) (a:=a) (b:=b) (c:=c) (w:=w) (ask:=fun j=>do let x ← part e a (j * i.size);let y ← part e b (j * i.size);Op.equalIn d e x y) len 0 (by simpa using h1) (by simpa using h2)
            (fun j _ _ t1 t2=>by
              rw [hsz]
              obtain ⟨x, hx, hx'⟩:=part_ok hc hi hsz t1 w
              obtain ⟨y, hy, hy'⟩:=part_ok hc hi hsz t2 w
              simp only [Sem.run_bind, hx, hy, Result.andThen_ok]
              exact run_equalIn n d hc (by omega) hx' hy' t1 t2 w)
          simp [Op.equalIn, run_underlying hund, sizeOf, typeInfo, hi]
          rw [run_forIn_ask (s0:=(none, ())) (s1:=(some false, ())) (List.range' 0 len) r (by rw [r1];simp) (fun i' j b' hf hb=>by
            have hr:=r2 i' j b' hf hb
            simp only [Sem.run_bind] at hr
            simp only [Sem.run_bind]
            revert hr
            cases (part e a (j * i.size)).run P w with
            | halt=>intro hr;cases hr
            | ok x w1 =>
              simp only [Result.andThen_ok]
              cases (part e b (j * i.size)).run P w1 with
              | halt=>intro hr;cases hr
              | ok y w2 =>
                simp only [Result.andThen_ok]
                intro hr
                rw [hr]
                cases b'<;>rfl), r3]
          simp only [Nat.zero_mul, List.drop_zero]
          cases eqL a.toList b.toList<;>rfl
        · simp at h
      · simp at h
    · simp at h
theorem run_forIn_unit {α σ : Type} {s0 : σ} {g : α→σ→Sem (ForInStep σ)} {w : World} : ∀ (fs : List α), (∀ f ∈ fs, (g f s0).run P w = .ok (.yield s0) w)→(forIn fs s0 g).run P w = .ok s0 w
  | [], _=>rfl
  | f :: fs, hr=>by
    rw [List.forIn_cons]
    simp only [Sem.run_bind, hr f (by simp), Result.andThen_ok]
    exact run_forIn_unit fs fun f hf=>hr f (List.mem_cons_of_mem _ hf)
theorem run_checkKey (em : Bool) : ∀ (n d : Nat) {t : TypeId} {cs : List CK}, eqTy P n t = some cs→n ≤ d→∀ {u : Value} {us : List Value}, CellsOf P t u us→typedL cs us = true→∀ w, (Instr.checkKey em d t u).run P w = .ok () w
  | 0, _, _, _, h, _, _, _, _, _, _=>by simp [eqTy] at h
  | n + 1, 0, _, _, _, hd, _, _, _, _, _=>by omega
  | n + 1, d + 1, t, cs, h, hd, u, us, hu, h1, w=>by
    simp only [eqTy] at h
    split at h
    · rename_i hund
      simp [Instr.checkKey, run_underlying hund]
    · rename_i k hund
      simp [Instr.checkKey, run_underlying hund]
    · rename_i hund
      simp [Instr.checkKey, run_underlying hund]
    · rename_i fs hund
      split at h
      · simp at h
      · simp only [CellsOf, isAggTy, hund, if_true] at hu
        obtain ⟨a, rfl, rfl⟩:=hu
        have key : ∀ (l : List Field) (off : Nat) {c : List CK}, eqFs P (eqTy P n) l off = some c→typedL c (a.toList.drop off) = true→∀ f ∈ l, (do let x ← part f.type a f.offset;Instr.checkKey em d f.type x : Sem Unit).run P w = .ok () w:=by
          intro l
          induction l with
          | nil=>intro off c _ _ f hf;cases hf
          | cons f0 l ih =>
            intro off c hc ht f hf
            rcases eqFs_typed hc with ⟨e, _⟩|⟨f', fs', c1, c2, i, e, rfl, hg, hi, hn, ho, hsz, hr⟩
            · cases e
            · cases e
              obtain ⟨a1, a2⟩:=typedL_split ht
              rw [List.drop_drop] at a2
              rcases List.mem_cons.1 hf with rfl|hf
              · rw [← ho] at a1
                obtain ⟨x, hx, hx'⟩:=part_ok hg hi hsz a1 w
                simp only [Sem.run_bind, hx, Result.andThen_ok]
                exact run_checkKey em n d hg (by omega) hx' a1 w
              · exact ih _ hr a2 f hf
        have hall:=key fs.toList 0 h (by simpa using h1)
        simp [Instr.checkKey, run_underlying hund]
        rw [← Array.forIn_toList, run_forIn_unit fs.toList (fun f hf=>by
          have hr:=hall f hf
          split
          · rfl
          · simp only [Sem.run_bind] at hr ⊢
            revert hr
            cases (part f.type a f.offset).run P w with
            | halt=>intro hr;cases hr
            | ok x w1 =>
              simp only [Result.andThen_ok, Sem.run_map]
              intro hr
              rw [hr];rfl)]
    · rename_i len e hund
      split at h
      · rename_i c i hc hi
        split at h
        · rename_i hsz
          simp at h;subst h
          simp only [CellsOf, isAggTy, hund, if_true] at hu
          obtain ⟨a, rfl, rfl⟩:=hu
          have key : ∀ (l k : Nat), typedL (times c l) (a.toList.drop (k * c.length)) = true→∀ j ∈ List.range' k l, (do let x ← part e a (j * i.size);Instr.checkKey em d e x : Sem Unit).run P w = .ok () w:=by
            intro l
            induction l with
            | zero=>intro k _ j hj;simp at hj
            | succ l ih =>
              intro k ht j hj
              obtain ⟨a1, a2⟩:=typedL_split ht
              have hk : k * c.length + c.length = (k + 1) * c.length:=by rw [Nat.add_mul, Nat.one_mul]
              rw [List.drop_drop, hk] at a2
              rw [List.range'_succ] at hj
              rcases List.mem_cons.1 hj with rfl|hj
              · rw [hsz]
                obtain ⟨x, hx, hx'⟩:=part_ok hc hi hsz a1 w
                simp only [Sem.run_bind, hx, Result.andThen_ok]
                exact run_checkKey em n d hc (by omega) hx' a1 w
              · exact ih _ a2 j hj
          have hall:=key len 0 (by simpa using h1)
          simp [Instr.checkKey, run_underlying hund, sizeOf, typeInfo, hi]
          rw [run_forIn_unit (List.range' 0 len) (fun f hf=>by
            have hr:=hall f hf
            simp only [Sem.run_bind] at hr
            simp only [Sem.run_bind, run_program, Result.andThen_ok, hi, Sem.run_pure, Sem.run_map]
            revert hr
            cases (part e a (f * i.size)).run P w with
            | halt=>intro hr;cases hr
            | ok x w1 =>
              simp only [Result.andThen_ok]
              intro hr
              rw [hr];rfl)]
        · simp at h
      · simp at h
    · simp at h
theorem sameNow_one {d : TypeDesc} {c : CK} {u v : Value} {b : Bool} (hu : c.typed u = true) (hv : c.typed v = true) (h : Instr.sameNow d u v = some b) : b = eqC u v:=by
  rcases CK.typed_inv hu with ⟨k, n, rfl, rfl⟩|⟨x, rfl, rfl⟩|⟨s, rfl, rfl⟩<;>rcases CK.typed_inv hv with ⟨k', n', e, rfl⟩|⟨x', e, rfl⟩|⟨s', e, rfl⟩<;>try cases e
  · cases d<;>simp [Instr.sameNow] at h
    rw [← h];simp [eqC];rfl
  · cases d<;>simp [Instr.sameNow] at h
    rw [← h];simp [eqC]
  · cases d<;>simp [Instr.sameNow] at h
    rw [← h, Bool.eq_iff_iff, bytes_beq];simp [eqC]
theorem eqC_V {c : CK} {u v : Value} (hu : c.typed u = true) : eqV u v = eqC u v:=by
  rcases CK.typed_inv hu with ⟨k, n, rfl, rfl⟩|⟨x, rfl, rfl⟩|⟨s, rfl, rfl⟩<;>cases v<;>rfl
theorem mapTy_of {t kt et : TypeId} {n : Nat} {cs : List CK} {i : TypeInfo} {z : Value} (hu : P.underlying t = some (.map kt et)) (hk : eqTy P n kt = some cs) (hn : n ≤ 9999) (hi : P.info? et = some i) (hz : i.zero = some z)
    (kk : KK) (hkk : kk = if isAggTy P kt = true then .agg cs else match cs with|[c]=>.one c|_=>.agg cs) : MapTy P t (kk, ofValue z):=by
  have cells : ∀ key, kk.typed key = true→∃ us, CellsOf P kt key us∧typedL cs us = true:=by
    intro key ht
    by_cases ha : isAggTy P kt = true
    · rw [hkk, if_pos ha] at ht
      cases key<;>simp only [KK.typed] at ht<;>try (simp at ht;done)
      rename_i a
      exact ⟨a.toList, by simp only [CellsOf, ha, if_true];exact ⟨a, rfl, rfl⟩, ht⟩
    · have h1:=eqTy_one hk (by simpa using ha)
      obtain ⟨c, rfl⟩:=List.length_eq_one_iff.1 h1
      rw [hkk, if_neg ha] at ht
      simp only [KK.typed] at ht
      exact ⟨[key], by simp [CellsOf, ha], by simp [typedL, ht]⟩
  have eqs : ∀ key ent us vs, kk.typed key = true→kk.typed ent = true→CellsOf P kt key us→CellsOf P kt ent vs→eqL us vs = eqV key ent:=by
    intro key ent us vs h1 h2 h3 h4
    by_cases ha : isAggTy P kt = true
    · simp only [CellsOf, ha, if_true] at h3 h4
      obtain ⟨a, rfl, rfl⟩:=h3
      obtain ⟨b, rfl, rfl⟩:=h4
      rfl
    · simp only [CellsOf, ha, Bool.false_eq_true, if_false] at h3 h4
      subst h3 h4
      have h5:=eqTy_one hk (by simpa using ha)
      obtain ⟨c, rfl⟩:=List.length_eq_one_iff.1 h5
      rw [hkk, if_neg ha] at h1
      simp only [KK.typed] at h1
      rw [eqC_V h1];simp [eqL]
  refine ⟨kt, et, i, z, hu, hi, hz, rfl, fun key ent h1 h2 w=>?_, fun b key h1 w=>?_, fun d hd key ent b h1 h2 hs=>?_⟩
  · obtain ⟨us, a1, a2⟩:=cells key h1
    obtain ⟨vs, b1, b2⟩:=cells ent h2
    rw [← eqs key ent us vs h1 h2 a1 b1]
    exact run_equalIn n Op.maxDepth hk (by unfold Op.maxDepth;omega) a1 b1 a2 b2 w
  · obtain ⟨us, a1, a2⟩:=cells key h1
    exact run_checkKey b n 10000 hk (by omega) a1 a2 w
  · by_cases ha : isAggTy P kt = true
    · rw [hkk, if_pos ha] at h1
      cases key<;>simp only [KK.typed] at h1<;>try (simp at h1;done)
      cases d<;>cases ent<;>simp [Instr.sameNow] at hs
    · have h5:=eqTy_one hk (by simpa using ha)
      obtain ⟨c, rfl⟩:=List.length_eq_one_iff.1 h5
      rw [hkk, if_neg ha] at h1 h2
      simp only [KK.typed] at h1 h2
      rw [eqC_V h1]
      exact sameNow_one h1 h2 hs
theorem run_binS_eql {t : TypeId} {n : Nat} {cs : List CK} (ht : eqTy P n t = some cs) (hn : n ≤ 10000) (ha : isAggTy P t = true) (hg : P.eqGuardType P.depth t = false) {a b : Array Value} (h1 : typedL cs a.toList = true) (h2 : typedL cs b.toList = true) (x y : Operand) (w : World) :
    (binS .eql t x y (.agg a) (.agg b)).run P w = .ok (.bool (eqL a.toList b.toList)) w∧(binS .neq t x y (.agg a) (.agg b)).run P w = .ok (.bool (!eqL a.toList b.toList)) w:=by
  have e : (Op.equal t (.agg a) (.agg b)).run P w = .ok (eqL a.toList b.toList) w :=
    run_equalIn n Op.maxDepth ht (by unfold Op.maxDepth;omega) (by simp only [CellsOf, ha, if_true];exact ⟨a, rfl, rfl⟩) (by simp only [CellsOf, ha, if_true];exact ⟨b, rfl, rfl⟩) h1 h2 w
  constructor<;>simp [binS, eqGuard, run_program, hg, binOp, e]
theorem mapTy_of' {t kt et : TypeId} {n : Nat} {cs : List CK} {z : Value} (hu : P.underlying t = some (.map kt et)) (hk : eqTy P n kt = some cs) (hn : n ≤ 9999) (hz : (P.info? et).bind (·.zero) = some z)
    (kk : KK) (hkk : (if isAggTy P kt = true then KK.agg cs else match cs with|[c]=>.one c|_=>.agg cs) = kk) {av : AV} (hv : ofValue z = av) : MapTy P t (kk, av):=by
  cases hi : P.info? et with
  | none=>simp [hi] at hz
  | some i =>
    simp [hi] at hz
    rw [← hv]
    exact mapTy_of hu hk hn hi hz kk hkk.symm
end
end Go.Am
namespace Go.Am
open Go.RowKit
theorem CK.eqC_eq {c : CK} {u v : Value} (hu : c.typed u = true) (hv : c.typed v = true) (h : eqC u v = true) : u = v:=by
  rcases CK.typed_inv hu with ⟨k, n, rfl, rfl⟩|⟨b, rfl, rfl⟩|⟨s, rfl, rfl⟩<;>rcases CK.typed_inv hv with ⟨k', n', e, rfl⟩|⟨b', e, rfl⟩|⟨s', e, rfl⟩<;>simp_all [eqC]
theorem eqL_eq : ∀ {cs : List CK} {us vs : List Value}, typedL cs us = true→typedL cs vs = true→eqL us vs = true→us = vs
  | [], [], [], _, _, _=>rfl
  | [], _ :: _, _, h, _, _=>by simp [typedL] at h
  | [], [], _ :: _, _, h, _=>by simp [typedL] at h
  | c :: cs, [], _, h, _, _=>by simp [typedL] at h
  | c :: cs, _ :: _, [], _, h, _=>by simp [typedL] at h
  | c :: cs, u :: us, v :: vs, h1, h2, h=>by
    simp only [typedL] at h1 h2
    split at h1
    · rename_i a1
      split at h2
      · rename_i a2
        simp only [eqL, Bool.and_eq_true] at h
        rw [CK.eqC_eq a1 a2 h.1, eqL_eq h1 h2 h.2]
      · simp at h2
    · simp at h1
theorem KK.eqV_eq {kk : KK} {u v : Value} (hu : kk.typed u = true) (hv : kk.typed v = true) (h : eqV u v = true) : u = v:=by
  cases kk with
  | one c =>
    simp only [KK.typed] at hu hv
    refine CK.eqC_eq hu hv ?_
    rcases CK.typed_inv hu with ⟨k, n, rfl, rfl⟩|⟨b, rfl, rfl⟩|⟨s, rfl, rfl⟩<;>rcases CK.typed_inv hv with ⟨k', n', e, rfl⟩|⟨b', e, rfl⟩|⟨s', e, rfl⟩<;>exact h
  | agg cs =>
    cases u<;>simp only [KK.typed] at hu<;>try (simp at hu;done)
    cases v<;>simp only [KK.typed] at hv<;>try (simp at hv;done)
    rename_i a b
    have:=eqL_eq hu hv h
    rw [Array.toList_inj.1 this]
theorem bytes_refl (s : ByteArray) : (s == s) = true:=by
  cases s
  exact beq_self_eq_true (α:=Array UInt8) _
theorem CK.sameBits_refl {c : CK} {v : Value} (h : c.typed v = true) (n : Nat) : Instr.sameBits n v v = true:=by
  rcases CK.typed_inv h with ⟨k, m, rfl, rfl⟩|⟨b, rfl, rfl⟩|⟨s, rfl, rfl⟩<;>cases n<;>simp [Instr.sameBits, bytes_refl]
theorem sameBitsL_refl (n : Nat) : ∀ {cs : List CK} {vs : List Value}, typedL cs vs = true→((vs.zip vs).all fun (x, y)=>Instr.sameBits n x y) = true
  | [], [], _=>rfl
  | [], _ :: _, h=>by simp [typedL] at h
  | _ :: _, [], h=>by simp [typedL] at h
  | c :: cs, v :: vs, h=>by
    simp only [typedL] at h
    split at h
    · rename_i a1
      simp only [List.zip_cons_cons, List.all_cons, CK.sameBits_refl a1, sameBitsL_refl n h, Bool.and_self]
    · simp at h
theorem KK.sameBits_refl {kk : KK} {v : Value} (h : kk.typed v = true) (n : Nat) : Instr.sameBits (n + 1) v v = true:=by
  cases kk with
  | one c=>exact CK.sameBits_refl h _
  | agg cs =>
    cases v<;>simp only [KK.typed] at h<;>try (simp at h;done)
    simp only [Instr.sameBits, beq_self_eq_true, Bool.true_and]
    exact sameBitsL_refl n h
def EntR (w : World) (imm : Nat→Nat→Prop) (c0 : Nat) (es : List AV) (ms : List MapEntry) : Prop :=
  ms.length = es.length∧∀ (i : Nat) (e : AV) (m : MapEntry), es[i]? = some e→ms[i]? = some m→∃ a b, e = .tuple [a, b]∧PRel w imm a m.key∧PRel w imm b m.val∧m.born = c0 + i
def Finds (w : World) (imm : Nat→Nat→Prop) (key : Value) (ms : List MapEntry) (i0 : Nat) : Option (Nat × AV)→Option (Nat × Value)→Prop
  | none, r=>r = none
  | some (i, b), r=>∃ m, i0 ≤ i∧ms[i - i0]? = some m∧r = some (i, m.val)∧PRel w imm b m.val∧m.key = key
theorem prel_val {w : World} {imm : Nat→Nat→Prop} {x : AV} {y z : Value} (h : PRel w imm x y) (hz : toVal x = some z) : y = z :=
  KRel.val (C:={ w, imm, own:=fun _=>none, gb:=fun _=>0, jb:=fun _=>0, gt:=fun _=>0, hw:=fun _=>0 }) (.pure h) hz
section
variable {P : Program} {w : World} {imm : Nat→Nat→Prop} {kk : KK} {key : Value}
theorem mapFind_cons {e : AV} {es : List AV} {i : Nat} {r : Option (Nat × AV)} {m : MapEntry} (h : mapFind kk (e :: es) key i = some r) (hk : kk.typed key = true)
    (he : ∃ a b, e = .tuple [a, b]∧PRel w imm a m.key∧PRel w imm b m.val) : kk.typed m.key = true∧((eqV key m.key = true∧∃ b, r = some (i, b)∧PRel w imm b m.val∧m.key = key)∨(eqV key m.key = false∧mapFind kk es key (i + 1) = some r)):=by
  obtain ⟨a, b, rfl, ha, hb⟩:=he
  simp only [mapFind] at h
  split at h
  · rename_i k' hk'
    have:=prel_val ha hk'
    subst this
    split at h
    · rename_i ht
      refine ⟨ht, ?_⟩
      split at h
      · rename_i hq
        simp at h
        exact .inl ⟨hq, b, h.symm, hb, (KK.eqV_eq hk ht hq).symm⟩
      · rename_i hq
        exact .inr ⟨by simpa using hq, h⟩
    · simp at h
  · simp at h
theorem Finds.succ {m : MapEntry} {ms : List MapEntry} {i : Nat} {r : Option (Nat × AV)} {r' : Option (Nat × Value)} (h : Finds w imm key ms (i + 1) r r') : Finds w imm key (m :: ms) i r r':=by
  cases r with
  | none=>exact h
  | some p =>
    obtain ⟨j, b⟩:=p
    obtain ⟨m', h1, h2, h3⟩:=h
    refine ⟨m', by omega, ?_, h3⟩
    rw [show j - i = j - (i + 1) + 1 by omega]
    simpa using h2
theorem findAsking_spec {kt : TypeId} (heq : ∀ key ent, kk.typed key = true→kk.typed ent = true→∀ w, (Op.equal kt key ent).run P w = .ok (eqV key ent) w) (hk : kk.typed key = true) :
    ∀ (es : List AV) (ms : List MapEntry) (i : Nat) {r : Option (Nat × AV)}, ms.length = es.length →
    (∀ (i : Nat) (e : AV) (m : MapEntry), es[i]? = some e→ms[i]? = some m→∃ a b, e = .tuple [a, b]∧PRel w imm a m.key∧PRel w imm b m.val) →
    mapFind kk es key i = some r→∃ r', (Instr.findAsking kt key ms i).run P w = .ok r' w∧Finds w imm key ms i r r'
  | [], [], i, r, _, _, h=>by
    simp [mapFind] at h
    subst h
    exact ⟨none, by simp [Instr.findAsking], rfl⟩
  | [], _ :: _, _, _, hl, _, _=>by simp at hl
  | _ :: _, [], _, _, hl, _, _=>by simp at hl
  | e :: es, m :: ms, i, r, hl, hp, h=>by
    obtain ⟨ht, hc⟩:=mapFind_cons h hk (hp 0 e m rfl rfl)
    simp only [Instr.findAsking, Sem.run_bind, heq key m.key hk ht w, Result.andThen_ok]
    rcases hc with ⟨hq, b, rfl, hb, he⟩|⟨hq, hn⟩
    · exact ⟨_, by simp [hq], m, Nat.le_refl _, by simp, rfl, hb, he⟩
    · obtain ⟨r', h1, h2⟩:=findAsking_spec heq hk es ms (i + 1) (by simpa using hl) (fun j e m he hm=>hp (j + 1) e m (by simpa using he) (by simpa using hm)) hn
      exact ⟨r', by simp [hq, h1], h2.succ⟩
theorem findNow_spec {d : TypeDesc} (hs : ∀ key ent b, kk.typed key = true→kk.typed ent = true→Instr.sameNow d key ent = some b→b = eqV key ent) (hk : kk.typed key = true) :
    ∀ (es : List AV) (ms : List MapEntry) (i : Nat) {r : Option (Nat × AV)} {r' : Option (Nat × Value)}, ms.length = es.length →
    (∀ (i : Nat) (e : AV) (m : MapEntry), es[i]? = some e→ms[i]? = some m→∃ a b, e = .tuple [a, b]∧PRel w imm a m.key∧PRel w imm b m.val) →
    mapFind kk es key i = some r→Instr.findNow d key ms i = some r'→Finds w imm key ms i r r'
  | [], [], i, r, r', _, _, h, h'=>by
    simp [mapFind] at h
    simp [Instr.findNow] at h'
    subst h h'
    exact rfl
  | [], _ :: _, _, _, _, hl, _, _, _=>by simp at hl
  | _ :: _, [], _, _, _, hl, _, _, _=>by simp at hl
  | e :: es, m :: ms, i, r, r', hl, hp, h, h'=>by
    obtain ⟨ht, hc⟩:=mapFind_cons h hk (hp 0 e m rfl rfl)
    simp only [Instr.findNow] at h'
    split at h'
    · rename_i hn
      have:=hs key m.key true hk ht hn
      rcases hc with ⟨_, b, rfl, hb, he⟩|⟨hq, _⟩
      · simp at h'
        exact ⟨m, Nat.le_refl _, by simp, h'.symm, hb, he⟩
      · rw [hq] at this;simp at this
    · rename_i hn
      have:=hs key m.key false hk ht hn
      rcases hc with ⟨hq, _⟩|⟨_, hn⟩
      · rw [hq] at this;simp at this
      · exact (findNow_spec hs hk es ms (i + 1) (by simpa using hl) (fun j e m he hm=>hp (j + 1) e m (by simpa using he) (by simpa using hm)) hn h').succ
    · simp at h'
theorem findKey_spec {kt : TypeId} {d : TypeDesc} (hd : P.underlying kt = some d) (heq : ∀ key ent, kk.typed key = true→kk.typed ent = true→∀ w, (Op.equal kt key ent).run P w = .ok (eqV key ent) w)
    (hs : ∀ key ent b, kk.typed key = true→kk.typed ent = true→Instr.sameNow d key ent = some b→b = eqV key ent) (hk : kk.typed key = true)
    {es : List AV} {ms : List MapEntry} {c0 : Nat} {r : Option (Nat × AV)} (hE : EntR w imm c0 es ms) (h : mapFind kk es key 0 = some r) :
    ∃ r', (Instr.findKey kt key ms).run P w = .ok r' w∧Finds w imm key ms 0 r r':=by
  have hp : ∀ (i : Nat) (e : AV) (m : MapEntry), es[i]? = some e→ms[i]? = some m→∃ a b, e = .tuple [a, b]∧PRel w imm a m.key∧PRel w imm b m.val:=fun i e m he hm=>by
    obtain ⟨a, b, h1, h2, h3, _⟩:=hE.2 i e m he hm
    exact ⟨a, b, h1, h2, h3⟩
  simp only [Instr.findKey, Sem.run_bind, run_underlying hd, Result.andThen_ok]
  cases hf : Instr.findNow d key ms 0 with
  | some r'=>exact ⟨r', by simp, findNow_spec hs hk es ms 0 hE.1 hp h hf⟩
  | none =>
    obtain ⟨r', h1, h2⟩:=findAsking_spec heq hk es ms 0 hE.1 hp h
    exact ⟨r', by simp [h1], h2⟩
end
theorem setVal_spec : ∀ {es es' : List AV} {i : Nat} {v : AV}, setVal es i v = some es'→∃ a b, es[i]? = some (.tuple [a, b])∧es' = es.set i (.tuple [a, v])
  | [], _, _, _, h=>by simp [setVal] at h
  | e :: es, es', 0, v, h=>by
    simp only [setVal] at h
    split at h
    · rename_i a b
      simp at h;exact ⟨a, b, rfl, by simp [← h]⟩
    · simp at h
  | e :: es, es', i + 1, v, h=>by
    simp only [setVal] at h
    split at h
    · rename_i l hl
      simp at h;subst h
      obtain ⟨a, b, h1, h2⟩:=setVal_spec hl
      exact ⟨a, b, by simpa using h1, by simp [h2]⟩
    · simp at h
section
variable {P : Program} {N : Nat} {base : Nat→Prop} {w0 : World} {S : St} {C : Ctx} {a : Act} {w : World} {K : List Wr→Prop} {o : Oper} {next : Act→World→Prop} {Q : Exit→Act→World→Prop}
theorem map_ents (hR : Rel N base w0 S C a w) {k : Key} {g : Nat} {c : Int} {es : List AV} (hb : S.box k = mapC g c es) {y : Value} (hv : KRel C (.mp k g) y) :
    y = .map (some (C.jb k))∧C.own (C.jb k) = some (.box k)∧∃ (ents : Array MapEntry) (c0 : Nat), c = c0∧w.heap[C.jb k]? = some (.map ents (c0 + ents.size))∧EntR w C.imm c0 es ents.toList:=by
  obtain ⟨h1, h2, ents, c0, h3, h4, h5, h6⟩:=map_box hR hb hv
  refine ⟨h1, h2, ents, c0, h3, h4, by simpa using h5, fun i e m he hm=>?_⟩
  rw [← hR.cw]
  exact h6 i e m he (by simpa using hm)
theorem Rel.mapWrite (hR : Rel N base w0 S C a w) {k : Key} {g : Nat} {c : Int} {es : List AV} (hb : S.box k = mapC g c es) (ho : C.own (C.jb k) = some (.box k)) {ents ents' : Array MapEntry} {c0 c1 : Nat}
    (hh : w.heap[C.jb k]? = some (.map ents (c0 + ents.size))) {es' : List AV} (hE : EntR w C.imm c1 es' ents'.toList) :
    ∃ C', C.le C'∧C'.gb = C.gb∧C'.jb = C.jb∧Rel N base w0 (S.put (.box k (mapC g c1 es'))) C' a (w.putObj (C.jb k) (.map ents' (c1 + ents'.size))):=by
  have hlt : C.jb k < w.heap.size:=(Array.getElem?_eq_some_iff.1 hh).1
  have:=hR.objWrite k (some (0, .v (.int .i64 c1) :: es')) ho (w':=w.putObj (C.jb k) (.map ents' (c1 + ents'.size))) (fun b hb=>World.putObj_heap_other hb) (by simp) rfl rfl rfl
    (fun arr e h=>by rw [hh] at h;cases h) (fun C' hle hw him hj ho' hg sz es1 h=>by
      cases h
      refine ⟨fun h=>absurd rfl h, fun _=>⟨by rw [hj, ho'];exact ho, .map ents' (c1 + ents'.size), by rw [hw, hj];exact World.putObj_heap_same hlt, ?_⟩, fun h=>absurd rfl h⟩
      refine .map c1 (by simpa using hE.1) fun i e m he hm=>?_
      obtain ⟨a1, b1, h1, h2, h3, h4⟩:=hE.2 i e m he (by simpa using hm)
      have h2 : PRel C.w C.imm a1 m.key:=by rw [hR.cw];exact h2
      have h3 : PRel C.w C.imm b1 m.val:=by rw [hR.cw];exact h3
      exact ⟨a1, b1, h1, h2.le hle, h3.le hle, h4⟩)
  have hg : (S.box k).1 = g:=by rw [hb];rfl
  rw [hg] at this
  exact this
theorem run_putMap {r : Nat} {es es' : Array MapEntry} {n n' : Nat} (h : w.heap[r]? = some (.map es n)) : (setObj r (.map es' n')).run P w = .ok () (w.putObj r (.map es' n')):=by simp [setObj, Sem.run, h, World.putObj]
theorem run_getMap {r : Nat} {es : Array MapEntry} {n : Nat} (h : w.heap[r]? = some (.map es n)) : (getObj r).run P w = .ok (.map es n) w:=by simp [getObj, Sem.run, h]
theorem checkKey_und {b : Bool} {n : Nat} {kt : TypeId} {key : Value} (h : (Instr.checkKey b (n + 1) kt key).run P w = .ok () w) : ∃ d, P.underlying kt = some d:=by
  cases hd : P.underlying kt with
  | some d=>exact ⟨d, rfl⟩
  | none=>simp [Instr.checkKey, underlying, hd, Sem.run_bind] at h
theorem opMakeMapU_sound (cx : Cx) (hR : Rel N base w0 S C a w) (hk : Then N base w0 S C K next) {t : TypeId} {d : Tmp} (ho : o.op = .makeMap t none) (hd : o.dst = some d)
    (h : (opMakeMapU cx d).rm.wp0 P S K) : o.wp P a w next Q:=by
  obtain ⟨C', hle, h1, h2, _, h3, h4, hR'⟩:=hR.newObj (cx.key d) (some (0, [.v (.int .i64 0)])) (.map #[] 0) fun C' hle hw him hj ho hg sz es he=>by
    cases he
    refine ⟨fun h=>absurd rfl h, fun _=>?_, fun h=>absurd rfl h⟩
    rw [hj]
    refine ⟨ho, .map #[] 0, by rw [hw];exact heap_alloc_new _ _, ?_⟩
    exact ObjRel.map (es:=[]) (ents:=#[]) 0 rfl (by simp)
  refine wp_of_value (y:=.map (some w.heap.size)) (w':=w.alloc (.map #[] 0)) ?_ ?_
  · simp only [execOp, ho, Option.map_none, Instr.makeMap, Sem.run_bind]
    rfl
  · rw [hd]
    refine hk _ C' _ _ h hle ?_
    have hv : KRel C' (.mp (cx.key d) ((S.box (cx.key d)).1 + 1)) (.map (some w.heap.size)):=by
      rw [← h1, ← h2];exact .mp
    exact hR'.put hv d
theorem find_wp0 {ob : Option (Option (Nat × AV))} {k : Nat→AV→RB} {k' : RB} (h : (RB.find ob k k').rm.wp0 P S K) :
    (∃ i v, ob = some (some (i, v))∧(k i v).rm.wp0 P S K)∨(ob = some none∧k'.rm.wp0 P S K):=by
  cases ob with
  | none=>exact h.elim
  | some ob =>
    cases ob with
    | none=>exact .inr ⟨rfl, h⟩
    | some p=>exact .inl ⟨p.1, p.2, rfl, h⟩
theorem lookR_rel {ok is : Bool} {v : AV} {y : Value} (hv : KRel C v y) : KRel C (lookR ok v is) (if ok then .tuple #[y, .bool is] else y):=by
  cases ok with
  | false=>exact hv
  | true =>
    refine .tuple rfl fun i x z hx hz=>?_
    match i, hx, hz with
    | 0, hx, hz=>simp at hx hz;subst hx hz;exact hv
    | 1, hx, hz=>simp at hx hz;subst hx hz;exact .pure (.v _)
    | n + 2, hx, _=>simp at hx
theorem opLookupU_sound (hR : Rel N base w0 S C a w) (hk : Then N base w0 S C K next) {t : TypeId} {x ix : Operand} {ok : Bool} (ho : o.op = .lookup t x ix ok) (hx : inN N x = true) (hi : inN N ix = true)
    {p : KK × AV} (hM : MapTy P t p) (h : (opLookupU p o.dst ok x ix).rm.wp0 P S K) : o.wp P a w next Q:=by
  obtain ⟨kt, et, i, z, hu, hie, hz, hpz, heq, hck, hsn⟩:=hM.ty
  unfold opLookupU at h
  rw [slotI_wp0, slotI_wp0] at h
  obtain ⟨key, hkey, h⟩:=asVB_wp0 h
  obtain ⟨ht, h⟩:=h
  have hkv:=(hR.val hi).val hkey
  have hv:=hR.val hx
  have exec : (execOp a.eval o).run P w = ((Instr.lookup t (a.eval x) key ok).run P w).andThen fun v w'=>.ok (.value v) w':=by
    simp only [execOp, ho, hkv, Sem.run_bind];rfl
  have hzero : (zeroValue et).run P w = .ok z w:=by simp [zeroValue, typeInfo, hie, hz]
  have hpr : KRel C p.2 z:=by rw [hpz];exact .pure (pRel_ofValue _ _ _)
  have miss : K (putA o.dst (lookR ok p.2 false))→a.eval x = .map none→o.wp P a w next Q:=by
    intro h e
    refine fin_val hR hk (y:=if ok then .tuple #[z, .bool false] else z) ?_ (lookR_rel hpr) h
    rw [exec, e]
    obtain ⟨d, hdk⟩:=checkKey_und (n:=9999) (hck true key ht w)
    cases ok<;>simp [Instr.lookup, run_underlying hu, hck _ key ht w, Instr.findKey, run_underlying hdk, Instr.findNow, hzero]
  revert h hv exec miss
  generalize S.val x = v
  generalize a.eval x = y
  intro h hv exec miss
  split at h
  · have e:=hv.val (z:=.map none) rfl
    exact miss h e
  · obtain ⟨k, g, c, es, rfl, hb, h⟩:=mapB_wp0 h
    obtain ⟨rfl, _, ents, c0, rfl, hh, hE⟩:=map_ents hR hb hv
    obtain ⟨d, hdk⟩:=checkKey_und (n:=9999) (hck true key ht w)
    · have hfound : ∀ r, mapFind p.1 es key 0 = some r→∃ r', (Instr.findKey kt key ents.toList).run P w = .ok r' w∧Finds w C.imm key ents.toList 0 r r' :=
        fun r hr=>findKey_spec hdk heq (hsn d hdk) ht hE hr
      rcases find_wp0 h with ⟨j, v, hf, h⟩|⟨hf, h⟩
      · obtain ⟨r', hr, m, _, hm, rfl, hvm, _⟩:=hfound _ hf
        refine fin_val hR hk (y:=if ok then .tuple #[m.val, .bool true] else m.val) ?_ (lookR_rel (.pure (by rw [hR.cw];exact hvm))) h
        rw [exec]
        cases ok<;>simp [Instr.lookup, run_underlying hu, run_getMap hh, hck _ key ht w, hr]
      · obtain ⟨r', hr, hn⟩:=hfound _ hf
        have hn : r' = none:=hn
        subst hn
        refine fin_val hR hk (y:=if ok then .tuple #[z, .bool false] else z) ?_ (lookR_rel hpr) h
        rw [exec]
        cases ok<;>simp [Instr.lookup, run_underlying hu, run_getMap hh, hck _ key ht w, hr, hzero]
theorem prel_pure {x x' : AV} {y : Value} (hR : Rel N base w0 S C a w) (h : KRel C x y) (hx : toPure x = some x') : PRel w C.imm x' y:=by rw [← hR.cw];exact h.toPure hx
theorem EntR.set {imm : Nat→Nat→Prop} {c0 : Nat} {es : List AV} {ents : Array MapEntry} (h : EntR w imm c0 es ents.toList) {i : Nat} {m : MapEntry} (hm : ents.toList[i]? = some m) {a1 b1 v : AV} (he : es[i]? = some (.tuple [a1, b1]))
    {f : MapEntry→MapEntry} (hk : (f m).key = m.key) (hv : PRel w imm v (f m).val) (hb : (f m).born = m.born) : EntR w imm c0 (es.set i (.tuple [a1, v])) (ents.modify i f).toList:=by
  refine ⟨by simpa using h.1, fun j e m' h1 h2=>?_⟩
  simp only [Array.toList_modify, List.getElem?_modify] at h2
  by_cases hj : i = j
  · subst hj
    have hlt:=(List.getElem?_eq_some_iff.1 he).1
    rw [List.getElem?_set_self hlt] at h1
    rw [hm] at h2
    simp at h1 h2
    subst h1 h2
    obtain ⟨a2, b2, e, h3, h4, h5⟩:=h.2 i _ m he hm
    cases e
    exact ⟨_, _, rfl, by rw [hk];exact h3, hv, by rw [hb];exact h5⟩
  · rw [List.getElem?_set_ne hj] at h1
    have h2 : ents.toList[j]? = some m':=by
      cases hq : ents.toList[j]? with
      | none=>rw [hq] at h2;simp at h2
      | some q=>rw [hq] at h2;simp [hj] at h2;rw [h2]
    exact h.2 j e m' h1 h2
theorem EntR.push {imm : Nat→Nat→Prop} {c0 : Nat} {es : List AV} {ents : Array MapEntry} (h : EntR w imm c0 es ents.toList) {x v : AV} {m : MapEntry} (hk : PRel w imm x m.key) (hv : PRel w imm v m.val) (hb : m.born = c0 + ents.size) :
    EntR w imm c0 (es++[.tuple [x, v]]) (ents.push m).toList:=by
  have hl:=h.1
  refine ⟨by simpa using hl, fun j e m' h1 h2=>?_⟩
  simp only [Array.toList_push] at h2
  by_cases hj : j < es.length
  · rw [List.getElem?_append_left hj] at h1
    rw [List.getElem?_append_left (by omega)] at h2
    exact h.2 j e m' h1 h2
  · rw [List.getElem?_append_right (by omega)] at h1
    rw [List.getElem?_append_right (by omega), hl] at h2
    by_cases hz : j - es.length = 0
    · rw [hz] at h1 h2
      simp at h1 h2
      subst h1 h2
      simp at hl
      exact ⟨_, _, rfl, hk, hv, by rw [hb];omega⟩
    · rw [List.getElem?_eq_none (by simp;omega)] at h1;simp at h1
theorem fin_skip (hd : o.dst = none) {w' : World} (hrun : (execOp a.eval o).run P w = .ok .skip w') (h : next a w') : o.wp P a w next Q:=by
  refine wp_of_skip hrun ?_
  rw [hd];exact h
theorem opUpdateU_sound (hR : Rel N base w0 S C a w) (hk : Then N base w0 S C K next) {t : TypeId} {x ix y : Operand} (ho : o.op = .mapUpdate t x ix y∨o.op = .insert t x ix y) (hd : o.dst = none) (hx : inN N x = true) (hi : inN N ix = true) (hy : inN N y = true)
    {p : KK × AV} (hM : MapTy P t p) (h : (opUpdateU p x ix y).rm.wp0 P S K) : o.wp P a w next Q:=by
  obtain ⟨kt, et, i, z, hu, hie, hz, hpz, heq, hck, hsn⟩:=hM.ty
  unfold opUpdateU at h
  rw [slotI_wp0, slotI_wp0, slotI_wp0] at h
  obtain ⟨key, hkey, h⟩:=asVB_wp0 h
  obtain ⟨ht, h⟩:=h
  obtain ⟨b', hb', h⟩:=optB_wp0 h
  obtain ⟨v', hv', h⟩:=optB_wp0 h
  obtain ⟨k, g, c, es, he, hb, h⟩:=mapB_wp0 h
  have hkv:=(hR.val hi).val hkey
  have hkp:=prel_pure hR (hR.val hi) hb'
  have hvp:=prel_pure hR (hR.val hy) hv'
  have hv:=hR.val hx
  rw [he] at hv
  obtain ⟨hym, hown, ents, c0, rfl, hh, hE⟩:=map_ents hR hb hv
  have exec : (execOp a.eval o).run P w = ((Instr.mapUpdate t (.map (some (C.jb k))) key (a.eval y)).run P w).andThen fun _ w'=>.ok .skip w':=by
    rcases ho with ho|ho<;>(simp only [execOp, ho, hkv, hym, Sem.run_bind];rfl)
  rw [hkv] at hkp
  obtain ⟨d, hdk⟩:=checkKey_und (n:=9999) (hck true key ht w)
  have hfound : ∀ r, mapFind p.1 es key 0 = some r→∃ r', (Instr.findKey kt key ents.toList).run P w = .ok r' w∧Finds w C.imm key ents.toList 0 r r' :=
    fun r hr=>findKey_spec hdk heq (hsn d hdk) ht hE hr
  rcases find_wp0 h with ⟨j, v, hf, h⟩|⟨hf, h⟩
  · obtain ⟨es', hes, h⟩:=optLB_wp0 h
    obtain ⟨a1, b1, h1, rfl⟩:=setVal_spec hes
    obtain ⟨r', hr, m, _, hm, rfl, hvm, hmk⟩:=hfound _ hf
    rw [Nat.sub_zero] at hm
    have hE':=hE.set (f:=fun e=>{ e with key, val:=a.eval y }) hm h1 hmk.symm hvp rfl
    obtain ⟨C', hle, _, _, hR'⟩:=hR.mapWrite hb hown hh hE'
    refine fin_skip hd ?_ (hk _ C' _ _ h hle hR')
    rw [exec]
    have hm' : ents[j]? = some m:=by simpa using hm
    simp [Instr.mapUpdate, run_underlying hu, run_getMap hh, hck _ key ht w, hr, Instr.keyThatStays, hm', hmk, KK.sameBits_refl ht 9999, run_putMap hh]
  · obtain ⟨r', hr, hn⟩:=hfound _ hf
    have hn : r' = none:=hn
    subst hn
    have hE':=hE.push (m:={ key, val:=a.eval y, born:=c0 + ents.size }) hkp hvp rfl
    obtain ⟨C', hle, _, _, hR'⟩:=hR.mapWrite hb hown hh hE'
    refine fin_skip hd ?_ (hk _ C' _ _ h hle hR')
    rw [exec]
    simp [Instr.mapUpdate, run_underlying hu, run_getMap hh, hck _ key ht w, hr, run_putMap hh, Nat.add_assoc]
theorem pair_rel {x : AV} {y : Value} (hv : KRel C x y) (n : Int) : KRel C (.tuple [x, .v (.int .i64 n)]) (.tuple #[y, .int .i64 n]):=by
  refine .tuple rfl fun i x z hx hz=>?_
  match i, hx, hz with
  | 0, hx, hz=>simp at hx hz;subst hx hz;exact hv
  | 1, hx, hz=>simp at hx hz;subst hx hz;exact .pure (.v _)
  | n + 2, hx, _=>simp at hx
theorem opEntryU_sound (hR : Rel N base w0 S C a w) (hk : Then N base w0 S C K next) {t : TypeId} {x ix : Operand} (ho : o.op = .mapEntry t x ix) (hx : inN N x = true) (hi : inN N ix = true)
    {p : KK × AV} (hM : MapTy P t p) (h : (opEntryU p o.dst x ix).rm.wp0 P S K) : o.wp P a w next Q:=by
  obtain ⟨kt, et, i, z, hu, hie, hz, hpz, heq, hck, hsn⟩:=hM.ty
  unfold opEntryU at h
  rw [slotI_wp0, slotI_wp0] at h
  obtain ⟨key, hkey, h⟩:=asVB_wp0 h
  obtain ⟨ht, h⟩:=h
  obtain ⟨b', hb', h⟩:=optB_wp0 h
  obtain ⟨k, g, c, es, he, hb, h⟩:=mapB_wp0 h
  have hkv:=(hR.val hi).val hkey
  have hkp:=prel_pure hR (hR.val hi) hb'
  have hv:=hR.val hx
  rw [he] at hv
  obtain ⟨hym, hown, ents, c0, rfl, hh, hE⟩:=map_ents hR hb hv
  have exec : (execOp a.eval o).run P w = ((Instr.mapEntry t (.map (some (C.jb k))) key).run P w).andThen fun v w'=>.ok (.value v) w':=by
    simp only [execOp, ho, hkv, hym, Sem.run_bind];rfl
  rw [hkv] at hkp
  obtain ⟨d, hdk⟩:=checkKey_und (n:=9999) (hck true key ht w)
  have hzero : (zeroValue et).run P w = .ok z w:=by simp [zeroValue, typeInfo, hie, hz]
  have hfound : ∀ r, mapFind p.1 es key 0 = some r→∃ r', (Instr.findKey kt key ents.toList).run P w = .ok r' w∧Finds w C.imm key ents.toList 0 r r' :=
    fun r hr=>findKey_spec hdk heq (hsn d hdk) ht hE hr
  rcases find_wp0 h with ⟨j, v, hf, h⟩|⟨hf, h⟩
  · obtain ⟨r', hr, m, _, hm, rfl, hvm, hmk⟩:=hfound _ hf
    rw [Nat.sub_zero] at hm
    have hjl : j < es.length:=by rw [← hE.1];exact (List.getElem?_eq_some_iff.1 hm).1
    obtain ⟨a1, b1, h1, h2, h3, h4⟩:=hE.2 j es[j] m (by simp) hm
    have h1' : es[j]? = some (.tuple [a1, b1]):=by rw [← h1];simp
    have hE':=hE.set (f:=fun e=>{ e with key }) hm h1' hmk.symm h3 rfl
    have hes : es.set j (.tuple [a1, b1]) = es:=by rw [← h1];simp
    rw [hes] at hE'
    obtain ⟨C', hle, _, _, hR'⟩:=hR.mapWrite hb hown hh hE'
    have hm' : ents[j]? = some m:=by simpa using hm
    refine wp_of_value (y:=.tuple #[m.val, .int .i64 (c0 + j : Nat)]) (w':=w.putObj (C.jb k) (.map (ents.modify j fun e=>{ e with key }) (c0 + (ents.modify j fun e=>{ e with key }).size))) ?_ (hk _ C' _ _ h hle (hR'.putA ?_ _))
    · rw [exec]
      simp [Instr.mapEntry, run_underlying hu, run_getMap hh, hck _ key ht w, hr, Instr.keyThatStays, hm', hmk, KK.sameBits_refl ht 9999, run_putMap hh, goInt, h4]
    · have : KRel C v m.val:=.pure (by rw [hR.cw];exact hvm)
      exact pair_rel (this.le hle) _
  · obtain ⟨r', hr, hn⟩:=hfound _ hf
    have hn : r' = none:=hn
    subst hn
    have hpz' : PRel w C.imm p.2 z:=by rw [hpz];exact pRel_ofValue _ _ _
    have hE':=hE.push (m:={ key, val:=z, born:=c0 + ents.size }) hkp hpz' rfl
    obtain ⟨C', hle, _, _, hR'⟩:=hR.mapWrite hb hown hh hE'
    have hl : ents.size = es.length:=by simpa using hE.1
    refine wp_of_value (y:=.tuple #[z, .int .i64 (c0 + ents.size : Nat)]) (w':=w.putObj (C.jb k) (.map (ents.push { key, val:=z, born:=c0 + ents.size }) (c0 + (ents.push { key, val:=z, born:=c0 + ents.size }).size))) ?_ (hk _ C' _ _ h hle (hR'.putA ?_ _))
    · rw [exec]
      simp [Instr.mapEntry, run_underlying hu, run_getMap hh, hck _ key ht w, hr, run_putMap hh, goInt, hzero, Nat.add_assoc]
    · rw [hl]
      have : KRel C p.2 z:=.pure (by rw [hR.cw];exact hpz')
      exact pair_rel (this.le hle) _
theorem opEntryStoreU_sound (hR : Rel N base w0 S C a w) (hk : Then N base w0 S C K next) {t : TypeId} {x st y : Operand} (ho : o.op = .entryStore t x st y) (hd : o.dst = none) (hx : inN N x = true) (hi : inN N st = true) (hy : inN N y = true)
    (h : (opEntryStoreU x st y).rm.wp0 P S K) : o.wp P a w next Q:=by
  unfold opEntryStoreU at h
  rw [slotI_wp0, slotI_wp0, slotI_wp0] at h
  obtain ⟨v', hv', h⟩:=optB_wp0 h
  have hs:=hR.val hi
  revert h hs
  generalize S.val st = sv
  intro h hs
  split at h
  · rename_i kd n
    obtain ⟨k, g, c, es, he, hb, h⟩:=mapB_wp0 h
    obtain ⟨hn, h⟩:=h
    obtain ⟨es', hes, h⟩:=optLB_wp0 h
    obtain ⟨a1, b1, h1, rfl⟩:=setVal_spec hes
    have hvp:=prel_pure hR (hR.val hy) hv'
    have hsv:=hs.val (z:=.int _ _) rfl
    have hv:=hR.val hx
    rw [he] at hv
    obtain ⟨hym, hown, ents, c0, rfl, hh, hE⟩:=map_ents hR hb hv
    obtain ⟨q, hq⟩ : ∃ q, q = (n - (c0 : Int)).toNat:=⟨_, rfl⟩
    rw [← hq] at h1 h
    have hlt : q < ents.toList.length:=by rw [hE.1];exact (List.getElem?_eq_some_iff.1 h1).1
    have hm : ents.toList[q]? = some ents.toList[q]:=by simp
    have hE':=hE.set (f:=fun e=>{ e with val:=a.eval y }) hm h1 rfl hvp rfl
    obtain ⟨C', hle, _, _, hR'⟩:=hR.mapWrite hb hown hh hE'
    refine fin_skip hd ?_ (hk _ C' _ _ h hle hR')
    have hidx : ents.findIdx? (fun e=>(e.born : Int) == n) = some q:=by
      have hborn : ∀ (i : Nat) (hi : i < ents.size), ents[i].born = c0 + i:=fun i hi=>by
        have hi' : i < es.length:=by have:=hE.1;simp at this;omega
        obtain ⟨_, _, _, _, _, h5⟩:=hE.2 i es[i] ents[i] (by simp) (by simp [hi])
        exact h5
      simp at hlt
      rw [Array.findIdx?_eq_some_iff_getElem]
      refine ⟨hlt, by simp [hborn];omega, fun j hj=>?_⟩
      simp [hborn];omega
    simp only [execOp, ho, hsv, hym, Sem.run_bind]
    simp [Instr.entryStore, run_getMap hh, asInt, asIntOf, hidx, run_putMap hh]
  · exact h.elim
theorem opClearU_sound (hR : Rel N base w0 S C a w) (hk : Then N base w0 S C K next) {c : Call} {t kt et : TypeId} {x : Operand} (ho : o.op = .call c) (hb : c.callee = .builtin .clear)
    (ha : c.args.toList = [x]) (hat : c.argTypes.toList = [t]) (hu : P.underlying t = some (.map kt et)) (hx : inN N x = true)
    (h : (opClearU o.dst x).rm.wp0 P S K) : o.wp P a w next Q:=by
  have ha' : c.args = #[x]:=by rw [← Array.toArray_toList (xs:=c.args), ha]
  have hat' : c.argTypes = #[t]:=by rw [← Array.toArray_toList (xs:=c.argTypes), hat]
  unfold opClearU at h
  rw [slotI_wp0] at h
  obtain ⟨k, g, c1, es, he, hbx, h⟩:=mapB_wp0 h
  have hv:=hR.val hx
  rw [he] at hv
  obtain ⟨hym, hown, ents, c0, rfl, hh, hE⟩:=map_ents hR hbx hv
  have hl : ents.size = es.length:=by simpa using hE.1
  have hE' : EntR w C.imm (c0 + ents.size) [] (#[] : Array MapEntry).toList:=⟨rfl, by simp⟩
  obtain ⟨C', hle, _, _, hR'⟩:=hR.mapWrite hbx hown hh hE'
  have hK : K (.box k (mapC g ((c0 + ents.size : Nat) : Int) []) :: putA o.dst (.v (.tuple #[]))):=by
    have : ((c0 + ents.size : Nat) : Int) = (c0 : Int) + es.length:=by omega
    rw [this];exact h
  refine wp_of_value (y:=.tuple #[]) ?_ (hk _ C' _ _ hK hle (hR'.putA (.pure (.v _)) _))
  simp only [execOp, ho, resolve, hb, ha', hat', invoke, builtin, Sem.run_bind, Sem.run_pure, Result.andThen_ok]
  simp [Builtin.clear_, run_underlying hu, hym, run_getMap hh, run_putMap hh, Sem.run_bind]
theorem minL_wp0 {mx : Bool} {k : IntKind} {r : Int→RB} : ∀ {l : List AV} {n : Int}, (minL mx l n r).rm.wp0 P S K →
    ∃ m, (r m).rm.wp0 P S K∧∀ ys : List Value, ys.length = l.length→(∀ (i : Nat) (x : AV) (y : Value), l[i]? = some x→ys[i]? = some y→KRel C x y) →
      ∀ w, (ys.foldlM (if mx then Builtin.max2 else Builtin.min2) (.int k n)).run P w = .ok (.int k m) w
  | [], n, h=>⟨n, h, fun ys hl _ w=>by
      cases ys with
      | nil=>rfl
      | cons=>simp at hl⟩
  | e :: l, n, h=>by
    cases e with
    | v u =>
      cases u with
      | int kb b =>
        have h : (minL mx l (pickM mx n b) r).rm.wp0 P S K:=h
        obtain ⟨m, h1, h2⟩:=minL_wp0 h
        refine ⟨m, h1, fun ys hl hr w=>?_⟩
        cases ys with
        | nil=>simp at hl
        | cons y ys =>
          have hy:=(hr 0 _ y rfl rfl).val (z:=.int kb b) rfl
          subst hy
          have:=h2 ys (by simpa using hl) (fun i x y hx hy=>hr (i + 1) x y (by simpa using hx) (by simpa using hy)) w
          rw [List.foldlM_cons, Sem.run_bind]
          cases mx with
          | true =>
            have e : (Builtin.max2 (.int k n) (.int kb b)).run P w = .ok (.int k (max n b)) w:=by
              simp only [Builtin.max2, Sem.run_pure];congr 2;split<;>omega
            simp only [if_true] at this ⊢
            rw [e];exact this
          | false =>
            have e : (Builtin.min2 (.int k n) (.int kb b)).run P w = .ok (.int k (min n b)) w:=by
              simp only [Builtin.min2, Sem.run_pure];congr 2;split<;>omega
            simp only [Bool.false_eq_true, if_false] at this ⊢
            rw [e];exact this
      | _=>exact h.elim
    | _=>exact h.elim
theorem opMinU_sound (hR : Rel N base w0 S C a w) (hk : Then N base w0 S C K next) {c : Call} (ho : o.op = .call c) {mx : Bool} (hb : c.callee = .builtin (if mx then .max else .min)) (hargs : ∀ x ∈ c.args.toList, inN N x = true)
    (h : (opMinU mx o.dst c.args.toList).rm.wp0 P S K) : o.wp P a w next Q:=by
  unfold opMinU at h
  rw [slotsI_wp0] at h
  split at h
  · rename_i k n l hl
    obtain ⟨m, h, hm⟩:=minL_wp0 (C:=C) (k:=k) h
    have hrel:=vals_rel hR hargs
    rw [hl] at hrel
    cases hc : c.args.toList with
    | nil=>rw [hc] at hl;simp at hl
    | cons x xs =>
      have hn:=(hrel 0 (.v (.int k n)) (a.eval x) rfl (by simp [hc])).val (z:=.int k n) rfl
      have:=hm (xs.map a.eval) (by rw [hc] at hl;simp at hl;rw [← hl.2];simp) (fun i u v hu hv=>hrel (i + 1) u v (by simpa using hu) (by simpa [hc] using hv)) w
      refine fin_val hR hk (y:=.int k m) ?_ (.pure (.v _)) h
      have hca : (c.args.map a.eval).toList = .int k n :: xs.map a.eval:=by simp [hc, hn]
      cases mx with
      | true =>
        simp only [if_true] at hb this
        simp only [execOp, ho, resolve, hb, invoke, builtin, Sem.run_bind, Sem.run_pure, Result.andThen_ok, Builtin.max_, hca, this]
      | false =>
        simp only [Bool.false_eq_true, if_false] at hb this
        simp only [execOp, ho, resolve, hb, invoke, builtin, Sem.run_bind, Sem.run_pure, Result.andThen_ok, Builtin.min_, hca, this]
  · exact h.elim
theorem opIndexU_sound (hR : Rel N base w0 S C a w) (hk : Then N base w0 S C K next) {t : TypeId} {x ix : Operand} (ho : o.op = .index t x ix) (hu : P.underlying t = some .string) (hx : inN N x = true) (hi : inN N ix = true)
    (h : (opIndexU o.dst x ix).rm.wp0 P S K) : o.wp P a w next Q:=by
  unfold opIndexU at h
  rw [slotI_wp0, slotI_wp0] at h
  have hv:=hR.val hx
  have hj:=hR.val hi
  revert h hv hj
  generalize S.val x = v
  generalize S.val ix = j
  intro h hv hj
  split at h
  · rename_i s kd n
    obtain ⟨⟨h1, h2⟩, h⟩:=h
    have e1:=hv.val (z:=.string s) rfl
    have e2:=hj.val (z:=.int _ n) rfl
    refine fin_val hR hk (y:=.int .u8 (byteAt s n.toNat)) ?_ (.pure (.v _)) h
    have hlt : n.toNat < s.size:=by omega
    simp only [execOp, ho, e1, e2, Sem.run_bind]
    have hb : s[n.toNat]? = some s[n.toNat]:=getElem?_pos s n.toNat hlt
    have hd : s.data[n.toNat]? = some s[n.toNat]:=getElem?_pos s.data n.toNat hlt
    simp [Instr.index, asIntOf, run_underlying hu, h1, hb, byteAt, hd]
  · exact h.elim
theorem opRangeU_sound (cx : Cx) (hR : Rel N base w0 S C a w) (hk : Then N base w0 S C K next) {t : TypeId} {x : Operand} {d : Tmp} (ho : o.op = .range t x) (hu : P.underlying t = some .string) (hd : o.dst = some d) (hx : inN N x = true)
    (h : (opRangeU cx d x).rm.wp0 P S K) : o.wp P a w next Q:=by
  unfold opRangeU at h
  rw [slotI_wp0] at h
  have hv:=hR.val hx
  revert h hv
  generalize S.val x = v
  intro h hv
  split at h
  · rename_i s
    have e1:=hv.val (z:=.string s) rfl
    obtain ⟨C', hle, h1, h2, _, h3, h4, hR'⟩:=hR.newObj (cx.key d) (some (0, [.v (.string s), .v (.int .i64 0)])) (.stringIter s 0) fun C' hle hw him hj ho hg sz es he=>by
      cases he
      refine ⟨fun h=>absurd rfl h, fun _=>?_, fun h=>absurd rfl h⟩
      rw [hj]
      exact ⟨ho, .stringIter s 0, by rw [hw];exact heap_alloc_new _ _, .iter s 0⟩
    refine wp_of_value (y:=.pointer (some ⟨w.heap.size, 0, none⟩)) (w':=w.alloc (.stringIter s 0)) ?_ ?_
    · simp only [execOp, ho, e1, Sem.run_bind]
      simp only [Instr.range, Sem.run_bind, run_underlying hu, Result.andThen_ok, Sem.run_pure]
      rfl
    · rw [hd]
      refine hk _ C' _ _ h hle ?_
      have hv : KRel C' (.ptr (cx.key d) ((S.box (cx.key d)).1 + 1) 0 0 0) (.pointer (some ⟨w.heap.size, 0, none⟩)):=by
        rw [← h1, ← h2]
        exact KRel.ptr (C:=C') (k:=cx.key d) (sz:=0) (i:=0) (off:=0)
      exact hR'.put hv d
  · exact h.elim
theorem opNextU_sound (hR : Rel N base w0 S C a w) (hk : Then N base w0 S C K next) {x : Operand} (ho : o.op = .next x true) (hx : inN N x = true)
    (h : (opNextU o.dst x).rm.wp0 P S K) : o.wp P a w next Q:=by
  unfold opNextU at h
  rw [slotI_wp0] at h
  have hv:=hR.val hx
  revert h hv
  generalize S.val x = v
  generalize hy : a.eval x = y
  intro h hv
  split at h
  · rename_i k g i
    simp only [RB.rm, RM.wp0] at h
    cases hb : S.box k with
    | mk g' oc =>
    rw [hb] at h
    cases oc with
    | none=>exact h.elim
    | some dd =>
    obtain ⟨sz, es⟩:=dd
    simp only [RM.wp0] at h
    obtain ⟨hg, hs, h⟩:=h
    have hg:=Nat.eq_of_beq_eq_true hg
    have hs:=Nat.eq_of_beq_eq_true hs
    subst hg hs
    have hyp : y = .pointer (some ⟨C.jb k, 0, none⟩):=by
      cases hv with
      | pure hp=>cases hp
      | ptrOld hl=>rw [hR.gb k, hb] at hl;exact absurd hl (Nat.lt_irrefl _)
      | ptr=>simp
    subst hyp
    split at h
    · rename_i s p
      obtain ⟨hown, ob, hh, hobj⟩:=(hR.box k 0 [.v (.string s), .v (.int .i64 p)] (by rw [hb])).map rfl
      rw [hR.cw] at hh
      have hob : ∃ pos : Nat, p = pos∧ob = .stringIter s pos:=by
        generalize hl : ([.v (.string s), .v (.int .i64 p)] : List AV) = l at hobj
        cases hobj with
        | map=>cases hl
        | iter s' pos=>cases hl;exact ⟨pos, rfl, rfl⟩
        | loop=>cases hl
      obtain ⟨pos, rfl, rfl⟩:=hob
      have hget : (getObj (C.jb k)).run P w = .ok (.stringIter s pos) w:=by simp [getObj, Sem.run, hh]
      have hlt : C.jb k < w.heap.size:=(Array.getElem?_eq_some_iff.1 hh).1
      by_cases hp : (pos : Int) < s.size
      · have hpn : pos < s.size:=by omega
        simp only [decide_eq_true hp, RB.rm, RM.wp0, Int.toNat_natCast] at h
        have hset : (setObj (C.jb k) (.stringIter s (pos + (Utf8.decode s pos).2))).run P w = .ok () (w.putObj (C.jb k) (.stringIter s (pos + (Utf8.decode s pos).2))):=by simp [setObj, Sem.run, hh, World.putObj]
        have:=hR.objWrite k (some (0, [.v (.string s), .v (.int .i64 ((pos : Int) + (Utf8.decode s pos).2))])) hown (w':=w.putObj (C.jb k) (.stringIter s (pos + (Utf8.decode s pos).2))) (fun b hb=>World.putObj_heap_other hb) (by simp) rfl rfl rfl
          (fun arr e h=>by rw [hh] at h;cases h) (fun C' hle hw him hj ho' hg sz es1 h=>by
            cases h
            refine ⟨fun h=>absurd rfl h, fun _=>⟨by rw [hj, ho'];exact hown, .stringIter s (pos + (Utf8.decode s pos).2), by rw [hw, hj];exact World.putObj_heap_same hlt, ?_⟩, fun h=>absurd rfl h⟩
            have:=ObjRel.iter (w:=C'.w) (imm:=C'.imm) (R:=KRel C') s (pos + (Utf8.decode s pos).2)
            simpa using this)
        rw [hb] at this
        obtain ⟨C', hle, _, _, hR'⟩:=this
        refine wp_of_value (y:=.tuple #[.bool true, .int .i64 pos, .int .i32 (Utf8.decode s pos).1]) ?_ (hk _ C' _ _ h hle (hR'.putA ?_ _))
        · simp only [execOp, ho, hy, Sem.run_bind]
          simp [Instr.next, hget, hpn, hset, goInt]
        · refine .pure (.tuple rfl fun i x z hx hz=>?_)
          match i, hx, hz with
          | 0, hx, hz=>simp at hx hz;subst hx hz;exact .v _
          | 1, hx, hz=>simp at hx hz;subst hx hz;exact .v _
          | 2, hx, hz=>simp at hx hz;subst hx hz;exact .v _
          | n + 3, hx, _=>simp at hx
      · have hpn : ¬ pos < s.size:=by omega
        simp only [decide_eq_false hp, RB.rm, RM.wp0] at h
        refine fin_val hR hk (y:=.tuple #[.bool false]) ?_ ?_ h
        · simp only [execOp, ho, hy, Sem.run_bind]
          simp [Instr.next, hget, hpn]
        · refine .pure (.tuple rfl fun i x z hx hz=>?_)
          match i, hx, hz with
          | 0, hx, hz=>simp at hx hz;subst hx hz;exact .v _
          | n + 1, hx, _=>simp at hx
    · exact h.elim
  · exact h.elim
end
end Go.Am
namespace Go.Am
open Go.RowKit
section
variable {P : Program} {N : Nat} {base : Nat→Prop} {w0 : World} {S : St} {C : Ctx} {a : Act} {w : World} {K : List Wr→Prop} {o : Oper} {next : Act→World→Prop} {Q : Exit→Act→World→Prop}
def Ctx.still (C : Ctx) : Nat→Nat→Prop:=fun b i=>C.imm b i∨∃ k, C.own b = some (.box k)
theorem PRel.still {x : AV} {y : Value} (h : PRel C.w C.imm x y) : PRel C.w C.still x y:=h.mono fun _ _ h=>⟨.inl h, rfl⟩
theorem box_pure (hR : Rel N base w0 S C a w) {k : Key} {sz : Nat} {es : List AV} (hk : (S.box k).2 = some (sz, es)) (h0 : sz ≠ 0) {i c : Nat} {e x x' : AV} (he : es[i]? = some e) (hx : e.cells[c]? = some x) (hp : Am.pure1 x = some x') :
    ∃ y, C.w.cell? ⟨C.jb k, i * sz + c, none⟩ = some y∧C.still (C.jb k) (i * sz + c)∧y.oneCell' = true∧PRel C.w C.still x' y:=by
  obtain ⟨y, h1, h2, h3⟩:=box_cell hR hk h0 he hx
  obtain ⟨ho, _⟩:=(hR.box k sz es hk).own h0 (by intro h;simp [h] at he)
  exact ⟨y, by rw [hR.cw];exact h1, .inr ⟨k, ho⟩, h3, (h2.pure1 hp).still⟩
theorem box_purJ (hR : Rel N base w0 S C a w) {k : Key} {sz : Nat} {es : List AV} (hk : (S.box k).2 = some (sz, es)) (h0 : sz ≠ 0) {i c : Nat} {e x : AV} (he : es[i]? = some e) (hx : e.cells[c]? = some x) :
    ∃ y, C.w.cell? ⟨C.jb k, i * sz + c, none⟩ = some y∧C.still (C.jb k) (i * sz + c)∧y.oneCell' = true∧PRel C.w C.still (purJ x) y:=by
  obtain ⟨y, h1, h2, h3⟩:=box_cell hR hk h0 he hx
  obtain ⟨ho, _⟩:=(hR.box k sz es hk).own h0 (by intro h;simp [h] at he)
  refine ⟨y, by rw [hR.cw];exact h1, .inr ⟨k, ho⟩, h3, ?_⟩
  unfold purJ
  split
  · rename_i x' hp
    exact (h2.pure1 hp).still
  · exact .junk y
theorem pureEs_get : ∀ {cs l : List AV}, pureEs cs = some l→l.length = cs.length∧∀ (i : Nat) (y : AV), l[i]? = some y→∃ x, cs[i]? = some x∧pureE x = some y
  | [], l, h=>by simp [pureEs] at h;subst h;simp
  | a :: xs, l, h=>by
    simp only [pureEs] at h
    split at h
    · rename_i z zs h1 h2
      simp at h;subst h
      obtain ⟨e, ih⟩:=pureEs_get h2
      refine ⟨by simp [e], fun i y hy=>?_⟩
      cases i with
      | zero=>simp at hy;subst hy;exact ⟨a, rfl, h1⟩
      | succ i=>simpa using ih i y (by simpa using hy)
    · simp at h
theorem pure1_cells {x y : AV} (h : Am.pure1 x = some y) : x.cells = [x]∧y.cells = [y]:=by
  by_cases hf : ∃ fn fs cs, x = .func fn fs cs
  · obtain ⟨fn, fs, cs, rfl⟩:=hf
    obtain ⟨rfl, rfl, rfl⟩:=pure1_func h
    exact ⟨rfl, rfl⟩
  · cases x<;>first|exact absurd ⟨_, _, _, rfl⟩ hf|(simp [Am.pure1] at h<;>subst h<;>exact ⟨rfl, rfl⟩)
theorem pureE_cells {u e : AV} (h : pureE u = some e) : e.cells.length = u.cells.length∧∀ (c : Nat) (x : AV), e.cells[c]? = some x→∃ v, u.cells[c]? = some v∧Am.pure1 v = some x:=by
  have other : Am.pure1 u = some e→e.cells.length = u.cells.length∧∀ (c : Nat) (x : AV), e.cells[c]? = some x→∃ v, u.cells[c]? = some v∧Am.pure1 v = some x:=by
    intro h
    obtain ⟨h1, h2⟩:=pure1_cells h
    rw [h1, h2]
    refine ⟨rfl, fun c x hx=>?_⟩
    cases c with
    | zero=>simp at hx;subst hx;exact ⟨u, rfl, h⟩
    | succ c=>simp at hx
  cases u with
  | agg cs =>
    simp only [pureE, Option.map_eq_some_iff] at h
    obtain ⟨l, hl, rfl⟩:=h
    exact ⟨pures_len hl, fun c x hx=>pures_get hl c x hx⟩
  | _=>exact other h
theorem snap1_sound (hR : Rel N base w0 S C a w) {x : AV} {y : Value} (hv : KRel C x y) {k : AV→RM} (h : (snap1 x k).wp0 P S K) :
    ∃ x', (k x').wp0 P S K∧PRel C.w C.still x' y:=by
  have other : (match toPure x with|some y=>k y|none=>RM.fail).wp0 P S K→∃ x', (k x').wp0 P S K∧PRel C.w C.still x' y:=by
    intro h
    split at h
    · rename_i x' hx'
      exact ⟨x', h, (hv.toPure hx').still⟩
    · exact h.elim
  cases x with
  | ptr key g sz i off =>
    simp only [snap1, RM.wp0] at h
    split at h
    · rename_i sz' es hs
      obtain ⟨⟨hg, rfl, h0⟩, h⟩:=h
      split at h
      · rename_i e he
        split at h
        · rename_i cs hcs
          refine ⟨_, h, ?_⟩
          rw [KRel.ptrCur hR hv hg]
          have hc : ∀ (c : Nat) (x : AV), (cs.drop off)[c]? = some x→∃ y, C.w.cell? ⟨C.jb key, i * sz' + off + c, none⟩ = some y∧C.still (C.jb key) (i * sz' + off + c)∧y.oneCell' = true∧PRel C.w C.still x y:=by
            intro c x hx
            rw [List.getElem?_drop] at hx
            obtain ⟨u, hu, hp⟩:=pursJ_get hcs _ x hx
            have:=box_purJ hR hs h0 he hu
            rw [hp] at this
            rwa [← Nat.add_assoc] at this
          refine .cptr (fun c=>(C.w.cell? ⟨C.jb key, i * sz' + off + c, none⟩).getD undef) (fun c x hx=>?_) (fun c x hx=>?_)
          · obtain ⟨y, a1, a2, a3, a4⟩:=hc c x hx
            simp [a1, a2, a3]
          · obtain ⟨y, a1, a2, a3, a4⟩:=hc c x hx
            simp [a1, a4]
        · exact h.elim
      · exact h.elim
    · exact h.elim
  | sl key g sz i off n =>
    simp only [snap1, RM.wp0] at h
    split at h
    · rename_i sz' es hs
      obtain ⟨⟨hg, rfl, h0, hn⟩, h⟩:=h
      split at h
      · rename_i e he
        split at h
        · rename_i cs hcs
          refine ⟨_, h, ?_⟩
          obtain ⟨rfl, hm⟩ : y = .slice (some ⟨C.jb key, i * sz' + off, none⟩) n n∧n ≤ maxLen:=by
            cases hv with
            | pure hp=>cases hp
            | slOld hlt=>rw [hR.gb, hg] at hlt;omega
            | sl hm=>exact ⟨rfl, hm⟩
          have hw:=(hR.box key _ es hs).wid h0 i e he
          have hcl:=pures_len hcs
          have hl : ((cs.drop off).take n).length = n:=by simp;omega
          have hget : ∀ (j : Nat) (x : AV), ((cs.drop off).take n)[j]? = some x→∃ u, e.cells[off + j]? = some u∧Am.pure1 u = some x:=fun j x hx=>by
            rw [List.getElem?_take] at hx
            split at hx
            · rw [List.getElem?_drop] at hx
              exact pures_get hcs _ x hx
            · cases hx
          have hc : ∀ (j : Nat) (d : AV) (c : Nat) (x : AV), ((cs.drop off).take n)[j]? = some d→d.cells[c]? = some x→c = 0∧∃ y, C.w.cell? ⟨C.jb key, i * sz' + off + j, none⟩ = some y∧C.still (C.jb key) (i * sz' + off + j)∧y.oneCell' = true∧PRel C.w C.still x y:=by
            intro j d c x hd hx
            obtain ⟨u, hu, hp⟩:=hget j d hd
            rw [(pure1_cells hp).2] at hx
            cases c with
            | succ c=>simp at hx
            | zero =>
              simp at hx;subst hx
              have:=box_pure hR hs h0 he hu hp
              rw [← Nat.add_assoc] at this
              exact ⟨rfl, this⟩
          have:=PRel.slice (w:=C.w) (imm:=C.still) (sz:=1) (es:=(cs.drop off).take n) (tok:=.no) (b:=C.jb key) (off:=i * sz' + off) (cap:=n) (fun j _=>(C.w.cell? ⟨C.jb key, i * sz' + off + j, none⟩).getD undef) (by omega) (.inl rfl) hm (fun j d hd=>by
            obtain ⟨u, hu, hp⟩:=hget j d hd
            rw [(pure1_cells hp).2];rfl) (fun j d c x hd hx=>by
            obtain ⟨rfl, y, a1, a2, a3, a4⟩:=hc j d c x hd hx
            simp [a1, a2, a3]) (fun j d c x hd hx=>by
            obtain ⟨rfl, y, a1, a2, a3, a4⟩:=hc j d c x hd hx
            simp [a1, a4])
          rw [hl] at this
          exact this
        · exact h.elim
      · exact h.elim
    · exact h.elim
  | own key g sz n cap =>
    simp only [snap1, RM.wp0] at h
    split at h
    · rename_i sz' es hs
      obtain ⟨⟨hg, rfl, h0, hn⟩, h⟩:=h
      split at h
      · rename_i l hl
        refine ⟨_, h, ?_⟩
        have hcase : (∃ cap, y = .slice (some ⟨C.jb key, 0, none⟩) n cap∧n ≤ cap∧cap ≤ maxLen)∨(n = 0∧∃ b, y = .slice b 0 0∧(b = none∨∃ x z, b = some ⟨x, z, none⟩)):=by
          cases hv with
          | pure hp=>cases hp
          | ownOld hlt=>rw [hR.gb, hg] at hlt;omega
          | own h hm=>exact .inl ⟨_, rfl, h, hm⟩
          | ownNil hb=>exact .inr ⟨rfl, _, rfl, hb⟩
        rcases hcase with ⟨cap, rfl, hcap, hmax⟩|⟨rfl, b, rfl, hb⟩
        rotate_left
        · have : l = []:=by simpa [pureEs] using hl.symm
          subst this
          rcases hb with rfl|⟨x, z, rfl⟩
          · exact .nil _ _ (.inl rfl)
          · exact .slice (es:=[]) (fun _ _=>undef) (Nat.le_refl _) (.inl rfl) (by simp) (by simp) (by simp) (by simp)
        obtain ⟨hll, hle⟩:=pureEs_get hl
        have hll' : l.length = n:=by rw [hll];simp;omega
        have hc : ∀ (i : Nat) (e : AV) (c : Nat) (x : AV), l[i]? = some e→e.cells[c]? = some x→∃ y, C.w.cell? ⟨C.jb key, i * sz' + c, none⟩ = some y∧C.still (C.jb key) (i * sz' + c)∧y.oneCell' = true∧PRel C.w C.still x y:=by
          intro i e c x he hx
          obtain ⟨u, hu, hp⟩:=hle i e he
          obtain ⟨v, hv', hp'⟩:=(pureE_cells hp).2 c x hx
          rw [List.getElem?_take] at hu
          split at hu
          · exact box_pure hR hs h0 hu hv' hp'
          · simp at hu
        have:=PRel.slice (w:=C.w) (imm:=C.still) (sz:=sz') (es:=l) (tok:=.no) (b:=C.jb key) (off:=0) (cap:=cap) (fun i c=>(C.w.cell? ⟨C.jb key, i * sz' + c, none⟩).getD undef) (by omega) (.inl rfl) hmax (fun i e he=>by
          obtain ⟨u, hu, hp⟩:=hle i e he
          rw [(pureE_cells hp).1]
          rw [List.getElem?_take] at hu
          split at hu
          · exact (hR.box key _ es hs).wid h0 i u hu
          · simp at hu) (fun i e c x he hx=>by
          obtain ⟨y, a1, a2, a3, a4⟩:=hc i e c x he hx
          simp [a1, a2, a3]) (fun i e c x he hx=>by
          obtain ⟨y, a1, a2, a3, a4⟩:=hc i e c x he hx
          simp [a1, a4])
        rw [hll'] at this
        exact this
      · exact h.elim
    · exact h.elim
  | _=>exact other h
theorem snaps1_sound (hR : Rel N base w0 S C a w) : ∀ {xs : List AV} {ys : List Value}, ys.length = xs.length →
    (∀ (i : Nat) (x : AV) (y : Value), xs[i]? = some x→ys[i]? = some y→KRel C x y)→∀ {k : List AV→RM}, (snaps1 xs k).wp0 P S K →
    ∃ l, (k l).wp0 P S K∧l.length = xs.length∧∀ (i : Nat) (x : AV) (y : Value), l[i]? = some x→ys[i]? = some y→PRel C.w C.still x y
  | [], ys, hl, _, k, h=>⟨[], h, rfl, by simp⟩
  | x :: xs, [], hl, _, k, h=>by simp at hl
  | x :: xs, y :: ys, hl, hv, k, h=>by
    simp only [snaps1] at h
    obtain ⟨x', h, hp⟩:=snap1_sound hR (hv 0 x y rfl rfl) h
    obtain ⟨l, h, h1, h2⟩:=snaps1_sound hR (xs:=xs) (ys:=ys) (by simpa using hl) (fun i a b ha hb=>hv (i + 1) a b (by simpa using ha) (by simpa using hb)) h
    refine ⟨x' :: l, h, by simp [h1], fun i a b ha hb=>?_⟩
    cases i with
    | zero=>simp at ha hb;subst ha hb;exact hp
    | succ i=>exact h2 i a b (by simpa using ha) (by simpa using hb)
theorem snap_sound (hR : Rel N base w0 S C a w) {x : AV} {y : Value} (hv : KRel C x y) {k : AV→RM} (h : (snap x k).wp0 P S K) :
    ∃ x', (k x').wp0 P S K∧PRel C.w C.still x' y:=by
  cases x with
  | func fn fs cs =>
    simp only [snap] at h
    obtain ⟨vf, vc, rfl, h1, h2, h3, h4⟩ : ∃ vf vc, y = .func fn vf vc∧vf.size = fs.length∧vc.size = cs.length∧(∀ (i : Nat) (x : AV) (y : Value), fs[i]? = some x→vf[i]? = some y→KRel C x y) ∧
        (∀ (i : Nat) (x : AV) (y : Value), cs[i]? = some x→vc[i]? = some y→KRel C x y):=by
      cases hv with
      | pure hp=>cases hp with
        | func a b c d=>exact ⟨_, _, rfl, a, b, fun i x y h1 h2=>.pure (c i x y h1 h2), fun i x y h1 h2=>.pure (d i x y h1 h2)⟩
      | func a b c d=>exact ⟨_, _, rfl, a, b, c, d⟩
    obtain ⟨l1, h, a1, a2⟩:=snaps1_sound hR (xs:=fs) (ys:=vf.toList) (by simpa using h1) (fun i x y ha hb=>h3 i x y ha (by simpa using hb)) h
    obtain ⟨l2, h, b1, b2⟩:=snaps1_sound hR (xs:=cs) (ys:=vc.toList) (by simpa using h2) (fun i x y ha hb=>h4 i x y ha (by simpa using hb)) h
    exact ⟨_, h, .func (by rw [h1, a1]) (by rw [h2, b1]) (fun i x y ha hb=>a2 i x y ha (by simpa using hb)) (fun i x y ha hb=>b2 i x y ha (by simpa using hb))⟩
  | _=>exact snap1_sound hR hv h
theorem snaps_sound (hR : Rel N base w0 S C a w) : ∀ {xs : List AV} {ys : List Value}, ys.length = xs.length →
    (∀ (i : Nat) (x : AV) (y : Value), xs[i]? = some x→ys[i]? = some y→KRel C x y)→∀ {k : List AV→RM}, (snaps xs k).wp0 P S K →
    ∃ l, (k l).wp0 P S K∧l.length = xs.length∧∀ (i : Nat) (x : AV) (y : Value), l[i]? = some x→ys[i]? = some y→PRel C.w C.still x y
  | [], ys, hl, _, k, h=>⟨[], h, rfl, by simp⟩
  | x :: xs, [], hl, _, k, h=>by simp at hl
  | x :: xs, y :: ys, hl, hv, k, h=>by
    simp only [snaps] at h
    obtain ⟨x', h, hp⟩:=snap_sound hR (hv 0 x y rfl rfl) h
    obtain ⟨l, h, h1, h2⟩:=snaps_sound hR (xs:=xs) (ys:=ys) (by simpa using hl) (fun i a b ha hb=>hv (i + 1) a b (by simpa using ha) (by simpa using hb)) h
    refine ⟨x' :: l, h, by simp [h1], fun i a b ha hb=>?_⟩
    cases i with
    | zero=>simp at ha hb;subst ha hb;exact hp
    | succ i=>exact h2 i a b (by simpa using ha) (by simpa using hb)
def Fw (lo : Option Nat) : Fence:={ fn:=fun _=>True, depth:=none, alive:=false, round:=lo }
def Oper.wpL (lo : Option Nat) (P : Program) (o : Oper) (a : Act) (w : World) (next : Act→World→Prop) (Q : Exit→Act→World→Prop) : Prop:=o.wpIn (Fw lo) 0 P a w next Q
theorem fw_depth {lo : Option Nat} {n : Nat} : (Fw lo).depth.isSome = true→1 ≤ n:=fun h=>by simp [Fw] at h
theorem calls_fw {lo : Option Nat} {n : Nat} {f : FuncId} {args : Array Value} {R : Ending→World→Prop} (h : Calls P f args w R) : CallsIn (Fw lo) n P f args w R:=(callsIn_wide (n:=n)).2 h
theorem wpL_of_wp {lo : Option Nat} (hd : ∀ c, o.op ≠ .defer c) (h : o.wp P a w next Q) : Oper.wpL lo P o a w next Q:=by
  refine ⟨fun _ _=>trivial, ?_⟩
  rw [Oper.semAt_eq _ _ _ hd]
  unfold Oper.wp at h
  generalize (execOp a.eval o).run P w = r at h
  cases r with
  | ok x w' =>
    cases x<;>simp only [Oper.upon] at h
    case value=>exact h
    case skip=>exact h
    case defer=>exact h
    case enter=>exact ⟨fw_depth, calls_fw h⟩
    case row row args =>
      refine ⟨fw_depth, fun c cs _=>?_⟩
      obtain ⟨v, w'', h1, h2⟩:=h c cs
      exact ⟨v, w'', h1, stepsIn_wide.2 h2⟩
    all_goals exact h.elim
  | halt x w' =>
    cases x<;>simp only [Oper.upon] at h<;>first|exact h|exact h.elim
theorem yield_rel (hR : Rel N base w0 S C a w) {k : Key} {g : Nat} (hg : (S.box k).1 = g) {y : Value} (hv : KRel C (.yld k g) y) : y = .func (.yield (C.jb k)) #[] #[]:=by
  cases hv with
  | pure hp=>cases hp
  | yldOld hl=>rw [hR.gb k, hg] at hl;omega
  | yld=>rfl
theorem opYield_sound {lo : Option Nat} (hR : Rel N base w0 S C a w) (hk : Then N base w0 S C K next) {c : Call} {f : Operand} (ho : o.op = .call c) (hb : c.callee = .value f) (hf : inN N f = true)
    (ha : ∀ x ∈ c.args.toList, inN N x = true) {k : Key} {g : Nat} (hS : S.val f = .yld k g) (hg : (S.box k).1 = g) (h : (opCallX o.dst (.yld k g) (c.args.toList.map S.val)).wp0 P S K) : Oper.wpL lo P o a w next Q:=by
  have hv:=hR.val hf
  rw [hS] at hv
  have hy:=yield_rel hR hg hv
  refine callX_fin (o:=o) (fid:=.yld k g) hR hk (ys:=c.args.map a.eval) (fun _ C1 hj hgb hr=>?_) (by simp) (fun i x y hx hy=>vals_rel hR ha i x y hx (by simpa using hy)) h
  obtain ⟨f', tmps, assign, body, h1, h2⟩:=hr (by rw [hgb k g rfl, hR.gb, hg])
  rw [hj] at h1 h2
  refine ⟨fun _ _=>trivial, ?_⟩
  rw [Oper.semAt_eq _ _ _ (by simp [ho])]
  have exec : (execOp a.eval o).run P w = .ok (.round (C.jb k) f' tmps assign body) w:=by
    simp only [execOp, ho, resolve, hb, hy, Deferred.ofValue, invoke, Sem.run_bind, Sem.run_pure, Result.andThen_ok]
    simpa using h1
  rw [exec, Oper.uponIn_round]
  refine ⟨fw_depth, RoundIn.mono (F:=Fw lo) h2 ?_⟩
  rintro e w' ⟨y, rfl, h⟩
  exact h
theorem opCall_sound (hR : Rel N base w0 S C a w) (hk : Then N base w0 S C K next) {c : Call} {f : Operand} (ho : o.op = .call c) (hb : c.callee = .value f) (hf : inN N f = true)
    (ha : ∀ x ∈ c.args.toList, inN N x = true) (cx : Cx) (hny : ∀ k g, S.val f ≠ .yld k g) (h : (opCall cx o.dst f c.args.toList).wp0 P S K) : o.wp P a w next Q:=by
  unfold opCall at h
  rw [val_wp0] at h
  have hv:=hR.val hf
  have exec : ∀ fid vf vc, a.eval f = .func (.func fid) vf vc→Callable P fid→(execOp a.eval o).run P w = .ok (.enter fid (vf++c.args.map a.eval++vc)) w:=by
    intro fid vf vc e hc
    simp only [execOp, ho, resolve, hb, e, Deferred.ofValue, invoke, Sem.run_bind, Sem.run_pure, Result.andThen_ok]
    exact hc _ _
  revert h hv exec hny
  generalize S.val f = v
  generalize a.eval f = y
  intro hny h hv exec
  cases v<;>first|exact h.elim|exact absurd rfl (hny _ _)|skip
  rename_i fn fs cs
  cases fn<;>first|exact h.elim|skip
  rename_i fid
  simp only [vals_wp0] at h
  obtain ⟨vf, vc, rfl, h1, h2, h3, h4⟩ : ∃ vf vc, y = .func (.func fid) vf vc∧vf.size = fs.length∧vc.size = cs.length∧(∀ (i : Nat) (x : AV) (y : Value), fs[i]? = some x→vf[i]? = some y→KRel C x y) ∧
      (∀ (i : Nat) (x : AV) (y : Value), cs[i]? = some x→vc[i]? = some y→KRel C x y):=by
    cases hv with
    | pure hp=>cases hp with
      | func a b c d=>exact ⟨_, _, rfl, a, b, fun i x y h1 h2=>.pure (c i x y h1 h2), fun i x y h1 h2=>.pure (d i x y h1 h2)⟩
    | func a b c d=>exact ⟨_, _, rfl, a, b, c, d⟩
  have hall : ∀ (i : Nat) (x : AV) (y : Value), (fs++c.args.toList.map S.val++cs)[i]? = some x→(vf.toList++c.args.toList.map a.eval++vc.toList)[i]? = some y→KRel C x y:=by
    intro i x y hx hy
    by_cases hi : i < fs.length
    · rw [List.append_assoc, List.getElem?_append_left hi] at hx
      rw [List.append_assoc, List.getElem?_append_left (by simpa [h1] using hi)] at hy
      exact h3 i x y hx (by simpa using hy)
    · rw [List.append_assoc, List.getElem?_append_right (by omega)] at hx
      rw [List.append_assoc, List.getElem?_append_right (by simp [h1];omega)] at hy
      simp only [Array.length_toList, h1] at hy
      by_cases hi2 : i - fs.length < c.args.toList.length
      · rw [List.getElem?_append_left (by simpa using hi2)] at hx
        rw [List.getElem?_append_left (by simpa using hi2)] at hy
        exact vals_rel hR ha _ x y hx hy
      · rw [List.getElem?_append_right (by simp at hi2 ⊢;omega)] at hx
        rw [List.getElem?_append_right (by simp at hi2 ⊢;omega)] at hy
        simp only [List.length_map] at hx hy
        exact h4 _ x y hx (by simpa using hy)
  have hlen : (vf.toList++c.args.toList.map a.eval++vc.toList).length = (fs++c.args.toList.map S.val++cs).length:=by simp [h1, h2]
  have harr : vf++c.args.map a.eval++vc = (vf.toList++c.args.toList.map a.eval++vc.toList).toArray:=by
    apply Array.ext';simp
  have fin : ∀ {l : List AV} {r : AV} {imm : Nat→Nat→Prop}, (∀ b i, imm b i→b < w.heap.size) →
      (Callable P fid∧Calls P fid (vf++c.args.map a.eval++vc) w fun e w'=>∃ y imm', e = .returned y∧(∀ b i, imm' b i→b < w'.heap.size∧(b < w.heap.size→C.imm b i))∧PRel w' imm' r y∧Below w.heap.size w w') →
      K (putA o.dst r)→o.wp P a w next Q:=by
    intro l r imm himm hc hK
    unfold Oper.wp
    rw [exec fid vf vc rfl hc.1, Oper.upon_enter]
    refine hc.2.mono ?_
    rintro e w' ⟨y, imm', rfl, hi, hp, hbl⟩
    obtain ⟨C', hle, hcw, hii, hR'⟩:=hR.called hbl imm' (fun b i h=>(hi b i h).1) hR.baseLe
    refine hk _ C' _ _ hK hle (hR'.putA (.pure ?_) _)
    rw [hcw]
    refine hp.mono fun b i h=>⟨(hii b i).2 ?_, rfl⟩
    by_cases hlt : b < w.heap.size
    · exact .inl ((hi b i h).2 hlt)
    · exact .inr ⟨by omega, h⟩
  split at h
  · refine callX_fin (o:=o) (fid:=.fn fid) (ys:=vf++c.args.map a.eval++vc) hR hk (fun hc C1 _ _ hr=>?_) (by rw [harr];simpa using hlen) (fun i x y hx hy=>by rw [harr] at hy;exact hall i x y hx (by simpa using hy)) h
    unfold Oper.wp
    rw [exec fid vf vc rfl hc, Oper.upon_enter]
    refine Calls.mono hr ?_
    rintro e w' ⟨y, rfl, h⟩
    exact h
  split at h
  · rename_i l hl
    obtain ⟨r, hr, hK⟩:=h
    simp only [Bool.false_eq_true, if_false] at hr
    refine fin (l:=l) (imm:=C.imm) hR.immLt ⟨hr.1, hr.2 w C.imm _ hR.immOk ⟨by rw [harr];simp only [List.size_toArray];rw [hlen, topures_len hl], fun i x y hx hy=>?_⟩⟩ hK
    obtain ⟨u, hu, hp⟩:=topures_get hl i x hx
    rw [harr] at hy
    rw [← hR.cw]
    exact (hall i u y hu (by simpa using hy)).toPure hp
  · obtain ⟨l, h, hll, hp⟩:=snaps_sound hR hlen hall h
    obtain ⟨r, hr, hK⟩:=h
    simp only [if_true] at hr
    have hst : ∀ b i, C.still b i→b < w.heap.size:=fun b i h=>by
      rcases h with h|⟨k, h⟩
      · exact hR.immLt b i h
      · exact (hR.ownLt b _ h).2
    refine fin (l:=l) (imm:=C.still) hst ⟨hr.1, (hr.2 w C.still _ ⟨hst, hR.glob.mono fun b i h=>⟨.inl h, rfl⟩⟩ ⟨by rw [harr];simp only [List.size_toArray];rw [hlen, hll], fun i x y hx hy=>?_⟩).mono ?_⟩ hK
    · rw [harr] at hy
      rw [← hR.cw]
      exact hp i x y hx (by simpa using hy)
    · rintro e w' ⟨y, imm', he, hi, h1, h2⟩
      exact ⟨y, imm', he, fun b i h=>⟨(hi b i h).1, fun hlt=>absurd hlt (hi b i h).2⟩, h1, h2⟩
theorem withMap_wp0 {t : TypeId} {k : KK × AV→RB} (h : (withMap P t k).wp0 P S K) : ∃ p, MapTy P t p∧(k p).rm.wp0 P S K:=h
theorem opA_sound {lo : Option Nat} (cx : Cx) (hR : Rel N base w0 S C a w) (hk : Then N base w0 S C K next) (hin : ∀ x ∈ o.op.operands.toList, inN N x = true)
    (h : (opA P cx o).wp0 P S K) : Oper.wpL lo P o a w next Q:=by
  by_cases hyl : ∃ c f k g, o.op = .call c∧c.callee = .value f∧S.val f = .yld k g
  · obtain ⟨c, f, k, g, ho, hb, hS⟩:=hyl
    unfold opA at h
    simp only [ho, hb] at h
    simp only [ho] at hin
    have hargs : ∀ x ∈ c.args.toList, inN N x = true:=fun x hx=>hin x (by simp only [Op.operands, Call.operands, Array.toList_append];exact List.mem_append.2 (.inr hx))
    unfold opCall at h
    rw [val_wp0, hS] at h
    simp only [vals_wp0] at h
    obtain ⟨hg, h⟩:=h
    exact opYield_sound hR hk ho hb (hin f (by simp [Op.operands, Call.operands, hb])) hargs hS hg h
  refine wpL_of_wp (fun c hc=>by unfold opA at h;simp only [hc] at h;exact h.elim) ?_
  unfold opA at h
  cases ho : o.op<;>simp only [ho] at h hin<;>try exact h.elim
  case move x=>exact opMove_sound hR hk (.inl ho) (hin x (by simp [Op.operands])) h
  case assign x=>exact opMove_sound hR hk (.inr ho) (hin x (by simp [Op.operands])) h
  case pick c x y=>exact opPick_sound hR hk ho (hin c (by simp [Op.operands])) (hin x (by simp [Op.operands])) (hin y (by simp [Op.operands])) h
  case alloc t=>exact opAlloc_sound cx hR hk ho h
  case box t x=>exact opBox_sound cx hR hk ho (hin x (by simp [Op.operands])) h
  case build t ps=>exact opBuild_sound hR hk ho (fun p hp=>hin p.2 (by simp only [Op.operands];exact List.mem_map.2 ⟨p, hp, rfl⟩)) h
  case buildSlice t n ps =>
    split at h
    · rename_i d hd
      split at h
      · exact opBuildSliceU_sound cx hR hk ho (fun p hp=>hin p.2 (by simp only [Op.operands];exact List.mem_map.2 ⟨p, hp, rfl⟩)) hd h
      · exact opBuildSlice_sound hR hk ho (fun p hp=>hin p.2 (by simp only [Op.operands];exact List.mem_map.2 ⟨p, hp, rfl⟩)) h
    · exact h.elim
  case load t x=>exact opLoad_sound hR hk ho (hin x (by simp [Op.operands])) h
  case store t x y =>
    split at h
    · rename_i hd
      exact opStore_sound hR hk ho hd (hin x (by simp [Op.operands])) (hin y (by simp [Op.operands])) h
    · exact h.elim
  case makeSlice t x y =>
    split at h
    · rename_i d hd
      split at h
      · rename_i e n bt hts
        split at h
        · rename_i n' z' hz
          exact opMakeSliceU_sound cx hR hk ho (hin x (by simp [Op.operands])) (hin y (by simp [Op.operands])) hd hts hz h
        · exact h.elim
      · exact h.elim
    · exact h.elim
  case nilCheck x=>exact opNil_sound hR hk ho (hin x (by simp [Op.operands])) h
  case binOp op t x y t'=>exact opBin_sound hR hk ho (hin x (by simp [Op.operands])) (hin y (by simp [Op.operands])) h
  case unOp op t x=>exact opUn_sound hR hk ho (hin x (by simp [Op.operands])) h
  case convert s t x=>exact opConv_sound hR hk ho (hin x (by simp [Op.operands])) h
  case makeFunc fn f c=>exact opMakeFunc_sound hR hk ho (fun x hx=>hin x (by simp only [Op.operands, Array.toList_append];exact List.mem_append.2 (.inl hx))) (fun x hx=>hin x (by simp only [Op.operands, Array.toList_append];exact List.mem_append.2 (.inr hx))) h
  case slice t x lo hi mx =>
    refine opSliceExpr_sound hR hk ho (hin x (by simp [Op.operands])) (fun y hy=>hin y ?_) (fun y hy=>hin y ?_) (fun y hy=>hin y ?_) h
    all_goals (simp only [Option.mem_def] at hy;subst hy;simp [Op.operands])
  case fieldAddr t x f=>exact opField_sound hR hk ho (hin x (by simp [Op.operands])) h
  case indexAddr t x ix=>exact opIndexAddr_sound hR hk ho (hin x (by simp [Op.operands])) (hin ix (by simp [Op.operands])) h
  case extract x i=>exact opExtract_sound hR hk ho (hin x (by simp [Op.operands])) h
  case makeMap t r =>
    cases r with
    | none =>
      simp only at h
      split at h
      · rename_i d hd
        exact opMakeMapU_sound cx hR hk ho hd h
      · exact h.elim
    | some=>exact h.elim
  case lookup t x ix ok =>
    obtain ⟨p, hM, h⟩:=withMap_wp0 h
    exact opLookupU_sound hR hk ho (hin x (by simp [Op.operands])) (hin ix (by simp [Op.operands])) hM h
  case mapUpdate t x ix y =>
    split at h
    · rename_i hd
      obtain ⟨p, hM, h⟩:=withMap_wp0 h
      exact opUpdateU_sound hR hk (.inl ho) hd (hin x (by simp [Op.operands])) (hin ix (by simp [Op.operands])) (hin y (by simp [Op.operands])) hM h
    · exact h.elim
  case insert t x ix y =>
    split at h
    · rename_i hd
      obtain ⟨p, hM, h⟩:=withMap_wp0 h
      exact opUpdateU_sound hR hk (.inr ho) hd (hin x (by simp [Op.operands])) (hin ix (by simp [Op.operands])) (hin y (by simp [Op.operands])) hM h
    · exact h.elim
  case mapEntry t x ix =>
    obtain ⟨p, hM, h⟩:=withMap_wp0 h
    exact opEntryU_sound hR hk ho (hin x (by simp [Op.operands])) (hin ix (by simp [Op.operands])) hM h
  case entryStore t x ix y =>
    split at h
    · rename_i hd
      exact opEntryStoreU_sound hR hk ho hd (hin x (by simp [Op.operands])) (hin ix (by simp [Op.operands])) (hin y (by simp [Op.operands])) h
    · exact h.elim
  case index t x ix =>
    split at h
    · rename_i hu
      exact opIndexU_sound hR hk ho hu (hin x (by simp [Op.operands])) (hin ix (by simp [Op.operands])) h
    · rename_i hu
      exact opIndexV_sound hR hk ho hu (hin x (by simp [Op.operands])) (hin ix (by simp [Op.operands])) h
    · exact h.elim
  case field t x f=>exact opFieldV_sound hR hk ho (hin x (by simp [Op.operands])) h
  case range t x =>
    split at h
    · rename_i d hu hd
      exact opRangeU_sound cx hR hk ho hu hd (hin x (by simp [Op.operands])) h
    · exact h.elim
  case next x b =>
    cases b with
    | true=>exact opNextU_sound hR hk ho (hin x (by simp [Op.operands])) h
    | false=>exact h.elim
  case call c =>
    have hargs : ∀ x ∈ c.args.toList, inN N x = true:=fun x hx=>hin x (by simp only [Op.operands, Call.operands, Array.toList_append];exact List.mem_append.2 (.inr hx))
    split at h
    · rename_i hb
      split at h
      · rename_i x t hx ht
        exact opLen_sound hR hk ho hb hx ht (hargs x (by rw [hx];simp)) h
      · exact h.elim
    · rename_i hb
      split at h
      · rename_i x y t t' hx ht
        split at h
        · subst_vars
          split at h
          · rename_i d hd
            split at h
            · split at h
              · rename_i e n bt hts
                split at h
                · rename_i n' z' hz
                  exact opAppendU_sound cx hR hk ho hb hx ht (hargs x (by rw [hx];simp)) (hargs y (by rw [hx];simp)) hd hts hz h
                · exact h.elim
              · exact h.elim
            · exact opAppend_sound cx hR hk ho hb hx ht (hargs x (by rw [hx];simp)) (hargs y (by rw [hx];simp)) h
          · exact h.elim
        · exact h.elim
      · exact h.elim
    · rename_i hb
      split at h
      · rename_i x y t t' hx ht
        split at h
        · subst_vars
          split at h
          · rename_i hts
            exact opCopyU_sound hR hk ho hb hx ht (hargs x (by rw [hx];simp)) (hargs y (by rw [hx];simp)) hts h
          · exact h.elim
        · exact h.elim
      · exact h.elim
    · rename_i hb
      exact opMinU_sound (mx:=false) hR hk ho hb hargs h
    · rename_i hb
      exact opMinU_sound (mx:=true) hR hk ho hb hargs h
    · rename_i hb
      split at h
      · rename_i x t hx ht
        split at h
        · rename_i kt et hu
          exact opClearU_sound hR hk ho hb hx ht hu (hargs x (by rw [hx];simp)) h
        · exact h.elim
      · exact h.elim
    · rename_i f hb
      exact opCall_sound hR hk ho hb (hin f (by simp [Op.operands, Call.operands, hb])) hargs cx (fun k g e=>hyl ⟨c, f, k, g, ho, hb, e⟩) h
    · exact h.elim
def stepW (P : Program) (cx : Cx) (ops : Array Oper) (o : Oper) (S : St) (K : List Loc→List Wr→Prop) : Prop :=
  match o.guard with
  | none=>(opA P cx o).wp P S K
  | some (j, want) =>
    match (ops[j]?).bind (·.dst) with
    | none=>False
    | some t =>
      match S.slot t with
      | .v (.bool b)=>if b = want then (opA P cx o).wp P S (fun l ws=>K (.slot t :: l) ws) else K [.slot t] (putA o.dst (.v undef))
      | .v (.tuple _)=>K [.slot t] (putA o.dst (.v undef))
      | _=>False
def regW (P : Program) (cx : Cx) (ops : Array Oper) : List Nat→St→(St→Prop)→Prop
  | [], S, K=>K S
  | i :: is, S, K =>
    match ops[i]? with
    | none=>regW P cx ops is S K
    | some o=>stepW P cx ops o S fun _ ws=>regW P cx ops is (S.puts ws) K
def opIn (N : Nat) (ops : Array Oper) (o : Oper) : Bool :=
  o.op.operands.toList.all (inN N) && match o.guard with
    | none=>true
    | some (j, _)=>match (ops[j]?).bind (·.dst) with
      | some t=>t < N
      | none=>true
def opsIn (N : Nat) (ops : Array Oper) : Bool:=ops.toList.all (opIn N ops)
theorem stepW_sound {lo : Option Nat} (cx : Cx) {ops : Array Oper} (hin : opIn N ops o = true) (hR : Rel N base w0 S C a w) {K : List Loc→List Wr→Prop}
    (hk : ∀ l ws C' a' w', K l ws→C.le C'→Rel N base w0 (S.puts ws) C' a' w'→next a' w') (h : stepW P cx ops o S K) :
    if Region.wanted o (yielded ops a.tmps) then Oper.wpL lo P o a w next Q else next (a.put o.dst undef) w:=by
  unfold stepW at h
  unfold opIn at hin
  rw [Bool.and_eq_true] at hin
  have hops : ∀ x ∈ o.op.operands.toList, inN N x = true:=List.all_eq_true.1 hin.1
  have run : ∀ {K : List Loc→List Wr→Prop}, (∀ l ws C' a' w', K l ws→C.le C'→Rel N base w0 (S.puts ws) C' a' w'→next a' w')→(opA P cx o).wp P S K→Oper.wpL lo P o a w next Q:=by
    intro K hk h
    exact opA_sound cx hR (fun ws C' a' w' ⟨l, hl⟩ h1 h2=>hk l ws C' a' w' hl h1 h2) hops (RM.wp_wp0 _ h)
  cases hg : o.guard with
  | none =>
    simp only [hg] at h
    have : Region.wanted o (yielded ops a.tmps) = true:=by simp [Region.wanted, hg]
    rw [if_pos this]
    exact run hk h
  | some jw =>
    obtain ⟨j, want⟩:=jw
    simp only [hg] at h
    cases ht : (ops[j]?).bind (·.dst) with
    | none=>simp only [ht] at h
    | some t =>
      simp only [ht] at h
      have htN : t < N:=by
        have:=hin.2
        simp only [hg, ht, decide_eq_true_eq] at this;exact this
      split at h
      · rename_i b hb
        have hy : a.tmps[t]? = some (.bool b):=by
          have h1:=(hR.slot t htN).val (z:=.bool b) (by rw [hb];rfl)
          have hs : t < a.tmps.size:=by rw [hR.size];exact htN
          rw [Array.getD_eq_getD_getElem?, Array.getElem?_eq_getElem hs] at h1
          rw [Array.getElem?_eq_getElem hs]
          exact congrArg some h1
        have hyl : yielded ops a.tmps j = some b:=by simp [yielded, ht, hy]
        split at h
        · rename_i hbw
          have : Region.wanted o (yielded ops a.tmps) = true:=by simp [Region.wanted, hg, hyl, hbw]
          rw [if_pos this]
          exact run (fun l ws C' a' w' hK=>hk _ ws C' a' w' hK) h
        · rename_i hbw
          have : ¬ Region.wanted o (yielded ops a.tmps) = true:=by simp [Region.wanted, hg, hyl, hbw]
          rw [if_neg this]
          exact hk _ _ C _ _ h (.refl C) (hR.putA (.pure (.v _)) _)
      · rename_i vs hb
        have hy : a.tmps[t]? = some (.tuple vs):=by
          have h1:=(hR.slot t htN).val (z:=.tuple vs) (by rw [hb];rfl)
          have hs : t < a.tmps.size:=by rw [hR.size];exact htN
          rw [Array.getD_eq_getD_getElem?, Array.getElem?_eq_getElem hs] at h1
          rw [Array.getElem?_eq_getElem hs]
          exact congrArg some h1
        have hyl : yielded ops a.tmps j = none:=by simp [yielded, ht, hy]
        have : ¬ Region.wanted o (yielded ops a.tmps) = true:=by simp [Region.wanted, hg, hyl]
        rw [if_neg this]
        exact hk _ _ C _ _ h (.refl C) (hR.putA (.pure (.v _)) _)
      · exact h.elim
theorem regW_sound {lo : Option Nat} (cx : Cx) {ops : Array Oper} (hin : opsIn N ops = true) : ∀ (is : List Nat) {S : St} {C : Ctx} {a : Act} {w : World} {K : St→Prop}, Rel N base w0 S C a w →
    (∀ S' C' a' w', K S'→C.le C'→Rel N base w0 S' C' a' w'→Q .normal a' w')→regW P cx ops is S K→wpOpsIn (Fw lo) 0 P ops Q is a w
  | [], S, C, a, w, K, hR, hk, h=>hk S C a w h (.refl C) hR
  | i :: is, S, C, a, w, K, hR, hk, h=>by
    simp only [regW] at h
    simp only [wpOpsIn]
    cases hi : ops[i]? with
    | none=>simp only [hi] at h;exact regW_sound cx hin is hR hk h
    | some o =>
      simp only [hi] at h
      have ho : opIn N ops o = true:=List.all_eq_true.1 hin o (by simpa using Array.mem_of_getElem? hi)
      have:=stepW_sound (lo:=lo) (Q:=Q) (next:=wpOpsIn (Fw lo) 0 P ops Q is) cx ho hR (fun l ws C' a' w' hK hle hR'=>regW_sound cx hin is hR' (fun S'' C'' a'' w'' h1 h2 h3=>hk S'' C'' a'' w'' h1 (hle.trans h2) h3) hK) h
      dsimp only
      split
      · rename_i hw;rw [if_pos hw] at this;exact this
      · rename_i hw;rw [if_neg hw] at this;exact ⟨fun _ _=>trivial, this⟩
end
end Go.Am
namespace Go.Am
open Go.RowKit
def WpA (rd : Bool) (P : Program) (N : Nat) (c : Code) (Q : Exit→St→Prop) (S : St) : Prop :=
  ∀ lo, (rd = false→lo = none)→∀ base w0 C a w, Rel N base w0 S C a w→c.wpIn (Fw lo) 0 P (fun e a' w'=>∃ S' C', Q e S'∧C.le C'∧Rel N base w0 S' C' a' w') a w
theorem wpIn_scope_straight {F : Fence} {n : Nat} {P : Program} {Q : Exit→Act→World→Prop} {a : Act} {w : World} {c : Code} (h : c.wpIn F n P (Exit.noGoto Q) a w) : (Code.scope c).wpIn F n P Q a w:=by
  intro b k cs hro hb hr
  have h0 : (lone (b.atR a (.code (.scope c) :: k)) cs w).fenced P F:=fenced_calm hb hr rfl
  have stepR_scope : step P (lone (b.atR a (.code (.scope c) :: k)) cs w) = .next (lone (b.atR a (.code c :: .inScope c :: k)) cs w) :=
    step_lone_go (by simp [stepG, stepG.exec, Frame.atR])
  have stepR_inScope : ∀ a w, step P (lone (b.atR a (.inScope c :: k)) cs w) = .next (lone (b.atR a k) cs w) :=
    fun a w=>step_lone_go (by simp [stepG, stepG.exec, Frame.atR])
  obtain ⟨e, a₁, w₁, hq, harr⟩:=h b (.inScope c :: k) cs hro hb hr
  cases e with
  | normal=>exact ⟨.normal, a₁, w₁, hq, .head h0 stepR_scope (StepsIn.trans harr (.one (fenced_calm hb hr rfl) (stepR_inScope _ _)))⟩
  | exit id =>
    have hx : exitTo id (.inScope c :: k) = exitTo id k:=by simp [exitTo]
    exact ⟨.exit id, a₁, w₁, hq, fun k' hk=>.head h0 stepR_scope (harr.1 k' (by rw [hx];exact hk)),
      fun hr' hk=>let ⟨k₁, h1, h2⟩:=harr.2 hr' (by rw [hx];exact hk);⟨k₁, h1, .head h0 stepR_scope h2⟩⟩
  | goto l=>exact hq.elim
  | ret=>exact ⟨_, a₁, w₁, hq, .of_steps (.one h0 stepR_scope) harr⟩
  | panic ch=>exact ⟨_, a₁, w₁, hq, .of_steps (.one h0 stepR_scope) harr⟩
  | outgrown=>exact ⟨_, a₁, w₁, hq, .of_steps (.one h0 stepR_scope) harr⟩
section
variable {rd : Bool} {P : Program} {N : Nat} {Q : Exit→St→Prop} {S : St}
theorem WpA.mono {c : Code} {Q' : Exit→St→Prop} (h : WpA rd P N c Q S) (hq : ∀ e S, Q e S→Q' e S) : WpA rd P N c Q' S :=
  fun lo hlo base w0 C a w hR=>wpIn_mono (h lo hlo base w0 C a w hR) fun _ _ _ ⟨S', C', h1, h2, h3⟩=>⟨S', C', hq _ _ h1, h2, h3⟩
theorem WpA_skip (h : Q .normal S) : WpA rd P N .skip Q S:=fun _ _ _ _ C _ _ hR=>wpIn_skip ⟨S, C, h, .refl C, hR⟩
theorem WpA_label {l : Nat} (h : Q .normal S) : WpA rd P N (.label l) Q S:=fun _ _ _ _ C _ _ hR=>wpIn_label ⟨S, C, h, .refl C, hR⟩
theorem WpA_exit {i : Nat} (h : Q (.exit i) S) : WpA rd P N (.exit i) Q S:=fun _ _ _ _ C _ _ hR=>wpIn_exit ⟨S, C, h, .refl C, hR⟩
theorem WpA_ret (h : Q .ret S) : WpA rd P N .ret Q S:=fun _ _ _ _ C _ _ hR=>wpIn_ret ⟨S, C, h, .refl C, hR⟩
def thenA (next : St→Prop) (Q : Exit→St→Prop) : Exit→St→Prop
  | .normal, S=>next S
  | e, S=>Q e S
def blockA (id : Nat) (Q : Exit→St→Prop) : Exit→St→Prop
  | .exit id', S=>if id' = id then Q .normal S else Q (.exit id') S
  | e, S=>Q e S
theorem WpA_seq {x y : Code} (h : WpA rd P N x (thenA (WpA rd P N y Q) Q) S) : WpA rd P N (.seq x y) Q S:=by
  intro lo hlo base w0 C a w hR
  refine wpIn_seq (wpIn_mono (h lo hlo base w0 C a w hR) ?_)
  rintro e a' w' ⟨S', C', h1, h2, h3⟩
  cases e with
  | normal=>exact wpIn_mono (h1 lo hlo base w0 C' a' w' h3) fun e a'' w'' ⟨S'', C'', k1, k2, k3⟩=>⟨S'', C'', k1, h2.trans k2, k3⟩
  | _=>exact ⟨S', C', h1, h2, h3⟩
theorem WpA_cond {c : Operand} {x y : Code} {t : Bool} (hin : inN N c = true) (hc : S.val c = .v (.bool t)) (h : WpA rd P N (if t then x else y) Q S) : WpA rd P N (.cond c x y) Q S:=by
  intro lo hlo base w0 C a w hR
  exact wpIn_cond ((hR.val hin).val (z:=.bool t) (by rw [hc];rfl)) (h lo hlo base w0 C a w hR)
theorem WpA_block {id : Nat} {c : Code} (h : WpA rd P N c (blockA id Q) S) : WpA rd P N (.block id c) Q S:=by
  intro lo hlo base w0 C a w hR
  refine wpIn_block (wpIn_mono (h lo hlo base w0 C a w hR) ?_)
  rintro e a' w' ⟨S', C', h1, h2, h3⟩
  cases e with
  | exit id' =>
    simp only [Exit.inBlock, blockA] at h1 ⊢
    split
    · rename_i e;rw [if_pos e] at h1;exact ⟨S', C', h1, h2, h3⟩
    · rename_i e;rw [if_neg e] at h1;exact ⟨S', C', h1, h2, h3⟩
  | _=>exact ⟨S', C', h1, h2, h3⟩
theorem WpA_scope {c : Code} (h : WpA rd P N c (fun|.goto _, _=>False|e, S=>Q e S) S) : WpA rd P N (.scope c) Q S:=by
  intro lo hlo base w0 C a w hR
  refine wpIn_scope_straight (wpIn_mono (h lo hlo base w0 C a w hR) ?_)
  rintro e a' w' ⟨S', C', h1, h2, h3⟩
  cases e with
  | goto=>exact h1
  | _=>exact ⟨S', C', h1, h2, h3⟩
theorem wpIn_loop_ghost {F : Fence} {n : Nat} {Q : Exit→Act→World→Prop} {a : Act} {w : World} {c : Code} (I : Nat→Act→World→Prop) (n₀ : Nat) (h₀ : I n₀ a w)
    (round : ∀ m a w, I m a w→c.wpIn F n P (Exit.then (fun a' w'=>∃ m', m' < m∧I m' a' w') Q) a w) : (Code.loop c).wpIn F n P Q a w:=by
  refine wpIn_loop (fun a w=>∃ n, I n a w) (fun a w=>leastOf (fun n=>I n a w)) ⟨n₀, h₀⟩ ?_
  intro a w hI
  refine wpIn_mono (round _ a w (leastOf_spec hI).1) ?_
  intro e a' w' hq
  cases e with
  | normal =>
    obtain ⟨m', hlt, hm⟩:=hq
    exact ⟨⟨m', hm⟩, Nat.lt_of_le_of_lt ((leastOf_spec ⟨m', hm⟩).2 m' hm) hlt⟩
  | _=>exact hq
theorem WpA_loop {c : Code} (I : Nat→St→Prop) (n₀ : Nat) (h₀ : I n₀ S) (round : ∀ n S, I n S→WpA rd P N c (thenA (fun S'=>∃ n', n' < n∧I n' S') Q) S) : WpA rd P N (.loop c) Q S:=by
  intro lo hlo base w0 C a w hR
  refine wpIn_loop_ghost (fun n a' w'=>∃ S' C', I n S'∧C.le C'∧Rel N base w0 S' C' a' w') n₀ ⟨S, C, h₀, .refl C, hR⟩ ?_
  rintro n a1 w1 ⟨S1, C1, hI, hle, hR1⟩
  refine wpIn_mono (round n S1 hI lo hlo base w0 C1 a1 w1 hR1) ?_
  rintro e a' w' ⟨S', C', h1, h2, h3⟩
  cases e with
  | normal =>
    obtain ⟨n', hn, hI'⟩:=h1
    exact ⟨n', hn, S', C', hI', hle.trans h2, h3⟩
  | _=>exact ⟨S', C', h1, hle.trans h2, h3⟩
theorem WpA_region (cx : Cx) {id : Nat} {ops : Array Oper} (hin : opsIn N ops = true) (h : regW P cx ops (List.range ops.size) S (Q .normal)) : WpA rd P N (.region id ops false) Q S :=
  fun _ _ _ _ _ _ _ hR=>wpIn_region (regW_sound cx hin _ hR (fun S' C' _ _ h1 h2 h3=>⟨S', C', h1, h2, h3⟩) h)
def frz (x : AV) (k : AV→RM) : RM :=
  match x with
  | .agg cs=>snaps1 cs fun l=>k (.agg l)
  | x=>snap x k
theorem frz_sound {base : Nat→Prop} {w0 : World} {C : Ctx} {a : Act} {w : World} (hR : Rel N base w0 S C a w) {x : AV} {y : Value} (hv : KRel C x y) {K : List Wr→Prop} {k : AV→RM} (h : (frz x k).wp0 P S K) :
    ∃ x', (k x').wp0 P S K∧PRel C.w C.still x' y:=by
  cases x with
  | agg cs =>
    simp only [frz] at h
    obtain ⟨vs, rfl, h1, h2, h3⟩ : ∃ vs, y = .agg vs∧vs.size = cs.length∧(∀ (i : Nat) (x : AV) (y : Value), cs[i]? = some x→vs[i]? = some y→KRel C x y)∧∀ y ∈ vs, y.oneCell' = true:=by
      cases hv with
      | pure hp=>cases hp with
        | agg a b c=>exact ⟨_, rfl, a, fun i x y h1 h2=>.pure (b i x y h1 h2), c⟩
      | agg a b c=>exact ⟨_, rfl, a, b, c⟩
    obtain ⟨l1, h, a1, a2⟩:=snaps1_sound hR (xs:=cs) (ys:=vs.toList) (by simpa using h1) (fun i x y ha hb=>h2 i x y ha (by simpa using hb)) h
    exact ⟨_, h, .agg (by rw [h1, a1]) (fun i x y ha hb=>a2 i x y ha (by simpa using hb)) h3⟩
  | _=>exact snap_sound hR hv h
def resRM (P : Program) : List ResultVar→(List AV→RM)→RM
  | [], k=>k []
  | .tmp t :: rs, k=>.slot t fun v=>frz v fun v=>resRM P rs fun l=>k (v :: l)
  | .cell a t :: rs, k=>opLoadK P t (.tmp a) fun v=>frz v fun v=>resRM P rs fun l=>k (v :: l)
def oneOf : List AV→AV
  | [x]=>x
  | l=>.tuple l
def ResA (P : Program) (fn : Func) (S : St) (res : AV) : Prop :=
  (resRM P fn.results.toList fun l=>.need (res = oneOf l) (.done [])).wp0 P S fun _=>True
def resIn (N : Nat) : ResultVar→Bool
  | .tmp t=>t < N
  | .cell a _=>a < N
theorem resRM_sound {base : Nat→Prop} {w0 : World} {C : Ctx} {a : Act} {w : World} (hR : Rel N base w0 S C a w) {K : List Wr→Prop} : ∀ (rs : List ResultVar) {k : List AV→RM}, (∀ r ∈ rs, resIn N r = true) →
    (resRM P rs k).wp0 P S K→∃ l ys, (k l).wp0 P S K∧ys.length = l.length∧(∀ (i : Nat) (x : AV) (y : Value), l[i]? = some x→ys[i]? = some y→PRel w C.still x y) ∧
      (rs.mapM fun r=>(match r with
        | .tmp t=>Pure.pure (a.tmps.getD t undef)
        | .cell x t=>do loadVar t (← asAddr (a.tmps.getD x undef)) : Sem Value)).run P w = .ok ys w
  | [], k, _, h=>⟨[], [], h, rfl, by simp, rfl⟩
  | .tmp t :: rs, k, hin, h=>by
    simp only [resRM, RM.wp0] at h
    obtain ⟨x', h, hv⟩:=frz_sound hR (hR.slot t (by simpa [resIn] using hin (.tmp t) (by simp))) h
    obtain ⟨l, ys, h1, h2, h3, h4⟩:=resRM_sound hR rs (fun r hr=>hin r (by simp [hr])) h
    rw [hR.cw] at hv
    refine ⟨_, a.tmps.getD t undef :: ys, h1, by simp [h2], fun i x y hx hy=>?_, by simp only [List.mapM_cons, Sem.run_bind, Sem.run_pure, Result.andThen_ok, h4]⟩
    cases i with
    | zero=>simp only [List.getElem?_cons_zero, Option.some.injEq] at hx hy;subst hx hy;exact hv
    | succ i=>exact h3 i x y (by simpa using hx) (by simpa using hy)
  | .cell x t :: rs, k, hin, h=>by
    simp only [resRM] at h
    obtain ⟨v, r, b, off, h, e, hl, hv⟩:=opLoadK_sound hR (by simpa [inN, resIn] using hin (.cell x t) (by simp)) h
    obtain ⟨x', h, hv⟩:=frz_sound hR hv h
    obtain ⟨l, ys, h1, h2, h3, h4⟩:=resRM_sound hR rs (fun r hr=>hin r (by simp [hr])) h
    rw [hR.cw] at hv
    have e' : (asAddr (a.tmps.getD x undef)).run P w = .ok ⟨b, off, none⟩ w:=by
      have e1 : a.tmps.getD x undef = .pointer (some ⟨b, off, none⟩):=e
      rw [e1];rfl
    refine ⟨_, r :: ys, h1, by simp [h2], fun i x y hx hy=>?_, by simp only [List.mapM_cons, Sem.run_bind, e', Sem.run_pure, Result.andThen_ok, hl, h4]⟩
    cases i with
    | zero=>simp only [List.getElem?_cons_zero, Option.some.injEq] at hx hy;subst hx hy;exact hv
    | succ i=>exact h3 i x y (by simpa using hx) (by simpa using hy)
def start (args : List AV) : St:={ slot:=fun i=>args.getD i (.v undef), box:=fun _=>(0, none), tk:=fun _=>(0, 0) }
theorem start_rel {w : World} {imm : Nat→Nat→Prop} {args : List AV} {cargs : Array Value} (hi : ImmOk w imm) (hp : PRels w imm args cargs) (hn : args.length ≤ N) :
    Rel N (· < w.heap.size) w (start args) { w, imm, own:=fun _=>none, gb:=fun _=>0, jb:=fun _=>0, gt:=fun _=>0, hw:=fun _=>0 } { tmps:=cargs++Array.replicate (N - cargs.size) undef, defers:=[] } w where
  cw:=rfl
  glob:=hi.glob
  size:=by have:=hp.1;simp;omega
  defers:=Marks.nil _ _
  slot i hin:=by
    refine .pure ?_
    have hs:=hp.1
    by_cases h : i < args.length
    · have e1 : (start args).slot i = args[i]:=by simp [start, h]
      have e2 : (cargs++Array.replicate (N - cargs.size) undef).getD i undef = cargs[i]:=by
        rw [Array.getD_eq_getD_getElem?, Array.getElem?_append_left (by omega)];simp [hs, h]
      rw [e1, e2]
      exact hp.2 i _ _ (by simp [h]) (by simp [hs, h])
    · have e1 : (start args).slot i = .v undef:=by simp [start, List.getD, List.getElem?_eq_none (by omega : args.length ≤ i)]
      have e2 : (cargs++Array.replicate (N - cargs.size) undef).getD i undef = undef:=by
        rw [Array.getD_eq_getD_getElem?, Array.getElem?_append_right (by omega)]
        cases hq : (Array.replicate (N - cargs.size) undef)[i - cargs.size]? with
        | none=>rfl
        | some q=>simp [Array.getElem?_replicate] at hq;simp [hq.2]
      rw [e1, e2];exact .v _
  gb _:=rfl
  gt _:=rfl
  hw _:=rfl
  box k sz es h:=by simp [start] at h
  ownBox b k h:=by simp at h
  immLt:=hi.lt
  ownLt b o h:=by simp at h
  below:=Bel.refl _ _
  base _ h:=h
theorem Rel.shut {base : Nat→Prop} {w0 : World} {C : Ctx} {tmps : Array Value} {ds : List Deferred} {D : Nat} {w : World} (hR : Rel N base w0 S C { tmps, defers:=ds } w) (ho : C.own D = none) (hD : w0.heap.size ≤ D) (hi : ∀ i, ¬ C.imm D i)
    (hnd : ∀ d ∈ ds, d ≠ { target:=.collected D, args:=#[] }) (o : Obj) :
    Rel N base w0 S { C with w:=w.putObj D o } { tmps, defers:=ds } (w.putObj D o)∧∀ C0 : Ctx, C0.w.heap.size ≤ w0.heap.size→C0.le C→C0.le { C with w:=w.putObj D o }:=by
  have hw:=hR.cw
  subst hw
  have hother : ∀ b, b ≠ D→(C.w.putObj D o).heap[b]? = C.w.heap[b]?:=fun b hb=>World.putObj_heap_other hb
  have hne : ∀ b o', C.own b = some o'→b ≠ D:=fun b o' h e=>by rw [e, ho] at h;cases h
  have hcell : ∀ b i, C.imm b i→(C.w.putObj D o).cell? ⟨b, i, none⟩ = C.w.cell? ⟨b, i, none⟩:=fun b i h=>World.cell?_of_block (hother b fun e=>hi i (e ▸ h))
  have hle0 : C.le0 { C with w:=C.w.putObj D o }:=by
    refine ⟨fun b i h=>⟨h, hcell b i h⟩, fun _=>Nat.le_refl _, fun _ _=>rfl, fun _=>Nat.le_refl _, fun _ _=>Nat.le_refl _, fun k b _ _ h=>⟨h, fun _ h=>h, fun arr e h'=>⟨arr, ?_, rfl⟩⟩,
      fun k _ h=>⟨h, fun arr e h'=>⟨arr, e, ?_, Nat.le_refl _⟩⟩, by simp, fun _ _ _ h=>.inl h, fun _ _ _ h=>h⟩
    · exact (hother b (hne b _ h)).trans h'
    · exact (hother _ (hne _ _ h)).trans h'
  refine ⟨?_, fun C0 hsz hle=>?_⟩
  · exact {
      cw:=rfl, glob:=(by first|exact hR.glob|exact hR.globOf (by first|exact hle.le0|exact hle|exact hle0|exact hCle.le0) (by first|rfl|exact h1.cw|(rw [hC'];first|done|exact hR.cw)|exact hR.cw)), size:=hR.size
      defers:=⟨hR.defers.1, fun d hd=>by
        obtain ⟨D', e, h1, h2, h3, h4⟩:=hR.defers.2 d hd
        exact ⟨D', e, h1, h2, h3, (hother D' fun e'=>hnd d hd (by rw [e, e'])).trans h4⟩⟩
      slot:=fun i hi=>(hR.slot i hi).le0 hle0, gb:=hR.gb, gt:=hR.gt, hw:=hR.hw
      box:=fun k sz es h=>(hR.box k sz es h).mono0 hle0 rfl (fun _=>rfl) (fun h=>hother _ (hne _ _ h))
      ownBox:=hR.ownBox
      immLt:=fun b i h=>by have:=hR.immLt b i h;simpa using this
      ownLt:=fun b o h=>by have:=hR.ownLt b o h;simpa using this
      below:=hR.below.trans ⟨rfl, rfl, rfl, by simp, fun b hb=>hother b fun e=>by have:=hR.base b hb;omega⟩
      base:=hR.base }
  · refine ⟨fun b i h=>?_, hle.gb, hle.jb, hle.gt, hle.hw, fun k b e1 e2 h=>?_, fun k e h=>?_, by have:=hle.size;simpa using this, hle.immOld, hle.ownOld, fun b hb h=>?_⟩
    · obtain ⟨a1, a2⟩:=hle.imm b i h
      exact ⟨a1, (hcell b i a1).trans a2⟩
    · obtain ⟨a1, a2, a3⟩:=hle.tl k b e1 e2 h
      refine ⟨a1, a2, fun arr e h'=>?_⟩
      obtain ⟨arr', b1, b2⟩:=a3 arr e h'
      exact ⟨arr', (hother b (hne b _ a1)).trans b1, b2⟩
    · obtain ⟨a1, a2⟩:=hle.bs k e h
      refine ⟨a1, fun arr e h'=>?_⟩
      obtain ⟨arr', e', b1, b2⟩:=a2 arr e h'
      exact ⟨arr', e', (hother _ (hne _ _ a1)).trans b1, b2⟩
    · exact (hother b (by omega)).trans (hle.free b hb h)
theorem leaves_marks {fn : Func} {R : Ending→World→Prop} {base : Nat→Prop} {w0 : World} {tmps : Array Value} {C0 : Ctx} (hsz : C0.w.heap.size ≤ w0.heap.size) : ∀ (ds : List Deferred) {C : Ctx} {w : World},
    Rel N base w0 S C { tmps, defers:=ds } w→C0.le C→(∀ C' w', C0.le C'→Rel N base w0 S C' { tmps, defers:=[] } w'→∃ v, (results fn tmps).run P w' = .ok v w'∧R (.returned v) w') →
    LeavesInM (Fw none) 0 P fn tmps R ds .returning w
  | [], C, w, hR, hle, h=>h C w hle hR
  | d :: ds, C, w, hR, hle, h=>by
    have hnd:=hR.defers.1
    obtain ⟨D, e, h1, h2, h3, h4⟩:=hR.defers.2 d (by simp)
    rw [hR.cw] at h4
    have hR1 : Rel N base w0 S C { tmps, defers:=ds } w:={ cw:=hR.cw, glob:=(by first|exact hR.glob|exact hR.globOf (by first|exact hle.le0|exact hle|exact hle0|exact hCle.le0) (by first|rfl|exact h1.cw|(rw [hC'];first|done|exact hR.cw)|exact hR.cw)), size:=hR.size, defers:=⟨(List.nodup_cons.1 hnd).2, fun d hd=>hR.defers.2 d (List.mem_cons_of_mem _ hd)⟩, slot:=hR.slot, gb:=hR.gb, gt:=hR.gt, hw:=hR.hw, box:=hR.box, ownBox:=hR.ownBox, immLt:=hR.immLt, ownLt:=hR.ownLt, below:=hR.below, base:=hR.base }
    obtain ⟨hR2, hle2⟩:=hR1.shut h1 h2 h3 (fun d' hd e'=>(List.nodup_cons.1 hnd).1 (by rw [e, ← e'];exact hd)) (.deferred none)
    refine ⟨by simp, .inl ⟨D, _, by rw [e], run_takeDeferred h4, leaves_marks hsz ds hR2 (hle2 C0 hsz hle) h⟩⟩
theorem pureA_of {f : FuncId} {fn : Func} {c : Code} {args : List AV} {res : AV} (hc : Callable P f) (hf : P.funcs[f]? = some fn) (hb : fn.body = some c)
    (hst : (decide (args.length ≤ fn.ntmps) && fn.results.toList.all (resIn fn.ntmps)) = true)
    (h : WpA false P fn.ntmps c (fun e S'=>(e = .normal∨e = .ret)∧ResA P fn S' res) (start args)) : PureA P f args res:=by
  rw [Bool.and_eq_true] at hst
  refine ⟨hc, fun w imm cargs hi hp=>callsIn_wide.1 (callsIn_of_wp_marks (F:=Fw none) (n:=0) hf hb trivial ?_)⟩
  have hR:=start_rel (N:=fn.ntmps) hi hp (by simpa using hst.1)
  refine wpIn_mono (h none (fun _=>rfl) _ _ _ _ _ hR) ?_
  rintro e a' w' ⟨S', C', ⟨he, hres⟩, hle, hR'⟩
  have post : LeavesInM (Fw none) 0 P fn a'.tmps (fun e w'=>∃ y imm', e = .returned y∧(∀ b i, imm' b i→b < w'.heap.size∧(b < w.heap.size→imm b i))∧PRel w' imm' res y∧Below w.heap.size w w') a'.defers .returning w':=by
    refine leaves_marks (w0:=w) (by exact Nat.le_refl _) a'.defers hR' hle fun C'' w'' hle'' hR''=>?_
    unfold ResA at hres
    obtain ⟨l, ys, h1, h2, h3, h4⟩:=resRM_sound hR'' _ (fun r hr=>List.all_eq_true.1 hst.2 r hr) hres
    obtain ⟨hl, _⟩:=h1
    have hrun : (results fn a'.tmps).run P w'' = .ok (if h : ys.toArray.size = 1 then ys.toArray[0] else .tuple ys.toArray) w'':=by
      unfold results
      simp only [Sem.run_bind, Array.mapM_eq_mapM_toList, Sem.run_map]
      erw [h4];rfl
    have hrel : PRel w'' C''.still res (if h : ys.toArray.size = 1 then ys.toArray[0] else .tuple ys.toArray):=by
      rw [hl]
      by_cases h1 : ys.length = 1
      · rw [dif_pos (by simpa using h1)]
        obtain ⟨y, rfl⟩ : ∃ y, ys = [y]:=List.length_eq_one_iff.1 h1
        obtain ⟨x, rfl⟩ : ∃ x, l = [x]:=List.length_eq_one_iff.1 (by omega)
        exact h3 0 x y rfl rfl
      · rw [dif_neg (by simpa using h1)]
        have : oneOf l = .tuple l:=by
          match l, h2, h1 with
          | [], _, _=>rfl
          | [x], h2, h1=>simp at h2;omega
          | _ :: _ :: _, _, _=>rfl
        rw [this]
        exact .tuple (by simpa using h2) (fun i x y hx hy=>h3 i x y hx (by simpa using hy))
    refine ⟨_, hrun, _, C''.still, rfl, fun b i hb=>?_, hrel, below_of hR''.below⟩
    rcases hb with hb|⟨k, hk⟩
    · refine ⟨hR''.immLt b i hb, fun hlt=>?_⟩
      rcases hle''.immOld b i hlt hb with h|⟨k, h⟩|⟨k, h, _⟩
      · exact h
      · simp at h
      · simp at h
    · exact ⟨(hR''.ownLt b _ hk).2, fun hlt=>absurd hlt (hR''.ownLt b _ hk).1⟩
  rcases he with rfl|rfl
  · exact post
  · exact post
end
theorem callable_of {P : Program} {f : FuncId} {fn : Func} (h : P.funcs[f]? = some fn) (h1 : (fn.name == "runtime.NumGoroutine") = false) (h2 : fn.body.isNone = false) : Callable P f:=by
  intro args w
  simp only [callFunc, Sem.run_bind, run_program, Result.andThen_ok, h, h1, h2, Bool.false_eq_true, if_false]
  rfl
end Go.Am
namespace Go.Am
open Go.RowKit
def St.same (S S' : St) : Loc→Prop
  | .slot i=>S.slot i = S'.slot i
  | .box k=>S.box k = S'.box k
  | .tk k=>S.tk k = S'.tk k
theorem St.ext_same {S S' : St} (h : ∀ l, S.same S' l) : S = S':=by
  cases S;cases S'
  congr
  · exact funext fun i=>h (.slot i)
  · exact funext fun k=>h (.box k)
  · exact funext fun k=>h (.tk k)
theorem St.same_refl (S : St) (l : Loc) : S.same S l:=by cases l<;>rfl
theorem St.same.symm {S S' : St} {l : Loc} (h : S.same S' l) : S'.same S l:=by cases l<;>exact Eq.symm h
theorem St.same.trans {A B C : St} {l : Loc} (h : A.same B l) (k : B.same C l) : A.same C l:=by cases l<;>exact Eq.trans h k
theorem put_other {S : St} {x : Wr} {l : Loc} (h : l ≠ x.loc) : (S.put x).same S l:=by
  cases x<;>cases l<;>first
    | rfl
    | (exact upd_ne _ _ (fun e=>h (by simp [Wr.loc, e])))
theorem put_same {S S' : St} {x : Wr} : (S.put x).same (S'.put x) x.loc:=by
  cases x<;>simp [St.put, St.same, Wr.loc, upd_same]
theorem put_congr {S S' : St} {x : Wr} {l : Loc} (h : S.same S' l) : (S.put x).same (S'.put x) l:=by
  by_cases e : l = x.loc
  · subst e;exact put_same
  · exact (put_other e).trans (h.trans (put_other e).symm)
theorem puts_congr {l : Loc} : ∀ (ws : List Wr) {S S' : St}, S.same S' l→(S.puts ws).same (S'.puts ws) l
  | [], _, _, h=>h
  | x :: xs, _, _, h=>puts_congr xs (put_congr h)
theorem puts_other {l : Loc} : ∀ (ws : List Wr) {S : St}, l ∉ ws.map Wr.loc→(S.puts ws).same S l
  | [], S, _=>S.same_refl l
  | x :: xs, S, h=>by
    simp only [List.map_cons, List.mem_cons, not_or] at h
    exact (puts_other xs h.2).trans (put_other h.1)
theorem puts_same {l : Loc} : ∀ (ws : List Wr) {S S' : St}, l ∈ ws.map Wr.loc→(S.puts ws).same (S'.puts ws) l
  | [], _, _, h=>by simp at h
  | x :: xs, S, S', h=>by
    by_cases e : l = x.loc
    · exact puts_congr xs (e ▸ put_same)
    · simp only [List.map_cons, List.mem_cons] at h
      exact puts_same xs (h.resolve_left e)
def stD (D : Nat→Bool) : Nat→List (List Wr)→St→St
  | _, [], S=>S
  | k, ws :: rest, S=>stD D (k + 1) rest (if D k then S.puts ws else S)
theorem stD_congr {l : Loc} {D D' : Nat→Bool} : ∀ (wrs : List (List Wr)) (k : Nat) {S S' : St},
    (∀ i ws, wrs[i]? = some ws→l ∈ ws.map Wr.loc→D (k + i) = D' (k + i))→S.same S' l→(stD D k wrs S).same (stD D' k wrs S') l
  | [], _, _, _, _, h=>h
  | ws :: rest, k, S, S', hd, h=>by
    refine stD_congr rest (k + 1) (fun i ws' h1 h2=>by have:=hd (i + 1) ws' (by simpa using h1) h2;rwa [Nat.add_assoc, Nat.add_comm 1 i]) ?_
    by_cases hm : l ∈ ws.map Wr.loc
    · have:=hd 0 ws rfl hm
      rw [Nat.add_zero] at this
      rw [this]
      split
      · exact puts_congr ws h
      · exact h
    · have h1 : (if D k then S.puts ws else S).same S l:=by split;exact puts_other ws hm;exact S.same_refl l
      have h2 : (if D' k then S'.puts ws else S').same S' l:=by split;exact puts_other ws hm;exact S'.same_refl l
      exact h1.trans (h.trans h2.symm)
theorem stD_last {l : Loc} {D : Nat→Bool} {X : St} : ∀ (wrs : List (List Wr)) (k i : Nat) (ws : List Wr) {S : St}, wrs[i]? = some ws→l ∈ ws.map Wr.loc→D (k + i) = true →
    (∀ j ws', i < j→wrs[j]? = some ws'→l ∈ ws'.map Wr.loc→D (k + j) = false)→(stD D k wrs S).same (X.puts ws) l
  | [], _, i, ws, S, h, _, _, _=>by simp at h
  | w0 :: rest, k, 0, ws, S, h, hm, hd, hj=>by
    simp only [List.getElem?_cons_zero, Option.some.injEq] at h
    subst h
    simp only [Nat.add_zero] at hd
    simp only [stD, hd, if_true]
    have : (stD D (k + 1) rest (S.puts w0)).same (stD (fun _=>false) (k + 1) rest (S.puts w0)) l :=
      stD_congr rest (k + 1) (fun i ws' h1 h2=>by have:=hj (i + 1) ws' (by omega) (by simpa using h1) h2;rw [Nat.add_assoc, Nat.add_comm 1 i];exact this) (St.same_refl _ _)
    refine this.trans ?_
    have none : ∀ (r : List (List Wr)) (k : Nat) (T : St), stD (fun _=>false) k r T = T:=by
      intro r
      induction r with
      | nil=>intros;rfl
      | cons x xs ih=>intro k T;simp only [stD];exact ih _ _
    rw [none]
    exact puts_same w0 hm
  | w0 :: rest, k, i + 1, ws, S, h, hm, hd, hj=>by
    simp only [stD]
    exact stD_last rest (k + 1) i ws (by simpa using h) hm (by rw [Nat.add_assoc, Nat.add_comm 1 i];exact hd)
      (fun j ws' h1 h2 h3=>by have:=hj (j + 1) ws' (by omega) (by simpa using h2) h3;rw [Nat.add_assoc, Nat.add_comm 1 j];exact this)
section
variable {P : Program} {S S' : St}
theorem RM.wp_some (m : RM) : ∀ {K : List Loc→List Wr→Prop}, m.wp P S K→∃ l ws, K l ws∧m.wp P S (fun l' ws'=>l' = l∧ws' = ws):=by
  induction m with
  | mty k ih=>exact fun ⟨ks, h⟩=>let ⟨l, ws, h1, h2⟩:=ih _ h;⟨l, ws, h1, ks, h2⟩
  | keys k ih=>exact fun ⟨ks, h⟩=>let ⟨l, ws, h1, h2⟩:=ih _ h;⟨l, ws, h1, ks, h2⟩
  | callx f args pre k ih=>exact fun ⟨r, post, hr, h⟩=>let ⟨l, ws, h1, h2⟩:=ih _ _ h;⟨l, ws, h1, r, post, hr, h2⟩
  | done ws=>exact fun h=>⟨[], ws, h, rfl, rfl⟩
  | slot i k ih=>exact fun h=>let ⟨l, ws, h1, h2⟩:=ih _ h;⟨_, ws, h1, RM.wp_mono (k (S.slot i)) (fun l' ws' ⟨a, b⟩=>⟨by rw [a], b⟩) h2⟩
  | box key k ih=>exact fun h=>let ⟨l, ws, h1, h2⟩:=ih _ h;⟨_, ws, h1, RM.wp_mono (k (S.box key)) (fun l' ws' ⟨a, b⟩=>⟨by rw [a], b⟩) h2⟩
  | tk key k ih=>exact fun h=>let ⟨l, ws, h1, h2⟩:=ih _ h;⟨_, ws, h1, RM.wp_mono (k (S.tk key)) (fun l' ws' ⟨a, b⟩=>⟨by rw [a], b⟩) h2⟩
  | sem s k ih=>exact fun ⟨r, hr, h⟩=>let ⟨l, ws, h1, h2⟩:=ih _ h;⟨l, ws, h1, r, hr, h2⟩
  | call f args snap k ih=>exact fun ⟨r, hr, h⟩=>let ⟨l, ws, h1, h2⟩:=ih _ h;⟨l, ws, h1, r, hr, h2⟩
  | need p k ih=>exact fun ⟨hp, h⟩=>let ⟨l, ws, h1, h2⟩:=ih h;⟨l, ws, h1, hp, h2⟩
  | fail=>exact fun h=>h.elim
theorem RM.wp_local (m : RM) : ∀ {K : List Loc→List Wr→Prop}, m.wp P S K→(∀ l ws, K l ws→∀ x ∈ l, S.same S' x)→m.wp P S' K:=by
  induction m with
  | mty k ih=>exact fun ⟨ks, h⟩ hs=>⟨ks, ih _ h hs⟩
  | keys k ih=>exact fun ⟨ks, h⟩ hs=>⟨ks, ih _ h hs⟩
  | callx f args pre k ih=>exact fun ⟨r, post, hr, h⟩ hs=>⟨r, post, hr, ih _ _ h hs⟩
  | done ws=>exact fun h _=>h
  | slot i k ih =>
    intro K h hs
    obtain ⟨l, ws, h1, _⟩:=RM.wp_some (k (S.slot i)) h
    have e : S.slot i = S'.slot i:=hs _ _ h1 (.slot i) (List.mem_cons_self ..)
    have:=ih _ h (fun l ws hk x hx=>hs _ _ hk x (List.mem_cons_of_mem _ hx))
    show (k (S'.slot i)).wp P S' _
    rw [← e];exact this
  | box key k ih =>
    intro K h hs
    obtain ⟨l, ws, h1, _⟩:=RM.wp_some (k (S.box key)) h
    have e : S.box key = S'.box key:=hs _ _ h1 (.box key) (List.mem_cons_self ..)
    have:=ih _ h (fun l ws hk x hx=>hs _ _ hk x (List.mem_cons_of_mem _ hx))
    show (k (S'.box key)).wp P S' _
    rw [← e];exact this
  | tk key k ih =>
    intro K h hs
    obtain ⟨l, ws, h1, _⟩:=RM.wp_some (k (S.tk key)) h
    have e : S.tk key = S'.tk key:=hs _ _ h1 (.tk key) (List.mem_cons_self ..)
    have:=ih _ h (fun l ws hk x hx=>hs _ _ hk x (List.mem_cons_of_mem _ hx))
    show (k (S'.tk key)).wp P S' _
    rw [← e];exact this
  | sem s k ih=>exact fun ⟨r, hr, h⟩ hs=>⟨r, hr, ih _ h hs⟩
  | call f args snap k ih=>exact fun ⟨r, hr, h⟩ hs=>⟨r, hr, ih _ h hs⟩
  | need p k ih=>exact fun ⟨hp, h⟩ hs=>⟨hp, ih h hs⟩
  | fail=>exact fun h _=>h.elim
variable {cx : Cx} {ops : Array Oper} {o : Oper}
theorem stepW_some {K : List Loc→List Wr→Prop} (h : stepW P cx ops o S K) : ∃ l ws, K l ws∧stepW P cx ops o S (fun l' ws'=>l' = l∧ws' = ws):=by
  unfold stepW at *
  split at h
  · exact RM.wp_some _ h
  · split at h
    · exact h.elim
    · split at h
      · split at h
        · obtain ⟨l, ws, h1, h2⟩:=RM.wp_some _ h
          rename_i hb
          exact ⟨_, ws, h1, by simp only [hb, if_true];exact RM.wp_mono _ (fun l' ws' ⟨a, b⟩=>⟨by rw [a], b⟩) h2⟩
        · rename_i hb
          exact ⟨_, _, h, by simp [hb]⟩
      · exact ⟨_, _, h, rfl, rfl⟩
      · exact h.elim
theorem stepW_mono {K K' : List Loc→List Wr→Prop} (hk : ∀ l ws, K l ws→K' l ws) (h : stepW P cx ops o S K) : stepW P cx ops o S K':=by
  unfold stepW at *
  cases hg : o.guard with
  | none=>simp only [hg] at h ⊢;exact RM.wp_mono _ hk h
  | some jw =>
    obtain ⟨j, want⟩:=jw
    simp only [hg] at h ⊢
    cases ht : (ops[j]?).bind (·.dst) with
    | none=>simp only [ht] at h
    | some t =>
      simp only [ht] at h ⊢
      split at h
      · split at h
        · rename_i hb;rw [if_pos hb];exact RM.wp_mono _ (fun l ws=>hk _ ws) h
        · rename_i hb;rw [if_neg hb];exact hk _ _ h
      · exact hk _ _ h
      · exact h.elim
theorem stepW_local {K : List Loc→List Wr→Prop} (h : stepW P cx ops o S K) (hs : ∀ l ws, K l ws→∀ x ∈ l, S.same S' x) : stepW P cx ops o S' K:=by
  obtain ⟨l0, ws0, hk0, _⟩:=stepW_some h
  have h0:=hs _ _ hk0
  unfold stepW at *
  cases hg : o.guard with
  | none=>simp only [hg] at h ⊢;exact RM.wp_local _ h hs
  | some jw =>
    obtain ⟨j, want⟩:=jw
    simp only [hg] at h ⊢
    cases ht : (ops[j]?).bind (·.dst) with
    | none=>simp only [ht] at h
    | some t =>
      simp only [ht] at h ⊢
      have e : S.slot t = S'.slot t:=by
        split at h
        · split at h
          · obtain ⟨l, ws, h1, _⟩:=RM.wp_some _ h
            exact hs _ _ h1 (.slot t) (by simp)
          · exact hs _ _ h (.slot t) (by simp)
        · exact hs _ _ h (.slot t) (by simp)
        · exact h.elim
      rw [← e]
      split at h
      · split at h
        · rename_i hb;rw [if_pos hb];exact RM.wp_local _ h (fun l ws hk x hx=>hs _ _ hk x (List.mem_cons_of_mem _ hx))
        · rename_i hb;rw [if_neg hb];exact h
      · exact h
      · exact h.elim
end
theorem asVB_wp {P : Program} {S : St} {b : AV} {k : Value→RB} {K : List Loc→List Wr→Prop} : (asVB b k).rm.wp P S K↔∃ key, toVal b = some key∧(k key).rm.wp P S K:=by
  cases b with
  | v y=>exact ⟨fun h=>⟨y, rfl, h⟩, fun ⟨key, h, h'⟩=>by cases h;exact h'⟩
  | agg cs =>
    simp only [asVB, toVal]
    cases toVals cs with
    | none=>exact ⟨fun h=>h.elim, fun ⟨key, h, _⟩=>by simp at h⟩
    | some l=>exact ⟨fun h=>⟨_, rfl, h⟩, fun ⟨key, h, h'⟩=>by cases h;exact h'⟩
  | _=>exact ⟨fun h=>h.elim, fun ⟨key, h, _⟩=>by simp [toVal] at h⟩
theorem toPure_toVal {b b' : AV} {key : Value} (hv : toVal b = some key) (hb : toPure b = some b') : toVal b' = some key:=by
  have vals : ∀ {cs : List AV} {l : List Value}, toVals cs = some l→∀ {cs'}, pures cs = some cs'→cs' = cs:=by
    intro cs
    induction cs with
    | nil=>intro l h cs' h';simp [pures] at h';exact h'
    | cons x xs ih =>
      intro l h cs' h'
      simp only [toVals] at h
      split at h
      · rename_i y ys h1 h2
        cases x<;>simp [toVal1] at h1
        simp only [pures, pure1] at h'
        split at h'
        · rename_i a b e1 e2
          simp at h'
          simp at e1
          subst e1
          rw [ih h2 e2] at h'
          exact h'.symm
        · simp at h'
      · simp at h
  cases b with
  | v y=>simp [toPure, pure1] at hb;subst hb;exact hv
  | agg cs =>
    simp only [toVal] at hv
    cases hl : toVals cs with
    | none=>simp [hl] at hv
    | some l =>
      simp only [toPure] at hb
      cases hp : pures cs with
      | none=>simp [hp] at hb
      | some cs' =>
        simp [hp] at hb
        rw [vals hl hp] at hb
        subst hb
        simp only [toVal];exact hv
  | _=>simp [toVal] at hv
theorem CK.eq_refl {c : CK} {v : Value} (h : c.typed v = true) : eqC v v = true:=by
  cases c<;>cases v<;>simp [CK.typed, eqC] at *
theorem eqL_refl : ∀ {cs : List CK} {vs : List Value}, typedL cs vs = true→eqL vs vs = true
  | [], [], _=>rfl
  | [], _ :: _, h=>by simp [typedL] at h
  | _ :: _, [], h=>by simp [typedL] at h
  | c :: cs, v :: vs, h=>by
    simp only [typedL] at h
    split at h
    · rename_i hc
      simp [eqL, CK.eq_refl hc, eqL_refl h]
    · simp at h
theorem KK.eq_refl {kk : KK} {v : Value} (h : kk.typed v = true) : eqV v v = true:=by
  cases kk with
  | one c =>
    have:=CK.eq_refl (c:=c) (v:=v) (by simpa [KK.typed] using h)
    cases v<;>first|exact this|(simp [eqC] at this)
  | agg cs=>cases v<;>simp [KK.typed] at h;simpa [eqV] using eqL_refl h
theorem mapFind_app_some {kk : KK} {key : Value} {e : List AV} : ∀ {es : List AV} {n : Nat} {q : Nat × AV}, mapFind kk es key n = some (some q)→mapFind kk (es++e) key n = some (some q)
  | [], n, q, h=>by simp [mapFind] at h
  | x :: es, n, q, h=>by
    have hx : ∃ a b, x = .tuple [a, b]:=by
      cases x<;>try (simp [mapFind] at h;done)
      rename_i l
      match l, h with
      | [a, b], _=>exact ⟨a, b, rfl⟩
    obtain ⟨a, b, rfl⟩:=hx
    simp only [List.cons_append, mapFind] at h ⊢
    split at h
    · split at h
      · split at h
        · rename_i h1 h2;rw [if_pos h1, if_pos h2];exact h
        · rename_i h1 h2;rw [if_pos h1, if_neg h2];exact mapFind_app_some h
      · simp at h
    · simp at h
theorem mapFind_app_none {kk : KK} {key : Value} {a' v : AV} (ht : kk.typed key = true) (hv : toVal a' = some key) : ∀ {es : List AV} {n : Nat}, mapFind kk es key n = some none→∃ i, mapFind kk (es++[.tuple [a', v]]) key n = some (some (i, v))
  | [], n, h=>⟨n, by simp only [List.nil_append, mapFind, hv, ht, if_true, KK.eq_refl ht]⟩
  | x :: es, n, h=>by
    have hx : ∃ a b, x = .tuple [a, b]:=by
      cases x<;>try (simp [mapFind] at h;done)
      rename_i l
      match l, h with
      | [a, b], _=>exact ⟨a, b, rfl⟩
    obtain ⟨a, b, rfl⟩:=hx
    simp only [List.cons_append, mapFind] at h ⊢
    split at h
    · split at h
      · split at h
        · simp at h
        · rename_i h1 h2;rw [if_pos h1, if_neg h2];exact mapFind_app_none ht hv h
      · simp at h
    · simp at h
section
variable {P : Program} {cx : Cx} {ops : Array Oper}
theorem look_entry {oq op : Oper} {t : TypeId} {x ix : Tmp} (hq : oq.op = .lookup t (.tmp x) (.tmp ix) false) (hp : op.op = .mapEntry t (.tmp x) (.tmp ix)) (gq : oq.guard = none) (gp : op.guard = none) {S : St} {l lp : List Loc} {ws wp : List Wr}
    (h1 : stepW P cx ops oq S (fun l' ws'=>l' = l∧ws' = ws)) (h2 : stepW P cx ops op S (fun l' ws'=>l' = lp∧ws' = wp)) (hs : ∀ i, Loc.slot i ∈ l→Loc.slot i ∉ wp.map Wr.loc) :
    stepW P cx ops oq (S.puts wp) (fun l' ws'=>l' = l∧ws' = ws):=by
  simp only [stepW, gq, hq, opA, withMap, opLookupU, slotI, RB.rm, RM.wp, asVB_wp] at h1 ⊢
  simp only [stepW, gp, hp, opA, withMap, opEntryU, slotI, RB.rm, RM.wp, asVB_wp] at h2
  obtain ⟨p, hm, key, hk, ht, h1⟩:=h1
  obtain ⟨p', hm', key', hk', ht', h2⟩:=h2
  rw [hk] at hk';cases hk'
  cases hb : toPure (S.slot ix) with
  | none=>simp only [hb] at h2;exact h2.elim
  | some b' =>
    simp only [hb] at h2
    cases ha : S.slot x with
    | mp k g =>
      simp only [ha, mapB, RB.rm, RM.wp] at h1 h2
      cases hc : (S.box k).2 with
      | none=>simp only [hc] at h2;exact h2.elim
      | some d =>
        obtain ⟨sz, es⟩:=d
        simp only [hc] at h1 h2
        obtain ⟨e1, e2, h1⟩:=h1
        obtain ⟨_, _, h2⟩:=h2
        cases es with
        | nil=>exact h2.elim
        | cons c0 es =>
          cases c0<;>try exact h2.elim
          rename_i cv
          cases cv<;>try exact h2.elim
          rename_i ik c
          cases ik<;>try exact h2.elim
          simp only at h1 h2
          have e1':=Nat.eq_of_beq_eq_true e1
          have e2':=Nat.eq_of_beq_eq_true e2
          have hz : p'.2 = p.2:=by
            obtain ⟨kt, et, i, z, a1, a2, a3, a4, _⟩:=hm.ty
            obtain ⟨kt', et', i', z', b1, b2, b3, b4, _⟩:=hm'.ty
            rw [a1] at b1;cases b1
            rw [a2] at b2;cases b2
            rw [a3] at b3;cases b3
            rw [a4, b4]
          have hw : ∃ es', ((S.puts wp).box k = mapC (S.box k).1 c es')∧(es' = es∨es' = es++[.tuple [b', p.2]]):=by
            cases hf : mapFind p'.1 es key 0 with
            | none=>simp only [hf] at h2;exact h2.elim
            | some o =>
              cases o with
              | some q =>
                simp only [hf, RM.wp] at h2
                obtain ⟨_, rfl⟩:=h2
                refine ⟨es, ?_, .inl rfl⟩
                simp only [St.puts]
                have : ∀ (v : AV) (T : St), (T.puts (putA op.dst v)).box k = T.box k:=by intro v T;cases op.dst<;>rfl
                rw [this]
                simp only [St.put, upd_same]
              | none =>
                simp only [hf, RM.wp] at h2
                obtain ⟨_, rfl⟩:=h2
                refine ⟨es++[.tuple [b', p.2]], ?_, .inr rfl⟩
                simp only [St.puts]
                have : ∀ (v : AV) (T : St), (T.puts (putA op.dst v)).box k = T.box k:=by intro v T;cases op.dst<;>rfl
                rw [this]
                simp only [St.put, upd_same, hz]
          obtain ⟨es', hbox, hes⟩:=hw
          have hl : l = [Loc.slot x, Loc.slot ix, Loc.box k]:=by
            cases hf : mapFind p.1 es key 0 with
            | none=>simp only [hf] at h1;exact h1.elim
            | some o=>cases o with
              | some q=>simp only [hf, retB, RB.rm, RM.wp] at h1;exact h1.1.symm
              | none=>simp only [hf, retB, RB.rm, RM.wp] at h1;exact h1.1.symm
          have hx : (S.puts wp).slot x = S.slot x:=puts_other (l:=.slot x) wp (hs x (by rw [hl];simp))
          have hix : (S.puts wp).slot ix = S.slot ix:=puts_other (l:=.slot ix) wp (hs ix (by rw [hl];simp))
          refine ⟨p, hm, key, by rw [hix];exact hk, ht, ?_⟩
          simp only [hx, ha, mapB, RB.rm, RM.wp, hbox, mapC, e1, Nat.beq_refl, true_and]
          cases hf : mapFind p.1 es key 0 with
          | none=>simp only [hf] at h1;exact h1.elim
          | some o =>
            cases o with
            | some q =>
              have : mapFind p.1 es' key 0 = some (some q):=by
                rcases hes with rfl|rfl
                · exact hf
                · exact mapFind_app_some hf
              simp only [hf] at h1
              simp only [this]
              exact h1
            | none =>
              simp only [hf] at h1
              rcases hes with rfl|rfl
              · simp only [hf];exact h1
              · obtain ⟨i, hi⟩:=mapFind_app_none (v:=p.2) ht (toPure_toVal hk hb) hf
                simp only [hi]
                exact h1
    | _=>simp only [ha, mapB] at h2;exact h2.elim
end
def masks : List Oper→List Nat→List Nat
  | [], acc=>acc
  | o :: os, acc=>masks os (acc++[o.after.toList.foldl (fun s e=>if Region.binds .any e then s ||| 2 ^ e.on ||| acc.getD e.on 0 else s) 0])
inductive Prec (ops : Array Oper) : Nat→Nat→Prop
  | edge {o : Oper} {e : Edge} {j : Nat} (ho : ops[j]? = some o) (he : e ∈ o.after) (hb : Region.binds .any e = true) : Prec ops e.on j
  | trans {i j k : Nat} : Prec ops i j→Prec ops j k→Prec ops i k
def edgesBack (ops : List Oper) (k : Nat) : Bool :=
  match ops with
  | []=>true
  | o :: os=>o.after.toList.all (fun e=>!Region.binds .any e || decide (e.on < k)) && edgesBack os (k + 1)
theorem foldl_or_testBit (acc : List Nat) (i : Nat) : ∀ (l : List Edge) (s : Nat), (l.foldl (fun s e=>if Region.binds .any e then s ||| 2 ^ e.on ||| acc.getD e.on 0 else s) s).testBit i = true →
    s.testBit i = true∨∃ e ∈ l, Region.binds .any e = true∧(e.on = i∨(acc.getD e.on 0).testBit i = true)
  | [], s, h=>.inl h
  | e :: l, s, h=>by
    rcases foldl_or_testBit acc i l _ h with h|⟨e', he', hb, h⟩
    · dsimp only at h
      split at h
      · rename_i hb
        simp only [Nat.testBit_or, Bool.or_eq_true, Nat.testBit_two_pow, decide_eq_true_eq] at h
        rcases h with (h|h)|h
        · exact .inl h
        · exact .inr ⟨e, by simp, hb, .inl h⟩
        · exact .inr ⟨e, by simp, hb, .inr h⟩
      · exact .inl h
    · exact .inr ⟨e', by simp [he'], hb, h⟩
theorem masks_spec (ops : Array Oper) : ∀ (os : List Oper) (acc : List Nat), (∀ i o, os[i]? = some o→ops[acc.length + i]? = some o) →
    (∀ j i, (acc.getD j 0).testBit i = true→Prec ops i j)→∀ j i, ((masks os acc).getD j 0).testBit i = true→Prec ops i j
  | [], acc, _, h=>h
  | o :: os, acc, ho, h=>by
    refine masks_spec ops os _ (fun i o' h1=>by have:=ho (i + 1) o' (by simpa using h1);simpa [Nat.add_assoc, Nat.add_comm 1 i] using this) ?_
    intro j i hj
    by_cases h1 : j < acc.length
    · rw [List.getD_eq_getElem?_getD, List.getElem?_append_left h1, ← List.getD_eq_getElem?_getD] at hj
      exact h j i hj
    · rw [List.getD_eq_getElem?_getD, List.getElem?_append_right (by omega)] at hj
      by_cases h2 : j = acc.length
      · subst h2
        simp only [Nat.sub_self, List.getElem?_cons_zero, Option.getD_some] at hj
        have hoj:=ho 0 o rfl
        rw [Nat.add_zero] at hoj
        rcases foldl_or_testBit acc i _ _ hj with h|⟨e, he, hb, h3⟩
        · simp at h
        · have hp:=Prec.edge (ops:=ops) hoj (by simpa using he) hb
          rcases h3 with h3|h3
          · rw [← h3];exact hp
          · exact .trans (h _ _ h3) hp
      · have : j - acc.length = (j - acc.length - 1) + 1:=by omega
        rw [this] at hj
        simp at hj
theorem edgesBack_spec {ops : Array Oper} : ∀ (os : List Oper) (k : Nat), edgesBack os k = true→∀ i o, os[i]? = some o→∀ e ∈ o.after, Region.binds .any e = true→e.on < k + i
  | [], _, _, i, o, h, _, _, _=>by simp at h
  | o :: os, k, h, i, o', ho, e, he, hb=>by
    simp only [edgesBack, Bool.and_eq_true] at h
    cases i with
    | zero =>
      simp only [List.getElem?_cons_zero, Option.some.injEq] at ho
      subst ho
      have:=List.all_eq_true.1 h.1 e (by simpa using he)
      simpa [hb] using this
    | succ i =>
      have:=edgesBack_spec (ops:=ops) os (k + 1) h.2 i o' (by simpa using ho) e he hb
      omega
theorem Prec.lt {ops : Array Oper} (h : edgesBack ops.toList 0 = true) {i j : Nat} (hp : Prec ops i j) : i < j:=by
  induction hp with
  | edge ho he hb=>have:=edgesBack_spec (ops:=ops) ops.toList 0 h _ _ (by simpa using ho) _ he hb;omega
  | trans _ _ h1 h2=>omega
def clash (a b : List Loc × List Loc) : Bool:=a.2.any (fun l=>b.1.contains l || b.2.contains l) || b.2.any (fun l=>a.1.contains l)
def badFrom (ms : List Nat) (i : Nat) (a : List Loc × List Loc) : Nat→List (List Loc × List Loc)→List Nat
  | _, []=>[]
  | j, b :: rest=>match !clash a b || (ms.getD j 0).testBit i with
    | true=>badFrom ms i a (j + 1) rest
    | false=>j :: badFrom ms i a (j + 1) rest
def exPair (a b : Oper) : Bool :=
  match a.guard, b.guard with
  | none, none=>match a.op, b.op with
    | .lookup t (.tmp x) (.tmp ix) false, .mapEntry t' (.tmp x') (.tmp ix')=>Nat.beq t t' && Nat.beq x x' && Nat.beq ix ix'
    | _, _=>false
  | _, _=>false
def isSlot : Loc→Bool
  | .slot _=>true
  | _=>false
def okEx (ops : Array Oper) (all : List (List Loc × List Loc)) (i : Nat) (a : List Loc × List Loc) : List Nat→Bool
  | []=>true
  | [j]=>match ops[i]?, ops[j]?, all[j]? with
    | some oi, some oj, some b=>exPair oi oj && b.2.all (fun l=>!isSlot l || !a.1.contains l) && a.2.all (fun l=>!b.1.contains l && !b.2.contains l) && ((all.take j).drop i).all (fun r=>r.2.all fun l=>!a.1.contains l)
    | _, _, _=>false
  | _=>false
def okAll (ops : Array Oper) (all : List (List Loc × List Loc)) (ms : List Nat) : Nat→List (List Loc × List Loc)→Bool
  | _, []=>true
  | i, a :: rest=>okEx ops all i a (badFrom ms i a (i + 1) rest) && okAll ops all ms (i + 1) rest
def okDraw (ops : Array Oper) (infos : List (List Loc × List Loc)) : Bool:=edgesBack ops.toList 0 && okAll ops infos (masks ops.toList []) 0 infos
theorem badFrom_mem {ms : List Nat} {i : Nat} {a : List Loc × List Loc} : ∀ (l : List (List Loc × List Loc)) (j k : Nat) (b : List Loc × List Loc), l[k]? = some b→clash a b = true→(ms.getD (j + k) 0).testBit i = false→j + k ∈ badFrom ms i a j l
  | [], _, k, b, h, _, _=>by simp at h
  | x :: xs, j, k, b, hb, hc, ht=>by
    simp only [badFrom]
    cases k with
    | zero =>
      simp only [List.getElem?_cons_zero, Option.some.injEq] at hb;subst hb
      rw [Nat.add_zero] at ht ⊢
      simp only [hc, ht, Bool.not_true, Bool.or_false]
      exact List.mem_cons_self ..
    | succ k =>
      have:=badFrom_mem xs (j + 1) k b (by simpa using hb) hc (by rw [Nat.add_assoc, Nat.add_comm 1 k];exact ht)
      rw [Nat.add_assoc, Nat.add_comm 1 k] at this
      split
      · exact this
      · exact List.mem_cons_of_mem _ this
theorem okAll_mem {ops : Array Oper} {all : List (List Loc × List Loc)} {ms : List Nat} : ∀ (l : List (List Loc × List Loc)) (i : Nat), okAll ops all ms i l = true→∀ p a, l[p]? = some a→okEx ops all (i + p) a (badFrom ms (i + p) a (i + p + 1) (l.drop (p + 1))) = true
  | [], _, _, p, a, h=>by simp at h
  | x :: xs, i, h, p, a, ha=>by
    simp only [okAll, Bool.and_eq_true] at h
    cases p with
    | zero=>simp only [List.getElem?_cons_zero, Option.some.injEq] at ha;subst ha;simpa using h.1
    | succ p =>
      have:=okAll_mem xs (i + 1) h.2 p a (by simpa using ha)
      rw [show i + (p + 1) = i + 1 + p by omega]
      simpa using this
structure Ex (ops : Array Oper) (all : List (List Loc × List Loc)) (ms : List Nat) (i j : Nat) (a b : List Loc × List Loc) : Prop where
  lt : i < j
  pair : ∃ oi oj, ops[i]? = some oi∧ops[j]? = some oj∧exPair oi oj = true
  slots : ∀ n, Loc.slot n ∈ b.2→Loc.slot n ∉ a.1
  wr : ∀ l ∈ a.2, l ∉ b.1∧l ∉ b.2
  between : ∀ r c, i ≤ r→r < j→all[r]? = some c→∀ l ∈ c.2, l ∉ a.1
  only : ∀ j' c, i < j'→j' ≠ j→all[j']? = some c→clash a c = true→(ms.getD j' 0).testBit i = true
theorem okAll_spec {ops : Array Oper} {ms : List Nat} {all : List (List Loc × List Loc)} (h : okAll ops all ms 0 all = true) {p q : Nat} {a b : List Loc × List Loc} (hpq : p < q) (ha : all[p]? = some a) (hb : all[q]? = some b) (hc : clash a b = true) :
    (ms.getD q 0).testBit p = true∨Ex ops all ms p q a b:=by
  cases ht : (ms.getD q 0).testBit p with
  | true=>exact .inl rfl
  | false =>
    refine .inr ?_
    have hx:=okAll_mem all 0 h p a ha
    rw [Nat.zero_add] at hx
    have hbad : ∀ q' c, p < q'→all[q']? = some c→clash a c = true→(ms.getD q' 0).testBit p = false→q' ∈ badFrom ms p a (p + 1) (all.drop (p + 1)):=fun q' c hq' hc' hcl ht'=>by
      have:=badFrom_mem (ms:=ms) (i:=p) (a:=a) (all.drop (p + 1)) (p + 1) (q' - (p + 1)) c (by rw [List.getElem?_drop, show p + 1 + (q' - (p + 1)) = q' by omega];exact hc') hcl (by rw [show p + 1 + (q' - (p + 1)) = q' by omega];exact ht')
      rw [show p + 1 + (q' - (p + 1)) = q' by omega] at this
      exact this
    have hq:=hbad q b hpq hb hc ht
    generalize badFrom ms p a (p + 1) (all.drop (p + 1)) = bad at *
    match bad, hx, hq with
    | [j], hx, hq =>
      simp only [List.mem_singleton] at hq
      subst hq
      simp only [okEx] at hx
      split at hx
      · rename_i oi oj b' e1 e2 e3
        rw [hb] at e3;cases e3
        simp only [Bool.and_eq_true] at hx
        obtain ⟨⟨⟨x1, x2⟩, x3⟩, x4⟩:=hx
        refine ⟨hpq, ⟨oi, oj, e1, e2, x1⟩, fun n hn hn'=>?_, fun l hl=>?_, fun r c hr hr' hrc l hl hl'=>?_, fun j' c hj hne hjc hcl=>?_⟩
        · have:=List.all_eq_true.1 x2 _ hn
          simp [isSlot] at this
          exact this hn'
        · have:=List.all_eq_true.1 x3 l hl
          simpa using this
        · have hm : c ∈ (all.take q).drop p:=by
            refine List.mem_of_getElem? (i:=r - p) ?_
            rw [List.getElem?_drop, show p + (r - p) = r by omega, List.getElem?_take, if_pos hr']
            exact hrc
          have:=List.all_eq_true.1 (List.all_eq_true.1 x4 c hm) l hl
          simp at this
          exact this hl'
        · cases ht' : (ms.getD j' 0).testBit p with
          | true=>rfl
          | false =>
            have:=hbad j' c hj hjc hcl ht'
            simp only [List.mem_singleton] at this
            exact absurd this hne
      · simp at hx
def canW (P : Program) (cx : Cx) (ops : Array Oper) : List Nat→St→List (List Loc × List Loc)→(List (List Loc × List Loc)→St→Prop)→Prop
  | [], S, acc, K=>K acc S
  | i :: is, S, acc, K =>
    match ops[i]? with
    | none=>False
    | some o=>stepW P cx ops o S fun l ws=>canW P cx ops is (S.puts ws) (acc++[(l, ws.map Wr.loc)]) K
def regD (P : Program) (cx : Cx) (ops : Array Oper) (S : St) (K : St→Prop) : Prop :=
  canW P cx ops (List.range ops.size) S [] fun infos S'=>okDraw ops infos = true∧K S'
section
variable {P : Program} {cx : Cx} {ops : Array Oper}
theorem stD_snoc {D : Nat→Bool} : ∀ (wrs : List (List Wr)) (k : Nat) (ws : List Wr) (S : St), stD D k (wrs++[ws]) S = if D (k + wrs.length) then (stD D k wrs S).puts ws else stD D k wrs S
  | [], k, ws, S=>by simp [stD]
  | w :: wrs, k, ws, S=>by
    simp only [List.cons_append, stD, List.length_cons]
    rw [stD_snoc wrs (k + 1) ws]
    rw [show k + 1 + wrs.length = k + (wrs.length + 1) by omega]
theorem stD_all {D : Nat→Bool} : ∀ (wrs : List (List Wr)) (k : Nat) (S : St), (∀ i, i < wrs.length→D (k + i) = true)→stD D k wrs S = stD (fun _=>true) k wrs S
  | [], _, _, _=>rfl
  | w :: wrs, k, S, h=>by
    simp only [stD]
    have:=h 0 (by simp)
    rw [Nat.add_zero] at this
    rw [this]
    exact stD_all wrs (k + 1) _ fun i hi=>by have:=h (i + 1) (by simp;omega);rwa [Nat.add_assoc, Nat.add_comm 1 i]
theorem canW_runs (S0 : St) : ∀ (is : List Nat) (k : Nat) (wrs : List (List Wr)) (logs : List (List Loc)) {K : List (List Loc × List Loc)→St→Prop}, is = List.range' k (ops.size - k)→wrs.length = k→logs.length = k→k ≤ ops.size →
    (∀ i o, i < k→ops[i]? = some o→∃ l ws, logs[i]? = some l∧wrs[i]? = some ws∧stepW P cx ops o (stD (fun j=>decide (j < i)) 0 wrs S0) (fun l' ws'=>l' = l∧ws' = ws)) →
    canW P cx ops is (stD (fun _=>true) 0 wrs S0) (logs.zip (wrs.map fun ws=>ws.map Wr.loc)) K →
    ∃ (wrs' : List (List Wr)) (logs' : List (List Loc)), wrs'.length = ops.size∧logs'.length = ops.size ∧
      (∀ i o, ops[i]? = some o→∃ l ws, logs'[i]? = some l∧wrs'[i]? = some ws∧stepW P cx ops o (stD (fun j=>decide (j < i)) 0 wrs' S0) (fun l' ws'=>l' = l∧ws' = ws)) ∧
      K (logs'.zip (wrs'.map fun ws=>ws.map Wr.loc)) (stD (fun _=>true) 0 wrs' S0)
  | [], k, wrs, logs, K, hr, hw, hl, hk, hrun, h=>by
    have : k = ops.size:=by
      have:=congrArg List.length hr
      simp at this;omega
    subst this
    refine ⟨wrs, logs, hw, hl, fun i o ho=>hrun i o (Array.getElem?_eq_some_iff.1 ho).1 ho, h⟩
  | i :: is, k, wrs, logs, K, hr, hw, hl, hk, hrun, h=>by
    have hlt : k < ops.size:=by
      have:=congrArg List.length hr
      simp at this;omega
    have hsz : ops.size - k = (ops.size - (k + 1)) + 1:=by omega
    rw [hsz, List.range'_succ] at hr
    simp only [List.cons.injEq] at hr
    obtain ⟨rfl, rfl⟩:=hr
    simp only [canW] at h
    split at h
    · exact h.elim
    · rename_i o ho
      obtain ⟨l, ws, h1, h2⟩:=stepW_some h
      have hpre : ∀ j, j ≤ i→stD (fun p=>decide (p < j)) 0 (wrs++[ws]) S0 = stD (fun p=>decide (p < j)) 0 wrs S0:=by
        intro j hj
        rw [stD_snoc, Nat.zero_add, hw, if_neg (by simp;omega)]
      refine canW_runs S0 _ (i + 1) (wrs++[ws]) (logs++[l]) rfl (by simp [hw]) (by simp [hl]) (by omega) (fun p o' hp ho'=>?_) ?_
      · by_cases hpi : p = i
        · subst hpi
          rw [ho] at ho';cases ho'
          refine ⟨l, ws, by rw [List.getElem?_append_right (by omega), hl];simp, by rw [List.getElem?_append_right (by omega), hw];simp, ?_⟩
          rw [hpre _ (Nat.le_refl _), stD_all wrs 0 S0 (fun q hq=>by simp;omega)]
          exact h2
        · obtain ⟨l', ws', a1, a2, a3⟩:=hrun p o' (by omega) ho'
          refine ⟨l', ws', by rw [List.getElem?_append_left (by omega)];exact a1, by rw [List.getElem?_append_left (by omega)];exact a2, ?_⟩
          rw [hpre p (by omega)];exact a3
      · rw [stD_snoc, if_pos rfl, List.map_append, List.zip_append (by simp [hl, hw])]
        exact h1
theorem unl_lt (l : List Nat) (p q : Nat→Bool) (hpq : ∀ i, q i = true→p i = true) {i : Nat} (hi : i ∈ l) (h1 : p i = true) (h2 : q i = false) : (l.filter q).length < (l.filter p).length:=by
  induction l with
  | nil=>simp at hi
  | cons x xs ih =>
    have hle : ∀ l : List Nat, (l.filter q).length ≤ (l.filter p).length:=by
      intro l
      induction l with
      | nil=>simp
      | cons y ys ih =>
        simp only [List.filter_cons]
        cases hq : q y with
        | true=>rw [if_pos rfl, if_pos (hpq y hq)];simpa using ih
        | false =>
          rw [if_neg Bool.false_ne_true]
          split
          · simp only [List.length_cons];omega
          · exact ih
    simp only [List.filter_cons]
    rcases List.mem_cons.1 hi with rfl|hi
    · rw [if_neg (by simp [h2]), if_pos h1]
      have:=hle xs
      simp;omega
    · have:=ih hi
      cases hq : q x with
      | true=>rw [if_pos rfl, if_pos (hpq x hq)];simpa using this
      | false =>
        rw [if_neg Bool.false_ne_true]
        split
        · simp only [List.length_cons];omega
        · exact this
theorem regD_sound {lo : Option Nat} {N : Nat} {base : Nat→Prop} {w0 : World} {S : St} {C : Ctx} {a : Act} {w : World} {Q : Exit→Act→World→Prop} {K : St→Prop} (hin : opsIn N ops = true) (hR : Rel N base w0 S C a w)
    (hk : ∀ S' C' a' w', K S'→C.le C'→Rel N base w0 S' C' a' w'→Q .normal a' w') (h : regD P cx ops S K) :
    wpAnyIn (Fw lo) 0 P .any ops Q ops.size (Array.replicate ops.size false) a w:=by
  obtain ⟨wrs, logs, hwl, hll, hrun, hok, hK⟩:=canW_runs (P:=P) (cx:=cx) (ops:=ops) S (List.range ops.size) 0 [] [] (K:=fun infos S'=>okDraw ops infos = true∧K S')
    (by simp [List.range_eq_range']) rfl rfl (Nat.zero_le _) (by simp) h
  simp only [okDraw, Bool.and_eq_true] at hok
  obtain ⟨hback, hall⟩:=hok
  have hprec:=masks_spec ops ops.toList [] (fun i o hi=>by simpa using hi) (by simp)
  have hzip : ∀ (i : Nat) (l : List Loc) (w : List Wr), logs[i]? = some l→wrs[i]? = some w→(logs.zip (wrs.map fun ws=>ws.map Wr.loc))[i]? = some (l, w.map Wr.loc):=fun i l w h1 h2=>by
    rw [List.getElem?_zip_eq_some];simp [h1, h2]
  have comp : ∀ p q lp wp lq wq, p < q→logs[p]? = some lp→wrs[p]? = some wp→logs[q]? = some lq→wrs[q]? = some wq→clash (lp, wp.map Wr.loc) (lq, wq.map Wr.loc) = true →
      Prec ops p q∨Ex ops (logs.zip (wrs.map fun ws=>ws.map Wr.loc)) (masks ops.toList []) p q (lp, wp.map Wr.loc) (lq, wq.map Wr.loc):=by
    intro p q lp wp lq wq hpq h1 h2 h3 h4 hc
    rcases okAll_spec hall hpq (hzip _ _ _ h1 h2) (hzip _ _ _ h3 h4) hc with h|h
    · exact .inl (hprec q p h)
    · exact .inr h
  have hlogs : ∀ i, i < ops.size→∃ l ws, logs[i]? = some l∧wrs[i]? = some ws:=fun i hi=>⟨logs[i], wrs[i], by simp [hll, hi], by simp [hwl, hi]⟩
  have main : ∀ (fuel : Nat) (listed : Array Bool) (C1 : Ctx) (a1 : Act) (w1 : World), listed.size = ops.size→((List.range ops.size).filter fun i=>!listed.getD i false).length ≤ fuel →
      (∀ i j, Prec ops i j→listed.getD j false = true→listed.getD i false = true)→C.le C1→Rel N base w0 (stD (fun i=>listed.getD i false) 0 wrs S) C1 a1 w1 →
      wpAnyIn (Fw lo) 0 P .any ops Q fuel listed a1 w1:=by
    intro fuel
    induction fuel with
    | zero =>
      intro listed C1 a1 w1 hsz hf hdown hle hR1
      have hallL : ∀ i, i < ops.size→listed.getD i false = true:=by
        intro i hi
        have hnil:=List.eq_nil_of_length_eq_zero (Nat.le_zero.1 hf)
        rw [List.filter_eq_nil_iff] at hnil
        have:=hnil i (by simpa using hi)
        simpa using this
      refine ⟨?_, hk _ C1 _ _ hK hle ?_⟩
      · unfold Region.ready
        rw [List.filter_eq_nil_iff]
        intro i hi
        have:=hallL i (by simpa using hi)
        have e : listed.getD i true = true:=by
          rw [Array.getD_eq_getD_getElem?] at this ⊢
          have hi' : i < listed.size:=by rw [hsz];simpa using hi
          simpa [hi'] using this
        simp [e]
      · rw [← stD_all wrs 0 S (D:=fun i=>listed.getD i false) (fun i hi=>by rw [Nat.zero_add];exact hallL i (by omega))]
        exact hR1
    | succ fuel ih =>
      intro listed C1 a1 w1 hsz hf hdown hle hR1
      have hgt : ∀ i, i < ops.size→listed.getD i true = listed.getD i false:=fun i hi=>by
        have hi' : i < listed.size:=by omega
        simp [Array.getD, hi']
      have hready : ∀ i, i ∈ Region.ready .any ops listed→i < ops.size∧listed.getD i false = false∧∃ o, ops[i]? = some o∧∀ e ∈ o.after, Region.binds .any e = true→listed.getD e.on false = true:=by
        intro i hi
        unfold Region.ready at hi
        simp only [List.mem_filter, List.mem_range, Bool.and_eq_true, Bool.not_eq_true'] at hi
        obtain ⟨hlt, h1, h2⟩:=hi
        refine ⟨hlt, by rw [← hgt i hlt];exact h1, ops[i], by simp [hlt], fun e he hb=>?_⟩
        simp only [Array.getElem?_eq_getElem hlt, Option.map_some, Option.getD_some] at h2
        have:=Array.all_eq_true'.1 h2 e he
        simpa [hb] using this
      refine ⟨fun hnil=>?_, fun i hi=>?_⟩
      ·
        have hallL : ∀ i, i < ops.size→listed.getD i false = true:=by
          intro i
          induction i using Nat.strongRecOn with
          | _ i ihi =>
            intro hi
            cases hl : listed.getD i false with
            | true=>rfl
            | false =>
              exfalso
              have : i ∈ Region.ready .any ops listed:=by
                unfold Region.ready
                simp only [List.mem_filter, List.mem_range, Bool.and_eq_true, Bool.not_eq_true']
                refine ⟨hi, by rw [hgt i hi];exact hl, ?_⟩
                simp only [Array.getElem?_eq_getElem hi, Option.map_some, Option.getD_some]
                refine Array.all_eq_true'.2 fun e he=>?_
                cases hb : Region.binds .any e with
                | false=>rfl
                | true =>
                  have hlt : e.on < i:=by
                    have:=edgesBack_spec (ops:=ops) ops.toList 0 hback i ops[i] (by simp [hi]) e he hb
                    omega
                  have:=ihi e.on hlt (by omega)
                  simp [this]
              rw [hnil] at this
              simp at this
        refine hk _ C1 _ _ hK hle ?_
        rw [← stD_all wrs 0 S (D:=fun i=>listed.getD i false) (fun i hi=>by rw [Nat.zero_add];exact hallL i (by omega))]
        exact hR1
      · obtain ⟨hlt, hni, o, ho, hedges⟩:=hready i hi
        obtain ⟨l, ws, hl1, hw1, hst⟩:=hrun i o ho
        have hpre : ∀ j, Prec ops j i→listed.getD j false = true:=by
          intro j hp
          have : ∀ {x y : Nat}, Prec ops x y→y = i→listed.getD x false = true:=by
            intro x y hp
            induction hp with
            | edge ho' he hb=>intro e;subst e;rw [ho] at ho';cases ho';exact hedges _ he hb
            | trans h1 h2 ih1 ih2=>intro e;subst e;exact hdown _ _ h1 (ih2 rfl)
          exact this hp rfl
        have hpost : ∀ j, Prec ops i j→listed.getD j false = false:=by
          intro j hp
          cases hj : listed.getD j false with
          | false=>rfl
          | true=>have:=hdown i j hp hj;rw [hni] at this;cases this
        have hst' : stepW P cx ops o (stD (fun i=>listed.getD i false) 0 wrs S) (fun l' ws'=>l' = l∧ws' = ws):=by
          by_cases hex : ∃ j lj wj, Ex ops (logs.zip (wrs.map fun ws=>ws.map Wr.loc)) (masks ops.toList []) i j (l, ws.map Wr.loc) (lj, wj.map Wr.loc)∧logs[j]? = some lj∧wrs[j]? = some wj∧listed.getD j false = true
          ·
            obtain ⟨p, lp, wp, hx, hlp, hwp, hDp⟩:=hex
            obtain ⟨oi, oj, e1, e2, e3⟩:=hx.pair
            rw [ho] at e1;cases e1
            obtain ⟨l2, w2, b1, b2, hstp⟩:=hrun p oj e2
            rw [hlp] at b1;cases b1
            rw [hwp] at b2;cases b2
            have hpl : p < wrs.length:=(List.getElem?_eq_some_iff.1 hwp).1
            have hlw : ∀ r c, i ≤ r→r < p→wrs[r]? = some c→∀ x ∈ c.map Wr.loc, x ∉ l:=fun r c hr hr' hc x hxc=>by
              have hrl : r < ops.size:=by omega
              obtain ⟨lr, wr, c1, c2⟩:=hlogs r hrl
              rw [hc] at c2;cases c2
              exact hx.between r _ hr hr' (hzip _ _ _ c1 hc) x hxc
            have hstq : stepW P cx ops o (stD (fun j=>decide (j < p)) 0 wrs S) (fun l' ws'=>l' = l∧ws' = ws):=by
              refine stepW_local hst fun l' ws' hk' x hxl=>?_
              obtain ⟨rfl, rfl⟩:=hk'
              refine stD_congr wrs 0 (fun j wj hj hm=>?_) (S.same_refl x)
              rw [Nat.zero_add]
              by_cases h1 : j < i
              · have:=hx.lt;simp [h1];omega
              · by_cases h2 : j < p
                · exact absurd hxl (hlw j wj (by omega) h2 hj x hm)
                · simp [h1, h2]
            have hboth : stepW P cx ops o ((stD (fun j=>decide (j < p)) 0 wrs S).puts wp) (fun l' ws'=>l' = l∧ws' = ws):=by
              unfold exPair at e3
              split at e3
              · rename_i g1 g2
                split at e3
                · rename_i t x ix t' x' ix' q1 q2
                  simp only [Bool.and_eq_true] at e3
                  have t1:=Nat.eq_of_beq_eq_true e3.1.1
                  have t2:=Nat.eq_of_beq_eq_true e3.1.2
                  have t3:=Nat.eq_of_beq_eq_true e3.2
                  subst t1 t2 t3
                  exact look_entry q1 q2 g1 g2 hstq hstp (fun n hn hn'=>hx.slots n hn' hn)
                · simp at e3
              · simp at e3
            refine stepW_local hboth fun l' ws' hk' x hxl=>?_
            obtain ⟨rfl, rfl⟩:=hk'
            have hsplit : (stD (fun j=>decide (j < p)) 0 wrs S).puts wp = stD (fun j=>decide (j < p + 1)) 0 wrs S:=by
              refine St.ext_same fun y=>?_
              by_cases hy : y ∈ wp.map Wr.loc
              · refine (stD_last wrs 0 p wp hwp hy (by simp) fun j wj hij hj hm=>by simp;omega).symm
              · refine (puts_other wp hy).trans (stD_congr wrs 0 (fun j wj hj hm=>?_) (S.same_refl y))
                rw [Nat.zero_add]
                by_cases e : j = p
                · subst e;rw [hwp] at hj;cases hj;exact absurd hm hy
                · by_cases h1 : j < p
                  · simp [h1];omega
                  · simp [h1];omega
            rw [hsplit]
            refine stD_congr wrs 0 (fun j wj hj hm=>?_) (S.same_refl x)
            rw [Nat.zero_add]
            have hjl : j < ops.size:=by rw [← hwl];exact (List.getElem?_eq_some_iff.1 hj).1
            obtain ⟨lj, wj', hlj, hwj⟩:=hlogs j hjl
            rw [hj] at hwj;cases hwj
            by_cases h1 : j < i
            · have hcl : clash (lj, wj.map Wr.loc) (l', ws'.map Wr.loc) = true:=by
                simp only [clash, Bool.or_eq_true, List.any_eq_true, List.contains_iff_mem]
                exact .inl ⟨x, hm, .inl hxl⟩
              rcases comp j i lj wj l' ws' h1 hlj hj hl1 hw1 hcl with hp|hp
              · rw [hpre j hp];have:=hx.lt;simp;omega
              · exact absurd hxl (hp.wr x hm).1
            · by_cases h2 : j < p
              · exact absurd hxl (hlw j wj (by omega) h2 hj x hm)
              · by_cases h3 : j = p
                · subst h3;rw [hDp];simp
                · have hcl : clash (l', ws'.map Wr.loc) (lj, wj.map Wr.loc) = true:=by
                    simp only [clash, Bool.or_eq_true, List.any_eq_true, List.contains_iff_mem]
                    exact .inr ⟨x, hm, hxl⟩
                  have:=hprec _ _ (hx.only j _ (by have:=hx.lt;omega) h3 (hzip _ _ _ hlj hj) hcl)
                  rw [hpost j this];simp;omega
          · refine stepW_local hst fun l' ws' hk' x hx=>?_
            obtain ⟨rfl, rfl⟩:=hk'
            refine stD_congr wrs 0 (fun j wj hj hm=>?_) (S.same_refl x)
            rw [Nat.zero_add]
            have hjl : j < ops.size:=by rw [← hwl];exact (List.getElem?_eq_some_iff.1 hj).1
            obtain ⟨lj, wj', hlj, hwj⟩:=hlogs j hjl
            rw [hj] at hwj;cases hwj
            rcases Nat.lt_trichotomy j i with hji|hji|hji
            · rcases comp j i lj wj l' ws' hji hlj hj hl1 hw1 (by
                simp only [clash, Bool.or_eq_true, List.any_eq_true, List.contains_iff_mem]
                exact .inl ⟨x, hm, .inl hx⟩) with this|this
              · rw [hpre j this];simp [hji]
              · exact absurd hx (this.wr x hm).1
            · subst hji;rw [hni];simp
            · rcases comp i j l' ws' lj wj hji hl1 hw1 hlj hj (by
                simp only [clash, Bool.or_eq_true, List.any_eq_true, List.contains_iff_mem]
                exact .inr ⟨x, hm, hx⟩) with this|this
              · rw [hpost j this];simp;omega
              · cases hD : listed.getD j false with
                | true=>exact absurd ⟨j, lj, wj, this, hlj, hj, hD⟩ hex
                | false=>simp;omega
        have hnext : (stD (fun i=>listed.getD i false) 0 wrs S).puts ws = stD (fun j=>(listed.setIfInBounds i true).getD j false) 0 wrs S:=by
          have hset : ∀ j, (listed.setIfInBounds i true).getD j false = if j = i then true else listed.getD j false:=by
            intro j
            rw [Array.getD_eq_getD_getElem?, Array.getElem?_setIfInBounds, Array.getD_eq_getD_getElem?]
            by_cases e : j = i
            · subst e;simp [hsz, hlt]
            · simp [e, Ne.symm e]
          refine St.ext_same fun x=>?_
          by_cases hx : x ∈ ws.map Wr.loc
          · refine (stD_last wrs 0 i ws hw1 hx (by rw [Nat.zero_add, hset];simp) fun j wj hij hj hm=>?_).symm
            rw [Nat.zero_add, hset, if_neg (by omega)]
            have hjl : j < ops.size:=by rw [← hwl];exact (List.getElem?_eq_some_iff.1 hj).1
            obtain ⟨lj, wj', hlj, hwj⟩:=hlogs j hjl
            rw [hj] at hwj;cases hwj
            rcases comp i j l ws lj wj hij hl1 hw1 hlj hj (by
              simp only [clash, Bool.or_eq_true, List.any_eq_true, List.contains_iff_mem]
              exact .inl ⟨x, hx, .inr hm⟩) with this|this
            · exact hpost j this
            · exact absurd hm (this.wr x hx).2
          · refine (puts_other ws hx).trans (stD_congr wrs 0 (fun j wj hj hm=>?_) (S.same_refl x))
            rw [Nat.zero_add, hset]
            by_cases e : j = i
            · subst e;rw [hw1] at hj;cases hj;exact absurd hm hx
            · rw [if_neg e]
        have hio : opIn N ops o = true:=List.all_eq_true.1 hin o (by simpa using Array.mem_of_getElem? ho)
        have hset : ∀ j, (listed.setIfInBounds i true).getD j false = if j = i then true else listed.getD j false:=by
          intro j
          rw [Array.getD_eq_getD_getElem?, Array.getElem?_setIfInBounds, Array.getD_eq_getD_getElem?]
          by_cases e : j = i
          · subst e;simp [hsz, hlt]
          · simp [e, Ne.symm e]
        have:=stepW_sound (lo:=lo) (Q:=Q) (next:=wpAnyIn (Fw lo) 0 P .any ops Q fuel (listed.setIfInBounds i true)) cx hio hR1 (fun l' ws' C' a' w' hk' hle' hR'=>by
          obtain ⟨rfl, rfl⟩:=hk'
          refine ih _ C' a' w' (by simpa using hsz) ?_ (fun p q hp hq=>?_) (hle.trans hle') (by rw [← hnext];exact hR')
          · have:=unl_lt (List.range ops.size) (fun j=>!listed.getD j false) (fun j=>!(listed.setIfInBounds i true).getD j false) (fun j hj=>by
              rw [hset] at hj;split at hj
              · simp at hj
              · exact hj) (i:=i) (by simpa using hlt) (by simp [hni]) (by rw [hset];simp)
            omega
          · rw [hset] at hq ⊢
            by_cases e : p = i
            · simp [e]
            · rw [if_neg e]
              by_cases e2 : q = i
              · subst e2;exact hpre p hp
              · rw [if_neg e2] at hq;exact hdown p q hp hq) hst'
        unfold wpOpIn
        simp only [ho]
        split
        · rename_i hw;rw [if_pos hw] at this;exact this
        · rename_i hw;rw [if_neg hw] at this;exact ⟨fun _ _=>trivial, this⟩
  refine main ops.size _ C a w (by simp) (Nat.le_trans (List.length_filter_le _ _) (by simp)) (fun i j _ hj=>?_) (.refl C) ?_
  · exfalso
    simp [Array.getD] at hj
  · have none : ∀ (r : List (List Wr)) (k : Nat) (T : St), stD (fun i=>(Array.replicate ops.size false).getD i false) k r T = T:=by
      intro r
      induction r with
      | nil=>intros;rfl
      | cons x xs ih =>
        intro k T
        simp only [stD]
        rw [if_neg (by simp [Array.getD])]
        exact ih _ _
    rw [none];exact hR
end
end Go.Am
namespace Go.Am
open Go.RowKit
section
variable {P : Program} {N : Nat} {base : Nat→Prop} {w0 : World} {S : St} {C : Ctx} {a : Act} {w : World}
theorem Rel.bare (hR : Rel N base w0 S C a w) : Rel 0 base w0 S C ⟨#[], []⟩ w where
  cw:=hR.cw
  glob:=(by first|exact hR.glob|exact hR.globOf (by first|exact hle.le0|exact hle|exact hle0|exact hCle.le0) (by first|rfl|exact h1.cw|(rw [hC'];first|done|exact hR.cw)|exact hR.cw))
  size:=rfl
  defers:=Marks.nil _ _
  slot i hi:=absurd hi (by omega)
  gb:=hR.gb
  gt:=hR.gt
  hw:=hR.hw
  box:=hR.box
  ownBox:=hR.ownBox
  immLt:=hR.immLt
  ownLt:=hR.ownLt
  below:=hR.below
  base:=hR.base
theorem Rel.allocFree (hR : Rel N base w0 S C a w) (o : Obj) : C.le { C with w:=w.alloc o }∧Rel N base w0 S { C with w:=w.alloc o } a (w.alloc o)∧C.own w.heap.size = none∧∀ i, ¬ C.imm w.heap.size i:=by
  have hbase:=hR.baseLe
  have hw:=hR.cw
  subst hw
  have hold : ∀ b, b < C.w.heap.size→(C.w.alloc o).heap[b]? = C.w.heap[b]?:=fun b hb=>Below.heap_alloc _ _ _ hb
  have hle : C.le { C with w:=C.w.alloc o }:=by
    refine ⟨fun b i h=>⟨h, World.cell?_of_block (hold b (hR.immLt b i h))⟩, fun _=>Nat.le_refl _, fun _ _=>rfl, fun _=>Nat.le_refl _, fun _ _=>Nat.le_refl _,
      fun k b _ _ h=>⟨h, fun _ h=>h, fun arr e h'=>⟨arr, (hold b (hR.ownLt _ _ h).2).trans h', rfl⟩⟩, fun k _ h=>⟨h, fun arr e h'=>⟨arr, e, (hold _ (hR.ownLt _ _ h).2).trans h', Nat.le_refl _⟩⟩,
      by simp, fun _ _ _ h=>.inl h, fun _ _ _ h=>h, fun b hb _=>hold b hb⟩
  refine ⟨hle, ?_, ?_, fun i h=>absurd (hR.immLt _ i h) (Nat.lt_irrefl _)⟩
  · exact {
      cw:=rfl, glob:=(by first|exact hR.glob|exact hR.globOf (by first|exact hle.le0|exact hle|exact hle0|exact hCle.le0) (by first|rfl|exact h1.cw|(rw [hC'];first|done|exact hR.cw)|exact hR.cw)), size:=hR.size, defers:=hR.defers.le hle, slot:=fun i hi=>(hR.slot i hi).le hle, gb:=hR.gb, gt:=hR.gt, hw:=hR.hw
      box:=fun k sz es h=>(hR.box k sz es h).mono hle rfl (fun _=>rfl) (fun h=>hold _ (hR.ownLt _ _ h).2)
      ownBox:=hR.ownBox
      immLt:=fun b i h=>by have:=hR.immLt b i h;simp;omega
      ownLt:=fun b o h=>by have:=hR.ownLt b o h;exact ⟨this.1, by have:=this.2;simp;omega⟩
      below:=hR.below.alloc hbase _, base:=hR.base }
  · cases h : C.own C.w.heap.size with
    | none=>rfl
    | some o=>exact absurd (hR.ownLt _ _ h).2 (Nat.lt_irrefl _)
def SnapOk (S : St) (N : Nat) (l : List AV) : Prop:=l.length = N∧∀ (i : Nat) (x : AV), l[i]? = some x→x = .junk∨x = S.slot i
def rangeSt (S : St) (kl : Key) (ps : Array Tmp) (as bo : Code) (l : List AV) : St:=S.put (.box kl ((S.box kl).1 + 1, some (0, [.lp .ready none ps as bo l])))
def rangeEnd (kl : Key) (g : Nat) (Q : Exit→St→Prop) (S : St) : Prop :=
  match S.box kl with
  | (g', some (0, [.lp st pend _ _ _ _]))=>g' = g∧st ≠ .busy∧(match pend with
    | none=>Q .normal (S.put (.box kl (g, none)))
    | some .ret=>Q .ret (S.put (.box kl (g, none)))
    | some (.exit i)=>Q (.exit i) (S.put (.box kl (g, none)))
    | some _=>False)
  | _=>False
def RangeW (P : Program) (N : Nat) (kl : Key) (g : Operand) (ps : Array Tmp) (as bo : Code) (Q : Exit→St→Prop) (S : St) : Prop :=
  ∃ l fid fs cs, SnapOk S N l∧S.val g = .func (.func fid) fs cs ∧
    (opCallX none (.fn fid) (fs++[.yld kl ((S.box kl).1 + 1)]++cs)).wp0 P (rangeSt S kl ps as bo l) fun ws=>rangeEnd kl ((S.box kl).1 + 1) Q ((rangeSt S kl ps as bo l).puts ws)
theorem lp_box (hR : Rel N base w0 S C a w) {k : Key} {g : Nat} {st : LoopState} {pend : Option Code} {ps : Array Tmp} {as bo : Code} {l : List AV} (hb : S.box k = (g, some (0, [.lp st pend ps as bo l]))) :
    C.own (C.jb k) = some (.box k)∧∃ (fn : FuncId) (ts : Array Value) (d : Nat), w.heap[C.jb k]? = some (.loop { state:=st, pending:=pend, fn, tmps:=ts, params:=ps, assign:=as, body:=bo, defers:=d }) ∧
      ts.size = l.length∧∀ (i : Nat) (x : AV) (y : Value), l[i]? = some x→ts[i]? = some y→KRel C x y:=by
  obtain ⟨ho, o, hh, hobj⟩:=(hR.box k 0 [.lp st pend ps as bo l] (by rw [hb])).map rfl
  rw [hR.cw] at hh
  refine ⟨ho, ?_⟩
  generalize hl : ([.lp st pend ps as bo l] : List AV) = m at hobj
  cases hobj with
  | map=>cases hl
  | iter=>cases hl
  | loop h1 h2=>cases hl;exact ⟨_, _, _, hh, h1, h2⟩
theorem Rel.lpWrite (hR : Rel N base w0 S C a w) {k : Key} {g : Nat} {st : LoopState} {pend : Option Code} {ps : Array Tmp} {as bo : Code} {l : List AV} (hb : S.box k = (g, some (0, [.lp st pend ps as bo l]))) (st' : LoopState) (pend' : Option Code)
    {fn : FuncId} {ts : Array Value} {d : Nat} (hh : w.heap[C.jb k]? = some (.loop { state:=st, pending:=pend, fn, tmps:=ts, params:=ps, assign:=as, body:=bo, defers:=d }))
    (h1 : ts.size = l.length) (h2 : ∀ (i : Nat) (x : AV) (y : Value), l[i]? = some x→ts[i]? = some y→KRel C x y) :
    ∃ C', C.le C'∧C'.gb = C.gb∧C'.jb = C.jb∧Rel N base w0 (S.put (.box k (g, some (0, [.lp st' pend' ps as bo l])))) C' a (w.putObj (C.jb k) (.loop { state:=st', pending:=pend', fn, tmps:=ts, params:=ps, assign:=as, body:=bo, defers:=d })):=by
  obtain ⟨ho, _⟩:=lp_box hR hb
  have hlt : C.jb k < w.heap.size:=(Array.getElem?_eq_some_iff.1 hh).1
  have:=hR.objWrite k (some (0, [.lp st' pend' ps as bo l])) ho (w':=w.putObj (C.jb k) (.loop { state:=st', pending:=pend', fn, tmps:=ts, params:=ps, assign:=as, body:=bo, defers:=d })) (fun b hb=>World.putObj_heap_other hb) (by simp) rfl rfl rfl
    (fun arr e h=>by rw [hh] at h;cases h) (fun C' hle hw him hj ho' hg sz es1 h=>by
      cases h
      exact ⟨fun h=>absurd rfl h, fun _=>⟨by rw [hj, ho'];exact ho, _, by rw [hw, hj];exact World.putObj_heap_same hlt, .loop h1 fun i x y hx hy=>(h2 i x y hx hy).le hle⟩, fun h=>absurd rfl h⟩)
  rw [hb] at this
  exact this
theorem Rel.lpForget (hR : Rel N base w0 S C a w) {k : Key} {g : Nat} (hb : (S.box k).1 = g) (ho : C.own (C.jb k) = some (.box k)) {r : Loop} (hh : w.heap[C.jb k]? = some (.loop r)) (o : Obj) :
    ∃ C', C.le C'∧Rel N base w0 (S.put (.box k (g, none))) C' a (w.putObj (C.jb k) o):=by
  have:=hR.objWrite k none ho (w':=w.putObj (C.jb k) o) (fun b hb=>World.putObj_heap_other hb) (by simp) rfl rfl rfl
    (fun arr e h=>by rw [hh] at h;cases h) (fun C' hle hw him hj ho' hg sz es1 h=>by cases h)
  rw [hb] at this
  obtain ⟨C', h1, _, _, h2⟩:=this
  exact ⟨C', h1, h2⟩
theorem SnapOk.rel (hR : Rel N base w0 S C a w) {l : List AV} (h : SnapOk S N l) : a.tmps.size = l.length∧∀ (i : Nat) (x : AV) (y : Value), l[i]? = some x→a.tmps[i]? = some y→KRel C x y:=by
  refine ⟨by rw [hR.size, h.1], fun i x y hx hy=>?_⟩
  rcases h.2 i x hx with rfl|rfl
  · exact .pure (.junk y)
  · have hi : i < N:=by rw [← h.1];exact (List.getElem?_eq_some_iff.1 hx).1
    have:=hR.slot i hi
    rw [Array.getD_eq_getD_getElem?, hy] at this
    exact this
theorem rangeEnd_post {Q : Exit→St→Prop} {kl : Key} {g L : Nat} {w2 : World} {C2 C' : Ctx} (hle : C2.le C') (hgb : C2.gb kl = g) (hjb : C2.jb kl = L) (hleC : C.le C2) (hR' : Rel N base w0 S C' a w2) (hK : rangeEnd kl g Q S) (v : Value) :
    rangePost (Fw none) 0 P L (fun e a' w'=>∃ S' C', Q e S'∧C.le C'∧Rel N base w0 S' C' a' w') a (.returned v) w2:=by
  unfold rangeEnd at hK
  split at hK
  · rename_i g' st pend ps' as' bo' l' hbx
    obtain ⟨rfl, hst, hK⟩:=hK
    obtain ⟨hown', fn', ts', d', hh', _, _⟩:=lp_box hR' hbx
    have hj : C'.jb kl = L:=by
      rw [← hjb]
      refine hle.jb kl ?_
      rw [hgb, hR'.gb, hbx]
    obtain ⟨C3, hle3, hR3⟩:=hR'.lpForget (g:=g') (by rw [hbx]) hown' hh' (.loop { state:=.exhausted, pending:=pend, fn:=fn', tmps:=ts', params:=ps', assign:=as', body:=bo', defers:=d' })
    rw [hj] at hh' hR3
    have hend:=run_endLoop (P:=P) hh' hst
    refine ⟨pend, _, hend, ?_⟩
    have hleAll:=(hleC.trans hle).trans hle3
    cases pend with
    | none=>exact ⟨_, C3, hK, hleAll, hR3⟩
    | some c =>
      cases c<;>first|exact hK.elim|skip
      · exact wpIn_exit ⟨_, C3, hK, hleAll, hR3⟩
      · exact wpIn_ret ⟨_, C3, hK, hleAll, hR3⟩
  · exact hK.elim
theorem args_rel {C : Ctx} {vf vc : Array Value} {fs cs : List AV} {y : Value} {x0 : AV} (h1 : vf.size = fs.length) (h2 : vc.size = cs.length) (h3 : ∀ (i : Nat) (x : AV) (y : Value), fs[i]? = some x→vf[i]? = some y→KRel C x y)
    (h4 : ∀ (i : Nat) (x : AV) (y : Value), cs[i]? = some x→vc[i]? = some y→KRel C x y) (h0 : KRel C x0 y) :
    (vf++#[y]++vc).size = (fs++[x0]++cs).length∧∀ (i : Nat) (x : AV) (z : Value), (fs++[x0]++cs)[i]? = some x→(vf++#[y]++vc)[i]? = some z→KRel C x z:=by
  refine ⟨by simp [h1, h2];omega, fun i x z hx hy=>?_⟩
  have e : (vf++#[y]++vc)[i]? = (vf.toList++[y]++vc.toList)[i]?:=by
    rw [← Array.getElem?_toList];simp
  rw [e] at hy
  by_cases hi : i < fs.length
  · rw [List.append_assoc, List.getElem?_append_left hi] at hx
    rw [List.append_assoc, List.getElem?_append_left (by simpa [h1] using hi)] at hy
    exact h3 i x z hx (by simpa using hy)
  · rw [List.append_assoc, List.getElem?_append_right (by omega)] at hx
    rw [List.append_assoc, List.getElem?_append_right (by simp [h1];omega)] at hy
    simp only [Array.length_toList, h1] at hy
    cases hj : i - fs.length with
    | zero=>rw [hj] at hx hy;simp at hx hy;subst hx hy;exact h0
    | succ j=>rw [hj] at hx hy;simp at hx hy;exact h4 j x z hx hy
theorem WpA_rangeFunc {Q : Exit→St→Prop} {kl : Key} {g : Operand} {ps : Array Tmp} {as bo : Code} (hin : inN N g = true) (h : RangeW P N kl g ps as bo Q S) : WpA false P N (.rangeFunc g ps as bo) Q S:=by
  intro lo hlo base w0 C a w hR
  rw [hlo rfl]
  obtain ⟨l, fid, fs, cs, hsn, hg, h⟩:=h
  refine wpIn_rangeFunc fun fn _=>?_
  have hv:=hR.val hin
  rw [hg] at hv
  generalize hyg : a.eval g = yg at hv
  obtain ⟨vf, vc, hy, h1, h2, h3, h4⟩ : ∃ vf vc, yg = .func (.func fid) vf vc∧vf.size = fs.length∧vc.size = cs.length∧(∀ (i : Nat) (x : AV) (y : Value), fs[i]? = some x→vf[i]? = some y→KRel C x y) ∧
      (∀ (i : Nat) (x : AV) (y : Value), cs[i]? = some x→vc[i]? = some y→KRel C x y):=by
    cases hv with
    | pure hp=>cases hp with
      | func a b c d=>exact ⟨_, _, rfl, a, b, fun i x y h1 h2=>.pure (c i x y h1 h2), fun i x y h1 h2=>.pure (d i x y h1 h2)⟩
    | func a b c d=>exact ⟨_, _, rfl, a, b, c, d⟩
  obtain ⟨hle1, hR1, hown1, himm1⟩:=hR.allocFree (.deferred (some []))
  obtain ⟨a', ha'⟩ : ∃ a' : Act, a' = { a with defers:=[{ target:=.collected w.heap.size, args:=#[] }]++a.defers }:=⟨_, rfl⟩
  have hR1' : Rel N base w0 S { C with w:=w.alloc (.deferred (some [])) } a' (w.alloc (.deferred (some []))):=by
    rw [ha']
    exact { cw := hR1.cw, glob := hR1.glob, size := hR1.size, slot := hR1.slot, gb := hR1.gb, gt := hR1.gt, hw := hR1.hw, box := hR1.box, ownBox := hR1.ownBox, immLt := hR1.immLt, ownLt := hR1.ownLt, below := hR1.below, base := hR1.base
            defers:=by
              refine ⟨List.nodup_cons.2 ⟨fun hm=>?_, hR1.defers.1⟩, fun d hd=>?_⟩
              · obtain ⟨D, e, _, _, _, h5⟩:=hR.defers.2 _ hm
                cases e
                rw [hR.cw] at h5
                exact absurd (Array.getElem?_eq_some_iff.1 h5).1 (Nat.lt_irrefl _)
              · rcases List.mem_cons.1 hd with rfl|hd
                · exact ⟨w.heap.size, rfl, hown1, hR.below.size, himm1, World.alloc_heap_new _ _⟩
                · exact hR1.defers.2 d hd }
  obtain ⟨hs1, hs2⟩:=hsn.rel hR
  obtain ⟨o2, ho2⟩ : ∃ o2 : Obj, o2 = .loop { state:=.ready, pending:=none, fn, tmps:=a.tmps, params:=ps, assign:=as, body:=bo, defers:=w.heap.size }:=⟨_, rfl⟩
  obtain ⟨C2, hle2, hgb2, hjb2, him2, hown2, hw2, hR2⟩:=hR1'.newObj kl (some (0, [.lp .ready none ps as bo l])) o2 fun C' hle hw him hj ho hg sz es he=>by
    cases he
    refine ⟨fun h=>absurd rfl h, fun _=>⟨by rw [hj];exact ho, o2, by rw [hw, hj];exact heap_alloc_new _ _, ?_⟩, fun h=>absurd rfl h⟩
    rw [ho2]
    exact .loop hs1 fun i x y hx hy=>((hs2 i x y hx hy).le hle1).le hle
  have hsz1 : (w.alloc (.deferred (some []))).heap.size = w.heap.size + 1:=by simp
  obtain ⟨L, hL⟩ : ∃ L, L = w.heap.size + 1:=⟨_, rfl⟩
  rw [hsz1, ← hL] at hjb2
  have hyv : KRel C2 (.yld kl ((S.box kl).1 + 1)) (.func (.yield L) #[] #[]):=by rw [← hgb2, ← hjb2];exact .yld
  have hleC:=hle1.trans hle2
  obtain ⟨hl1, hl2⟩:=args_rel h1 h2 (fun i x y hx hy=>(h3 i x y hx hy).le hleC) (fun i x y hx hy=>(h4 i x y hx hy).le hleC) hyv
  obtain ⟨R, hRdef⟩ : ∃ R, R = rangePost (Fw none) 0 P L (fun e a' w'=>∃ S' C', Q e S'∧C.le C'∧Rel N base w0 S' C' a' w') a':=⟨_, rfl⟩
  have key : Callable P fid∧Calls P fid (vf++#[.func (.yield L) #[] #[]]++vc) ((w.alloc (.deferred (some []))).alloc o2) R:=by
    refine callX_fin (o:={ dst:=none, op:=.alloc 0, type:=0, pos:="", after:=#[], guard:=none }) (fid:=.fn fid) (ys:=vf++#[.func (.yield L) #[] #[]]++vc)
      (next:=fun a'' w''=>a'' = a'→R (.returned undef) w'') (K:=fun ws=>rangeEnd kl ((S.box kl).1 + 1) Q ((rangeSt S kl ps as bo l).puts ws)) hR2 ?_ ?_ hl1 hl2 h
    · intro ws C' a'' w' hK hle hR' e
      subst e
      rw [hRdef]
      exact rangeEnd_post hle hgb2 hjb2 hleC hR' hK _
    · intro hc C1 _ _ hr
      refine ⟨hc, Calls.mono hr ?_⟩
      rintro e w' ⟨y, rfl, h⟩
      have:=h rfl
      rw [hRdef] at this ⊢
      exact this
  obtain ⟨W2, hW2⟩ : ∃ W2, W2 = (w.alloc (.deferred (some []))).alloc o2:=⟨_, rfl⟩
  rw [← hW2] at key
  refine ⟨L, [{ target:=.collected w.heap.size, args:=#[] }], W2, { target:=.fn (.func fid) vc, args:=vf++#[.func (.yield L) #[] #[]] }, W2, fid, vf++#[.func (.yield L) #[] #[]]++vc, W2,
    by rw [hL, hW2, ho2];exact run_enterLoop_outer fn a.tmps ps as bo, ?_, fun _ _=>trivial, ?_, fw_depth, ?_⟩
  · rw [hy] at hyg
    simp only [resolve, hyg, Deferred.ofValue, Sem.run_pure]
    simp [Act.eval]
  · simp only [invoke]
    exact key.1 _ _
  · rw [← ha', ← hRdef]
    exact calls_fw key.2
def setPs : List AV→List Tmp→List AV→List AV
  | l, p :: ps, x :: xs=>setPs (l.set p x) ps xs
  | l, _, _=>l
def roundSt (pre : List BoxE) (l : List AV) (ps : Array Tmp) (args : List AV) : St:={ slot:=fun i=>(setPs l ps.toList args).getD i (.v undef), box:=lookE pre, tk:=fun _=>(0, 0) }
def roundEnd (kl : Key) (g : Nat) (ps : Array Tmp) (as bo : Code) (l : List AV) (b : Bool) (post : List BoxE) (e : Exit) (S : St) : Prop :=
  S.box kl = (g, some (0, [.lp .busy none ps as bo l]))∧match e with
    | .normal=>b = true∧∀ p ∈ post, (S.put (.box kl (g, some (0, [.lp .ready none ps as bo l])))).box p.1 = (p.2.1, some (p.2.2.1, p.2.2.2))
    | .ret=>b = false∧∀ p ∈ post, (S.put (.box kl (g, some (0, [.lp .done (some .ret) ps as bo l])))).box p.1 = (p.2.1, some (p.2.2.1, p.2.2.2))
    | .exit i=>b = false∧∀ p ∈ post, (S.put (.box kl (g, some (0, [.lp .done (some (.exit i)) ps as bo l])))).box p.1 = (p.2.1, some (p.2.2.1, p.2.2.2))
    | _=>False
theorem setPs_rel {C : Ctx} : ∀ (ps : List Tmp) (args : List AV) (l : List AV) (ts : Array Value) (ys : List Value), ys.length = args.length→ts.size = l.length →
    (∀ (i : Nat) (x : AV) (y : Value), l[i]? = some x→ts[i]? = some y→KRel C x y)→(∀ (i : Nat) (x : AV) (y : Value), args[i]? = some x→ys[i]? = some y→KRel C x y) →
    ((ps.zip ys).foldl (fun tmps (t, a)=>tmps.setIfInBounds t a) ts).size = (setPs l ps args).length ∧
      ∀ (i : Nat) (x : AV) (y : Value), (setPs l ps args)[i]? = some x→((ps.zip ys).foldl (fun tmps (t, a)=>tmps.setIfInBounds t a) ts)[i]? = some y→KRel C x y
  | [], args, l, ts, ys, hl, hs, h1, h2=>by simpa [setPs] using ⟨hs, h1⟩
  | p :: ps, [], l, ts, ys, hl, hs, h1, h2=>by
    have : ys = []:=List.length_eq_zero_iff.1 hl
    subst this
    simpa [setPs] using ⟨hs, h1⟩
  | p :: ps, x :: xs, l, ts, [], hl, hs, h1, h2=>by simp at hl
  | p :: ps, x :: xs, l, ts, y :: ys, hl, hs, h1, h2=>by
    simp only [List.zip_cons_cons, List.foldl_cons, setPs]
    refine setPs_rel ps xs (l.set p x) (ts.setIfInBounds p y) ys (by simpa using hl) (by simp [hs]) (fun i u v hu hv=>?_) (fun i u v hu hv=>h2 (i + 1) u v (by simpa using hu) (by simpa using hv))
    by_cases hi : p = i
    · subst hi
      have hlt : p < l.length:=by simpa using (List.getElem?_eq_some_iff.1 hu).1
      rw [List.getElem?_set_self hlt] at hu
      have hlt2 : p < ts.size:=by rw [hs];exact hlt
      rw [Array.getElem?_setIfInBounds_self_of_lt hlt2] at hv
      cases hu;cases hv
      exact h2 0 _ _ rfl rfl
    · rw [List.getElem?_set_ne hi] at hu
      rw [Array.getElem?_setIfInBounds_ne hi] at hv
      exact h1 i u v hu hv
theorem setPs_len : ∀ (ps : List Tmp) (args : List AV) (l : List AV), (setPs l ps args).length = l.length
  | [], _, _=>by simp [setPs]
  | _ :: _, [], _=>by simp [setPs]
  | p :: ps, x :: xs, l=>by rw [setPs, setPs_len ps xs];simp
theorem boxA_yield {kl : Key} {g : Nat} {pre post : List BoxE} {args : List AV} {b : Bool} {ps : Array Tmp} {as bo : Code} {l : List AV} (hpre : lookE pre kl = (g, some (0, [.lp .ready none ps as bo l]))) (hps : args.length = ps.size)
    (h : WpA true P l.length as (thenA (fun S1=>S1.box kl = (g, some (0, [.lp .ready none ps as bo l]))∧WpA true P l.length bo (roundEnd kl g ps as bo l b post) (S1.put (.box kl (g, some (0, [.lp .busy none ps as bo l]))))) (fun _ _=>False)) (roundSt pre l ps args)) :
    BoxA P (.yld kl g) pre args (.v (.bool b)) post:=by
  refine ⟨trivial, fun C w cargs hR hown hargs hg=>?_⟩
  obtain ⟨ho, fn, ts, d, hh, hts, hrel⟩:=lp_box (S:=preSt pre) hR (k:=kl) hpre
  refine ⟨_, _, _, _, run_yield hh (by rw [hargs.1, hps]), ?_⟩
  refine roundIn_of_wpIn (F:=Fence.wide) trivial ?_
  obtain ⟨hsz, hsl⟩:=setPs_rel (C:=C) ps.toList args l ts cargs.toList (by simpa using hargs.1) hts hrel (fun i x y hx hy=>hargs.2 i x y hx (by simpa using hy))
  have hzip : (ps.zip cargs).foldl (fun tmps (t, a)=>tmps.setIfInBounds t a) ts = (ps.toList.zip cargs.toList).foldl (fun tmps (t, a)=>tmps.setIfInBounds t a) ts:=by
    rw [← Array.foldl_toList, Array.toList_zip]
  have hR0 : Rel l.length (fun b=>b < w.heap.size∧C.own b = none) w (roundSt pre l ps args) C { tmps:=(ps.zip cargs).foldl (fun tmps (t, a)=>tmps.setIfInBounds t a) ts, defers:=[] } w :=
    { cw:=hR.cw
      glob:=hR.glob
      size:=by rw [hzip, hsz, setPs_len]
      defers:=Marks.nil _ _
      slot:=fun i hi=>by
        have hi' : i < (setPs l ps.toList args).length:=by rw [setPs_len];exact hi
        simp only [roundSt]
        rw [hzip, Array.getD_eq_getD_getElem?, List.getD_eq_getElem?_getD]
        have h1 : (setPs l ps.toList args)[i]? = some (setPs l ps.toList args)[i]:=by simp [hi']
        have h2 : ((ps.toList.zip cargs.toList).foldl (fun tmps (t, a)=>tmps.setIfInBounds t a) ts)[i]? = some ((ps.toList.zip cargs.toList).foldl (fun tmps (t, a)=>tmps.setIfInBounds t a) ts)[i]:=Array.getElem?_eq_getElem (by rw [hsz];exact hi')
        rw [h1, h2]
        exact hsl i _ _ h1 h2
      gb:=hR.gb, gt:=hR.gt, hw:=hR.hw, box:=hR.box, ownBox:=hR.ownBox, immLt:=hR.immLt, ownLt:=hR.ownLt, below:=hR.below, base:=hR.base }
  refine wpIn_mono (h (some (C.jb kl)) (by simp) _ _ C _ _ hR0) ?_
  rintro e a1 w1 ⟨S1, C1, hq, hle1, hR1⟩
  cases e with
  | normal =>
    obtain ⟨hb1, hbody⟩:=hq
    obtain ⟨ho1, fn1, ts1, d1, hh1, hts1, hrel1⟩:=lp_box hR1 hb1
    have hj1 : C1.jb kl = C.jb kl:=hle1.jb kl (by rw [hg, hR1.gb, hb1])
    obtain ⟨C2, hle2, hgb2, hjb2, hR2⟩:=hR1.lpWrite hb1 .busy none hh1 hts1 hrel1
    have hh1':=hh1
    rw [hj1] at hh1' hR2
    refine ⟨_, run_beginRound hh1' rfl, wpIn_mono (hbody (some (C.jb kl)) (by simp) _ _ C2 _ _ hR2) ?_⟩
    rintro e a3 w3 ⟨S3, C3, ⟨hb3, hq3⟩, hle3, hR3⟩
    obtain ⟨ho3, fn3, ts3, d3, hh3, hts3, hrel3⟩:=lp_box hR3 hb3
    have hj3 : C3.jb kl = C.jb kl:=by
      rw [← hj1, ← hjb2]
      exact hle3.jb kl (by rw [hgb2, hR1.gb, hb1, hR3.gb, hb3])
    have hleAll:=(hle1.trans hle2).trans hle3
    have fin : ∀ st' pend', ∃ C4, C.le C4∧Rel 0 (fun b=>b < w.heap.size∧C.own b = none) w (S3.put (.box kl (g, some (0, [.lp st' pend' ps as bo l])))) C4 ⟨#[], []⟩
        (w3.putObj (C.jb kl) (.loop { state:=st', pending:=pend', fn:=fn3, tmps:=ts3, params:=ps, assign:=as, body:=bo, defers:=d3 })):=fun st' pend'=>by
      obtain ⟨C4, hle4, _, _, hR4⟩:=hR3.lpWrite hb3 st' pend' hh3 hts3 hrel3
      rw [hj3] at hR4
      exact ⟨C4, hleAll.trans hle4, hR4.bare⟩
    rw [hj3] at hh3
    cases e with
    | normal =>
      obtain ⟨rfl, hpost⟩:=hq3
      obtain ⟨C4, hle4, hR4⟩:=fin .ready none
      exact ⟨_, _, run_endRound none hh3, _, _, C4, rfl, hle4, hR4, .pure (.v _), hpost⟩
    | ret =>
      obtain ⟨rfl, hpost⟩:=hq3
      obtain ⟨C4, hle4, hR4⟩:=fin .done (some .ret)
      exact ⟨_, _, run_endRound (some .ret) hh3, _, _, C4, rfl, hle4, hR4, .pure (.v _), hpost⟩
    | exit i =>
      obtain ⟨rfl, hpost⟩:=hq3
      obtain ⟨C4, hle4, hR4⟩:=fin .done (some (.exit i))
      exact ⟨_, _, run_endRound (some (.exit i)) hh3, _, _, C4, rfl, hle4, hR4, .pure (.v _), hpost⟩
    | _=>exact hq3.elim
  | _=>exact hq.elim
end
end Go.Am
