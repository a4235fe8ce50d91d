/- Part 3 of the texts that the last one stands on. -/
import Derived.Laws.Strings
import Derived.Test.YtbpiibdcncfphaaGreatDoorA2
set_option linter.unusedVariables false
set_option linter.unusedSimpArgs false
namespace Go.Am
open Go.RowKit
def Turns (S S1 : St) : Prop:=∀ N base w0 C a w, Rel N base w0 S C a w→∃ C', C.le C'∧Rel N base w0 S1 C' a w
theorem Turns.refl (S : St) : Turns S S:=fun _ _ _ C _ _ h=>⟨C, .refl C, h⟩
theorem WpA_turn {rd : Bool} {P : Program} {N : Nat} {c : Code} {Q : Exit→St→Prop} {S S1 : St} (ht : Turns S S1) (h : WpA rd P N c Q S1) : WpA rd P N c Q S:=by
  intro lo hlo base w0 C a w hR
  obtain ⟨C1, hle, hR1⟩:=ht N base w0 C a w hR
  exact wpIn_mono (h lo hlo base w0 C1 a w hR1) fun e a' w' ⟨S', C', h1, h2, h3⟩=>⟨S', C', h1, hle.trans h2, h3⟩
def Ctx.melt (C : Ctx) (ks : List Key) : Ctx where
  w:=C.w
  imm b i:=C.imm b i∨∃ k, memK k ks = true∧C.own b = some (.box k)
  own b:=match C.own b with
    | some (.box k)=>match memK k ks with
      | true=>none
      | false=>some (.box k)
    | o=>o
  gb k:=match memK k ks with
    | true=>C.gb k + 1
    | false=>C.gb k
  jb:=C.jb
  gt:=C.gt
  hw:=C.hw
theorem melt_own_ne {C : Ctx} {ks : List Key} {b : Nat} (h : ∀ k, C.own b = some (.box k)→¬ memK k ks = true) : (C.melt ks).own b = C.own b:=by
  simp only [Ctx.melt]
  split
  · rename_i k hk
    split
    · rename_i hm;exact absurd hm (h k hk)
    · rw [hk]
  · rfl
theorem melt_own_some {C : Ctx} {ks : List Key} {b : Nat} {o : Owner} (h : (C.melt ks).own b = some o) : C.own b = some o∧∀ k, o = .box k→¬ memK k ks = true:=by
  simp only [Ctx.melt] at h
  split at h
  · rename_i k hk
    split at h
    · cases h
    · rename_i hm
      cases h
      exact ⟨hk, fun k' e=>by cases e;simp [hm]⟩
  · rename_i hne
    exact ⟨h, fun k e=>by subst e;exact absurd h (hne k)⟩
section
variable {P : Program} {N : Nat} {base : Nat→Prop} {w0 : World} {S : St} {C : Ctx} {a : Act} {w : World}
theorem melt_le (hR : Rel N base w0 S C a w) (ks : List Key) : C.le (C.melt ks) where
  imm b i h:=⟨.inl h, rfl⟩
  gb k:=by simp only [Ctx.melt];split<;>omega
  jb _ _:=rfl
  gt _:=Nat.le_refl _
  hw _ _:=Nat.le_refl _
  tl k b _ _ h:=by
    refine ⟨by rw [melt_own_ne (fun k' hk'=>by rw [h] at hk';cases hk')];exact h, fun i hi=>?_, fun arr _ ha=>⟨arr, ha, rfl⟩⟩
    rcases hi with hi|⟨k', _, h2⟩
    · exact hi
    · rw [h] at h2;cases h2
  bs k e h:=by
    have hm : ¬ memK k ks = true:=fun hm=>by simp only [Ctx.melt, hm] at e;omega
    exact ⟨by rw [show (C.melt ks).own (C.jb k) = C.own (C.jb k) from melt_own_ne (fun k' hk'=>by rw [h] at hk';cases hk';exact hm)];exact h, fun arr e' ha=>⟨arr, e', ha, Nat.le_refl _⟩⟩
  size:=Nat.le_refl _
  immOld b i _ h:=by
    rcases h with h|⟨k, hm, h2⟩
    · exact .inl h
    · exact .inr (.inr ⟨k, h2, by simp only [Ctx.melt, h2, hm], by simp only [Ctx.melt, hm];omega⟩)
  ownOld b o _ h:=(melt_own_some h).1
  free _ _ _:=rfl
theorem melt_slice (hR : Rel N base w0 S C a w) {ks : List Key} {key : Key} {g sz n cap : Nat} {es l : List AV} {y : Value} (hm : memK key ks = true) (hs : S.box key = (g, some (sz, es))) (h0 : sz ≠ 0) (hn : n ≤ es.length)
    (hl : pureEs (es.take n) = some l) (hv : KRel C (.own key g sz n cap) y) : PRel C.w (C.melt ks).imm (.slice sz l .no) y:=by
  have hg : (S.box key).1 = g:=by rw [hs]
  have hs2 : (S.box key).2 = some (sz, es):=by rw [hs]
  have hcase : (∃ cap, y = .slice (some ⟨C.jb key, 0, none⟩) n cap∧n ≤ cap∧cap ≤ maxLen)∨(n = 0∧∃ b, y = .slice b 0 0∧(b = none∨∃ x z, b = some ⟨x, z, none⟩)):=by
    cases hv with
    | pure hp=>cases hp
    | ownOld hlt=>rw [hR.gb, hg] at hlt;omega
    | own h hm=>exact .inl ⟨_, rfl, h, hm⟩
    | ownNil hb=>exact .inr ⟨rfl, _, rfl, hb⟩
  rcases hcase with ⟨cap, rfl, hcap, hmax⟩|⟨rfl, b, rfl, hb⟩
  rotate_left
  · have : l = []:=by simpa [pureEs] using hl.symm
    subst this
    rcases hb with rfl|⟨x, z, rfl⟩
    · exact .nil _ _ (.inl rfl)
    · exact .slice (es:=[]) (fun _ _=>undef) (Nat.le_refl _) (.inl rfl) (by simp) (by simp) (by simp) (by simp)
  obtain ⟨hll, hle⟩:=pureEs_get hl
  have hll' : l.length = n:=by rw [hll];simp;omega
  have hc : ∀ (i : Nat) (e : AV) (c : Nat) (x : AV), l[i]? = some e→e.cells[c]? = some x→∃ y, C.w.cell? ⟨C.jb key, i * sz + c, none⟩ = some y∧(C.melt ks).imm (C.jb key) (i * sz + c)∧y.oneCell' = true∧PRel C.w (C.melt ks).imm x y:=by
    intro i e c x he hx
    obtain ⟨u, hu, hp⟩:=hle i e he
    obtain ⟨v, hv', hp'⟩:=(pureE_cells hp).2 c x hx
    rw [List.getElem?_take] at hu
    split at hu
    · obtain ⟨y, h1, h2, h3⟩:=box_cell hR hs2 h0 hu hv'
      obtain ⟨ho, _⟩:=(hR.box key sz es hs2).own h0 (by intro h;simp [h] at hu)
      exact ⟨y, by rw [hR.cw];exact h1, .inr ⟨key, hm, ho⟩, h3, (h2.pure1 hp').mono fun _ _ h=>⟨.inl h, rfl⟩⟩
    · simp at hu
  have:=PRel.slice (w:=C.w) (imm:=(C.melt ks).imm) (sz:=sz) (es:=l) (tok:=.no) (b:=C.jb key) (off:=0) (cap:=cap) (fun i c=>(C.w.cell? ⟨C.jb key, i * sz + c, none⟩).getD undef) (by omega) (.inl rfl) hmax (fun i e he=>by
    obtain ⟨u, hu, hp⟩:=hle i e he
    rw [(pureE_cells hp).1]
    rw [List.getElem?_take] at hu
    split at hu
    · exact (hR.box key _ es hs2).wid h0 i u hu
    · simp at hu) (fun i e c x he hx=>by
    obtain ⟨y, a1, a2, a3, a4⟩:=hc i e c x he hx
    simp [a1, a2, a3]) (fun i e c x he hx=>by
    obtain ⟨y, a1, a2, a3, a4⟩:=hc i e c x he hx
    simp [a1, a4])
  rw [hll'] at this
  exact this
theorem melt_rel (hR : Rel N base w0 S C a w) (ks : List Key) {kb : Key} {gk sz : Nat} {cells cells' : List AV} (hb : S.box kb = (gk, some (sz, [.agg cells]))) (h0 : sz ≠ 0) (hkb : ¬ memK kb ks = true) (hl : cells'.length = cells.length)
    (hc : ∀ (i : Nat) (x x' : AV) (y : Value), cells[i]? = some x→cells'[i]? = some x'→KRel C x y→KRel (C.melt ks) x' y) {S1 : St} (hslot : S1.slot = S.slot) (htk : S1.tk = S.tk)
    (hkb1 : S1.box kb = (gk, some (sz, [.agg cells']))) (hks : ∀ k, memK k ks = true→S1.box k = ((S.box k).1 + 1, none)) (hother : ∀ k, ¬ memK k ks = true→k ≠ kb→S1.box k = S.box k) :
    Rel N base w0 S1 (C.melt ks) a w:=by
  have hle:=melt_le hR ks
  have hkb2 : (S.box kb).2 = some (sz, [.agg cells]):=by rw [hb]
  exact {
    cw:=hR.cw, glob:=(by first|exact hR.glob|exact hR.globOf (by first|exact hle.le0|exact hle|exact hle0|exact hCle.le0) (by first|rfl|exact h1.cw|(rw [hC'];first|done|exact hR.cw)|exact hR.cw)), size:=hR.size, defers:=hR.defers.le hle
    slot:=fun i hi=>by rw [hslot];exact (hR.slot i hi).le hle
    gb:=fun k=>by
      simp only [Ctx.melt]
      split
      · rename_i hm;rw [hks k hm, hR.gb]
      · rename_i hm
        by_cases e : k = kb
        · subst e;rw [hkb1, hR.gb, hb]
        · rw [hother k (by simp [hm]) e, hR.gb]
    gt:=fun k=>by rw [htk];exact hR.gt k
    hw:=fun k=>by rw [htk];exact hR.hw k
    box:=fun k sz' es' h=>by
      by_cases hm : memK k ks = true
      · rw [hks k hm] at h;cases h
      · by_cases e : k = kb
        · subst e
          rw [hkb1] at h
          simp only [Option.some.injEq, Prod.mk.injEq] at h
          obtain ⟨rfl, rfl⟩:=h
          have hB:=hR.box k sz _ hkb2
          have hwid : cells.length = sz:=hB.wid h0 0 _ rfl
          refine ⟨fun _ i e he=>?_, fun h=>absurd h h0, fun _ _=>?_⟩
          · cases i with
            | zero=>simp at he;subst he;simpa [AV.cells, hl] using hwid
            | succ i=>simp at he
          · obtain ⟨ho, arr, et, ha, hsz, hcell⟩:=hB.own h0 (by simp)
            refine ⟨by rw [show (C.melt ks).jb k = C.jb k from rfl, melt_own_ne (fun k' hk'=>by rw [ho] at hk';cases hk';exact hm)];exact ho, arr, et, ha, by simpa using hsz, fun i e c x' he hx'=>?_⟩
            cases i with
            | succ i=>simp at he
            | zero =>
              simp at he;subst he
              simp only [AV.cells] at hx'
              have hclt : c < cells.length:=by rw [← hl];exact (List.getElem?_eq_some_iff.1 hx').1
              obtain ⟨y, h1, h2, h3⟩:=hcell 0 _ c cells[c] rfl (by simp [AV.cells, hclt])
              exact ⟨y, h1, hc c _ _ y (by simp [hclt]) hx' h2, h3⟩
        · rw [hother k hm e] at h
          refine (hR.box k sz' es' h).mono hle rfl (fun ho=>melt_own_ne (fun k' hk'=>by rw [ho] at hk';cases hk';exact hm)) (fun _=>rfl)
    ownBox:=fun b k h i hi=>by
      obtain ⟨h1, h2⟩:=melt_own_some h
      rcases hi with hi|⟨k', hm, h3⟩
      · exact hR.ownBox b k h1 i hi
      · rw [h1] at h3;cases h3;exact h2 k rfl hm
    immLt:=fun b i h=>by
      rcases h with h|⟨k, _, h2⟩
      · exact hR.immLt b i h
      · exact (hR.ownLt b _ h2).2
    ownLt:=fun b o h=>hR.ownLt b o (melt_own_some h).1
    below:=hR.below
    base:=hR.base }
end
def stonesB (used : List Key) : List AV→(List AV→List Wr→RB)→RB
  | [], k=>k [] []
  | x :: xs, k=>match x with
    | .own key g sz n _=>.box key fun g' sz' es=>.ok (!memK key used) (.ok (Nat.beq g' g) (.ok (Nat.beq sz' sz) (.ok (Nat.ble 1 sz) (needB (n ≤ es.length) (.optL (pureEs (es.take n)) fun l=>stonesB (key :: used) xs fun cs ws=>k (.slice sz l .no :: cs) (.box key (g' + 1, none) :: ws))))))
    | x=>stonesB used xs fun cs ws=>k (x :: cs) ws
def stoneB (kb : Key) : RB :=
  .box kb fun g sz es=>.ok (Nat.ble 1 sz) (match es with
    | [.agg cells]=>stonesB [kb] cells fun cs ws=>.done (.box kb (g, some (sz, [.agg cs])) :: ws)
    | _=>.fail)
def stoneO (d : Nat) (key : Key) (g sz n : Nat) : RB :=
  .box key fun g' sz' es=>.ok (Nat.beq g' g) (.ok (Nat.beq sz' sz) (.ok (Nat.ble 1 sz) (needB (n ≤ es.length) (.optL (pureEs (es.take n)) fun l=>.done [.slot d (.slice sz l .no), .box key (g' + 1, none)]))))
def stoneD (d : Nat) : RB :=
  .slot d fun x=>match x with
    | .ptr kb _ _ _ _=>stoneB kb
    | .own key g sz n _=>stoneO d key g sz n
    | _=>.fail
structure Stone (S : St) (cells : List AV) (used ks : List Key) (cs : List AV) (ws : List Wr) : Prop where
  len : cs.length = cells.length
  ws : ws = ks.map fun k=>.box k ((S.box k).1 + 1, none)
  new : ∀ k ∈ ks, ¬ memK k used = true
  fits : ∀ {N : Nat} {base : Nat→Prop} {w0 : World} {C : Ctx} {a : Act} {w : World}, Rel N base w0 S C a w→∀ kk : List Key, (∀ k ∈ ks, memK k kk = true) →
    ∀ (i : Nat) (x x' : AV) (y : Value), cells[i]? = some x→cs[i]? = some x'→KRel C x y→KRel (C.melt kk) x' y
theorem stonesB_spec {P : Program} {S : St} : ∀ (cells : List AV) (used : List Key) {k : List AV→List Wr→RB} {K : List Wr→Prop}, (stonesB used cells k).rm.wp0 P S K→∃ ks cs ws, Stone S cells used ks cs ws∧(k cs ws).rm.wp0 P S K
  | [], used, k, K, h=>⟨[], [], [], ⟨rfl, rfl, by simp, fun _ _ _ i x x' y hx=>by simp at hx⟩, h⟩
  | x :: xs, used, k, K, h=>by
    have other : (stonesB used xs fun cs ws=>k (x :: cs) ws).rm.wp0 P S K→∃ ks cs ws, Stone S (x :: xs) used ks cs ws∧(k cs ws).rm.wp0 P S K:=by
      intro h
      obtain ⟨ks, cs, ws, hs, h⟩:=stonesB_spec xs used h
      refine ⟨ks, x :: cs, ws, ⟨by simp [hs.len], hs.ws, hs.new, fun hR kk hk i x1 x1' y hx hx' hv=>?_⟩, h⟩
      cases i with
      | zero=>simp at hx hx';subst hx hx';exact hv.le (melt_le hR kk)
      | succ i=>exact hs.fits hR kk hk i x1 x1' y (by simpa using hx) (by simpa using hx') hv
    cases x with
    | own key g0 sz n cap =>
      simp only [stonesB, RB.rm, RM.wp0, needB] at h
      split at h
      · rename_i d hbx
        obtain ⟨sz', es⟩:=d
        simp only at h
        obtain ⟨hu, hg, hz, h0, hn, h⟩:=h
        obtain ⟨l, hl, h⟩:=optLB_wp0 h
        have hz : sz' = sz:=Nat.eq_of_beq_eq_true hz
        subst hz
        have hg : (S.box key).1 = g0:=Nat.eq_of_beq_eq_true hg
        have h0 : sz' ≠ 0:=by have:=Nat.le_of_ble_eq_true h0;omega
        have hu : ¬ memK key used = true:=by simpa using hu
        obtain ⟨ks, cs, ws, hs, h⟩:=stonesB_spec xs (key :: used) h
        have hbox : S.box key = (g0, some (sz', es)):=by rw [← hbx, ← hg]
        refine ⟨key :: ks, .slice sz' l .no :: cs, .box key ((S.box key).1 + 1, none) :: ws, ⟨by simp [hs.len], by rw [hs.ws];rfl, fun k hk=>?_, fun hR kk hk i x1 x1' y hx hx' hv=>?_⟩, h⟩
        · rcases List.mem_cons.1 hk with rfl|hk
          · exact hu
          · intro hm
            exact hs.new k hk (memK_true.2 (List.mem_cons_of_mem _ (memK_true.1 hm)))
        · cases i with
          | zero =>
            simp at hx hx';subst hx hx'
            exact .pure (melt_slice hR (hk key (List.mem_cons_self ..)) hbox h0 hn hl hv)
          | succ i=>exact hs.fits hR kk (fun k hk'=>hk k (List.mem_cons_of_mem _ hk')) i x1 x1' y (by simpa using hx) (by simpa using hx') hv
      · exact h.elim
    | _=>exact other h
theorem puts_stones (S0 : St) : ∀ (ks : List Key) (S : St), (S.puts (ks.map fun k=>Wr.box k ((S0.box k).1 + 1, none))).slot = S.slot∧(S.puts (ks.map fun k=>Wr.box k ((S0.box k).1 + 1, none))).tk = S.tk ∧
    (∀ k, k ∈ ks→(S.puts (ks.map fun k=>Wr.box k ((S0.box k).1 + 1, none))).box k = ((S0.box k).1 + 1, none))∧∀ k, ¬ k ∈ ks→(S.puts (ks.map fun k=>Wr.box k ((S0.box k).1 + 1, none))).box k = S.box k
  | [], S=>⟨rfl, rfl, fun k h=>by simp at h, fun _ _=>rfl⟩
  | x :: ks, S=>by
    obtain ⟨h1, h2, h3, h4⟩:=puts_stones S0 ks (S.put (.box x ((S0.box x).1 + 1, none)))
    refine ⟨h1, h2, fun k hk=>?_, fun k hk=>?_⟩
    · by_cases hm : k ∈ ks
      · exact h3 k hm
      · have e : k = x:=by
          rcases List.mem_cons.1 hk with e|h
          · exact e
          · exact absurd h hm
        subst e
        exact (h4 k hm).trans (by simp [St.put, upd])
    · have hm : ¬ k ∈ ks:=fun h=>hk (List.mem_cons_of_mem _ h)
      have hne : k ≠ x:=fun e=>hk (by rw [e];exact List.mem_cons_self ..)
      exact (h4 k hm).trans (by simp [St.put, upd, hne])
theorem stoneB_turns {P : Program} {S : St} {kb : Key} {K : List Wr→Prop} (h : (stoneB kb).rm.wp0 P S K) : ∃ ws, K ws∧Turns S (S.puts ws):=by
  simp only [stoneB, RB.rm, RM.wp0] at h
  split at h
  · rename_i d hbx
    obtain ⟨sz, es⟩:=d
    simp only at h
    obtain ⟨h0, h⟩:=h
    have h0 : sz ≠ 0:=by have:=Nat.le_of_ble_eq_true h0;omega
    split at h
    · rename_i cells
      obtain ⟨ks, cs, ws, hs, h⟩:=stonesB_spec cells [kb] h
      have hK : K (.box kb ((S.box kb).1, some (sz, [.agg cs])) :: ws):=h
      refine ⟨_, hK, fun N base w0 C a w hR=>⟨C.melt ks, melt_le hR ks, ?_⟩⟩
      have hbox : S.box kb = ((S.box kb).1, some (sz, [.agg cells])):=by rw [← hbx]
      have hkb : ¬ kb ∈ ks:=fun hm=>hs.new kb hm (memK_true.2 (List.mem_singleton.2 rfl))
      rw [hs.ws]
      obtain ⟨p1, p2, p3, p4⟩:=puts_stones S ks (S.put (.box kb ((S.box kb).1, some (sz, [.agg cs]))))
      refine melt_rel hR ks (kb:=kb) (cells':=cs) hbox h0 (fun hm=>hkb (memK_true.1 hm)) hs.len (fun i x x' y h1 h2 h3=>hs.fits hR ks (fun k hk=>memK_true.2 hk) i x x' y h1 h2 h3) p1 p2 ?_ (fun k hk=>p3 k (memK_true.1 hk)) (fun k hk hne=>?_)
      · exact (p4 kb hkb).trans (by simp [St.put, upd])
      · exact (p4 k (fun hm=>hk (memK_true.2 hm))).trans (by simp [St.put, upd, hne])
    · exact h.elim
  · exact h.elim
theorem stoneO_turns {P : Program} {S : St} {d : Nat} {key : Key} {g sz n cap : Nat} {K : List Wr→Prop} (hd : S.slot d = .own key g sz n cap) (h : (stoneO d key g sz n).rm.wp0 P S K) : ∃ ws, K ws∧Turns S (S.puts ws):=by
  simp only [stoneO, RB.rm, RM.wp0, needB] at h
  split at h
  · rename_i q hbx
    obtain ⟨sz', es⟩:=q
    simp only at h
    obtain ⟨hg, hz, h0, hn, h⟩:=h
    obtain ⟨l, hl, h⟩:=optLB_wp0 h
    have hz : sz' = sz:=Nat.eq_of_beq_eq_true hz
    subst hz
    have hg : (S.box key).1 = g:=Nat.eq_of_beq_eq_true hg
    have h0 : sz' ≠ 0:=by have:=Nat.le_of_ble_eq_true h0;omega
    have hbox : S.box key = (g, some (sz', es)):=by rw [← hbx, ← hg]
    have hK : K [.slot d (.slice sz' l .no), .box key ((S.box key).1 + 1, none)]:=h
    refine ⟨_, hK, fun N base w0 C a w hR=>⟨C.melt [key], melt_le hR [key], ?_⟩⟩
    have hle:=melt_le hR [key]
    have hm : memK key [key] = true:=memK_true.2 (List.mem_singleton.2 rfl)
    have hmn : ∀ k, memK k [key] = true→k = key:=fun k hk=>List.mem_singleton.1 (memK_true.1 hk)
    exact {
      cw:=hR.cw, glob:=hR.globOf hle.le0 hR.cw, size:=hR.size, defers:=hR.defers.le hle
      slot:=fun i hi=>by
        simp only [St.puts, St.put]
        by_cases e : i = d
        · subst e
          rw [upd_same]
          have hv:=hR.slot i hi
          rw [hd] at hv
          exact .pure (melt_slice hR hm hbox h0 hn hl hv)
        · rw [upd_ne _ _ e];exact (hR.slot i hi).le hle
      gb:=fun k=>by
        simp only [Ctx.melt, St.puts, St.put]
        split
        · rename_i hk
          rw [hmn k hk, upd_same, hR.gb]
        · rename_i hk
          rw [upd_ne _ _ (fun e=>by rw [e, hm] at hk;cases hk), hR.gb]
      gt:=fun k=>hR.gt k
      hw:=fun k=>hR.hw k
      box:=fun k sz1 es1 h1=>by
        by_cases e : k = key
        · subst e
          simp only [St.puts, St.put, upd_same] at h1
          cases h1
        · simp only [St.puts, St.put, upd_ne _ _ e] at h1
          exact (hR.box k sz1 es1 h1).mono hle rfl (fun ho=>melt_own_ne (fun k' hk'=>by rw [ho] at hk';cases hk';exact fun hk=>e (hmn k hk))) (fun _=>rfl)
      ownBox:=fun b k h i hi=>by
        obtain ⟨h1, h2⟩:=melt_own_some h
        rcases hi with hi|⟨k', hk', h3⟩
        · exact hR.ownBox b k h1 i hi
        · rw [h1] at h3;cases h3;exact h2 k rfl hk'
      immLt:=fun b i h=>by
        rcases h with h|⟨k, _, h2⟩
        · exact hR.immLt b i h
        · exact (hR.ownLt b _ h2).2
      ownLt:=fun b o h=>hR.ownLt b o (melt_own_some h).1
      below:=hR.below
      base:=hR.base }
  · exact h.elim
theorem stoneD_turns {P : Program} {S : St} {d : Nat} {K : List Wr→Prop} (h : (stoneD d).rm.wp0 P S K) : ∃ ws, K ws∧Turns S (S.puts ws):=by
  simp only [stoneD, RB.rm, RM.wp0] at h
  split at h
  · exact stoneB_turns h
  · rename_i hd
    exact stoneO_turns hd h
  · exact h.elim
end Go.Am
namespace Go.Am
open Go.RowKit
def noGotoA (Q : Exit→St→Prop) : Exit→St→Prop
  | .goto _, _=>False
  | e, S=>Q e S
def regL (P : Program) (cx : Cx) (ops : Array Oper) : List Oper→St→(St→Prop)→Prop
  | [], S, K=>K S
  | o :: os, S, K=>stepW P cx ops o S fun _ ws=>regL P cx ops os (S.puts ws) K
def canL (P : Program) (cx : Cx) (ops : Array Oper) : List Oper→St→List (List Loc × List Loc)→(List (List Loc × List Loc)→St→Prop)→Prop
  | [], S, acc, K=>K acc S
  | o :: os, S, acc, K=>stepW P cx ops o S fun l ws=>canL P cx ops os (S.puts ws) (acc++[(l, ws.map Wr.loc)]) K
theorem regL_regW {P : Program} {cx : Cx} {ops : Array Oper} {K : St→Prop} : ∀ (os : List Oper) (k : Nat) {S : St}, os = ops.toList.drop k→regL P cx ops os S K→regW P cx ops (List.range' k os.length) S K
  | [], k, S, _, h=>h
  | o :: os, k, S, he, h=>by
    have ho : ops[k]? = some o:=by
      have:=congrArg (fun l=>l[0]?) he
      simpa [List.getElem?_drop] using this.symm
    simp only [List.length_cons, List.range'_succ, regW, ho]
    exact stepW_mono (fun l ws h'=>regL_regW os (k + 1) (by rw [← List.drop_drop, ← he];simp) h') h
theorem canL_canW {P : Program} {cx : Cx} {ops : Array Oper} {K : List (List Loc × List Loc)→St→Prop} : ∀ (os : List Oper) (k : Nat) {S : St} {acc : List (List Loc × List Loc)}, os = ops.toList.drop k →
    canL P cx ops os S acc K→canW P cx ops (List.range' k os.length) S acc K
  | [], k, S, _, _, h=>h
  | o :: os, k, S, _, he, h=>by
    have ho : ops[k]? = some o:=by
      have:=congrArg (fun l=>l[0]?) he
      simpa [List.getElem?_drop] using this.symm
    simp only [List.length_cons, List.range'_succ, canW, ho]
    exact stepW_mono (fun l ws h'=>canL_canW os (k + 1) (by rw [← List.drop_drop, ← he];simp) h') h
def codeW (P : Program) (cx : Cx) (N : Nat) : Code→(Exit→St→Prop)→St→Prop
  | .skip, Q, S=>Q .normal S
  | .region _ ops d, Q, S=>∃ S1, Turns S S1∧(if d then canL P cx ops ops.toList S1 [] fun infos S'=>okDraw ops infos = true∧Q .normal S' else regL P cx ops ops.toList S1 (Q .normal))
  | .seq x y, Q, S=>codeW P cx N x (thenA (codeW P cx N y Q) Q) S
  | .cond c x y, Q, S=>∃ t, S.val c = .v (.bool t)∧(t = true→codeW P cx N x Q S)∧(t = false→codeW P cx N y Q S)
  | .block i c, Q, S=>codeW P cx N c (blockA i Q) S
  | .loop c, Q, S=>WpA cx.rd P N (.loop c) Q S
  | .rangeFunc g ps as bo, Q, S=>cx.rd = false∧RangeW P N (cx.loopKey ps) g ps as bo Q S
  | .exit i, Q, S=>Q (.exit i) S
  | .scope c, Q, S=>codeW P cx N c (noGotoA Q) S
  | .label _, Q, S=>Q .normal S
  | .goto _, _, _=>False
  | .ret, Q, S=>Q .ret S
  | .refuse _, _, _=>False
def codeIn (N : Nat) : Code→Bool
  | .region _ ops _=>opsIn N ops
  | .seq x y=>codeIn N x && codeIn N y
  | .cond c x y=>inN N c && codeIn N x && codeIn N y
  | .block _ c|.loop c|.scope c=>codeIn N c
  | .rangeFunc g _ _ _=>inN N g
  | .goto _|.refuse _=>false
  | _=>true
theorem codeW_sound {P : Program} (cx : Cx) {N : Nat} (hm : P.follows .mixedOrders = true) : ∀ (c : Code) {Q : Exit→St→Prop} {S : St}, codeIn N c = true→codeW P cx N c Q S→WpA cx.rd P N c Q S
  | .skip, _, _, _, h=>WpA_skip h
  | .region _ ops d, Q, S0, hin, h=>by
    have hin : opsIn N ops = true:=hin
    obtain ⟨S, ht, h⟩:=h
    refine WpA_turn ht ?_
    cases d with
    | false =>
      refine WpA_region cx hin ?_
      have:=regL_regW ops.toList 0 (by simp) h
      rwa [Array.length_toList, ← List.range_eq_range'] at this
    | true =>
      intro lo hlo base w0 C a w hR
      have h : regD P cx ops S (Q .normal):=by
        have:=canL_canW (P:=P) (cx:=cx) (K:=fun infos S'=>okDraw ops infos = true∧Q .normal S') (acc:=[]) ops.toList 0 (by simp) h
        rwa [Array.length_toList, ← List.range_eq_range'] at this
      obtain ⟨hle, hR'⟩:=hR.world (w':={ w with drawn:=w.drawn + 1 }) rfl rfl rfl rfl
      exact wpIn_region_any hm (regD_sound hin hR' (fun S' C' a' w' h1 h2 h3=>⟨S', C', h1, hle.trans h2, h3⟩) h)
  | .seq x y, Q, S, hin, h=>WpA_seq ((codeW_sound cx hm x (by simp only [codeIn, Bool.and_eq_true] at hin;exact hin.1) h).mono fun e S' h'=>by
      cases e with
      | normal=>exact codeW_sound cx hm y (by simp only [codeIn, Bool.and_eq_true] at hin;exact hin.2) h'
      | _=>exact h')
  | .cond c x y, Q, S, hin, h=>by
    obtain ⟨t, ht, h1, h2⟩:=h
    simp only [codeIn, Bool.and_eq_true] at hin
    refine WpA_cond hin.1.1 ht ?_
    cases t with
    | true=>exact codeW_sound cx hm x hin.1.2 (h1 rfl)
    | false=>exact codeW_sound cx hm y hin.2 (h2 rfl)
  | .block i c, _, _, hin, h=>WpA_block (codeW_sound cx hm c hin h)
  | .loop c, _, _, _, h=>h
  | .rangeFunc g ps as bo, _, _, hin, h=>by
    obtain ⟨hrd, h⟩:=h
    rw [hrd]
    exact WpA_rangeFunc hin h
  | .exit i, _, _, _, h=>WpA_exit h
  | .scope c, Q, S, hin, h=>WpA_scope ((codeW_sound cx hm c hin h).mono fun e S' h'=>by cases e<;>exact h')
  | .label _, _, _, _, h=>WpA_label h
  | .goto _, _, _, _, h=>h.elim
  | .ret, _, _, _, h=>WpA_ret h
  | .refuse _, _, _, _, h=>h.elim
theorem pureA_code {P : Program} (cx : Cx) (hm : P.follows .mixedOrders = true) {f : FuncId} {fn : Func} {c : Code} {args : List AV} {res : AV} {N : Nat} (hc : Callable P f) (hf : P.funcs[f]? = some fn) (hb : fn.body = some c) (hN : fn.ntmps = N)
    (hst : (decide (args.length ≤ N) && fn.results.toList.all (resIn N)) = true) (hin : codeIn N c = true)
    (h : codeW P cx N c (fun e S'=>(e = .normal∨e = .ret)∧ResA P fn S' res) (start args)) (hrd : cx.rd = false:=by rfl) : PureA P f args res:=by
  subst hN
  have:=codeW_sound cx hm c hin h
  rw [hrd] at this
  exact pureA_of hc hf hb hst this
theorem loop_code {P : Program} (cx : Cx) {N : Nat} (hm : P.follows .mixedOrders = true) {c : Code} {Q : Exit→St→Prop} {S : St} (I : Nat→St→Prop) (n₀ : Nat) (hin : codeIn N c = true) (h₀ : I n₀ S)
    (round : ∀ n S, I n S→codeW P cx N c (thenA (fun S'=>∃ n', n' < n∧I n' S') Q) S) : WpA cx.rd P N (.loop c) Q S :=
  WpA_loop I n₀ h₀ fun n S hI=>codeW_sound cx hm c hin (round n S hI)
theorem str_beq (s s' : ByteArray) : (s.toList == s'.toList) = decide (s = s'):=by
  rw [ByteArray.toList_eq, ByteArray.toList_eq]
  by_cases h : s = s'
  · simp [h]
  · have : ¬ s.data = s'.data:=fun e=>h (by cases s;cases s';simp only at e;rw [e])
    simp [h, this]
section
variable {P : Program} {S : St} {K : List Loc→List Wr→Prop}
theorem wp_sem_eq {s : Sem Value} {r : Value} {k : Value→RM} (h : ∀ w, s.run P w = .ok r w) : (RM.sem s k).wp P S K = (k r).wp P S K:=by
  refine propext ⟨fun ⟨r', h', hk⟩=>?_, fun hk=>⟨r, h, hk⟩⟩
  have:=h' default
  rw [h default] at this
  cases this;exact hk
variable {t t' : TypeId} {x y : Operand} {k : IntKind} {a b : Int}
@[simp] theorem wp_lss {g : Value→RM} : (RM.sem (binS .lss t x y (.int k a) (.int k b)) g).wp P S K = (g (.bool (decide (a < b)))).wp P S K :=
  wp_sem_eq fun w=>by simp [binS, eqGuard, binOp, Op.intCmp]
@[simp] theorem wp_leq {g : Value→RM} : (RM.sem (binS .leq t x y (.int k a) (.int k b)) g).wp P S K = (g (.bool (decide (a ≤ b)))).wp P S K :=
  wp_sem_eq fun w=>by simp [binS, eqGuard, binOp, Op.intCmp]
@[simp] theorem wp_gtr {g : Value→RM} : (RM.sem (binS .gtr t x y (.int k a) (.int k b)) g).wp P S K = (g (.bool (decide (b < a)))).wp P S K :=
  wp_sem_eq fun w=>by simp [binS, eqGuard, binOp, Op.intCmp]
@[simp] theorem wp_geq {g : Value→RM} : (RM.sem (binS .geq t x y (.int k a) (.int k b)) g).wp P S K = (g (.bool (decide (b ≤ a)))).wp P S K :=
  wp_sem_eq fun w=>by simp [binS, eqGuard, binOp, Op.intCmp]
@[simp] theorem wp_eql {g : Value→RM} : (RM.sem (binS .eql t x y (.int k a) (.int k b)) g).wp P S K = (g (.bool (decide (a = b)))).wp P S K :=
  wp_sem_eq fun w=>by simp [binS, eqGuard, binOp, Op.intCmp];rfl
@[simp] theorem wp_neq {g : Value→RM} : (RM.sem (binS .neq t x y (.int k a) (.int k b)) g).wp P S K = (g (.bool (!decide (a = b)))).wp P S K :=
  wp_sem_eq fun w=>by simp [binS, eqGuard, binOp, Op.intCmp];rfl
@[simp] theorem wp_not {g : Value→RM} {p : Bool} : (RM.sem (Op.unary .not (.bool p)) g).wp P S K = (g (.bool (!p))).wp P S K :=
  wp_sem_eq fun w=>by simp [Op.unary]
@[simp] theorem wp_seql {g : Value→RM} {s s' : ByteArray} : (RM.sem (binS .eql t x y (.string s) (.string s')) g).wp P S K = (g (.bool (decide (s = s')))).wp P S K :=
  wp_sem_eq fun w=>by simp [binS, eqGuard, binOp, Op.stringOp, str_beq]
@[simp] theorem wp_sneq {g : Value→RM} {s s' : ByteArray} : (RM.sem (binS .neq t x y (.string s) (.string s')) g).wp P S K = (g (.bool (!decide (s = s')))).wp P S K :=
  wp_sem_eq fun w=>by simp [binS, eqGuard, binOp, Op.stringOp, str_beq]
end
theorem upd_apply {ι α : Type} [DecidableEq ι] (f : ι→α) (i : ι) (x : α) (j : ι) : upd f i x j = if j = i then x else f j:=rfl
@[simp] theorem start_slot (args : List AV) (i : Nat) : (start args).slot i = args.getD i (.v undef):=rfl
@[simp] theorem start_box (args : List AV) (k : Key) : (start args).box k = (0, none):=rfl
@[simp] theorem start_tk (args : List AV) (k : Key) : (start args).tk k = (0, 0):=rfl
attribute [simp] codeW regL canL stepW opA opBox opAlloc opLoad opLoadK opStore opNil opBin opUn opConv opField opIndexAddr opExtract opBuild opBuildSlice opMakeFunc opLen opAppend opCall opSliceExpr
  val vals retA putA asV asPure readC putC RM.wp RM.wp0 St.puts St.put St.val thenA blockA noGotoA toVal toVal1 toVals toPure pure1 pures topures fillA sizes AV.cells AV.storable AV.ok1 Cx.key upd_apply
  resRM frz oneOf ofValue ofCell snap snaps snap1 snaps1 pureE pureEs Wr.loc
end Go.Am
namespace Go.Am
open Go.RowKit
inductive BT (α : Type) where
  | lf
  | nd (k : Nat) (v : α) (l r : BT α)
def BT.get {α : Type} : BT α→Nat→Option α
  | .lf, _=>none
  | .nd k v l r, i=>match Nat.beq i k with
    | true=>some v
    | false=>match Nat.ble i k with
      | true=>l.get i
      | false=>r.get i
def BT.All {α : Type} (p : Nat→α→Prop) : BT α→Prop
  | .lf=>True
  | .nd k v l r=>p k v∧l.All p∧r.All p
theorem BT.All.get {α : Type} {p : Nat→α→Prop} : ∀ {t : BT α} {i : Nat} {v : α}, t.All p→t.get i = some v→p i v
  | .lf, _, _, _, h=>by simp [BT.get] at h
  | .nd k x l r, i, v, ha, h=>by
    simp only [BT.get] at h
    split at h
    · rename_i e
      have:=Nat.eq_of_beq_eq_true e
      simp at h;subst h this;exact ha.1
    · split at h
      · exact ha.2.1.get h
      · exact ha.2.2.get h
inductive UK where
  | int (k : IntKind)
  | str
  | map
structure Tab where
  var : BT (Bool × Nat)
  slice : BT (Nat × Nat × Nat)
  array : BT (Nat × Nat)
  zero : BT (Nat × AV)
  field : BT (List (Option Nat))
  places : BT (List (Nat × Nat))
  placesN : BT Nat
  map : BT (KK × AV)
  eq : BT (List CK)
  und : BT UK
  fieldV : BT (List (Option (Bool × Nat × Nat)))
  indexV : BT (Bool × Nat × Nat)
def nth {α : Type} : List α→Nat→Option α
  | [], _=>none
  | x :: _, 0=>some x
  | _ :: l, n + 1=>nth l n
theorem nth_eq {α : Type} : ∀ (l : List α) (i : Nat), nth l i = l[i]?
  | [], _=>by simp [nth]
  | x :: _, 0=>by simp [nth]
  | _ :: l, n + 1=>by simp [nth, nth_eq l n]
structure Tab.Ok (T : Tab) (P : Program) : Prop where
  var : T.var.All fun t x=>tyVar P t = some x
  slice : T.slice.All fun t x=>tySlice P t = some x
  array : T.array.All fun t x=>tyArray P t = some x
  zero : T.zero.All fun t x=>zeroA P t = some x
  field : T.field.All fun t l=>∀ f o, nth l f = some (some o)→fieldA P t f = some o
  places : T.places.All fun t l=>placesA P t = some fun i=>l[i]?
  placesN : T.placesN.All fun t n=>placesA P t = some fun i=>some (i * n, n)
  map : T.map.All fun t p=>MapTy P t p
  eq : T.eq.All fun t cs=>(∃ n, n ≤ 10000∧eqTy P n t = some cs)∧isAggTy P t = true∧P.eqGuardType P.depth t = false
  und : T.und.All fun t u=>match u with
    | .int k=>P.underlying t = some (.int k)
    | .str=>P.underlying t = some .string
    | .map=>∃ a b, P.underlying t = some (.map a b)
  fieldV : T.fieldV.All fun t l=>∀ f q, nth l f = some (some q)→partF P t f = some q
  indexV : T.indexV.All fun t q=>partI P t = some q∧∃ len e, P.underlying t = some (.array len e)
structure SS where
  slots : List (Nat × AV):=[]
  boxes : List (Key × Option BoxS):=[]
  toks : List (Key × Option (Nat × Nat)):=[]
def lookS : List (Nat × AV)→Nat→Option AV
  | [], _=>none
  | (j, v) :: l, i=>match Nat.beq i j with
    | true=>some v
    | false=>lookS l i
def lookK {α : Type} : List (Key × Option α)→Key→Option (Option α)
  | [], _=>none
  | (j, v) :: l, i=>match Key.beq i j with
    | true=>some v
    | false=>lookK l i
structure Knows (ss : SS) (S : St) : Prop where
  slot : ∀ i v, lookS ss.slots i = some v→S.slot i = v
  box : ∀ k, match lookK ss.boxes k with
    | some (some c)=>S.box k = c
    | some none=>True
    | none=>S.box k = (0, none)
  tk : ∀ k, match lookK ss.toks k with
    | some (some c)=>S.tk k = c
    | some none=>True
    | none=>S.tk k = (0, 0)
def SS.put (ss : SS) : Wr→SS
  | .slot i v=>{ ss with slots:=(i, v) :: ss.slots }
  | .box k c=>{ ss with boxes:=(k, some c) :: ss.boxes }
  | .tk k c=>{ ss with toks:=(k, some c) :: ss.toks }
def SS.puts (ss : SS) : List Wr→SS
  | []=>ss
  | x :: xs=>(ss.put x).puts xs
theorem Knows.put {ss : SS} {S : St} (h : Knows ss S) (x : Wr) : Knows (ss.put x) (S.put x):=by
  cases x with
  | slot i v =>
    refine ⟨fun j u hu=>?_, h.box, h.tk⟩
    simp only [SS.put, lookS] at hu
    simp only [St.put, upd]
    split at hu
    · rename_i e
      rw [if_pos (Nat.eq_of_beq_eq_true e)];simpa using hu
    · rename_i e
      rw [if_neg (fun e'=>by rw [e', Nat.beq_refl] at e;simp at e)];exact h.slot j u hu
  | box k c =>
    refine ⟨h.slot, fun j=>?_, h.tk⟩
    simp only [SS.put, lookK, St.put, upd]
    by_cases e : j = k
    · rw [Key.beq_eq.2 e, if_pos e]
    · have : j.beq k = false:=by
        cases hb : j.beq k with
        | true=>exact absurd (Key.beq_eq.1 hb) e
        | false=>rfl
      rw [this, if_neg e];exact h.box j
  | tk k c =>
    refine ⟨h.slot, h.box, fun j=>?_⟩
    simp only [SS.put, lookK, St.put, upd]
    by_cases e : j = k
    · rw [Key.beq_eq.2 e, if_pos e]
    · have : j.beq k = false:=by
        cases hb : j.beq k with
        | true=>exact absurd (Key.beq_eq.1 hb) e
        | false=>rfl
      rw [this, if_neg e];exact h.tk j
theorem Knows.puts : ∀ (ws : List Wr) {ss : SS} {S : St}, Knows ss S→Knows (ss.puts ws) (S.puts ws)
  | [], _, _, h=>h
  | x :: xs, _, _, h=>Knows.puts xs (h.put x)
def okP (b : Bool) (K : Prop) : Prop:=match b with
  | true=>K
  | false=>False
theorem okP_intro {b : Bool} {K : Prop} (h : b = true) (k : K) : okP b K:=by subst h;exact k
theorem okP_elim {b : Bool} {K : Prop} (h : okP b K) : b = true∧K:=by
  cases b with
  | true=>exact ⟨rfl, h⟩
  | false=>exact h.elim
def brP (b : Bool) (A B : Prop) : Prop:=match b with
  | true=>A
  | false=>B
theorem brP_intro {b : Bool} {A B : Prop} (h : b = true→A) (k : b = false→B) : brP b A B:=by cases b<;>simp_all [brP]
theorem brP_dec {p : Prop} [Decidable p] {A B : Prop} (h : p→A) (k : ¬p→B) : brP (decide p) A B:=by
  by_cases hp : p
  · simp [brP, hp, h hp]
  · simp [brP, hp, k hp]
theorem brP_not {b : Bool} {A B : Prop} (h : brP b B A) : brP (!b) A B:=by cases b<;>exact h
theorem brP_ndec {p : Prop} [Decidable p] {A B : Prop} (h : p→B) (k : ¬p→A) : brP (!decide p) A B:=brP_not (brP_dec h k)
theorem brP_true {b : Bool} {A B : Prop} (hb : b = true) (h : A) : brP b A B:=by subst hb;exact h
theorem brP_false {b : Bool} {A B : Prop} (hb : b = false) (h : B) : brP b A B:=by subst hb;exact h
def optP {α : Type} (o : Option α) (K : α→Prop) : Prop:=match o with
  | some x=>K x
  | none=>False
theorem optP_intro {α : Type} {o : Option α} {x : α} {K : α→Prop} (h : o = some x) (k : K x) : optP o K:=by subst h;exact k
theorem optP_elim {α : Type} {o : Option α} {K : α→Prop} (h : optP o K) : ∃ x, o = some x∧K x:=by
  cases o with
  | some x=>exact ⟨x, rfl, h⟩
  | none=>exact h.elim
def genP (o : Option (Option BoxS)) (K : Nat→Prop) : Prop:=match o with
  | some (some c)=>K c.1
  | some none=>∀ g, K g
  | none=>K 0
def genT (o : Option (Option (Nat × Nat))) (K : Nat→Nat→Prop) : Prop:=match o with
  | some (some c)=>K c.1 c.2
  | some none=>∀ g h, K g h
  | none=>K 0 0
def forceL : List AV→(List AV→Prop)→Prop
  | [], K=>K []
  | x :: xs, K=>forceL xs fun ys=>K (x :: ys)
theorem forceL_eq : ∀ (l : List AV) (K : List AV→Prop), forceL l K = K l
  | [], _=>rfl
  | x :: xs, K=>forceL_eq xs _
def callP (P : Program) (f : FuncId) (args : List AV) (snap : Bool) (K : AV→Prop) : Prop:=∃ r, (if snap then PureF P f args r else PureA P f args r)∧K r
def keysP (K : List Key→Prop) : Prop:=∃ ks, K ks
def callxP (P : Program) (f : Tgt) (args : List AV) (pre : List BoxE) (K : AV→List BoxE→Prop) : Prop:=∃ r post, BoxA P f pre args r post∧K r post
def noneP {α : Type} (o : Option α) (K : Prop) : Prop:=match o with
  | none=>K
  | some _=>False
def findP (o : Option (Option (Nat × AV))) (A : Nat→AV→Prop) (B : Prop) : Prop:=match o with
  | some (some p)=>A p.1 p.2
  | some none=>B
  | none=>False
def RB.ev (P : Program) (ss : SS) : RB→(List Loc→List Wr→Prop)→Prop
  | .find o k k', K=>findP o (fun i v=>(k i v).ev P ss K) (k'.ev P ss K)
  | .keys k, K=>keysP fun ks=>(k ks).ev P ss K
  | .callx f args pre k, K=>callxP P f args pre fun r post=>(k r post).ev P ss K
  | .absent key k, K=>noneP (lookK ss.boxes key) (k.ev P ss fun l ws=>K (.box key :: l) ws)
  | .optL o k, K=>optP o fun l=>(k l).ev P ss K
  | .done ws, K=>K [] ws
  | .slot i k, K=>optP (lookS ss.slots i) fun v=>(k v).ev P ss fun l ws=>K (.slot i :: l) ws
  | .box key k, K=>optP (lookK ss.boxes key) fun c=>optP c fun c=>optP c.2 fun d=>(k c.1 d.1 d.2).ev P ss fun l ws=>K (.box key :: l) ws
  | .gen key k, K=>genP (lookK ss.boxes key) fun g=>(k g).ev P ss fun l ws=>K (.box key :: l) ws
  | .tk key k, K=>genT (lookK ss.toks key) fun g h=>(k g h).ev P ss fun l ws=>K (.tk key :: l) ws
  | .sem s k, K=>∃ r, (∀ w, s.run P w = .ok r w)∧(k r).ev P ss K
  | .call f args snap k, K=>callP P f args snap fun r=>(k r).ev P ss K
  | .need p _ k, K=>p∧k.ev P ss K
  | .ok b k, K=>okP b (k.ev P ss K)
  | .opt o k, K=>optP o fun e=>(k e).ev P ss K
  | .lst l k, K=>forceL l fun l'=>(k l').ev P ss K
  | .br b x y, K=>brP b (x.ev P ss K) (y.ev P ss K)
  | .fail, _=>False
theorem RB.ev_rm {P : Program} {ss : SS} {S : St} (hs : Knows ss S) (r : RB) : ∀ {K : List Loc→List Wr→Prop}, r.ev P ss K→r.rm.wp P S K:=by
  induction r with
  | find o k k' ih ih' =>
    intro K h
    simp only [RB.ev] at h
    unfold findP at h
    cases o with
    | none=>exact h.elim
    | some o =>
      cases o with
      | none=>exact ih' h
      | some p=>exact ih _ _ h
  | keys k ih=>exact fun ⟨ks, h⟩=>⟨ks, ih ks h⟩
  | callx f args pre k ih=>exact fun ⟨r, post, hr, h⟩=>⟨r, post, hr, ih r post h⟩
  | absent key k ih =>
    intro K h
    have:=hs.box key
    simp only [RB.ev] at h
    unfold noneP at h
    split at h
    · rename_i hc
      rw [hc] at this
      exact ⟨this, ih h⟩
    · exact h.elim
  | optL o k ih =>
    intro K h
    obtain ⟨e, rfl, h⟩:=optP_elim h
    exact ih e h
  | done ws=>exact fun h=>h
  | slot i k ih =>
    intro K h
    obtain ⟨v, hv, h⟩:=optP_elim h
    simp only [RB.rm, RM.wp, hs.slot i v hv]
    exact ih v h
  | box key k ih =>
    intro K h
    simp only [RB.ev] at h
    obtain ⟨c, hc, h1⟩:=optP_elim h
    obtain ⟨d, hd, h2⟩:=optP_elim h1
    obtain ⟨e, he, h3⟩:=optP_elim h2
    obtain ⟨g, o⟩:=d
    simp only at he
    subst hd he
    have:=hs.box key
    rw [hc] at this
    simp only at this
    simp only [RB.rm, RM.wp, this]
    exact ih _ _ _ h3
  | gen key k ih =>
    intro K h
    have:=hs.box key
    simp only [RB.ev] at h
    unfold genP at h
    simp only [RB.rm, RM.wp]
    split at h
    · rename_i c hc;rw [hc] at this;simp only at this;rw [this];exact ih _ h
    · exact ih _ (h _)
    · rename_i hc;rw [hc] at this;simp only at this;rw [this];exact ih _ h
  | tk key k ih =>
    intro K h
    have:=hs.tk key
    simp only [RB.ev] at h
    unfold genT at h
    simp only [RB.rm, RM.wp]
    split at h
    · rename_i c hc;rw [hc] at this;simp only at this;rw [this];exact ih _ _ h
    · exact ih _ _ (h _ _)
    · rename_i hc;rw [hc] at this;simp only at this;rw [this];exact ih _ _ h
  | sem s k ih=>exact fun ⟨r, hr, h⟩=>⟨r, hr, ih r h⟩
  | call f args snap k ih=>exact fun ⟨r, hr, h⟩=>⟨r, hr, ih r h⟩
  | need p d k ih=>exact fun ⟨hp, h⟩=>⟨hp, ih h⟩
  | ok b k ih=>exact fun h=>⟨(okP_elim h).1, ih (okP_elim h).2⟩
  | opt o k ih =>
    intro K h
    obtain ⟨e, rfl, h⟩:=optP_elim h
    exact ih e h
  | lst l k ih =>
    intro K h
    simp only [RB.ev, forceL_eq] at h
    exact ih l h
  | br b x y ih1 ih2 =>
    intro K h
    cases b with
    | true=>exact ih1 h
    | false=>exact ih2 h
  | fail=>exact fun h=>h.elim
end Go.Am
namespace Go.Am
open Go.RowKit
def RM.leq (P : Program) (a b : RM) : Prop:=∀ S K, a.wp P S K→b.wp P S K
section
variable {P : Program} {T : Tab}
theorem leq_refl (a : RM) : a.leq P a:=fun _ _ h=>h
theorem leq_fail (a : RM) : RM.fail.leq P a:=fun _ _ h=>h.elim
theorem leq_slot {i : Nat} {k k' : AV→RM} (h : ∀ v, (k v).leq P (k' v)) : (RM.slot i k).leq P (.slot i k'):=fun S _ hk=>h (S.slot i) _ _ hk
theorem leq_box {i : Key} {k k' : Nat × Option (Nat × List AV)→RM} (h : ∀ v, (k v).leq P (k' v)) : (RM.box i k).leq P (.box i k'):=fun S _ hk=>h (S.box i) _ _ hk
theorem leq_tk {i : Key} {k k' : Nat × Nat→RM} (h : ∀ v, (k v).leq P (k' v)) : (RM.tk i k).leq P (.tk i k'):=fun S _ hk=>h (S.tk i) _ _ hk
theorem leq_need {p : Prop} {a b : RM} (h : p→a.leq P b) : (RM.need p a).leq P b:=fun S K hk=>h hk.1 S K hk.2
theorem leq_needR {p : Prop} {a b : RM} (hp : p) (h : a.leq P b) : a.leq P (.need p b):=fun S K hk=>⟨hp, h S K hk⟩
theorem leq_sem {s : Sem Value} {r : Value} {a : RM} {k : Value→RM} (hs : ∀ w, s.run P w = .ok r w) (h : a.leq P (k r)) : a.leq P (.sem s k):=fun S K hk=>⟨r, hs, h S K hk⟩
theorem leq_semc {s : Sem Value} {k k' : Value→RM} (h : ∀ r, (k r).leq P (k' r)) : (RM.sem s k).leq P (.sem s k'):=fun S K ⟨r, hs, hk⟩=>⟨r, hs, h r S K hk⟩
theorem leq_call {f : FuncId} {args : List AV} {snap : Bool} {k k' : AV→RM} (h : ∀ r, (k r).leq P (k' r)) : (RM.call f args snap k).leq P (.call f args snap k'):=fun S K ⟨r, hs, hk⟩=>⟨r, hs, h r S K hk⟩
theorem leq_boxk {key : Key} {k : Nat→Nat→List AV→RB} {k' : Nat × Option (Nat × List AV)→RM} (h : ∀ g sz es, (k g sz es).rm.leq P (k' (g, some (sz, es)))) :
    (RB.box key k).rm.leq P (.box key k'):=by
  intro S K hk
  simp only [RB.rm, RM.wp] at hk ⊢
  cases hb : S.box key with
  | mk g o =>
    rw [hb] at hk
    cases o with
    | none=>exact hk.elim
    | some d=>exact h g d.1 d.2 S _ hk
theorem leq_opt {l : List AV} {i : Nat} {k : AV→RB} {b : RM} (h : ∀ x, l[i]? = some x→(k x).rm.leq P b) : (RB.opt (nth l i) k).rm.leq P b:=by
  rw [nth_eq]
  cases hx : l[i]? with
  | none=>exact fun S K hk=>hk.elim
  | some x=>exact h x hx
theorem pos_of_ble {n : Nat} (h : Nat.ble 1 n = true) : n ≠ 0:=by have:=Nat.le_of_ble_eq_true h;omega
theorem leq_genk {key : Key} {k : Nat→RB} {k' : Nat × Option (Nat × List AV)→RM} (h : ∀ c, (k c.1).rm.leq P (k' c)) :
    (RB.gen key k).rm.leq P (.box key k'):=leq_box h
theorem slotI_leq {x : Operand} {k : AV→RB} {k' : AV→RM} (h : ∀ v, (k v).rm.leq P (k' v)) : (slotI x k).rm.leq P (val x k'):=by
  cases x with
  | tmp t=>exact leq_slot h
  | _=>exact h _
theorem slotsI_leq : ∀ {xs : List Operand} {k : List AV→RB} {k' : List AV→RM}, (∀ v, (k v).rm.leq P (k' v))→(slotsI xs k).rm.leq P (vals xs k')
  | [], _, _, h=>h []
  | _ :: _, _, _, h=>slotI_leq fun a=>slotsI_leq fun l=>h (a :: l)
theorem asVB_leq {x : AV} {k : Value→RB} {k' : Value→RM} (h : ∀ v, (k v).rm.leq P (k' v)) : (asVB x k).rm.leq P (asV x k'):=by
  unfold asVB asV
  split
  · exact h _
  · simp only [toVal]
    split
    · rename_i l hl;rw [hl];exact h _
    · exact leq_fail _
  · exact leq_fail _
def readCB (agg : Bool) (cs : List AV) (off n : Nat) (k : AV→RB) : RB :=
  match agg with
  | true=>.ok (Nat.ble (off + n) cs.length) (.lst ((cs.drop off).take n) fun l=>k (.agg l))
  | false=>.opt (nth cs off) k
theorem readCB_leq {agg : Bool} {cs : List AV} {off n : Nat} {k : AV→RB} {k' : AV→RM} (h : ∀ v, (k v).rm.leq P (k' v)) : (readCB agg cs off n k).rm.leq P (readC agg cs off n k'):=by
  unfold readCB readC
  cases agg with
  | true =>
    rw [if_pos rfl]
    exact leq_need fun hb=>leq_needR (Nat.le_of_ble_eq_true hb) (h _)
  | false =>
    rw [if_neg (by simp)]
    simp only [RB.rm, nth_eq]
    cases cs[off]? with
    | none=>exact leq_fail _
    | some x=>exact h x
def opLoadKB (T : Tab) (t : TypeId) (x : Operand) (k : AV→RB) : RB :=
  match T.var.get t with
  | some (agg, n)=>slotI x fun x=>match x with
    | .ptr key g sz i off=>.box key fun g' sz' es=>.ok (Nat.beq g' g) (.ok (Nat.beq sz' sz) (.ok (Nat.ble 1 sz) (.opt (nth es i) fun e=>readCB agg e.cells off n k)))
    | .cptr cs=>readCB agg cs 0 n k
    | _=>.fail
  | none=>.fail
theorem opLoadKB_leq (hT : T.Ok P) {t : TypeId} {x : Operand} {k : AV→RB} {k' : AV→RM} (h : ∀ v, (k v).rm.leq P (k' v)) : (opLoadKB T t x k).rm.leq P (opLoadK P t x k'):=by
  unfold opLoadKB opLoadK
  split
  · rename_i agg n ht
    rw [hT.var.get ht]
    refine slotI_leq fun v=>?_
    split
    · refine leq_boxk fun g' sz' es=>leq_need fun h1=>leq_need fun h2=>leq_need fun h3=>?_
      refine leq_needR ⟨Nat.eq_of_beq_eq_true h1, Nat.eq_of_beq_eq_true h2, pos_of_ble h3⟩ ?_
      exact leq_opt fun e he=>by rw [he];exact readCB_leq h
    · exact readCB_leq h
    · exact leq_fail _
  · exact leq_fail _
def storeC (v : AV) (k : RB) : RB :=
  match v with
  | .agg _=>k
  | v=>.ok v.ok1 k
theorem storeC_leq {v : AV} {k : RB} {b : RM} (h : (v.storable = true∧(v.ok1 = true∨∃ cs, v = .agg cs))→k.rm.leq P b) : (storeC v k).rm.leq P b:=by
  unfold storeC
  split
  · exact h ⟨rfl, .inr ⟨_, rfl⟩⟩
  · rename_i hn
    refine leq_need fun h1=>h ⟨?_, .inl h1⟩
    cases v<;>first|exact h1|rfl
def putCB (e : AV) (off : Nat) (v : AV) (k : AV→RB) : RB :=
  match (match Nat.beq off 0 with|true=>Nat.beq v.cells.length e.cells.length|false=>false) with
  | true=>k v
  | false=>.lst (e.cells.take off++v.cells++e.cells.drop (off + v.cells.length)) fun l=>k (.agg l)
theorem putCB_leq {e v : AV} {off : Nat} {k : AV→RB} {b : RM} (h : (k (putC e off v)).rm.leq P b) : (putCB e off v k).rm.leq P b:=by
  unfold putCB
  unfold putC at h
  split
  · rename_i hb
    split at hb
    · rename_i h0
      rw [if_pos ⟨Nat.eq_of_beq_eq_true h0, Nat.eq_of_beq_eq_true hb⟩] at h;exact h
    · simp at hb
  · rename_i hb
    rw [if_neg (fun ⟨h0, h1⟩=>by
      subst h0
      simp only [Nat.beq_refl] at hb
      rw [h1, Nat.beq_refl] at hb;simp at hb)] at h
    exact h
def opStoreB (T : Tab) (t : TypeId) (x y : Operand) : RB :=
  match T.var.get t with
  | some (_, n)=>slotI x fun x=>match x with
    | .ptr key g sz i off=>slotI y fun v=>.box key fun g' sz' es =>
      .ok (Nat.beq g' g) (.ok (Nat.beq sz' sz) (.ok (Nat.ble 1 sz) (.ok (Nat.beq v.cells.length n) (.ok (Nat.ble (off + n) sz) (storeC v (.opt (nth es i) fun e=>putCB e off v fun e'=>.lst (es.set i e') fun es'=>.done [.box key (g', some (sz', es'))]))))))
    | _=>.fail
  | none=>.fail
theorem opStoreB_leq (hT : T.Ok P) {t : TypeId} {x y : Operand} : (opStoreB T t x y).rm.leq P (opStore P t x y):=by
  unfold opStoreB opStore
  split
  · rename_i agg n ht
    rw [hT.var.get ht]
    refine slotI_leq fun v=>?_
    split
    · refine slotI_leq fun v=>leq_boxk fun g' sz' es=>leq_need fun h1=>leq_need fun h2=>leq_need fun h0=>leq_need fun h3=>leq_need fun h4=>storeC_leq fun h5=>?_
      refine leq_needR ⟨Nat.eq_of_beq_eq_true h1, Nat.eq_of_beq_eq_true h2, pos_of_ble h0, h5.1, Nat.eq_of_beq_eq_true h3, Nat.le_of_ble_eq_true h4, h5.2⟩ ?_
      exact leq_opt fun e he=>by rw [he];exact putCB_leq (leq_refl _)
    · exact leq_fail _
  · exact leq_fail _
def opBoxB (cx : Cx) (dst : Option Tmp) (v : AV) : RB :=
  match dst with
  | some d=>storeC v (.ok (Nat.ble 1 v.cells.length) (.gen (cx.key d) fun g=>.done [.box (cx.key d) (g + 1, some (v.cells.length, [v])), .slot d (.ptr (cx.key d) (g + 1) v.cells.length 0 0)]))
  | none=>.fail
theorem opBoxB_leq {cx : Cx} {dst : Option Tmp} {v : AV} : (opBoxB cx dst v).rm.leq P (opBox cx dst v):=by
  unfold opBoxB opBox
  split
  · exact storeC_leq fun h=>leq_need fun h0=>leq_needR ⟨h.1, pos_of_ble h0⟩ (leq_genk fun c=>leq_refl _)
  · exact leq_fail _
def opAllocB (T : Tab) (cx : Cx) (dst : Option Tmp) (t : TypeId) : RB :=
  match T.zero.get t with
  | some (_, z)=>opBoxB cx dst z
  | none=>.fail
theorem opAllocB_leq (hT : T.Ok P) {cx : Cx} {dst : Option Tmp} {t : TypeId} : (opAllocB T cx dst t).rm.leq P (opAlloc P cx dst t):=by
  unfold opAllocB opAlloc
  split
  · rename_i ht
    rw [hT.zero.get ht]
    exact opBoxB_leq
  · exact leq_fail _
def opNilB (dst : Option Tmp) (x : Operand) : RB :=
  slotI x fun x=>match x with
    | .ptr k g sz i off=>.gen k fun g'=>.ok (Nat.beq g' g) (retB dst (.ptr k g sz i off))
    | .cptr cs=>retB dst (.cptr cs)
    | .func (.func f) fs cs=>retB dst (.func (.func f) fs cs)
    | _=>.fail
theorem opNilB_leq {dst : Option Tmp} {x : Operand} : (opNilB dst x).rm.leq P (opNil dst x):=by
  unfold opNilB opNil
  refine slotI_leq fun v=>?_
  split
  · exact leq_genk fun c=>leq_need fun h=>leq_needR (Nat.eq_of_beq_eq_true h) (leq_refl _)
  · exact leq_refl _
  · exact leq_refl _
  · exact leq_fail _
theorem needB_leq {p : Prop} [Decidable p] {k : RB} {b : RM} (h : p→k.rm.leq P b) : (needB p k).rm.leq P b:=leq_need h
def numB (k : IntKind) (n : Int) (r : Value→RB) : RB :=
  match k with
  | .i64=>needB (inI n) (r (.int .i64 n))
  | k=>r (.int k (k.wrap n))
def binR (op : BinOp) (k k' : IntKind) (a b : Int) (r : Value→RB) : RB :=
  match op with
  | .shl=>needB (0 ≤ b) (r (.int k (k.wrap (a * 2 ^ min b.toNat k.bits))))
  | .shr=>needB (0 ≤ b) (r (.int k (a.fdiv (2 ^ min b.toNat k.bits))))
  | op=>.ok (decide (k = k')) (match op with
    | .add=>numB k (a + b) r
    | .sub=>numB k (a - b) r
    | .mul=>numB k (a * b) r
    | .quo=>needB (b ≠ 0) (numB k (a.tdiv b) r)
    | .rem=>needB (b ≠ 0) (r (.int k (a.tmod b)))
    | .and=>r (.int k (k.wrap ((BitVec.ofInt k.bits a &&& BitVec.ofInt k.bits b).toNat : Nat)))
    | .or=>r (.int k (k.wrap ((BitVec.ofInt k.bits a ||| BitVec.ofInt k.bits b).toNat : Nat)))
    | .xor=>r (.int k (k.wrap ((BitVec.ofInt k.bits a ^^^ BitVec.ofInt k.bits b).toNat : Nat)))
    | .andNot=>r (.int k (k.wrap ((BitVec.ofInt k.bits a &&& ~~~BitVec.ofInt k.bits b).toNat : Nat)))
    | .lss=>r (.bool (decide (a < b)))
    | .leq=>r (.bool (decide (a ≤ b)))
    | .gtr=>r (.bool (decide (b < a)))
    | .geq=>r (.bool (decide (b ≤ a)))
    | .eql=>r (.bool (decide (a = b)))
    | .neq=>r (.bool (!decide (a = b)))
    | _=>.fail)
theorem numB_leq {k : IntKind} {n : Int} {r : Value→RB} {s : Sem Value} {r' : Value→RM} (h : ∀ v, (r v).rm.leq P (r' v)) (hs : ∀ w, s.run P w = .ok (.int k (k.wrap n)) w) : (numB k n r).rm.leq P (.sem s r'):=by
  unfold numB
  split
  · refine needB_leq fun hi=>leq_sem (r:=.int .i64 n) (fun w=>?_) (h _)
    rw [hs w, IntWalk.i64_in _ hi]
  · exact leq_sem hs (h _)
theorem binR_leq {op : BinOp} {k k' : IntKind} {a b : Int} {t : TypeId} {x y : Operand} {r : Value→RB} {r' : Value→RM} (h : ∀ v, (r v).rm.leq P (r' v)) :
    (binR op k k' a b r).rm.leq P (.sem (binS op t x y (.int k a) (.int k' b)) r'):=by
  unfold binR
  split
  · refine needB_leq fun hb=>leq_sem (fun w=>?_) (h _)
    simp [binS, eqGuard, binOp, Op.shift, Int.not_lt.2 hb]
  · refine needB_leq fun hb=>leq_sem (fun w=>?_) (h _)
    simp [binS, eqGuard, binOp, Op.shift, Int.not_lt.2 hb]
  · rename_i hn1 hn2
    refine leq_need fun hk=>?_
    have hk : k = k':=of_decide_eq_true hk
    subst hk
    cases op<;>simp only
    case add=>exact numB_leq h fun w=>by simp [binS, eqGuard, binOp, Op.intArith]
    case sub=>exact numB_leq h fun w=>by simp [binS, eqGuard, binOp, Op.intArith]
    case mul=>exact numB_leq h fun w=>by simp [binS, eqGuard, binOp, Op.intArith]
    case quo=>exact needB_leq fun hb=>numB_leq h fun w=>by simp [binS, eqGuard, binOp, Op.intDiv, hb]
    case rem=>exact needB_leq fun hb=>leq_sem (fun w=>by simp [binS, eqGuard, binOp, Op.intDiv, hb]) (h _)
    case and=>exact leq_sem (fun w=>by simp [binS, eqGuard, binOp, Op.intBits]) (h _)
    case or=>exact leq_sem (fun w=>by simp [binS, eqGuard, binOp, Op.intBits]) (h _)
    case xor=>exact leq_sem (fun w=>by simp [binS, eqGuard, binOp, Op.intBits]) (h _)
    case andNot=>exact leq_sem (fun w=>by simp [binS, eqGuard, binOp, Op.intBits]) (h _)
    case lss=>exact leq_sem (fun w=>by simp [binS, eqGuard, binOp, Op.intCmp]) (h _)
    case leq=>exact leq_sem (fun w=>by simp [binS, eqGuard, binOp, Op.intCmp]) (h _)
    case gtr=>exact leq_sem (fun w=>by simp [binS, eqGuard, binOp, Op.intCmp]) (h _)
    case geq=>exact leq_sem (fun w=>by simp [binS, eqGuard, binOp, Op.intCmp]) (h _)
    case eql=>exact leq_sem (fun w=>by simp [binS, eqGuard, binOp, Op.intCmp];rfl) (h _)
    case neq=>exact leq_sem (fun w=>by simp [binS, eqGuard, binOp, Op.intCmp];rfl) (h _)
    all_goals exact leq_fail _
def strR (op : BinOp) (s s' : ByteArray) (r : Value→RB) : RB :=
  match op with
  | .eql=>r (.bool (decide (s = s')))
  | .neq=>r (.bool (!decide (s = s')))
  | .lss=>r (.bool (Op.bytesLess s.toList s'.toList))
  | .geq=>r (.bool (!Op.bytesLess s.toList s'.toList))
  | .leq=>r (.bool (Op.bytesLess s.toList s'.toList || decide (s = s')))
  | .gtr=>r (.bool !(Op.bytesLess s.toList s'.toList || decide (s = s')))
  | .add=>needB (((s.size + s'.size : Nat) : Int) ≤ IntKind.i64.max) (r (.string (s++s')))
  | _=>.fail
theorem strR_leq {op : BinOp} {s s' : ByteArray} {t : TypeId} {x y : Operand} {r : Value→RB} {r' : Value→RM} (h : ∀ v, (r v).rm.leq P (r' v)) :
    (strR op s s' r).rm.leq P (.sem (binS op t x y (.string s) (.string s')) r'):=by
  unfold strR
  split
  · exact leq_sem (fun w=>by simp [binS, eqGuard, binOp, Op.stringOp, str_beq]) (h _)
  · exact leq_sem (fun w=>by simp [binS, eqGuard, binOp, Op.stringOp, str_beq]) (h _)
  · exact leq_sem (fun w=>by simp [binS, eqGuard, binOp, Op.stringOp]) (h _)
  · exact leq_sem (fun w=>by simp [binS, eqGuard, binOp, Op.stringOp]) (h _)
  · exact leq_sem (fun w=>by simp [binS, eqGuard, binOp, Op.stringOp, str_beq]) (h _)
  · exact leq_sem (fun w=>by simp [binS, eqGuard, binOp, Op.stringOp, str_beq]) (h _)
  · refine needB_leq fun hb=>leq_sem (fun w=>?_) (h _)
    simp only [binS, eqGuard, binOp, Op.stringOp]
    have : ((s.size + s'.size : Nat) : Int) ≤ 9223372036854775807:=hb
    simp [Int.not_lt.2 hb]
    omega
  · exact leq_fail _
def aggR (op : BinOp) (cs : List CK) (us vs : List Value) (r : Value→RB) : RB :=
  .ok (typedL cs us) (.ok (typedL cs vs) (match op with
    | .eql=>r (.bool (eqL us vs))
    | .neq=>r (.bool (!eqL us vs))
    | _=>.fail))
def nilRB (op : BinOp) (r : Bool) (k : Bool→RB) : RB :=
  match op with
  | .eql=>k r
  | .neq=>k (!r)
  | _=>.fail
def opBinB (T : Tab) (dst : Option Tmp) (op : BinOp) (t : TypeId) (x y : Operand) : RB :=
  slotI x fun a=>slotI y fun b=>match nilC y with
  | true=>match nilA a with
    | some r=>match T.slice.get t with
      | some _=>nilRB op r fun r=>retB dst (.v (.bool r))
      | none=>.fail
    | none=>.fail
  | false=>match a, b with
    | .v (.int k a), .v (.int k' b)=>binR op k k' a b fun r=>retB dst (ofValue r)
    | .v (.string s), .v (.string s')=>strR op s s' fun r=>retB dst (ofValue r)
    | .agg as, .agg bs=>match T.eq.get t with
      | some cs=>match toVals as with
        | some us=>match toVals bs with
          | some vs=>aggR op cs us vs fun r=>retB dst (ofValue r)
          | none=>.fail
        | none=>.fail
      | none=>.fail
    | a, b=>asVB a fun u=>asVB b fun v=>.sem (binS op t x y u v) fun r=>retB dst (ofValue r)
theorem aggR_leq (hT : T.Ok P) {op : BinOp} {t : TypeId} {cs : List CK} (ht : T.eq.get t = some cs) {us vs : List Value} {x y : Operand} {r : Value→RB} {r' : Value→RM} (h : ∀ v, (r v).rm.leq P (r' v)) :
    (aggR op cs us vs r).rm.leq P (.sem (binS op t x y (.agg us.toArray) (.agg vs.toArray)) r'):=by
  obtain ⟨⟨n, hn, he⟩, ha, hg⟩:=hT.eq.get ht
  unfold aggR
  refine leq_need fun h1=>leq_need fun h2=>?_
  split
  · exact leq_sem (fun w=>(run_binS_eql he hn ha hg (by simpa using h1) (by simpa using h2) x y w).1) (h _)
  · exact leq_sem (fun w=>(run_binS_eql he hn ha hg (by simpa using h1) (by simpa using h2) x y w).2) (h _)
  · exact leq_fail _
theorem opBinB_leq (hT : T.Ok P) {dst : Option Tmp} {op : BinOp} {t : TypeId} {x y : Operand} : (opBinB T dst op t x y).rm.leq P (opBin P dst op t x y):=by
  unfold opBinB opBin
  refine slotI_leq fun a=>slotI_leq fun b=>?_
  cases hnc : nilC y with
  | true =>
    simp only
    cases hn : nilA a with
    | none=>exact leq_fail _
    | some r =>
      simp only
      cases hs : T.slice.get t with
      | none=>exact leq_fail _
      | some q =>
        rw [hT.slice.get hs]
        simp only
        unfold nilRB nilR
        split<;>first|exact leq_refl _|exact leq_fail _
  | false =>
  simp only
  split
  · exact binR_leq fun v=>leq_refl _
  · exact strR_leq fun v=>leq_refl _
  · split
    · rename_i cs ht
      split
      · rename_i us hu
        split
        · rename_i vs hv
          simp only [asV, toVal, hu, hv, Option.map_some]
          exact aggR_leq hT ht fun v=>leq_refl _
        · exact leq_fail _
      · exact leq_fail _
    · exact leq_fail _
  · exact asVB_leq fun u=>asVB_leq fun v=>leq_semc fun r=>leq_refl _
def opUnB (dst : Option Tmp) (op : UnOp) (x : Operand) : RB :=
  slotI x fun a=>match op, a with
    | .not, .v (.bool b)=>retB dst (.v (.bool (!b)))
    | .neg, .v (.int k n)=>numB k (0 - n) fun r=>retB dst (ofValue r)
    | op, a=>asVB a fun u=>.sem (Op.unary op u) fun r=>retB dst (ofValue r)
theorem opUnB_leq {dst : Option Tmp} {op : UnOp} {x : Operand} : (opUnB dst op x).rm.leq P (opUn dst op x):=by
  unfold opUnB opUn
  refine slotI_leq fun a=>?_
  split
  · exact leq_sem (r:=.bool _) (fun w=>by simp [Op.unary]) (leq_refl _)
  · exact numB_leq (fun v=>leq_refl _) fun w=>by simp [Op.unary, Op.intArith]
  · exact asVB_leq fun v=>leq_semc fun r=>leq_refl _
def convR (k' : IntKind) (n : Int) (r : Value→RB) : RB :=
  match k' with
  | .i64=>needB (inI n) (r (.int .i64 n))
  | k=>r (.int k (k.wrap n))
def opConvB (T : Tab) (dst : Option Tmp) (s t : TypeId) (x : Operand) : RB :=
  slotI x fun a=>match a with
    | .v (.int k n)=>match T.und.get s with
      | some (.int _)=>match T.und.get t with
        | some (.int k')=>convR k' n fun r=>retB dst (ofValue r)
        | _=>.fail
      | _=>.fail
    | .v (.string z)=>match T.und.get s with
      | some .str=>match T.und.get t with
        | some .str=>retB dst (.v (.string z))
        | _=>.fail
      | _=>.fail
    | _=>.fail
theorem opConvB_leq (hT : T.Ok P) {dst : Option Tmp} {s t : TypeId} {x : Operand} : (opConvB T dst s t x).rm.leq P (opConv dst s t x):=by
  unfold opConvB opConv
  refine slotI_leq fun a=>?_
  split
  · rename_i k n
    split
    · rename_i k1 hs
      split
      · rename_i k' ht
        have h1 : P.underlying s = some (.int k1):=hT.und.get hs
        have h2 : P.underlying t = some (.int k'):=hT.und.get ht
        have hrun : ∀ w, (convert s t (.int k n)).run P w = .ok (.int k' (k'.wrap n)) w:=fun w=>by
          simp [convert, run_underlying h1, run_underlying h2, Conv.intToInt]
        unfold convR
        split
        · refine needB_leq fun hi=>leq_sem (r:=.int .i64 n) (fun w=>?_) (leq_refl _)
          rw [hrun w, IntWalk.i64_in _ hi]
        · exact leq_sem hrun (leq_refl _)
      · exact leq_fail _
    · exact leq_fail _
  · rename_i z
    split
    · rename_i hs
      split
      · rename_i ht
        have h1 : P.underlying s = some .string:=hT.und.get hs
        have h2 : P.underlying t = some .string:=hT.und.get ht
        exact leq_sem (r:=.string z) (fun w=>by simp [convert, run_underlying h1, run_underlying h2]) (leq_refl _)
      · exact leq_fail _
    · exact leq_fail _
  · exact leq_fail _
def opFieldB (T : Tab) (dst : Option Tmp) (t : TypeId) (x : Operand) (f : Nat) : RB :=
  match T.field.get t with
  | some l=>match nth l f with
    | some (some o)=>slotI x fun x=>match x with
      | .ptr k g sz i off=>.gen k fun g'=>.ok (Nat.beq g' g) (retB dst (.ptr k g sz i (off + o)))
      | .cptr cs=>.lst (cs.drop o) fun cs=>retB dst (.cptr cs)
      | _=>.fail
    | _=>.fail
  | none=>.fail
theorem opFieldB_leq (hT : T.Ok P) {dst : Option Tmp} {t : TypeId} {x : Operand} {f : Nat} : (opFieldB T dst t x f).rm.leq P (opField P dst t x f):=by
  unfold opFieldB opField
  split
  · rename_i l hl
    split
    · rename_i o ho
      rw [hT.field.get hl f o ho]
      refine slotI_leq fun v=>?_
      split
      · exact leq_genk fun c=>leq_need fun h=>leq_needR (Nat.eq_of_beq_eq_true h) (leq_refl _)
      · exact leq_refl _
      · exact leq_fail _
    · exact leq_fail _
  · exact leq_fail _
def opIndexAddrB (T : Tab) (dst : Option Tmp) (t : TypeId) (x ix : Operand) : RB :=
  slotI x fun a=>slotI ix fun j=>match j with
    | .v (.int _ n)=>match a with
      | .slice sz es _=>match T.slice.get t with
        | some (_, n', _)=>.ok (Nat.beq n' sz) (needB (0 ≤ n) (.opt (nth es n.toNat) fun e=>retB dst (.cptr e.cells)))
        | none=>.fail
      | .own k g sz m cap=>match T.slice.get t with
        | some (_, n', _)=>.ok (Nat.beq n' sz) (needB (0 ≤ n∧n < m) (.gen k fun g'=>.ok (Nat.beq g' g) (retB dst (.ptr k g sz n.toNat 0))))
        | none=>.fail
      | .ptr k g sz i off=>match T.array.get t with
        | some (len, n')=>needB (0 ≤ n∧n < len) (.gen k fun g'=>.ok (Nat.beq g' g) (retB dst (.ptr k g sz i (off + n.toNat * n'))))
        | none=>.fail
      | .cptr cs=>match T.array.get t with
        | some (len, n')=>needB (0 ≤ n∧n < len) (retB dst (.cptr (cs.drop (n.toNat * n'))))
        | none=>.fail
      | _=>.fail
    | _=>.fail
theorem opIndexAddrB_leq (hT : T.Ok P) {dst : Option Tmp} {t : TypeId} {x ix : Operand} : (opIndexAddrB T dst t x ix).rm.leq P (opIndexAddr P dst t x ix):=by
  unfold opIndexAddrB opIndexAddr
  refine slotI_leq fun a=>slotI_leq fun j=>?_
  split
  · rename_i kk n
    simp only [asV, toVal]
    split
    · split
      · rename_i ht
        rw [hT.slice.get ht]
        refine leq_need fun h1=>needB_leq fun h2=>leq_needR h2 (leq_needR (Nat.eq_of_beq_eq_true h1) ?_)
        exact leq_opt fun e he=>by rw [he];exact leq_refl _
      · exact leq_fail _
    · split
      · rename_i ht
        rw [hT.slice.get ht]
        refine leq_need fun h1=>needB_leq fun h2=>leq_needR h2.1 (leq_needR ⟨Nat.eq_of_beq_eq_true h1, h2.2⟩ (leq_genk fun c=>leq_need fun h3=>leq_needR (Nat.eq_of_beq_eq_true h3) (leq_refl _)))
      · exact leq_fail _
    · split
      · rename_i ht
        rw [hT.array.get ht]
        exact needB_leq fun h2=>leq_needR h2.1 (leq_needR h2.2 (leq_genk fun c=>leq_need fun h3=>leq_needR (Nat.eq_of_beq_eq_true h3) (leq_refl _)))
      · exact leq_fail _
    · split
      · rename_i ht
        rw [hT.array.get ht]
        exact needB_leq fun h2=>leq_needR h2.1 (leq_needR h2.2 (leq_refl _))
      · exact leq_fail _
    · exact leq_fail _
  · exact leq_fail _
def opFieldVB (T : Tab) (dst : Option Tmp) (t : TypeId) (x : Operand) (f : Nat) : RB :=
  slotI x fun x=>match x with
    | .agg cs=>match T.fieldV.get t with
      | some l=>match nth l f with
        | some (some q)=>readCB q.1 cs q.2.1 q.2.2 (retB dst)
        | _=>.fail
      | none=>.fail
    | _=>.fail
theorem opFieldVB_leq (hT : T.Ok P) {dst : Option Tmp} {t : TypeId} {x : Operand} {f : Nat} : (opFieldVB T dst t x f).rm.leq P (opFieldV P dst t x f):=by
  unfold opFieldVB opFieldV
  refine slotI_leq fun v=>?_
  split
  · split
    · rename_i l hl
      split
      · rename_i q hq
        simp only [hT.fieldV.get hl f q hq]
        exact readCB_leq fun v=>leq_refl _
      · exact leq_fail _
    · exact leq_fail _
  · exact leq_fail _
def opIndexVB (T : Tab) (dst : Option Tmp) (t : TypeId) (x ix : Operand) : RB :=
  slotI x fun a=>slotI ix fun j=>match a, j with
    | .agg cs, .v (.int _ n)=>match T.indexV.get t with
      | some q=>needB (0 ≤ n∧n < q.2.1) (readCB q.1 cs (n.toNat * q.2.2) q.2.2 (retB dst))
      | none=>.fail
    | _, _=>.fail
theorem opIndexVB_leq (hT : T.Ok P) {dst : Option Tmp} {t : TypeId} {x ix : Operand} : (opIndexVB T dst t x ix).rm.leq P (opIndexV P dst t x ix):=by
  unfold opIndexVB opIndexV
  refine slotI_leq fun a=>slotI_leq fun j=>?_
  split
  · split
    · rename_i q hq
      simp only [(hT.indexV.get hq).1]
      exact needB_leq fun h=>leq_needR h (readCB_leq fun v=>leq_refl _)
    · exact leq_fail _
  · exact leq_fail _
def opExtractB (dst : Option Tmp) (x : Operand) (i : Nat) : RB :=
  slotI x fun x=>match x with
    | .tuple vs=>.opt (nth vs i) fun v=>retB dst v
    | _=>.fail
theorem opExtractB_leq {dst : Option Tmp} {x : Operand} {i : Nat} : (opExtractB dst x i).rm.leq P (opExtract dst x i):=by
  unfold opExtractB opExtract
  refine slotI_leq fun a=>?_
  split
  · refine leq_opt fun e he=>?_
    simp only [he]
    exact leq_refl _
  · exact leq_fail _
def fillB (place : List (Nat × Nat)) : List AV→List (Nat × AV)→(List AV→RB)→RB
  | cs, [], k=>k cs
  | cs, (i, v) :: rest, k=>match nth place i with
    | some (off, n)=>.ok (Nat.beq v.cells.length n) (.ok (Nat.ble (off + n) cs.length) (storeC v (.lst (cs.take off++v.cells++cs.drop (off + n)) fun cs'=>fillB place cs' rest k)))
    | none=>.fail
theorem fillB_leq {place : List (Nat × Nat)} {k : List AV→RB} {k' : List AV→RM} (h : ∀ l, (k l).rm.leq P (k' l)) : ∀ (parts : List (Nat × AV)) (cs : List AV),
    (fillB place cs parts k).rm.leq P (match fillA (fun i=>place[i]?) cs parts with
      | some cs=>k' cs
      | none=>.fail)
  | [], cs=>h cs
  | (i, v) :: rest, cs=>by
    simp only [fillB]
    split
    · rename_i off n hp
      rw [nth_eq] at hp
      refine leq_need fun h1=>leq_need fun h2=>storeC_leq fun h3=>?_
      simp only [fillA, hp]
      rw [if_pos ⟨Nat.eq_of_beq_eq_true h1, Nat.le_of_ble_eq_true h2, h3.1⟩]
      exact fillB_leq h rest _
    · exact leq_fail _
def fillN (sz : Nat) : List AV→List (Nat × AV)→(List AV→RB)→RB
  | cs, [], k=>k cs
  | cs, (i, v) :: rest, k=>.ok (Nat.beq v.cells.length sz) (.ok (Nat.ble (i * sz + sz) cs.length) (storeC v (.lst (cs.take (i * sz)++v.cells++cs.drop (i * sz + sz)) fun cs'=>fillN sz cs' rest k)))
theorem fillN_leq {sz : Nat} {k : List AV→RB} {k' : List AV→RM} (h : ∀ l, (k l).rm.leq P (k' l)) : ∀ (parts : List (Nat × AV)) (cs : List AV),
    (fillN sz cs parts k).rm.leq P (match fillA (fun i=>some (i * sz, sz)) cs parts with
      | some cs=>k' cs
      | none=>.fail)
  | [], cs=>h cs
  | (i, v) :: rest, cs=>by
    simp only [fillN]
    refine leq_need fun h1=>leq_need fun h2=>storeC_leq fun h3=>?_
    simp only [fillA]
    rw [if_pos ⟨Nat.eq_of_beq_eq_true h1, Nat.le_of_ble_eq_true h2, h3.1⟩]
    exact fillN_leq h rest _
def opBuildB (T : Tab) (dst : Option Tmp) (t : TypeId) (parts : List (Nat × Operand)) : RB :=
  match T.zero.get t with
  | some (_, z)=>match T.places.get t with
    | some place=>slotsI (parts.map (·.2)) fun l=>fillB place z.cells ((parts.map (·.1)).zip l) fun cs=>retB dst (.agg cs)
    | none=>match T.placesN.get t with
      | some n=>slotsI (parts.map (·.2)) fun l=>fillN n z.cells ((parts.map (·.1)).zip l) fun cs=>retB dst (.agg cs)
      | none=>.fail
  | none=>.fail
theorem opBuildB_leq (hT : T.Ok P) {dst : Option Tmp} {t : TypeId} {parts : List (Nat × Operand)} : (opBuildB T dst t parts).rm.leq P (opBuild P dst t parts):=by
  unfold opBuildB opBuild
  split
  · rename_i hz
    rw [hT.zero.get hz]
    split
    · rename_i hp
      rw [hT.places.get hp]
      exact slotsI_leq fun l=>fillB_leq (fun l=>leq_refl _) _ _
    · split
      · rename_i hp
        rw [hT.placesN.get hp]
        exact slotsI_leq fun l=>fillN_leq (fun l=>leq_refl _) _ _
      · exact leq_fail _
  · exact leq_fail _
def sizesB (n : Nat) : List AV→Bool
  | []=>true
  | x :: xs=>match Nat.beq x.cells.length n with
    | true=>match x.storable with
      | true=>sizesB n xs
      | false=>false
    | false=>false
theorem sizesB_eq {n : Nat} : ∀ {l : List AV}, sizesB n l = true→sizes n l = true
  | [], _=>rfl
  | x :: xs, h=>by
    simp only [sizesB] at h
    split at h
    · rename_i h1
      split at h
      · rename_i h2
        rw [sizes, Nat.eq_of_beq_eq_true h1, h2, sizesB_eq h];simp
      · simp at h
    · simp at h
def numsB : Nat→List (Nat × Operand)→Nat→Bool
  | i, [], n=>Nat.beq i n
  | i, (j, _) :: l, n=>match Nat.beq i j with
    | true=>numsB (i + 1) l n
    | false=>false
theorem numsB_eq : ∀ {l : List (Nat × Operand)} {i n : Nat}, numsB i l n = true→i ≤ n∧l.map (·.1) = List.range' i (n - i)
  | [], i, n, h=>by have:=Nat.eq_of_beq_eq_true h;subst this;simp
  | (j, _) :: l, i, n, h=>by
    simp only [numsB] at h
    split at h
    · rename_i hj
      have:=Nat.eq_of_beq_eq_true hj
      subst this
      obtain ⟨h1, h2⟩:=numsB_eq h
      refine ⟨by omega, ?_⟩
      rw [List.map_cons, h2, show n - i = (n - (i + 1)) + 1 by omega, List.range'_succ]
    · simp at h
def opBuildSliceB (T : Tab) (dst : Option Tmp) (t : TypeId) (len : Nat) (parts : List (Nat × Operand)) : RB :=
  match T.slice.get t with
  | some (e, n, _)=>match T.zero.get e with
    | some (n', _)=>.ok (numsB 0 parts len) (.ok (Nat.ble (len * n) 16777216) (.ok (Nat.ble 1 n) (.ok (Nat.beq n' n) (slotsI (parts.map (·.2)) fun l =>
      match topures l with
      | some es=>.ok (sizesB n es) (.lst es fun es=>retB dst (.slice n es .tight))
      | none=>.fail))))
    | none=>.fail
  | none=>.fail
theorem opBuildSliceB_leq (hT : T.Ok P) {dst : Option Tmp} {t : TypeId} {len : Nat} {parts : List (Nat × Operand)} : (opBuildSliceB T dst t len parts).rm.leq P (opBuildSlice P dst t len parts):=by
  unfold opBuildSliceB opBuildSlice
  split
  · rename_i e n b ht
    rw [hT.slice.get ht]
    split
    · rename_i n' z hz
      refine leq_need fun h1=>leq_need fun h2=>leq_need fun h3=>leq_need fun h4=>leq_needR ⟨?_, ?_, Nat.le_of_ble_eq_true h3, ?_⟩ (slotsI_leq fun l=>?_)
      · rw [(numsB_eq h1).2, List.range_eq_range'];rfl
      · exact Nat.le_of_ble_eq_true h2
      · rw [hT.zero.get hz, ← Nat.eq_of_beq_eq_true h4];rfl
      · cases topures l with
        | none=>exact leq_fail _
        | some es=>exact leq_need fun h5=>leq_needR (sizesB_eq h5) (leq_refl _)
    · exact leq_fail _
  · exact leq_fail _
def opBuildSliceUB (T : Tab) (cx : Cx) (d : Tmp) (t : TypeId) (len : Nat) (parts : List (Nat × Operand)) : RB :=
  match T.slice.get t with
  | some (e, n, _)=>match T.zero.get e with
    | some (n', _)=>.ok (numsB 0 parts len) (.ok (Nat.ble (len * n) 16777216) (.ok (Nat.ble 1 n) (.ok (Nat.beq n' n) (slotsI (parts.map (·.2)) fun l =>
      match topures l with
      | some es=>.ok (sizesB n es) (.lst es fun es=>.gen (cx.key d) fun g=>.done [.box (cx.key d) (g + 1, some (n, es)), .slot d (.own (cx.key d) (g + 1) n es.length 0)])
      | none=>.fail))))
    | none=>.fail
  | none=>.fail
theorem opBuildSliceUB_leq (hT : T.Ok P) {cx : Cx} {d : Tmp} {t : TypeId} {len : Nat} {parts : List (Nat × Operand)} : (opBuildSliceUB T cx d t len parts).rm.leq P (opBuildSliceU P cx d t len parts):=by
  unfold opBuildSliceUB opBuildSliceU
  split
  · rename_i e n b ht
    rw [hT.slice.get ht]
    split
    · rename_i n' z hz
      refine leq_need fun h1=>leq_need fun h2=>leq_need fun h3=>leq_need fun h4=>leq_needR ⟨?_, ?_, Nat.le_of_ble_eq_true h3, ?_⟩ (slotsI_leq fun l=>?_)
      · rw [(numsB_eq h1).2, List.range_eq_range'];rfl
      · exact Nat.le_of_ble_eq_true h2
      · rw [hT.zero.get hz, ← Nat.eq_of_beq_eq_true h4];rfl
      · cases topures l with
        | none=>exact leq_fail _
        | some es =>
          refine leq_need fun h5=>leq_needR (sizesB_eq h5) ?_
          show (RB.rm (RB.gen (cx.key d) fun g=>RB.done [Wr.box (cx.key d) (g + 1, some (n, es)), Wr.slot d (AV.own (cx.key d) (g + 1) n es.length 0)])).leq P _
          exact leq_genk fun c=>leq_refl _
    · exact leq_fail _
  · exact leq_fail _
def opMakeFuncB (dst : Option Tmp) (fn : Fn) (first captured : List Operand) : RB :=
  slotsI first fun a=>slotsI captured fun b=>retB dst (.func fn a b)
theorem opMakeFuncB_leq {dst : Option Tmp} {fn : Fn} {first captured : List Operand} : (opMakeFuncB dst fn first captured).rm.leq P (opMakeFunc dst fn first captured):=by
  unfold opMakeFuncB opMakeFunc
  exact slotsI_leq fun a=>slotsI_leq fun b=>leq_refl _
def opLenB (T : Tab) (dst : Option Tmp) (t : TypeId) (x : Operand) : RB :=
  slotI x fun x=>match x with
    | .slice _ es _=>match T.slice.get t with
      | some _=>retB dst (.v (.int .i64 es.length))
      | none=>.fail
    | .own k g _ n _=>match T.slice.get t with
      | some _=>.gen k fun g'=>.ok (Nat.beq g' g) (retB dst (.v (.int .i64 n)))
      | none=>.fail
    | .v (.string s)=>match T.und.get t with
      | some .str=>retB dst (.v (.int .i64 s.size))
      | _=>.fail
    | .mp k g=>match T.und.get t with
      | some .map=>opLenMapU dst (.mp k g)
      | _=>.fail
    | _=>.fail
theorem opLenB_leq (hT : T.Ok P) {dst : Option Tmp} {t : TypeId} {x : Operand} : (opLenB T dst t x).rm.leq P (opLen P dst t x):=by
  unfold opLenB opLen
  refine slotI_leq fun v=>?_
  split
  · split
    · rename_i ht;rw [hT.slice.get ht];exact leq_refl _
    · exact leq_fail _
  · split
    · rename_i ht;rw [hT.slice.get ht];exact leq_genk fun c=>leq_need fun h=>leq_needR (Nat.eq_of_beq_eq_true h) (leq_refl _)
    · exact leq_fail _
  · split
    · rename_i s _ ht
      have h1 : P.underlying t = some .string:=hT.und.get ht
      exact leq_sem (r:=.int .i64 s.size) (fun w=>by simp [Builtin.len_, run_underlying h1, goInt]) (leq_refl _)
    · exact leq_fail _
  · split
    · rename_i ht
      obtain ⟨a, b, h1⟩:=hT.und.get ht
      rw [h1];exact leq_refl _
    · exact leq_fail _
  · exact leq_fail _
theorem widthB_eq {es : List AV} {sz n : Nat} (h : widthB es sz n = true) : es ≠ []→sz = n:=by
  intro he
  unfold widthB at h
  split at h
  · rename_i h1;exact Nat.eq_of_beq_eq_true h1
  · split at h
    · exact absurd rfl he
    · simp at h
theorem emptyRB_leq {b : AV} {k : AV→RB} {k' : AV→RM} (h : ∀ v, (k v).rm.leq P (k' v)) : (emptyRB b k).rm.leq P (emptyR b k'):=by
  unfold emptyRB emptyR
  split
  · exact needB_leq fun hc=>leq_needR hc (h _)
  · rename_i hne
    first
      | (split
         · exact absurd rfl (hne _ _ _)
         · exact h _)
      | exact h _
def opAppendB (T : Tab) (cx : Cx) (dst : Option Tmp) (t : TypeId) (x y : Operand) : RB :=
  match T.slice.get t, dst with
  | some (e, n, by_), some d=>match T.zero.get e with
    | some (n', _)=>.ok (Nat.beq n' n) (.ok (Nat.ble 1 n) (slotI x fun a=>slotI y fun b=>emptyRB b fun b=>match a, b with
      | .slice sz es tok, .slice sz' es' _ =>
        .ok (widthB es sz n) (.ok (widthB es' sz' n) (needB ((es.length + es'.length) * by_ ≤ 140737488355328∧es.length + es'.length ≤ maxLen)
          (match tok with
          | .tight=>.tk (cx.key d) fun c _=>.done [.tk (cx.key d) (c + 1, es.length + es'.length), .slot d (.slice n (es++es') (.own (cx.key d) (c + 1)))]
          | .own k g=>.tk k fun c h=>.ok (Nat.beq c g) (.ok (decide (h = es.length)) (.ok (Nat.beq sz n) (.done [.tk k (c, es.length + es'.length), .slot d (.slice n (es++es') (.own k g))])))
          | .no=>.fail)))
      | _, _=>.fail))
    | none=>.fail
  | _, _=>.fail
theorem opAppendB_leq (hT : T.Ok P) {cx : Cx} {dst : Option Tmp} {t : TypeId} {x y : Operand} : (opAppendB T cx dst t x y).rm.leq P (opAppend P cx dst t x y):=by
  unfold opAppendB opAppend
  split
  · rename_i e n by_ d ht
    rw [hT.slice.get ht]
    split
    · rename_i n' z hz
      refine leq_need fun h1=>leq_need fun h2=>slotI_leq fun a=>slotI_leq fun b=>emptyRB_leq fun b=>?_
      split
      · rename_i sz es tok sz' es' tok'
        refine leq_need fun h3=>leq_need fun h4=>needB_leq fun h5=>leq_needR ⟨h5.1, h5.2, Nat.le_of_ble_eq_true h2, widthB_eq h3, widthB_eq h4, by rw [hT.zero.get hz, ← Nat.eq_of_beq_eq_true h1];rfl⟩ ?_
        split
        · exact leq_tk fun c=>leq_refl _
        · exact leq_tk fun c=>leq_need fun h6=>leq_need fun h7=>leq_need fun h8=>leq_needR ⟨Nat.eq_of_beq_eq_true h6, of_decide_eq_true h7, Nat.eq_of_beq_eq_true h8⟩ (leq_refl _)
        · exact leq_fail _
      · exact leq_fail _
    · exact leq_fail _
  · exact leq_fail _
theorem leq_optL {o : Option (List AV)} {k : List AV→RB} {b : RM} (h : ∀ x, o = some x→(k x).rm.leq P b) : (RB.optL o k).rm.leq P b:=by
  cases ho : o with
  | none=>exact fun S K hk=>hk.elim
  | some x=>exact h x ho
def snap1B (x : AV) (k : AV→RB) : RB :=
  match x with
  | .ptr key g sz i off=>.box key fun g' sz' es=>.ok (Nat.beq g' g) (.ok (Nat.beq sz' sz) (.ok (Nat.ble 1 sz) (.opt (nth es i) fun e=>.optL (pursJ e.cells) fun cs=>.lst (cs.drop off) fun cs=>k (.cptr cs))))
  | .own key g sz n _=>.box key fun g' sz' es=>.ok (Nat.beq g' g) (.ok (Nat.beq sz' sz) (.ok (Nat.ble 1 sz) (needB (n ≤ es.length) (.optL (pureEs (es.take n)) fun l=>k (.slice sz l .no)))))
  | .sl key g sz i off n=>.box key fun g' sz' es=>.ok (Nat.beq g' g) (.ok (Nat.beq sz' sz) (.ok (Nat.ble 1 sz) (.ok (Nat.ble (off + n) sz) (.opt (nth es i) fun e=>.optL (pures e.cells) fun cs=>.lst ((cs.drop off).take n) fun cs=>k (.slice 1 cs .no)))))
  | x=>match toPure x with
    | some y=>k y
    | none=>.fail
theorem snap1B_leq {x : AV} {k : AV→RB} {k' : AV→RM} (h : ∀ v, (k v).rm.leq P (k' v)) : (snap1B x k).rm.leq P (snap1 x k'):=by
  cases x with
  | ptr key g sz i off =>
    refine leq_boxk fun g' sz' es=>leq_need fun h1=>leq_need fun h2=>leq_need fun h0=>leq_needR ⟨Nat.eq_of_beq_eq_true h1, Nat.eq_of_beq_eq_true h2, pos_of_ble h0⟩ ?_
    refine leq_opt fun e he=>?_
    rw [he]
    simp only
    refine leq_optL fun l hl=>?_
    rw [hl]
    exact h _
  | own key g sz n cap =>
    refine leq_boxk fun g' sz' es=>leq_need fun h1=>leq_need fun h2=>leq_need fun h0=>needB_leq fun h3=>leq_needR ⟨Nat.eq_of_beq_eq_true h1, Nat.eq_of_beq_eq_true h2, pos_of_ble h0, h3⟩ ?_
    refine leq_optL fun l hl=>?_
    rw [hl]
    exact h _
  | sl key g sz i off n =>
    refine leq_boxk fun g' sz' es=>leq_need fun h1=>leq_need fun h2=>leq_need fun h0=>leq_need fun h3=>leq_needR ⟨Nat.eq_of_beq_eq_true h1, Nat.eq_of_beq_eq_true h2, pos_of_ble h0, Nat.le_of_ble_eq_true h3⟩ ?_
    refine leq_opt fun e he=>?_
    rw [he]
    simp only
    refine leq_optL fun l hl=>?_
    rw [hl]
    exact h _
  | v y=>exact h _
  | slice sz es tok=>exact h _
  | cptr cs=>exact h _
  | junk=>exact leq_fail _
  | mp k g=>exact leq_fail _
  | yld k g=>exact leq_fail _
  | lp=>exact leq_fail _
  | agg cs =>
    simp only [snap1B, snap1, toPure]
    cases pures cs with
    | none=>exact leq_fail _
    | some cs=>exact h _
  | tuple cs =>
    simp only [snap1B, snap1, toPure]
    cases pures cs with
    | none=>exact leq_fail _
    | some cs=>exact h _
  | func fn fs cs =>
    simp only [snap1B, snap1, toPure]
    cases pures fs with
    | none=>exact leq_fail _
    | some cs' =>
      cases pures cs with
      | none=>exact leq_fail _
      | some cs=>exact h _
def snaps1B : List AV→(List AV→RB)→RB
  | [], k=>k []
  | x :: xs, k=>snap1B x fun y=>snaps1B xs fun l=>k (y :: l)
theorem snaps1B_leq : ∀ {xs : List AV} {k : List AV→RB} {k' : List AV→RM}, (∀ v, (k v).rm.leq P (k' v))→(snaps1B xs k).rm.leq P (snaps1 xs k')
  | [], _, _, h=>h []
  | _ :: _, _, _, h=>snap1B_leq fun a=>snaps1B_leq fun l=>h (a :: l)
def snapB (x : AV) (k : AV→RB) : RB :=
  match x with
  | .func fn fs cs=>snaps1B fs fun a=>snaps1B cs fun b=>k (.func fn a b)
  | x=>snap1B x k
theorem snapB_leq {x : AV} {k : AV→RB} {k' : AV→RM} (h : ∀ v, (k v).rm.leq P (k' v)) : (snapB x k).rm.leq P (snap x k'):=by
  cases x with
  | func fn fs cs=>exact snaps1B_leq fun a=>snaps1B_leq fun b=>h _
  | _=>simp only [snapB, snap];exact snap1B_leq h
def snapsB : List AV→(List AV→RB)→RB
  | [], k=>k []
  | x :: xs, k=>snapB x fun y=>snapsB xs fun l=>k (y :: l)
theorem snapsB_leq : ∀ {xs : List AV} {k : List AV→RB} {k' : List AV→RM}, (∀ v, (k v).rm.leq P (k' v))→(snapsB xs k).rm.leq P (snaps xs k')
  | [], _, _, h=>h []
  | _ :: _, _, _, h=>snapB_leq fun a=>snapsB_leq fun l=>h (a :: l)
theorem leq_keys {k k' : List Key→RM} (h : ∀ v, (k v).leq P (k' v)) : (RM.keys k).leq P (.keys k'):=fun S _ ⟨ks, hk⟩=>⟨ks, h ks _ _ hk⟩
theorem leq_callx {f : Tgt} {args : List AV} {pre : List BoxE} {k k' : AV→List BoxE→RM} (h : ∀ r post, (k r post).leq P (k' r post)) : (RM.callx f args pre k).leq P (.callx f args pre k') :=
  fun S _ ⟨r, post, hr, hk⟩=>⟨r, post, hr, h r post _ _ hk⟩
def readKB : List Key→(List BoxE→RB)→RB
  | [], k=>k []
  | key :: rest, k=>.box key fun g sz es=>readKB rest fun l=>k ((key, g, sz, es) :: l)
theorem readKB_leq : ∀ {ks : List Key} {k : List BoxE→RB} {k' : List BoxE→RM}, (∀ v, (k v).rm.leq P (k' v))→(readKB ks k).rm.leq P (readK ks k')
  | [], _, _, h=>h []
  | _ :: _, _, _, h=>leq_boxk fun g sz es=>readKB_leq fun l=>h _
def tkPreB (ks : List Key) : List BoxE→(List BoxE→RB)→RB
  | [], k=>k []
  | (key, g, sz, es) :: l, k=>.optL (tkBox ks sz es) fun es'=>tkPreB ks l fun l'=>k ((key, g, sz, es') :: l')
theorem tkPreB_leq {ks : List Key} : ∀ {l : List BoxE} {k : List BoxE→RB} {b : RM}, (∀ v, tkPre ks l = some v→(k v).rm.leq P b)→(tkPreB ks l k).rm.leq P b
  | [], _, _, h=>h [] rfl
  | (key, g, sz, es) :: l, k, b, h=>leq_optL fun es' he=>tkPreB_leq fun l' hl=>h _ (by simp only [tkPre, he, hl])
def newKB : List BoxE→RB→RB
  | [], k=>k
  | (key, _) :: rest, k=>.absent key (newKB rest k)
theorem newKB_leq : ∀ {l : List BoxE} {k : RB} {k' : RM}, k.rm.leq P k'→(newKB l k).rm.leq P (newK l k')
  | [], _, _, h=>h
  | (key, _) :: rest, _, _, h=>leq_box fun c=>leq_need fun hc=>leq_needR hc (newKB_leq h)
def opCallXB (dst : Option Tmp) (fid : Tgt) (l : List AV) : RB :=
  .keys fun ks=>.ok (nodupK ks) (.ok (fid.inK ks) (readKB ks fun pre=>tkPreB ks pre fun pre'=>.optL (tkL (tk2 ks) l) fun l'=>.lst l' fun l'=>.callx fid l' pre' fun r post =>
    match splitPost pre' post with
    | some new=>newKB new (.ok (nodupK (keysE post)) (.opt (tk3 (keysE post) r) fun r'=>tkPreB (keysE post) post fun post'=>.done (wrE post'++putA dst r')))
    | none=>.fail))
theorem leq_optV {o : Option AV} {k : AV→RB} {b : RM} (h : ∀ x, o = some x→(k x).rm.leq P b) : (RB.opt o k).rm.leq P b:=by
  cases ho : o with
  | none=>exact fun S K hk=>hk.elim
  | some x=>exact h x ho
theorem opCallXB_leq {dst : Option Tmp} {fid : Tgt} {l : List AV} : (opCallXB dst fid l).rm.leq P (opCallX dst fid l):=by
  unfold opCallXB opCallX
  refine leq_keys fun ks=>leq_need fun hn=>leq_need fun hn2=>leq_needR ⟨hn, hn2⟩ (readKB_leq fun pre=>tkPreB_leq fun pre' hp=>leq_optL fun l' hl=>?_)
  rw [hp, hl]
  refine leq_callx fun r post=>?_
  simp only []
  cases hs : splitPost pre' post with
  | none=>exact leq_fail _
  | some new =>
    refine newKB_leq (k:=.ok _ _) (leq_need fun hd=>leq_needR hd (leq_optV fun r' hr=>tkPreB_leq fun post' hp'=>?_))
    rw [hr, hp']
    exact leq_refl _
def memF (f : Nat) : List Nat→Bool
  | []=>false
  | g :: l=>match Nat.beq f g with
    | true=>true
    | false=>memF f l
theorem memF_eq {f : Nat} : ∀ {l : List Nat}, memF f l = l.contains f
  | []=>rfl
  | g :: l=>by
    simp only [memF, List.contains_cons]
    cases hb : Nat.beq f g with
    | true=>simp [Nat.eq_of_beq_eq_true hb]
    | false =>
      have : f ≠ g:=fun e=>by rw [e, Nat.beq_refl] at hb;simp at hb
      simp only [memF_eq]
      simp [this]
def opCallB (cx : Cx) (dst : Option Tmp) (f : Operand) (args : List Operand) : RB :=
  slotI f fun f=>match f with
    | .func (.func fid) fs cs=>slotsI args fun l=>match memF fid cx.mat with
      | true=>opCallXB dst (.fn fid) (fs++l++cs)
      | false=>match topures (fs++l++cs) with
        | some l'=>.lst l' fun l'=>.call fid l' false fun r=>retB dst r
        | none=>snapsB (fs++l++cs) fun l'=>.call fid l' true fun r=>retB dst r
    | .yld k g=>slotsI args fun l=>.gen k fun g'=>.ok (Nat.beq g' g) (opCallXB dst (.yld k g) l)
    | _=>.fail
theorem opCallB_leq {cx : Cx} {dst : Option Tmp} {f : Operand} {args : List Operand} : (opCallB cx dst f args).rm.leq P (opCall cx dst f args):=by
  unfold opCallB opCall
  refine slotI_leq fun f=>?_
  split
  · refine slotsI_leq fun l=>?_
    split
    · rename_i hm
      rw [memF_eq] at hm
      simp only [hm, if_true]
      exact opCallXB_leq
    · rename_i hm
      rw [memF_eq] at hm
      simp only [hm, Bool.false_eq_true, if_false]
      split
      · rename_i hl;rw [hl];exact leq_call fun r=>leq_refl _
      · rename_i hl;rw [hl];exact snapsB_leq fun l=>leq_call fun r=>leq_refl _
  · exact slotsI_leq fun l=>leq_genk fun c=>leq_need fun h=>leq_needR (Nat.eq_of_beq_eq_true h) opCallXB_leq
  · exact leq_fail _
def opSliceExprB (T : Tab) (dst : Option Tmp) (t : TypeId) (x : Operand) (lo hi mx : Option Operand) : RB :=
  slotI x fun a=>match a with
    | .slice sz es tok=>match T.slice.get t with
      | some (_, n, _)=>.ok (widthB es sz n) (match lo, hi, mx with
        | none, some h, none=>slotI h fun h=>match h with
          | .v (.int _ h)=>needB (0 ≤ h∧h ≤ es.length) (retB dst (.slice sz (es.take h.toNat) .no))
          | _=>.fail
        | some l, none, none=>slotI l fun l=>match l with
          | .v (.int _ l)=>needB (0 ≤ l∧l ≤ es.length) (retB dst (.slice sz (es.drop l.toNat) .no))
          | _=>.fail
        | some l, some h, none=>slotI l fun l=>slotI h fun h=>match l, h with
          | .v (.int _ l), .v (.int _ h)=>needB (0 ≤ l∧l ≤ h∧h ≤ es.length) (retB dst (.slice sz ((es.take h.toNat).drop l.toNat) .no))
          | _, _=>.fail
        | none, none, none=>retB dst (.slice sz es .no)
        | some l, some h, some m=>slotI l fun l=>slotI h fun h=>slotI m fun m=>match l, h, m with
          | .v (.int _ l), .v (.int _ h), .v (.int _ m)=>needB (0 ≤ l∧l ≤ h∧h = m∧h ≤ es.length) (retB dst (.slice sz ((es.take h.toNat).drop l.toNat) .tight))
          | _, _, _=>.fail
        | none, some h, some m=>slotI h fun h=>slotI m fun m=>match h, m with
          | .v (.int _ h), .v (.int _ m)=>needB (0 ≤ h∧h = m∧h ≤ es.length) (retB dst (.slice sz (es.take h.toNat) .tight))
          | _, _=>.fail
        | _, _, _=>.fail)
      | none=>.fail
    | .ptr k g sz i off=>match T.array.get t with
      | some (n, 1)=>match lo, hi, mx with
        | none, none, none=>.ok (Nat.ble n 16777216) (.gen k fun g'=>.ok (Nat.beq g' g) (retB dst (.sl k g sz i off n)))
        | _, _, _=>.fail
      | _=>.fail
    | .cptr cs=>match T.array.get t with
      | some (n, 1)=>match lo, hi, mx with
        | none, none, none=>.ok (Nat.ble n 16777216) (.ok (Nat.ble n cs.length) (.lst (cs.take n) fun l=>.ok (ones l) (retB dst (.slice 1 l .no))))
        | _, _, _=>.fail
      | _=>.fail
    | .v (.string s)=>slotsI (lo.toList++hi.toList++mx.toList) fun l =>
        match lo, hi, mx, l with
        | none, some _, none, [.v u]=>.sem (Instr.sliceAt t (.string s) none (some u) none) fun r=>retB dst (ofValue r)
        | some _, none, none, [.v u]=>.sem (Instr.sliceAt t (.string s) (some u) none none) fun r=>retB dst (ofValue r)
        | some _, some _, none, [.v u, .v u']=>.sem (Instr.sliceAt t (.string s) (some u) (some u') none) fun r=>retB dst (ofValue r)
        | _, _, _, _=>.fail
    | _=>.fail
theorem le_maxLen {n : Nat} (h : Nat.ble n 16777216 = true) : n ≤ maxLen:=Nat.le_trans (Nat.le_of_ble_eq_true h) (by unfold maxLen;decide)
theorem opSliceExprB_leq (hT : T.Ok P) {dst : Option Tmp} {t : TypeId} {x : Operand} {lo hi mx : Option Operand} : (opSliceExprB T dst t x lo hi mx).rm.leq P (opSliceExpr P dst t x lo hi mx):=by
  unfold opSliceExprB opSliceExpr
  refine slotI_leq fun a=>?_
  split
  · split
    · rename_i ht
      rw [hT.slice.get ht]
      refine leq_need fun h1=>leq_needR (widthB_eq h1) ?_
      split
      · refine slotI_leq fun h=>?_
        split
        · exact needB_leq fun h=>leq_needR h (leq_refl _)
        · exact leq_fail _
      · refine slotI_leq fun h=>?_
        split
        · exact needB_leq fun h=>leq_needR h (leq_refl _)
        · exact leq_fail _
      · refine slotI_leq fun l=>slotI_leq fun h=>?_
        split
        · exact needB_leq fun h=>leq_needR h (leq_refl _)
        · exact leq_fail _
      · exact leq_refl _
      · refine slotI_leq fun l=>slotI_leq fun h=>slotI_leq fun m=>?_
        split
        · exact needB_leq fun h=>leq_needR h (leq_refl _)
        · exact leq_fail _
      · refine slotI_leq fun h=>slotI_leq fun m=>?_
        split
        · exact needB_leq fun h=>leq_needR h (leq_refl _)
        · exact leq_fail _
      · exact leq_fail _
    · exact leq_fail _
  · split
    · rename_i n ht
      rw [hT.array.get ht]
      split
      · exact leq_need fun h0=>leq_needR (le_maxLen h0) (leq_genk fun g'=>leq_need fun h1=>leq_needR (Nat.eq_of_beq_eq_true h1) (leq_refl _))
      · exact leq_fail _
    · exact leq_fail _
  · split
    · rename_i n ht
      rw [hT.array.get ht]
      split
      · exact leq_need fun h0=>leq_need fun h1=>leq_need fun h2=>leq_needR ⟨le_maxLen h0, Nat.le_of_ble_eq_true h1, h2⟩ (leq_refl _)
      · exact leq_fail _
    · exact leq_fail _
  · refine slotsI_leq fun l=>?_
    split
    · exact leq_semc fun r=>leq_refl _
    · exact leq_semc fun r=>leq_refl _
    · exact leq_semc fun r=>leq_refl _
    · exact leq_fail _
  · exact leq_fail _
def opB (T : Tab) (cx : Cx) (o : Oper) : RB :=
  match o.op with
  | .move x|.assign x=>slotI x (retB o.dst)
  | .pick c a b=>slotI c fun c=>slotI a fun a=>slotI b fun b=>match c with
    | .v (.bool t)=>.br t (retB o.dst a) (retB o.dst b)
    | _=>.fail
  | .alloc e=>opAllocB T cx o.dst e
  | .box _ x=>slotI x (opBoxB cx o.dst)
  | .build t parts=>opBuildB T o.dst t parts.toList
  | .buildSlice t len parts=>match o.dst with
    | some d=>match memF d cx.ow with
      | true=>opBuildSliceUB T cx d t len parts.toList
      | false=>opBuildSliceB T o.dst t len parts.toList
    | none=>.fail
  | .load t x=>opLoadKB T t x (retB o.dst)
  | .store t x y=>match o.dst with
    | none=>opStoreB T t x y
    | some _=>.fail
  | .makeSlice t x y=>match o.dst with
    | some d=>match T.slice.get t with
      | some (e, n, by_)=>match T.zero.get e with
        | some (n', z)=>opMakeSliceU cx d n by_ n' z x y
        | none=>.fail
      | none=>.fail
    | none=>.fail
  | .nilCheck x=>opNilB o.dst x
  | .binOp op t x y _=>opBinB T o.dst op t x y
  | .unOp op _ x=>opUnB o.dst op x
  | .convert s t x=>opConvB T o.dst s t x
  | .makeFunc fn first captured=>opMakeFuncB o.dst fn first.toList captured.toList
  | .slice t x lo hi mx=>opSliceExprB T o.dst t x lo hi mx
  | .fieldAddr t x f=>opFieldB T o.dst t x f
  | .indexAddr t x ix=>opIndexAddrB T o.dst t x ix
  | .extract x i=>opExtractB o.dst x i
  | .makeMap _ none=>match o.dst with
    | some d=>opMakeMapU cx d
    | none=>.fail
  | .lookup t x ix ok=>match T.map.get t with
    | some p=>opLookupU p o.dst ok x ix
    | none=>.fail
  | .mapUpdate t m k v|.insert t m k v=>match o.dst with
    | none=>match T.map.get t with
      | some p=>opUpdateU p m k v
      | none=>.fail
    | some _=>.fail
  | .mapEntry t m k=>match T.map.get t with
    | some p=>opEntryU p o.dst m k
    | none=>.fail
  | .entryStore _ m s v=>match o.dst with
    | none=>opEntryStoreU m s v
    | some _=>.fail
  | .index t x ix=>match T.und.get t with
    | some .str=>opIndexU o.dst x ix
    | some _=>.fail
    | none=>match T.indexV.get t with
      | some _=>opIndexVB T o.dst t x ix
      | none=>.fail
  | .field t x f=>opFieldVB T o.dst t x f
  | .range t x=>match o.dst with
    | some d=>match T.und.get t with
      | some .str=>opRangeU cx d x
      | _=>.fail
    | none=>.fail
  | .next x true=>opNextU o.dst x
  | .call c=>match c.callee with
    | .builtin .len=>match c.args.toList, c.argTypes.toList with
      | [x], [t]=>opLenB T o.dst t x
      | _, _=>.fail
    | .builtin .append=>match c.args.toList, c.argTypes.toList with
      | [x, y], [t, t']=>.ok (Nat.beq t t') (match o.dst with
        | some d=>match memF d cx.ow with
          | true=>(match T.slice.get t with
            | some (e, n, by_)=>match T.zero.get e with
              | some (n', _)=>opAppendU cx d n by_ n' x y
              | none=>.fail
            | none=>.fail)
          | false=>opAppendB T cx o.dst t x y
        | none=>.fail)
      | _, _=>.fail
    | .builtin .copy=>match c.args.toList, c.argTypes.toList with
      | [x, y], [t, t']=>.ok (Nat.beq t t') (match T.slice.get t with
        | some (_, n, _)=>opCopyU o.dst n x y
        | none=>.fail)
      | _, _=>.fail
    | .builtin .min=>opMinU false o.dst c.args.toList
    | .builtin .max=>opMinU true o.dst c.args.toList
    | .builtin .clear=>match c.args.toList, c.argTypes.toList with
      | [x], [t]=>match T.und.get t with
        | some .map=>opClearU o.dst x
        | _=>.fail
      | _, _=>.fail
    | .value f=>opCallB cx o.dst f c.args.toList
    | _=>.fail
  | _=>.fail
theorem opB_leq (hT : T.Ok P) {cx : Cx} {o : Oper} : (opB T cx o).rm.leq P (opA P cx o):=by
  unfold opB opA
  cases o.op with
  | move x=>exact slotI_leq fun v=>leq_refl _
  | assign x=>exact slotI_leq fun v=>leq_refl _
  | pick c a b =>
    refine slotI_leq fun c=>slotI_leq fun a=>slotI_leq fun b=>?_
    split
    · rename_i t
      cases t<;>exact leq_refl _
    · exact leq_fail _
  | alloc e=>exact opAllocB_leq hT
  | box t x=>exact slotI_leq fun v=>opBoxB_leq
  | build t parts=>exact opBuildB_leq hT
  | buildSlice t len parts =>
    simp only
    cases hd : o.dst with
    | none=>exact leq_fail _
    | some d =>
      simp only
      cases hm : memF d cx.ow with
      | true =>
        rw [memF_eq] at hm
        rw [if_pos hm]
        exact opBuildSliceUB_leq hT
      | false =>
        rw [memF_eq] at hm
        rw [if_neg (by rw [hm];simp)]
        exact opBuildSliceB_leq hT
  | load t x=>exact opLoadKB_leq hT fun v=>leq_refl _
  | store t x y =>
    simp only
    split
    · rename_i hd;rw [if_pos hd];exact opStoreB_leq hT
    · exact leq_fail _
  | makeSlice t x y =>
    cases hd : o.dst with
    | none=>exact leq_fail _
    | some d =>
      simp only
      split
      · rename_i ht
        rw [hT.slice.get ht]
        simp only
        split
        · rename_i hz;rw [hT.zero.get hz];exact leq_refl _
        · exact leq_fail _
      · exact leq_fail _
  | nilCheck x=>exact opNilB_leq
  | binOp op t x y z=>exact opBinB_leq hT
  | unOp op t x=>exact opUnB_leq
  | convert s t x=>exact opConvB_leq hT
  | makeFunc fn first captured=>exact opMakeFuncB_leq
  | slice t x lo hi mx=>exact opSliceExprB_leq hT
  | fieldAddr t x f=>exact opFieldB_leq hT
  | indexAddr t x ix=>exact opIndexAddrB_leq hT
  | extract x i=>exact opExtractB_leq
  | makeMap t r =>
    cases r with
    | none =>
      simp only
      cases o.dst<;>exact leq_refl _
    | some=>exact leq_fail _
  | lookup t x ix ok =>
    simp only
    split
    · rename_i p hp;exact fun S K h=>⟨p, hT.map.get hp, h⟩
    · exact leq_fail _
  | mapUpdate t x ix y =>
    simp only
    split
    · rename_i hd
      rw [if_pos hd]
      split
      · rename_i p hp;exact fun S K h=>⟨p, hT.map.get hp, h⟩
      · exact leq_fail _
    · exact leq_fail _
  | insert t x ix y =>
    simp only
    split
    · rename_i hd
      rw [if_pos hd]
      split
      · rename_i p hp;exact fun S K h=>⟨p, hT.map.get hp, h⟩
      · exact leq_fail _
    · exact leq_fail _
  | mapEntry t x ix =>
    simp only
    split
    · rename_i p hp;exact fun S K h=>⟨p, hT.map.get hp, h⟩
    · exact leq_fail _
  | entryStore t x ix y =>
    simp only
    split
    · rename_i hd;rw [if_pos hd];exact leq_refl _
    · exact leq_fail _
  | index t x ix =>
    simp only
    split
    · rename_i ht
      have h1 : P.underlying t = some .string:=hT.und.get ht
      rw [h1];exact leq_refl _
    · exact leq_fail _
    · split
      · rename_i q hq
        obtain ⟨len, e, hu⟩:=(hT.indexV.get hq).2
        rw [hu];exact opIndexVB_leq hT
      · exact leq_fail _
  | field t x f=>exact opFieldVB_leq hT
  | range t x =>
    simp only
    split
    · rename_i d hd
      split
      · rename_i ht
        have h1 : P.underlying t = some .string:=hT.und.get ht
        rw [h1, hd];exact leq_refl _
      · exact leq_fail _
    · exact leq_fail _
  | next x b =>
    cases b with
    | true=>exact leq_refl _
    | false=>exact leq_fail _
  | call c =>
    simp only
    cases c.callee with
    | builtin b =>
      cases b with
      | len =>
        simp only
        split
        · rename_i h1 h2;rw [h1, h2];exact opLenB_leq hT
        · exact leq_fail _
      | append =>
        simp only
        split
        · rename_i h1 h2;rw [h1, h2]
          refine leq_need fun h=>?_
          simp only
          rw [if_pos (Nat.eq_of_beq_eq_true h)]
          cases hd : o.dst with
          | none=>exact leq_fail _
          | some d =>
            simp only
            cases hm : memF d cx.ow with
            | true =>
              rw [memF_eq] at hm
              rw [if_pos hm]
              simp only
              split
              · rename_i e n by_ ht
                rw [hT.slice.get ht]
                simp only
                split
                · rename_i hz
                  rw [hT.zero.get hz]
                  exact leq_refl _
                · exact leq_fail _
              · exact leq_fail _
            | false =>
              rw [memF_eq] at hm
              rw [if_neg (by rw [hm];simp)]
              exact opAppendB_leq hT
        · exact leq_fail _
      | copy =>
        simp only
        split
        · rename_i h1 h2;rw [h1, h2]
          refine leq_need fun h=>?_
          simp only
          rw [if_pos (Nat.eq_of_beq_eq_true h)]
          split
          · rename_i ht;rw [hT.slice.get ht];exact leq_refl _
          · exact leq_fail _
        · exact leq_fail _
      | min=>exact leq_refl _
      | max=>exact leq_refl _
      | clear =>
        simp only
        split
        · rename_i h1 h2;rw [h1, h2]
          split
          · rename_i ht
            obtain ⟨a, b, h1⟩:=hT.und.get ht
            simp only [h1];exact leq_refl _
          · exact leq_fail _
        · exact leq_fail _
      | _=>exact leq_fail _
    | value f=>exact opCallB_leq
    | _=>exact leq_fail _
  | _=>exact leq_fail _
end
end Go.Am
namespace Go.Am
open Go.RowKit
def putsK : List Wr→List (Nat × AV)→List (Key × Option BoxS)→List (Key × Option (Nat × Nat))→(SS→Prop)→Prop
  | [], s, b, t, K=>K ⟨s, b, t⟩
  | .slot i v :: ws, s, b, t, K=>putsK ws ((i, v) :: s) b t K
  | .box k c :: ws, s, b, t, K=>putsK ws s ((k, some c) :: b) t K
  | .tk k c :: ws, s, b, t, K=>putsK ws s b ((k, some c) :: t) K
theorem putsK_eq : ∀ (ws : List Wr) (ss : SS) (K : SS→Prop), putsK ws ss.slots ss.boxes ss.toks K = K (ss.puts ws)
  | [], _, _=>rfl
  | .slot i v :: ws, ss, K=>putsK_eq ws (ss.put (.slot i v)) K
  | .box k c :: ws, ss, K=>putsK_eq ws (ss.put (.box k c)) K
  | .tk k c :: ws, ss, K=>putsK_eq ws (ss.put (.tk k c)) K
def SS.know (ss : SS) (x : Operand) (b : Bool) : SS :=
  match x, ss with
  | .tmp t, ⟨s, bs, ts⟩=>⟨(t, .v (.bool b)) :: s, bs, ts⟩
  | _, ss=>ss
theorem Knows.know {ss : SS} {S : St} (hs : Knows ss S) {x : Operand} {b : Bool} (h : S.val x = .v (.bool b)) : Knows (ss.know x b) S:=by
  cases x with
  | tmp t =>
    refine ⟨fun i v hv=>?_, hs.box, hs.tk⟩
    simp only [SS.know, lookS] at hv
    split at hv
    · rename_i hb
      rw [Nat.eq_of_beq_eq_true hb, ← Option.some.inj hv];exact h
    · exact hs.slot i v hv
  | _=>exact hs
def stepB (P : Program) (T : Tab) (cx : Cx) (ops : List Oper) (o : Oper) (ss : SS) (K : SS→List Loc→List Wr→Prop) : Prop :=
  match o.guard with
  | none=>(opB T cx o).ev P ss (K ss)
  | some (j, want)=>match nth ops j with
    | some oj=>match oj.dst with
      | some t=>optP (lookS ss.slots t) fun v=>match v with
        | .v (.bool b)=>match want with
          | true=>brP b ((opB T cx o).ev P ss fun l ws=>K (ss.know (.tmp t) true) (.slot t :: l) ws) (K (ss.know (.tmp t) false) [.slot t] (putA o.dst (.v undef)))
          | false=>brP b (K (ss.know (.tmp t) true) [.slot t] (putA o.dst (.v undef))) ((opB T cx o).ev P ss fun l ws=>K (ss.know (.tmp t) false) (.slot t :: l) ws)
        | .v (.tuple _)=>K ss [.slot t] (putA o.dst (.v undef))
        | _=>False
      | none=>False
    | none=>False
def putsS (ws : List Wr) (ss : SS) (K : SS→Prop) : Prop :=
  match ss with
  | ⟨s, b, t⟩=>putsK ws s b t K
def regB (P : Program) (T : Tab) (cx : Cx) (ops : List Oper) : List Oper→SS→(SS→Prop)→Prop
  | [], ss, K=>K ss
  | o :: os, ss, K=>stepB P T cx ops o ss fun ss _ ws=>putsS ws ss fun ss'=>regB P T cx ops os ss' K
def canB (P : Program) (T : Tab) (cx : Cx) (ops : List Oper) : List Oper→SS→List (List Loc × List Loc)→(List (List Loc × List Loc)→SS→Prop)→Prop
  | [], ss, acc, K=>K acc ss
  | o :: os, ss, acc, K=>stepB P T cx ops o ss fun ss l ws=>putsS ws ss fun ss'=>canB P T cx ops os ss' (acc++[(l, ws.map Wr.loc)]) K
theorem putsS_eq (ws : List Wr) (ss : SS) (K : SS→Prop) : putsS ws ss K = K (ss.puts ws):=putsK_eq ws ss K
theorem ev_opA {P : Program} {T : Tab} (hT : T.Ok P) {cx : Cx} {o : Oper} {ss : SS} {S : St} (hs : Knows ss S) {K : List Loc→List Wr→Prop} (h : (opB T cx o).ev P ss K) : (opA P cx o).wp P S K :=
  opB_leq hT _ _ (RB.ev_rm hs _ h)
theorem stepB_sound {P : Program} {T : Tab} (hT : T.Ok P) {cx : Cx} {ops : Array Oper} {o : Oper} {ss : SS} {S : St} (hs : Knows ss S) {K : SS→List Loc→List Wr→Prop}
    (h : stepB P T cx ops.toList o ss K) : stepW P cx ops o S fun l ws=>∃ ss', Knows ss' S∧K ss' l ws:=by
  unfold stepB at h
  unfold stepW
  split
  · rename_i hg;rw [hg] at h;exact RM.wp_mono _ (fun l ws hk=>⟨ss, hs, hk⟩) (ev_opA hT hs h)
  · rename_i j want hg
    rw [hg] at h
    simp only [nth_eq, Array.getElem?_toList] at h
    split at h
    · rename_i oj hj
      rw [hj]
      simp only [Option.bind_some]
      split at h
      · rename_i t ht
        rw [ht]
        simp only
        obtain ⟨v, hl, h⟩:=optP_elim h
        have hv:=hs.slot _ _ hl
        clear hl
        rw [hv]
        split at h
        · rename_i b
          simp only
          cases want<;>cases b<;>simp only [brP] at h
          · rw [if_pos rfl];exact RM.wp_mono _ (fun l ws hk=>⟨_, hs.know (x:=.tmp t) hv, hk⟩) (ev_opA hT hs h)
          · rw [if_neg (by simp)];exact ⟨_, hs.know (x:=.tmp t) hv, h⟩
          · rw [if_neg (by simp)];exact ⟨_, hs.know (x:=.tmp t) hv, h⟩
          · rw [if_pos rfl];exact RM.wp_mono _ (fun l ws hk=>⟨_, hs.know (x:=.tmp t) hv, hk⟩) (ev_opA hT hs h)
        · exact ⟨_, hs, h⟩
        · exact h.elim
      · exact h.elim
    · exact h.elim
def lift (Q : SS→Prop) (S : St) : Prop:=∃ ss, Knows ss S∧Q ss
def liftE (Q : Exit→SS→Prop) (e : Exit) (S : St) : Prop:=∃ ss, Knows ss S∧Q e ss
theorem regB_sound {P : Program} {T : Tab} (hT : T.Ok P) {cx : Cx} {ops : Array Oper} {K : SS→Prop} : ∀ (os : List Oper) {ss : SS} {S : St}, Knows ss S→regB P T cx ops.toList os ss K→regL P cx ops os S (lift K)
  | [], ss, S, hs, h=>⟨ss, hs, h⟩
  | o :: os, ss, S, hs, h=>by
    simp only [regB] at h
    simp only [regL]
    exact stepW_mono (fun l ws ⟨ss', hs', h'⟩=>regB_sound hT os (hs'.puts ws) (by rwa [putsS_eq] at h')) (stepB_sound hT hs h)
theorem canB_sound {P : Program} {T : Tab} (hT : T.Ok P) {cx : Cx} {ops : Array Oper} {K : List (List Loc × List Loc)→SS→Prop} : ∀ (os : List Oper) {ss : SS} {S : St} {acc : List (List Loc × List Loc)}, Knows ss S →
    canB P T cx ops.toList os ss acc K→canL P cx ops os S acc fun infos=>lift (K infos)
  | [], ss, S, _, hs, h=>⟨ss, hs, h⟩
  | o :: os, ss, S, _, hs, h=>by
    simp only [canB] at h
    simp only [canL]
    exact stepW_mono (fun l ws ⟨ss', hs', h'⟩=>canB_sound hT os (hs'.puts ws) (by rwa [putsS_eq] at h')) (stepB_sound hT hs h)
def thenB (next : SS→Prop) (Q : Exit→SS→Prop) : Exit→SS→Prop
  | .normal, S=>next S
  | .exit i, S=>Q (.exit i) S
  | .ret, S=>Q .ret S
  | e, S=>Q e S
def blockB (id : Nat) (Q : Exit→SS→Prop) : Exit→SS→Prop
  | .exit id', S=>match Nat.beq id' id with
    | true=>Q .normal S
    | false=>Q (.exit id') S
  | .normal, S=>Q .normal S
  | .ret, S=>Q .ret S
  | e, S=>Q e S
def noGotoB (Q : Exit→SS→Prop) : Exit→SS→Prop
  | .goto _, _=>False
  | .normal, S=>Q .normal S
  | .exit i, S=>Q (.exit i) S
  | .ret, S=>Q .ret S
  | e, S=>Q e S
structure LoopW (rd : Bool) (P : Program) (N : Nat) (c : Code) (Q : Exit→SS→Prop) (ss : SS) : Prop where
  go : ∀ S, Knows ss S→WpA rd P N (.loop c) (liftE Q) S
def valB (x : Operand) (ss : SS) (K : AV→Prop) : Prop :=
  match x with
  | .tmp t=>optP (lookS ss.slots t) K
  | .const v=>K (ofValue v)
  | _=>False
def condB (v : AV) (A B : Prop) : Prop :=
  match v with
  | .v (.bool t)=>brP t A B
  | _=>False
structure DrawOk (ops : Array Oper) (infos : List (List Loc × List Loc)) : Prop where
  ok : okDraw ops infos = true
def snapK : Nat→List (Nat × AV)→List AV→(List AV→Prop)→Prop
  | 0, _, acc, K=>K acc
  | n + 1, sl, acc, K=>match lookS sl n with
    | some v=>snapK n sl (v :: acc) K
    | none=>snapK n sl (.junk :: acc) K
def endJump (pend : Option Code) (Q : Exit→SS→Prop) (ss : SS) : Prop :=
  match pend with
  | none=>Q .normal ss
  | some .ret=>Q .ret ss
  | some (.exit i)=>Q (.exit i) ss
  | some _=>False
def notBusy : LoopState→Bool
  | .busy=>false
  | _=>true
def rangeEndB (kl : Key) (g : Nat) (Q : Exit→SS→Prop) (ss : SS) : Prop :=
  match ss with
  | ⟨s, b, t⟩=>optP (lookK b kl) fun c=>optP c fun c=>optP c.2 fun d=>okP (Nat.beq c.1 g) (okP (Nat.beq d.1 0) (match d.2 with
    | [.lp st pend _ _ _ _]=>okP (notBusy st) (endJump pend Q ⟨s, (kl, some (g, none)) :: b, t⟩)
    | _=>False))
def rangeB (P : Program) (T : Tab) (N : Nat) (kl : Key) (g : Operand) (ps : Array Tmp) (as bo : Code) (Q : Exit→SS→Prop) (ss : SS) : Prop :=
  match ss with
  | ⟨s, b, t⟩=>optP (match g with|.tmp i=>lookS s i|_=>none) fun v=>match v with
    | .func (.func fid) fs cs=>genP (lookK b kl) fun g0=>snapK N s [] fun l =>
      (opCallXB none (.fn fid) (fs++[.yld kl (g0 + 1)]++cs)).ev P ⟨s, (kl, some (g0 + 1, some (0, [.lp .ready none ps as bo l]))) :: b, t⟩ fun _ ws =>
        putsK ws s ((kl, some (g0 + 1, some (0, [.lp .ready none ps as bo l]))) :: b) t fun ss2=>rangeEndB kl (g0 + 1) Q ss2
    | _=>False
def regionB (P : Program) (T : Tab) (cx : Cx) (ops : Array Oper) (d : Bool) (Q : SS→Prop) (ss : SS) : Prop :=
  match d with
  | true=>canB P T cx ops.toList ops.toList ss [] fun infos ss'=>DrawOk ops infos∧Q ss'
  | false=>regB P T cx ops.toList ops.toList ss Q
def codeB (P : Program) (T : Tab) (cx : Cx) (N : Nat) : Code→(Exit→SS→Prop)→SS→Prop
  | .skip, Q, ss=>Q .normal ss
  | .region id ops d, Q, ss=>match fzAt id cx.fz with
    | none=>regionB P T cx ops d (Q .normal) ss
    | some kb=>match ss with
      | ⟨s, b, t⟩=>(stoneD kb).ev P ⟨s, b, t⟩ fun _ ws=>putsK ws s b t (regionB P T cx ops d (Q .normal))
  | .seq x y, Q, ss=>codeB P T cx N x (thenB (codeB P T cx N y Q) Q) ss
  | .cond c x y, Q, ss=>valB c ss fun v=>condB v (codeB P T cx N x Q (ss.know c true)) (codeB P T cx N y Q (ss.know c false))
  | .block i c, Q, ss=>codeB P T cx N c (blockB i Q) ss
  | .loop c, Q, ss=>LoopW cx.rd P N c Q ss
  | .rangeFunc g ps as bo, Q, ss=>okP (!cx.rd) (rangeB P T N (cx.loopKey ps) g ps as bo Q ss)
  | .exit i, Q, ss=>Q (.exit i) ss
  | .scope c, Q, ss=>codeB P T cx N c (noGotoB Q) ss
  | .label _, Q, ss=>Q .normal ss
  | .goto _, _, _=>False
  | .ret, Q, ss=>Q .ret ss
  | .refuse _, _, _=>False
theorem RM.wp0_mono {P : Program} {S : St} (m : RM) : ∀ {K K' : List Wr→Prop}, m.wp0 P S K→(∀ ws, K ws→K' ws)→m.wp0 P S K':=by
  induction m with
  | mty k ih=>exact fun ⟨ks, h⟩ hk=>⟨ks, ih _ h hk⟩
  | keys k ih=>exact fun ⟨ks, h⟩ hk=>⟨ks, ih _ h hk⟩
  | callx f args pre k ih=>exact fun ⟨r, post, hr, h⟩ hk=>⟨r, post, hr, ih _ _ h hk⟩
  | done ws=>exact fun h hk=>hk _ h
  | slot i k ih=>exact fun h hk=>ih _ h hk
  | box key k ih=>exact fun h hk=>ih _ h hk
  | tk key k ih=>exact fun h hk=>ih _ h hk
  | sem s k ih=>exact fun ⟨r, hr, h⟩ hk=>⟨r, hr, ih _ h hk⟩
  | call f args snap k ih=>exact fun ⟨r, hr, h⟩ hk=>⟨r, hr, ih _ h hk⟩
  | need p k ih=>exact fun ⟨hp, h⟩ hk=>⟨hp, ih h hk⟩
  | fail=>exact fun h _=>h
theorem RangeW.mono {P : Program} {N : Nat} {kl : Key} {g : Operand} {ps : Array Tmp} {as bo : Code} {Q Q' : Exit→St→Prop} {S : St} (h : RangeW P N kl g ps as bo Q S) (hq : ∀ e S, Q e S→Q' e S) : RangeW P N kl g ps as bo Q' S:=by
  obtain ⟨l, fid, fs, cs, h1, h2, h3⟩:=h
  refine ⟨l, fid, fs, cs, h1, h2, RM.wp0_mono _ h3 fun ws h=>?_⟩
  unfold rangeEnd at h ⊢
  split at h
  · refine ⟨h.1, h.2.1, ?_⟩
    have:=h.2.2
    split at this<;>first|exact hq _ _ this|exact this
  · exact h
theorem snapK_spec : ∀ (n : Nat) {sl : List (Nat × AV)} {acc : List AV} {K : List AV→Prop}, snapK n sl acc K→∃ l, K (l++acc)∧l.length = n∧∀ (i : Nat) (x : AV), l[i]? = some x→x = .junk∨lookS sl i = some x
  | 0, _, acc, K, h=>⟨[], h, rfl, by simp⟩
  | n + 1, sl, acc, K, h=>by
    simp only [snapK] at h
    have key : ∀ v, (v = .junk∨lookS sl n = some v)→snapK n sl (v :: acc) K→∃ l, K (l++acc)∧l.length = n + 1∧∀ (i : Nat) (x : AV), l[i]? = some x→x = .junk∨lookS sl i = some x:=by
      intro v hv h
      obtain ⟨l, h1, h2, h3⟩:=snapK_spec n h
      refine ⟨l++[v], by simpa using h1, by simp [h2], fun i x hx=>?_⟩
      by_cases hi : i < l.length
      · rw [List.getElem?_append_left hi] at hx;exact h3 i x hx
      · rw [List.getElem?_append_right (by omega)] at hx
        by_cases hz : i - l.length = 0
        · rw [hz] at hx;simp at hx;subst hx
          rw [show i = n by omega];exact hv
        · rw [List.getElem?_eq_none (by simp;omega)] at hx;simp at hx
    split at h
    · rename_i v hv;exact key v (.inr hv) h
    · exact key _ (.inl rfl) h
theorem rangeB_sound {P : Program} {T : Tab} (_hT : T.Ok P) {N : Nat} {kl : Key} {g : Operand} {ps : Array Tmp} {as bo : Code} {Q : Exit→SS→Prop} {ss : SS} {S : St} (hs : Knows ss S) (h : rangeB P T N kl g ps as bo Q ss) :
    RangeW P N kl g ps as bo (liftE Q) S:=by
  obtain ⟨s, b, t⟩:=ss
  unfold rangeB at h
  simp only at h
  obtain ⟨v, hv, h⟩:=optP_elim h
  have hg : S.val g = v:=by
    cases g with
    | tmp i=>exact hs.slot i v hv
    | _=>simp at hv
  split at h
  · rename_i fid fs cs
    have h : snapK N s [] fun l=>(opCallXB none (.fn fid) (fs++[.yld kl ((S.box kl).1 + 1)]++cs)).ev P ⟨s, (kl, some ((S.box kl).1 + 1, some (0, [.lp .ready none ps as bo l]))) :: b, t⟩ fun _ ws =>
        putsK ws s ((kl, some ((S.box kl).1 + 1, some (0, [.lp .ready none ps as bo l]))) :: b) t fun ss2=>rangeEndB kl ((S.box kl).1 + 1) Q ss2:=by
      have hb:=hs.box kl
      unfold genP at h
      split at h
      · rename_i c hc;rw [hc] at hb;rw [show S.box kl = c from hb];exact h
      · exact h _
      · rename_i hc;rw [hc] at hb;rw [show S.box kl = (0, none) from hb];exact h
    obtain ⟨l, h, hl, hlk⟩:=snapK_spec N h
    rw [List.append_nil] at h
    refine ⟨l, fid, fs, cs, ⟨hl, fun i x hx=>(hlk i x hx).imp id fun h=>(hs.slot i x h).symm⟩, hg, ?_⟩
    have hs1 : Knows ⟨s, (kl, some ((S.box kl).1 + 1, some (0, [.lp .ready none ps as bo l]))) :: b, t⟩ (rangeSt S kl ps as bo l):=hs.put (.box kl ((S.box kl).1 + 1, some (0, [.lp .ready none ps as bo l])))
    have h:=RM.wp_wp0 _ (opCallXB_leq (P:=P) _ _ (RB.ev_rm hs1 _ h))
    refine RM.wp0_mono _ h ?_
    rintro ws ⟨_, h⟩
    have h : rangeEndB kl ((S.box kl).1 + 1) Q (SS.puts ⟨s, (kl, some ((S.box kl).1 + 1, some (0, [.lp .ready none ps as bo l]))) :: b, t⟩ ws):=by
      have:=putsK_eq ws ⟨s, (kl, some ((S.box kl).1 + 1, some (0, [.lp .ready none ps as bo l]))) :: b, t⟩ (fun ss2=>rangeEndB kl ((S.box kl).1 + 1) Q ss2)
      exact this ▸ h
    have hs2:=hs1.puts ws
    revert h hs2
    generalize SS.puts ⟨s, (kl, some ((S.box kl).1 + 1, some (0, [.lp .ready none ps as bo l]))) :: b, t⟩ ws = ss2
    generalize (rangeSt S kl ps as bo l).puts ws = S2
    intro h hs2
    obtain ⟨s2, b2, t2⟩:=ss2
    unfold rangeEndB at h
    simp only at h
    obtain ⟨c, hc, k1⟩:=optP_elim h
    clear h
    obtain ⟨c1, hc1, k2⟩:=optP_elim k1
    clear k1
    rw [hc1] at hc
    clear hc1
    obtain ⟨d, hd, k3⟩:=optP_elim k2
    clear k2
    obtain ⟨e1, k4⟩:=okP_elim k3
    clear k3
    obtain ⟨e2, k5⟩:=okP_elim k4
    clear k4
    have hb2 : S2.box kl = c1:=by have:=hs2.box kl;rw [hc] at this;exact this
    obtain ⟨g1, o1⟩:=c1
    obtain ⟨sz, es⟩:=d
    simp only at hd e1 e2 k5
    have e1:=Nat.eq_of_beq_eq_true e1
    have e2:=Nat.eq_of_beq_eq_true e2
    subst hd e1 e2
    split at k5
    · rename_i st pend _ _ _ _
      obtain ⟨hst, k6⟩:=okP_elim k5
      unfold rangeEnd
      rw [hb2]
      refine ⟨rfl, fun e=>by rw [e] at hst;simp [notBusy] at hst, ?_⟩
      have hs3:=hs2.put (.box kl ((S.box kl).1 + 1, none))
      unfold endJump at k6
      split at k6
      · exact ⟨_, hs3, k6⟩
      · exact ⟨_, hs3, k6⟩
      · exact ⟨_, hs3, k6⟩
      · exact k6.elim
    · exact k5.elim
  · exact h.elim
theorem codeW_mono {P : Program} (cx : Cx) {N : Nat} : ∀ (c : Code) {Q Q' : Exit→St→Prop} {S : St}, (∀ e S, Q e S→Q' e S)→codeW P cx N c Q S→codeW P cx N c Q' S
  | .skip, _, _, _, hq, h=>hq _ _ h
  | .region _ ops d, Q, Q', S0, hq, h=>by
    obtain ⟨S, ht, h⟩:=h
    refine ⟨S, ht, ?_⟩
    cases d with
    | true =>
      refine (?_ : canL P cx ops ops.toList S [] _)
      have h : canL P cx ops ops.toList S [] _:=h
      have : ∀ (os : List Oper) (S : St) (acc : List (List Loc × List Loc)) {K K' : List (List Loc × List Loc)→St→Prop}, (∀ i S, K i S→K' i S)→canL P cx ops os S acc K→canL P cx ops os S acc K':=by
        intro os
        induction os with
        | nil=>exact fun S acc K K' hk h=>hk _ _ h
        | cons o os ih=>exact fun S acc K K' hk h=>stepW_mono (fun l ws h'=>ih _ _ hk h') h
      exact this _ _ _ (fun i S ⟨a, b⟩=>⟨a, hq _ _ b⟩) h
    | false =>
      refine (?_ : regL P cx ops ops.toList S _)
      have h : regL P cx ops ops.toList S _:=h
      have : ∀ (os : List Oper) (S : St) {K K' : St→Prop}, (∀ S, K S→K' S)→regL P cx ops os S K→regL P cx ops os S K':=by
        intro os
        induction os with
        | nil=>exact fun S K K' hk h=>hk _ h
        | cons o os ih=>exact fun S K K' hk h=>stepW_mono (fun l ws h'=>ih _ hk h') h
      exact this _ _ (fun S b=>hq _ _ b) h
  | .seq x y, _, _, _, hq, h=>codeW_mono cx x (fun e S h'=>by
      cases e with
      | normal=>exact codeW_mono cx y hq h'
      | _=>exact hq _ _ h') h
  | .cond c x y, _, _, _, hq, ⟨t, ht, h1, h2⟩=>⟨t, ht, fun e=>codeW_mono cx x hq (h1 e), fun e=>codeW_mono cx y hq (h2 e)⟩
  | .block i c, _, _, _, hq, h=>codeW_mono cx c (fun e S h'=>by
      cases e with
      | exit j =>
        simp only [blockA] at h' ⊢
        split
        · rename_i e;rw [if_pos e] at h';exact hq _ _ h'
        · rename_i e;rw [if_neg e] at h';exact hq _ _ h'
      | _=>exact hq _ _ h') h
  | .loop c, _, _, _, hq, h=>WpA.mono h hq
  | .rangeFunc .., _, _, _, hq, h=>⟨h.1, h.2.mono hq⟩
  | .exit i, _, _, _, hq, h=>hq _ _ h
  | .scope c, _, _, _, hq, h=>codeW_mono cx c (fun e S h'=>by cases e<;>first|exact hq _ _ h'|exact h') h
  | .label _, _, _, _, hq, h=>hq _ _ h
  | .goto _, _, _, _, _, h=>h
  | .ret, _, _, _, hq, h=>hq _ _ h
  | .refuse _, _, _, _, _, h=>h
theorem regionB_sound {P : Program} {T : Tab} (hT : T.Ok P) {cx : Cx} {ops : Array Oper} {d : Bool} {Q : Exit→SS→Prop} {ss : SS} {S : St} (hs : Knows ss S) (h : regionB P T cx ops d (Q .normal) ss) :
    if d then canL P cx ops ops.toList S [] fun infos S'=>okDraw ops infos = true∧liftE Q .normal S' else regL P cx ops ops.toList S (liftE Q .normal):=by
  cases d with
  | true =>
    have h : canB P T cx ops.toList ops.toList ss [] _:=h
    refine (?_ : canL P cx ops ops.toList S [] _)
    have:=canB_sound (ops:=ops) hT ops.toList hs h
    have mono : ∀ (os : List Oper) (S : St) (acc : List (List Loc × List Loc)) {K K' : List (List Loc × List Loc)→St→Prop}, (∀ i S, K i S→K' i S)→canL P cx ops os S acc K→canL P cx ops os S acc K':=by
      intro os
      induction os with
      | nil=>exact fun S acc K K' hk h=>hk _ _ h
      | cons o os ih=>exact fun S acc K K' hk h=>stepW_mono (fun l ws h'=>ih _ _ hk h') h
    exact mono _ _ _ (fun i S' ⟨ss', h1, h2, h3⟩=>⟨h2.ok, ss', h1, h3⟩) this
  | false=>exact regB_sound (ops:=ops) hT ops.toList hs h
theorem codeB_sound {P : Program} {T : Tab} (hT : T.Ok P) (cx : Cx) {N : Nat} : ∀ (c : Code) {Q : Exit→SS→Prop} {ss : SS} {S : St}, Knows ss S→codeB P T cx N c Q ss→codeW P cx N c (liftE Q) S
  | .skip, _, ss, _, hs, h=>⟨ss, hs, h⟩
  | .region id ops d, Q, ss, S, hs, h=>by
    have h : (match fzAt id cx.fz with
      | none=>regionB P T cx ops d (Q .normal) ss
      | some kb=>match ss with
        | ⟨s, b, t⟩=>(stoneD kb).ev P ⟨s, b, t⟩ fun _ ws=>putsK ws s b t (regionB P T cx ops d (Q .normal))):=h
    split at h
    · exact ⟨S, .refl S, regionB_sound hT hs h⟩
    · obtain ⟨s, b, t⟩:=ss
      obtain ⟨ws, ⟨_, hK⟩, ht⟩:=stoneD_turns (RM.wp_wp0 _ ((stoneD _).ev_rm hs h))
      rw [putsK_eq ws ⟨s, b, t⟩] at hK
      exact ⟨_, ht, regionB_sound hT (hs.puts ws) hK⟩
  | .seq x y, Q, ss, S, hs, h=>by
    have h : codeB P T cx N x (thenB (codeB P T cx N y Q) Q) ss:=h
    refine codeW_mono cx x (fun e S'=>?_) (codeB_sound hT cx x hs h)
    rintro ⟨ss', h1, h2⟩
    cases e with
    | normal=>exact codeB_sound hT cx y h1 h2
    | _=>exact ⟨ss', h1, h2⟩
  | .cond c x y, Q, ss, S, hs, h=>by
    have h : valB c ss fun v=>condB v (codeB P T cx N x Q (ss.know c true)) (codeB P T cx N y Q (ss.know c false)):=h
    have : ∃ v, S.val c = v∧condB v (codeB P T cx N x Q (ss.know c true)) (codeB P T cx N y Q (ss.know c false)):=by
      cases c with
      | tmp t=>obtain ⟨v, hv, h⟩:=optP_elim h;exact ⟨v, hs.slot _ _ hv, h⟩
      | const v=>exact ⟨_, rfl, h⟩
      | _=>exact h.elim
    obtain ⟨v, hv, h⟩:=this
    unfold condB at h
    split at h
    · rename_i t
      refine ⟨t, hv, ?_, ?_⟩
      · rintro rfl;exact codeB_sound hT cx x (hs.know hv) h
      · rintro rfl;exact codeB_sound hT cx y (hs.know hv) h
    · exact h.elim
  | .block i c, Q, ss, S, hs, h=>by
    refine codeW_mono cx c (fun e S'=>?_) (codeB_sound hT cx c hs h)
    rintro ⟨ss', h1, h2⟩
    cases e with
    | exit j =>
      simp only [blockA]
      simp only [blockB] at h2
      split at h2
      · rename_i e;rw [if_pos (Nat.eq_of_beq_eq_true e)];exact ⟨ss', h1, h2⟩
      · rename_i e;rw [if_neg (fun e'=>by rw [e', Nat.beq_refl] at e;simp at e)];exact ⟨ss', h1, h2⟩
    | _=>exact ⟨ss', h1, h2⟩
  | .loop c, Q, ss, S, hs, h=>h.go S hs
  | .rangeFunc g ps as bo, _, _, _, hs, h=>by
    obtain ⟨h1, h⟩:=okP_elim h
    exact ⟨by simpa using h1, rangeB_sound hT hs h⟩
  | .exit i, _, ss, _, hs, h=>⟨ss, hs, h⟩
  | .scope c, Q, ss, S, hs, h=>by
    refine codeW_mono cx c (fun e S'=>?_) (codeB_sound hT cx c hs h)
    rintro ⟨ss', h1, h2⟩
    cases e with
    | goto=>exact h2.elim
    | _=>exact ⟨ss', h1, h2⟩
  | .label _, _, ss, _, hs, h=>⟨ss, hs, h⟩
  | .goto _, _, _, _, _, h=>h.elim
  | .ret, _, ss, _, hs, h=>⟨ss, hs, h⟩
  | .refuse _, _, _, _, _, h=>h.elim
def slotsLe (l : List (Nat × AV)) : List (Nat × AV)→Prop
  | []=>True
  | (i, v) :: l'=>optP (lookS l i) (fun u=>u = v)∧slotsLe l l'
theorem slotsLe_look {l : List (Nat × AV)} : ∀ {l' : List (Nat × AV)}, slotsLe l l'→∀ i v, lookS l' i = some v→lookS l i = some v
  | [], _, i, v, h=>by simp [lookS] at h
  | (j, u) :: l', ⟨h1, h2⟩, i, v, h=>by
    obtain ⟨u', e, rfl⟩:=optP_elim h1
    simp only [lookS] at h
    split at h
    · rename_i hb
      have:=Nat.eq_of_beq_eq_true hb
      subst this
      rw [e, ← h]
    · exact slotsLe_look h2 i v h
def keyIn {α : Type} (k : Key) : List (Key × α)→Bool
  | []=>false
  | (j, _) :: l=>match Key.beq k j with
    | true=>true
    | false=>keyIn k l
def keysLe {α : Type} (z : α) (l : List (Key × Option α)) : List (Key × Option α)→Prop
  | []=>True
  | (k, o) :: l'=>(match o with
    | none=>True
    | some c=>match lookK l k with
      | some o'=>o' = some c
      | none=>c = z)∧keysLe z l l'
def keysCov {α : Type} (l' : List (Key × Option α)) : List (Key × Option α)→Bool
  | []=>true
  | (k, _) :: l=>match keyIn k l' with
    | true=>keysCov l' l
    | false=>false
structure Weaker (ss ss' : SS) : Prop where
  go : ∀ S, Knows ss S→Knows ss' S
theorem lookK_none {α : Type} : ∀ {l : List (Key × Option α)} {k : Key}, lookK l k = none↔keyIn k l = false
  | [], k=>by simp [lookK, keyIn]
  | (j, v) :: l, k=>by
    simp only [lookK, keyIn]
    cases hb : k.beq j with
    | true=>simp
    | false=>simp only [];exact lookK_none
theorem keysCov_spec {α : Type} {l' : List (Key × Option α)} : ∀ {l : List (Key × Option α)}, keysCov l' l = true→∀ k, keyIn k l = true→keyIn k l' = true
  | [], _, k, h=>by simp [keyIn] at h
  | (j, v) :: l, h, k, hk=>by
    simp only [keysCov] at h
    split at h
    · rename_i hj
      simp only [keyIn] at hk
      split at hk
      · rename_i hb;rw [Key.beq_eq.1 hb];exact hj
      · exact keysCov_spec h k hk
    · simp at h
theorem keysLe_spec {α : Type} {z : α} {l : List (Key × Option α)} : ∀ {l' : List (Key × Option α)}, keysLe z l l'→∀ k c, lookK l' k = some (some c)→lookK l k = some (some c)∨(lookK l k = none∧c = z)
  | [], _, k, c, h=>by simp [lookK] at h
  | (j, o) :: l', ⟨h1, h2⟩, k, c, h=>by
    simp only [lookK] at h
    split at h
    · rename_i hb
      have:=Key.beq_eq.1 hb
      subst this
      simp only [Option.some.injEq] at h
      subst h
      simp only at h1
      split at h1
      · rename_i o' ho;left;rw [ho, h1]
      · rename_i ho;exact .inr ⟨ho, h1⟩
    · exact keysLe_spec h2 k c h
def weakP (ss ss' : SS) : Prop :=
  okP (keysCov ss'.boxes ss.boxes) (okP (keysCov ss'.toks ss.toks) (slotsLe ss.slots ss'.slots∧keysLe (0, none) ss.boxes ss'.boxes∧keysLe (0, 0) ss.toks ss'.toks))
theorem weaker_of {ss ss' : SS} (h : weakP ss ss') : Weaker ss ss':=by
  obtain ⟨c1, h⟩:=okP_elim h
  obtain ⟨c2, h1, h2, h3⟩:=okP_elim h
  refine ⟨fun S hs=>⟨fun i v hv=>hs.slot i v (slotsLe_look h1 i v hv), fun k=>?_, fun k=>?_⟩⟩
  · split
    · rename_i c hc
      have:=hs.box k
      rcases keysLe_spec h2 k c hc with h|⟨h, rfl⟩
      · rw [h] at this;exact this
      · rw [h] at this;exact this
    · trivial
    · rename_i hn
      have:=hs.box k
      have hl : lookK ss.boxes k = none:=by
        rw [lookK_none] at hn ⊢
        cases hk : keyIn k ss.boxes with
        | false=>rfl
        | true=>rw [keysCov_spec c1 k hk] at hn;simp at hn
      rw [hl] at this;exact this
  · split
    · rename_i c hc
      have:=hs.tk k
      rcases keysLe_spec h3 k c hc with h|⟨h, rfl⟩
      · rw [h] at this;exact this
      · rw [h] at this;exact this
    · trivial
    · rename_i hn
      have:=hs.tk k
      have hl : lookK ss.toks k = none:=by
        rw [lookK_none] at hn ⊢
        cases hk : keyIn k ss.toks with
        | false=>rfl
        | true=>rw [keysCov_spec c2 k hk] at hn;simp at hn
      rw [hl] at this;exact this
theorem loopB {P : Program} {T : Tab} (hT : T.Ok P) (cx : Cx) {N : Nat} (hm : P.follows .mixedOrders = true) {c : Code} {Q : Exit→SS→Prop} {ss : SS} {α : Type} (I : α→SS) (inv : α→Prop) (m : α→Nat) (a₀ : α) (hin : codeIn N c = true)
    (hi₀ : inv a₀) (h₀ : Weaker ss (I a₀)) (round : ∀ a, inv a→codeB P T cx N c (thenB (fun ss'=>∃ a', inv a'∧m a' < m a∧weakP ss' (I a')) Q) (I a)) : LoopW cx.rd P N c Q ss:=by
  refine ⟨fun S hs=>loop_code cx hm (fun n S=>∃ a, m a = n∧inv a∧Knows (I a) S) (m a₀) hin ⟨a₀, rfl, hi₀, h₀.go S hs⟩ ?_⟩
  rintro n S ⟨a, rfl, hi, hk⟩
  refine codeW_mono cx c (fun e S'=>?_) (codeB_sound hT cx c hk (round a hi))
  rintro ⟨ss', h1, h2⟩
  cases e with
  | normal =>
    obtain ⟨a', hi', hm', hw⟩:=h2
    exact ⟨m a', hm', a', rfl, hi', (weaker_of hw).go _ h1⟩
  | _=>exact ⟨ss', h1, h2⟩
def frzB (x : AV) (k : AV→RB) : RB :=
  match x with
  | .agg cs=>snaps1B cs fun l=>k (.agg l)
  | x=>snapB x k
theorem frzB_leq {P : Program} {x : AV} {k : AV→RB} {k' : AV→RM} (h : ∀ v, (k v).rm.leq P (k' v)) : (frzB x k).rm.leq P (frz x k'):=by
  cases x with
  | agg cs=>exact snaps1B_leq fun l=>h _
  | _=>simp only [frzB, frz];exact snapB_leq h
def resB (T : Tab) : List ResultVar→(List AV→RB)→RB
  | [], k=>k []
  | .tmp t :: rs, k=>.slot t fun v=>frzB v fun v=>resB T rs fun l=>k (v :: l)
  | .cell a t :: rs, k=>opLoadKB T t (.tmp a) fun v=>frzB v fun v=>resB T rs fun l=>k (v :: l)
theorem resB_leq {P : Program} {T : Tab} (hT : T.Ok P) : ∀ {rs : List ResultVar} {k : List AV→RB} {k' : List AV→RM}, (∀ v, (k v).rm.leq P (k' v))→(resB T rs k).rm.leq P (resRM P rs k')
  | [], _, _, h=>h []
  | .tmp t :: rs, _, _, h=>leq_slot fun v=>frzB_leq fun v=>resB_leq hT fun l=>h _
  | .cell a t :: rs, _, _, h=>opLoadKB_leq (x:=.tmp a) hT fun v=>frzB_leq fun v=>resB_leq hT fun l=>h _
structure Res (res l : AV) : Prop where
  eq : res = l
noncomputable def endB (P : Program) (T : Tab) (rs : List ResultVar) (res : AV) (e : Exit) (ss : SS) : Prop :=
  match e with
  | .normal|.ret=>(resB T rs fun l=>.lst l fun l=>.need (Res res (oneOf l)) (Classical.propDecidable _) (.done [])).ev P ss fun _ _=>True
  | _=>False
def slotsFrom : Nat→List AV→List (Nat × AV)
  | _, []=>[]
  | i, x :: xs=>(i, x) :: slotsFrom (i + 1) xs
theorem slotsFrom_look : ∀ (xs : List AV) (k i : Nat) (v : AV), lookS (slotsFrom k xs) i = some v→k ≤ i∧xs[i - k]? = some v
  | [], k, i, v, h=>by simp [slotsFrom, lookS] at h
  | x :: xs, k, i, v, h=>by
    simp only [slotsFrom, lookS] at h
    split at h
    · rename_i hb
      have:=Nat.eq_of_beq_eq_true hb
      subst this
      simpa using h
    · rename_i hb
      have hne : i ≠ k:=fun e=>by rw [e, Nat.beq_refl] at hb;simp at hb
      obtain ⟨h1, h2⟩:=slotsFrom_look xs (k + 1) i v h
      refine ⟨by omega, ?_⟩
      rw [show i - k = (i - (k + 1)) + 1 by omega]
      simpa using h2
theorem knows_start (args : List AV) : Knows ⟨slotsFrom 0 args, [], []⟩ (start args) where
  slot i v h:=by
    have:=(slotsFrom_look args 0 i v h).2
    simp only [Nat.sub_zero] at this
    simp [start, List.getD, this]
  box k:=rfl
  tk k:=rfl
noncomputable def bodyB (P : Program) (T : Tab) (cx : Cx) (fn : Func) (res : AV) (ss : SS) : Prop :=
  match fn.body with
  | some c=>codeB P T cx fn.ntmps c (endB P T fn.results.toList res) ss
  | none=>False
def fnOk (fn : Func) (n : Nat) : Bool :=
  match fn.body with
  | some c=>decide (n ≤ fn.ntmps) && fn.results.toList.all (resIn fn.ntmps) && codeIn fn.ntmps c
  | none=>false
theorem pureA_codeB {P : Program} {T : Tab} (hT : T.Ok P) (cx : Cx) (hm : P.follows .mixedOrders = true) {f : FuncId} {fn : Func} {args : List AV} {res : AV}
    (hc : Callable P f) (hf : P.funcs[f]? = some fn) (hok : fnOk fn args.length = true)
    (h : bodyB P T cx fn res ⟨slotsFrom 0 args, [], []⟩) (hrd : cx.rd = false:=by rfl) : PureA P f args res:=by
  unfold bodyB at h
  unfold fnOk at hok
  split at h
  · rename_i c hb
    rw [hb] at hok
    simp only [Bool.and_eq_true, decide_eq_true_eq] at hok
    refine pureA_code cx hm hc hf hb rfl (by rw [hok.1.2, decide_eq_true hok.1.1];rfl) hok.2 (codeW_mono cx c (fun e S'=>?_) (codeB_sound hT cx c (knows_start args) h)) hrd
    rintro ⟨ss', h1, h2⟩
    have key : (resB T fn.results.toList fun l=>.lst l fun l=>.need (Res res (oneOf l)) (Classical.propDecidable _) (.done [])).ev P ss' (fun _ _=>True)→ResA P fn S' res:=by
      intro h
      have h:=RB.ev_rm h1 _ h
      have h:=resB_leq (rs:=fn.results.toList) (k':=fun l=>.need (res = oneOf l) (.done [])) hT (fun l=>leq_need fun hr=>leq_needR hr.eq (leq_refl _)) _ _ h
      have h:=RM.wp_wp0 _ h
      exact RM.wp0_mono _ h fun _ _=>trivial
    cases e with
    | normal=>exact ⟨.inl rfl, key h2⟩
    | ret=>exact ⟨.inr rfl, key h2⟩
    | _=>exact h2.elim
  · exact h.elim
def plainA : AV→Bool
  | .v _=>true
  | _=>false
def plainL : List AV→Bool
  | []=>true
  | x :: xs=>match plainA x with
    | true=>plainL xs
    | false=>false
theorem plainL_get : ∀ {l : List AV}, plainL l = true→∀ (i : Nat) (x : AV), l[i]? = some x→plainA x = true
  | [], _, i, x, h=>by simp at h
  | a :: l, hl, i, x, h=>by
    simp only [plainL] at hl
    split at hl
    · rename_i ha
      cases i with
      | zero=>simp at h;subst h;exact ha
      | succ i=>exact plainL_get hl i x (by simpa using h)
    · simp at hl
end Go.Am
namespace Go.Am
open Go.RowKit
def memN (i : Nat) : List Nat→Bool
  | []=>false
  | j :: l=>match Nat.beq i j with
    | true=>true
    | false=>memN i l
def keepS (ws : List Nat) : List (Nat × AV)→(List (Nat × AV)→Prop)→Prop
  | [], K=>K []
  | (i, v) :: l, K=>match memN i ws with
    | true=>keepS ws l K
    | false=>keepS (i :: ws) l fun l'=>K ((i, v) :: l')
def keepK {α : Type} (ws : List Key) : List (Key × Option α)→(List (Key × Option α)→Prop)→Prop
  | [], K=>K []
  | (i, v) :: l, K=>match memK i ws with
    | true=>keepK ws l K
    | false=>keepK (i :: ws) l fun l'=>K ((i, v) :: l')
theorem memN_true {i : Nat} : ∀ {l : List Nat}, memN i l = true↔i ∈ l
  | []=>by simp [memN]
  | j :: l=>by
    simp only [memN]
    cases hb : Nat.beq i j with
    | true=>simp [Nat.eq_of_beq_eq_true hb]
    | false =>
      have : i ≠ j:=fun e=>by rw [e, Nat.beq_refl] at hb;simp at hb
      simp [memN_true, this]
theorem keepS_spec : ∀ (l : List (Nat × AV)) {ws : List Nat} {K : List (Nat × AV)→Prop}, keepS ws l K→∃ l', K l'∧∀ i v, lookS l' i = some v→i ∉ ws∧lookS l i = some v
  | [], ws, K, h=>⟨[], h, by simp [lookS]⟩
  | (j, u) :: l, ws, K, h=>by
    simp only [keepS] at h
    split at h
    · rename_i hm
      obtain ⟨l', hk, hl⟩:=keepS_spec l h
      refine ⟨l', hk, fun i v hi=>?_⟩
      obtain ⟨h1, h2⟩:=hl i v hi
      refine ⟨h1, ?_⟩
      have : Nat.beq i j = false:=by
        cases hb : Nat.beq i j with
        | false=>rfl
        | true=>rw [Nat.eq_of_beq_eq_true hb] at h1;exact absurd (memN_true.1 hm) h1
      simp [lookS, this, h2]
    · rename_i hm
      obtain ⟨l', hk, hl⟩:=keepS_spec l h
      refine ⟨_, hk, fun i v hi=>?_⟩
      simp only [lookS] at hi ⊢
      split at hi
      · rename_i hb
        have:=Nat.eq_of_beq_eq_true hb
        subst this
        exact ⟨fun hi'=>by rw [memN_true.2 hi'] at hm;simp at hm, hi⟩
      · obtain ⟨h1, h2⟩:=hl i v hi
        exact ⟨fun hi'=>h1 (List.mem_cons_of_mem _ hi'), h2⟩
theorem keepK_spec {α : Type} : ∀ (l : List (Key × Option α)) {ws : List Key} {K : List (Key × Option α)→Prop}, keepK ws l K →
    ∃ l', K l'∧(∀ i v, lookK l' i = some v→i ∉ ws∧lookK l i = some v)∧(∀ i v, lookK l i = some v→i ∉ ws→lookK l' i = some v)
  | [], ws, K, h=>⟨[], h, by simp [lookK], by simp [lookK]⟩
  | (j, u) :: l, ws, K, h=>by
    simp only [keepK] at h
    split at h
    · rename_i hm
      obtain ⟨l', hk, hl, hr⟩:=keepK_spec l h
      refine ⟨l', hk, fun i v hi=>?_, fun i v hi hn=>?_⟩
      · obtain ⟨h1, h2⟩:=hl i v hi
        refine ⟨h1, ?_⟩
        have : i.beq j = false:=by
          cases hb : i.beq j with
          | false=>rfl
          | true=>rw [Key.beq_eq.1 hb] at h1;exact absurd (memK_true.1 hm) h1
        simp [lookK, this, h2]
      · simp only [lookK] at hi
        split at hi
        · rename_i hb;rw [Key.beq_eq.1 hb] at hn;exact absurd (memK_true.1 hm) hn
        · exact hr i v hi hn
    · rename_i hm
      obtain ⟨l', hk, hl, hr⟩:=keepK_spec l h
      refine ⟨_, hk, fun i v hi=>?_, fun i v hi hn=>?_⟩
      · simp only [lookK] at hi ⊢
        split at hi
        · rename_i hb
          have:=Key.beq_eq.1 hb
          subst this
          exact ⟨fun hi'=>by rw [memK_true.2 hi'] at hm;simp at hm, hi⟩
        · obtain ⟨h1, h2⟩:=hl i v hi
          exact ⟨fun hi'=>h1 (List.mem_cons_of_mem _ hi'), h2⟩
      · simp only [lookK] at hi ⊢
        split at hi
        · exact hi
        · rename_i hb
          exact hr i v hi (by
            intro hc
            rcases List.mem_cons.1 hc with e|e
            · rw [Key.beq_eq.2 e] at hb;simp at hb
            · exact hn e)
def dstsOf : List Oper→List Nat
  | []=>[]
  | o :: os=>match o.dst with
    | some d=>d :: dstsOf os
    | none=>dstsOf os
def boxesOf : List Oper→List Nat
  | []=>[]
  | o :: os=>match o.op, o.dst with
    | .alloc _, some d=>d :: boxesOf os
    | .box _ _, some d=>d :: boxesOf os
    | .makeMap _ _, some d=>d :: boxesOf os
    | .makeSlice _ _ _, some d=>d :: boxesOf os
    | .range _ _, some d=>d :: boxesOf os
    | .call c, some d=>match c.callee with
      | .builtin .append=>d :: boxesOf os
      | _=>boxesOf os
    | _, _=>boxesOf os
def toksOf : List Oper→List Nat
  | []=>[]
  | o :: os=>match o.op, o.dst with
    | .call c, some d=>match c.callee with
      | .builtin .append=>d :: toksOf os
      | _=>toksOf os
    | _, _=>toksOf os
def overCode (f : List Oper→List Nat) : Code→List Nat→List Nat
  | .region _ ops _, l=>f ops.toList++l
  | .seq x y, l=>overCode f x (overCode f y l)
  | .cond _ x y, l=>overCode f x (overCode f y l)
  | .block _ c, l|.loop c, l|.scope c, l=>overCode f c l
  | _, l=>l
def recsOf : Code→List Nat→List Nat
  | .rangeFunc _ ps _ _, l=>match ps.toList with
    | []=>9999 :: l
    | p :: _=>(10000 + p) :: l
  | .seq x y, l=>recsOf x (recsOf y l)
  | .cond _ x y, l=>recsOf x (recsOf y l)
  | .block _ c, l|.loop c, l|.scope c, l=>recsOf c l
  | _, l=>l
def keysOf (cx : Cx) : List Nat→List Key
  | []=>[]
  | d :: ds=>cx.key d :: keysOf cx ds
def keysF (cx : Cx) : List Nat→(List Key→Prop)→Prop
  | [], K=>K []
  | d :: ds, K=>keysF cx ds fun l=>K (cx.key d :: l)
theorem keysF_eq (cx : Cx) : ∀ (l : List Nat) (K : List Key→Prop), keysF cx l K = K (keysOf cx l)
  | [], _=>rfl
  | _ :: ds, _=>keysF_eq cx ds _
def blankK {α : Type} : List Key→List (Key × Option α)
  | []=>[]
  | k :: ks=>(k, none) :: blankK ks
def fsts {α β : Type} : List (α × β)→List α
  | []=>[]
  | (a, _) :: l=>a :: fsts l
theorem keyIn_append {α : Type} {k : Key} : ∀ {a b : List (Key × α)}, keyIn k (a++b) = (keyIn k a || keyIn k b)
  | [], b=>by simp [keyIn]
  | (j, v) :: a, b=>by
    simp only [List.cons_append, keyIn]
    split<;>simp [keyIn_append]
theorem keyIn_blank {α : Type} {k : Key} : ∀ {ks : List Key}, keyIn k (blankK (α:=α) ks) = true↔k ∈ ks
  | []=>by simp [blankK, keyIn]
  | j :: ks=>by
    simp only [blankK, keyIn]
    cases hb : k.beq j with
    | true=>simp [Key.beq_eq.1 hb]
    | false =>
      have : k ≠ j:=fun e=>by rw [Key.beq_eq.2 e] at hb;simp at hb
      simp [keyIn_blank, this]
theorem keyIn_fsts {α : Type} {k : Key} : ∀ {l : List (Key × α)}, keyIn k l = true↔k ∈ fsts l
  | []=>by simp [keyIn, fsts]
  | (j, v) :: l=>by
    simp only [keyIn, fsts]
    cases hb : k.beq j with
    | true=>simp [Key.beq_eq.1 hb]
    | false =>
      have : k ≠ j:=fun e=>by rw [Key.beq_eq.2 e] at hb;simp at hb
      simp [keyIn_fsts, this]
theorem lookS_append : ∀ {a b : List (Nat × AV)} {i : Nat} {v : AV}, lookS (a++b) i = some v→lookS a i = some v∨lookS b i = some v
  | [], b, i, v, h=>.inr h
  | (j, u) :: a, b, i, v, h=>by
    simp only [List.cons_append, lookS] at h ⊢
    split at h
    · exact .inl h
    · exact lookS_append h
theorem lookK_append {α : Type} : ∀ {a b : List (Key × Option α)} {i : Key} {v : Option α}, lookK (a++b) i = some v→lookK a i = some v∨(lookK a i = none∧lookK b i = some v)
  | [], b, i, v, h=>.inr ⟨rfl, h⟩
  | (j, u) :: a, b, i, v, h=>by
    simp only [List.cons_append, lookK] at h ⊢
    split at h
    · exact .inl h
    · exact lookK_append h
theorem lookK_blank {α : Type} : ∀ {ks : List Key} {i : Key} {v : Option α}, lookK (blankK (α:=α) ks) i = some v→v = none
  | [], i, v, h=>by simp [blankK, lookK] at h
  | k :: ks, i, v, h=>by
    simp only [blankK, lookK] at h
    split at h
    · exact (Option.some.inj h).symm
    · exact lookK_blank h
def openS (ss : SS) (K : List (Nat × AV)→List (Key × Option BoxS)→List (Key × Option (Nat × Nat))→Prop) : Prop :=
  match ss with
  | ⟨s, b, t⟩=>K s b t
theorem openS_eq (ss : SS) (K : List (Nat × AV)→List (Key × Option BoxS)→List (Key × Option (Nat × Nat))→Prop) : openS ss K = K ss.slots ss.boxes ss.toks:=rfl
theorem slotsLe_cons {l l' : List (Nat × AV)} {i : Nat} {v : AV} (h : lookS l i = some v) (k : slotsLe l l') : slotsLe l ((i, v) :: l'):=⟨optP_intro h rfl, k⟩
theorem keysLe_cons {α : Type} {z : α} {l l' : List (Key × Option α)} {k : Key} {c : α} (h : lookK l k = some (some c)) (t : keysLe z l l') : keysLe z l ((k, some c) :: l'):=by
  refine ⟨?_, t⟩
  simp only [h]
theorem keysLe_none {α : Type} {z : α} {l l' : List (Key × Option α)} {k : Key} (t : keysLe z l l') : keysLe z l ((k, none) :: l'):=⟨trivial, t⟩
theorem keysLe_new {α : Type} {z : α} {l l' : List (Key × Option α)} {k : Key} (h : lookK l k = none) (t : keysLe z l l') : keysLe z l ((k, some z) :: l'):=by
  refine ⟨?_, t⟩
  simp only [h]
def famB (over : List (Nat × AV)) (bov : List (Key × Option BoxS)) (tov : List (Key × Option (Nat × Nat))) (bk tk : List Key) (ks : List (Nat × AV)) (kb : List (Key × Option BoxS)) (kt : List (Key × Option (Nat × Nat))) : SS :=
  ⟨over++ks, bov++(blankK bk++kb), tov++(blankK tk++kt)⟩
theorem cover_of {α : Type} {bov : List (Key × Option α)} {bk ws : List Key} {l l' : List (Key × Option α)} (hws : ∀ k, k ∈ ws→k ∈ bk∨keyIn k bov = true)
    (hr : ∀ i v, lookK l i = some v→i ∉ ws→lookK l' i = some v) {k : Key} (h : lookK (bov++(blankK bk++l')) k = none) : lookK l k = none:=by
  cases hl : lookK l k with
  | none=>rfl
  | some v =>
    exfalso
    rw [lookK_none, keyIn_append, keyIn_append] at h
    simp only [Bool.or_eq_false_iff] at h
    by_cases hw : k ∈ ws
    · rcases hws k hw with h1|h1
      · rw [keyIn_blank.2 h1] at h;simp at h
      · rw [h1] at h;simp at h
    · have:=hr k v hl hw
      rw [lookK_none.2 h.2.2] at this;simp at this
theorem loopK {P : Program} {T : Tab} (hT : T.Ok P) (cx : Cx) {N : Nat} (hm : P.follows .mixedOrders = true) {c : Code} {Q : Exit→SS→Prop} {ss : SS} {α : Type}
    (over : α→List (Nat × AV)) (bov : α→List (Key × Option BoxS)) (tov : α→List (Key × Option (Nat × Nat))) (inv : α→Prop) (m : α→Nat) (a₀ : α) (hin : codeIn N c = true) (hi₀ : inv a₀)
    (h : openS ss fun sl bx tk=>keysF cx (overCode boxesOf c (recsOf c [])) fun bk=>keysF cx (overCode toksOf c []) fun tkk =>
      keepS (overCode dstsOf c []) sl fun ks=>keepK (fsts (bov a₀)++bk) bx fun kb=>keepK (fsts (tov a₀)++tkk) tk fun kt =>
      (slotsLe sl (over a₀)∧keysLe (0, none) bx (bov a₀)∧keysLe (0, 0) tk (tov a₀)) ∧
      ∀ a, inv a→codeB P T cx N c (thenB (fun ss'=>∃ a', inv a'∧m a' < m a∧weakP ss' (famB (over a') (bov a') (tov a') bk tkk ks kb kt)) Q)
        (famB (over a) (bov a) (tov a) bk tkk ks kb kt)) : LoopW cx.rd P N c Q ss:=by
  rw [openS_eq] at h
  rw [keysF_eq, keysF_eq] at h
  obtain ⟨ks, h, hks⟩:=keepS_spec _ h
  obtain ⟨kb, h, hkb, hkb'⟩:=keepK_spec _ h
  obtain ⟨kt, ⟨⟨h1, h2, h3⟩, hround⟩, hkt, hkt'⟩:=keepK_spec _ h
  refine loopB hT cx hm (fun a=>famB (over a) (bov a) (tov a) (keysOf cx (overCode boxesOf c (recsOf c []))) (keysOf cx (overCode toksOf c [])) ks kb kt) inv m a₀ hin hi₀ ⟨fun S hs=>⟨fun i v hv=>?_, fun k=>?_, fun k=>?_⟩⟩ hround
  · rcases lookS_append hv with h|h
    · exact hs.slot i v (slotsLe_look h1 i v h)
    · exact hs.slot i v (hks i v h).2
  · have hb:=hs.box k
    split
    · rename_i c' hc
      rcases lookK_append hc with h|⟨h, h'⟩
      · rcases keysLe_spec h2 k c' h with h|⟨h, h'⟩
        · rw [h] at hb;exact hb
        · rw [h] at hb;rw [h'];exact hb
      · rcases lookK_append h' with h|⟨_, h⟩
        · have:=lookK_blank h;simp at this
        · rw [(hkb k _ h).2] at hb;exact hb
    · trivial
    · rename_i hn
      have:=cover_of (ws:=fsts (bov a₀)++keysOf cx (overCode boxesOf c (recsOf c []))) (by
        intro k hk
        rcases List.mem_append.1 hk with h|h
        · exact .inr (keyIn_fsts.2 h)
        · exact .inl h) hkb' hn
      rw [this] at hb;exact hb
  · have hb:=hs.tk k
    split
    · rename_i c' hc
      rcases lookK_append hc with h|⟨h, h'⟩
      · rcases keysLe_spec h3 k c' h with h|⟨h, h'⟩
        · rw [h] at hb;exact hb
        · rw [h] at hb;rw [h'];exact hb
      · rcases lookK_append h' with h|⟨_, h⟩
        · have:=lookK_blank h;simp at this
        · rw [(hkt k _ h).2] at hb;exact hb
    · trivial
    · rename_i hn
      have:=cover_of (ws:=fsts (tov a₀)++keysOf cx (overCode toksOf c [])) (by
        intro k hk
        rcases List.mem_append.1 hk with h|h
        · exact .inr (keyIn_fsts.2 h)
        · exact .inl h) hkt' hn
      rw [this] at hb;exact hb
theorem Rel.reslot {N : Nat} {base : Nat→Prop} {w0 : World} {S : St} {C : Ctx} {a : Act} {w : World} (hR : Rel N base w0 S C a w) {i : Nat} {v : AV} (hv : i < N→KRel C v (a.tmps.getD i undef)) :
    Rel N base w0 (S.put (.slot i v)) C a w where
  cw:=hR.cw
  glob:=(by first|exact hR.glob|exact hR.globOf (by first|exact hle.le0|exact hle|exact hle0|exact hCle.le0) (by first|rfl|exact h1.cw|(rw [hC'];first|done|exact hR.cw)|exact hR.cw))
  size:=hR.size
  defers:=hR.defers
  slot j hj:=by
    simp only [St.put]
    by_cases h : j = i
    · subst h;rw [upd_same];exact hv hj
    · rw [upd_ne _ _ h];exact hR.slot j hj
  gb:=hR.gb
  gt:=hR.gt
  hw:=hR.hw
  box:=hR.box
  ownBox:=hR.ownBox
  immLt:=hR.immLt
  ownLt:=hR.ownLt
  below:=hR.below
  base:=hR.base
theorem KRel.tight {C : Ctx} {sz n : Nat} {es : List AV} {y : Value} (h : KRel C (.slice sz es .tight) y) (hs : es ≠ []→sz = n) {k : Key} {g : Nat} (hg : C.gt k = g) (hw : C.hw k = es.length) :
    KRel C (.slice n es (.own k g)) y:=by
  cases h with
  | pure hp =>
    have hp:=hp.resz hs
    cases hp with
    | nil=>exact .tokNil _ _ _
    | slice ys hcap ht hm hsz hc hp' =>
      rcases ht with h|h
      · cases h
      · exact .tok (.slice ys hcap (.inl rfl) hm hsz hc hp') (by omega) fun _=>⟨by omega, fun _=>.inl h.2⟩
theorem WpA_tok {rd : Bool} {P : Program} {N : Nat} {c : Code} {Q : Exit→St→Prop} {S : St} {i n sz : Nat} {es : List AV} (k : Key) (hi : S.slot i = .slice sz es .tight) (hs : es ≠ []→sz = n)
    (h : WpA rd P N c Q ((S.put (.tk k ((S.tk k).1 + 1, es.length))).put (.slot i (.slice n es (.own k ((S.tk k).1 + 1)))))) : WpA rd P N c Q S:=by
  intro lo hlo base w0 C a w hR
  obtain ⟨C', hle, h1, h2, h3, h4, hR'⟩:=hR.newTok k es.length
  refine wpIn_mono (h lo hlo base w0 C' a w (hR'.reslot fun hN=>?_)) fun e a' w' ⟨S', C'', k1, k2, k3⟩=>⟨S', C'', k1, hle.trans k2, k3⟩
  have hv:=(hR.slot i hN).le hle
  rw [hi] at hv
  exact hv.tight hs (by rw [h1, hR.gt]) h2
theorem loopTok {rd : Bool} {P : Program} {N : Nat} {c : Code} {Q : Exit→SS→Prop} {ss : SS} (i n : Nat) (k : Key)
    (h : openS ss fun sl bx tk=>optP (lookS sl i) fun v=>match v with
      | .slice sz es tok=>match tok with
        | .tight=>okP (widthB es sz n) (genT (lookK tk k) fun g _=>LoopW rd P N c Q ⟨(i, .slice n es (.own k (g + 1))) :: sl, bx, (k, some (g + 1, es.length)) :: tk⟩)
        | _=>False
      | _=>False) : LoopW rd P N c Q ss:=by
  rw [openS_eq] at h
  obtain ⟨v, hv, h⟩:=optP_elim h
  split at h
  · rename_i sz es tok
    split at h
    · obtain ⟨hw, h⟩:=okP_elim h
      refine ⟨fun S hs=>?_⟩
      have hg : LoopW rd P N c Q ⟨(i, .slice n es (.own k ((S.tk k).1 + 1))) :: ss.slots, ss.boxes, (k, some ((S.tk k).1 + 1, es.length)) :: ss.toks⟩:=by
        have ht:=hs.tk k
        unfold genT at h
        split at h
        · rename_i c' hc;rw [hc] at ht;rw [show S.tk k = c' from ht];exact h
        · exact h _ (S.tk k).2
        · rename_i hc;rw [hc] at ht;rw [show S.tk k = (0, 0) from ht];exact h
      exact WpA_tok k (hs.slot i _ hv) (widthB_eq hw) (hg.go _ ((hs.put (.tk k ((S.tk k).1 + 1, es.length))).put (.slot i (.slice n es (.own k ((S.tk k).1 + 1))))))
    · exact h.elim
  · exact h.elim
end Go.Am
namespace Go.Am
open Go.RowKit
def resRX (P : Program) : List ResultVar→(List AV→RM)→RM
  | [], k=>k []
  | .tmp t :: rs, k=>.slot t fun v=>resRX P rs fun l=>k (v :: l)
  | .cell a t :: rs, k=>opLoadK P t (.tmp a) fun v=>resRX P rs fun l=>k (v :: l)
theorem resRX_sound {P : Program} {N : Nat} {S : St} {base : Nat→Prop} {w0 : World} {C : Ctx} {a : Act} {w : World} (hR : Rel N base w0 S C a w) {K : List Wr→Prop} : ∀ (rs : List ResultVar) {k : List AV→RM}, (∀ r ∈ rs, resIn N r = true) →
    (resRX P rs k).wp0 P S K→∃ l ys, (k l).wp0 P S K∧ys.length = l.length∧(∀ (i : Nat) (x : AV) (y : Value), l[i]? = some x→ys[i]? = some y→KRel C x y) ∧
      (rs.mapM fun r=>(match r with
        | .tmp t=>Pure.pure (a.tmps.getD t undef)
        | .cell x t=>do loadVar t (← asAddr (a.tmps.getD x undef)) : Sem Value)).run P w = .ok ys w
  | [], k, _, h=>⟨[], [], h, rfl, by simp, rfl⟩
  | .tmp t :: rs, k, hin, h=>by
    simp only [resRX, RM.wp0] at h
    obtain ⟨l, ys, h1, h2, h3, h4⟩:=resRX_sound hR rs (fun r hr=>hin r (by simp [hr])) h
    have hv:=hR.slot t (by simpa [resIn] using hin (.tmp t) (by simp))
    refine ⟨_, a.tmps.getD t undef :: ys, h1, by simp [h2], fun i x y hx hy=>?_, by simp only [List.mapM_cons, Sem.run_bind, Sem.run_pure, Result.andThen_ok, h4]⟩
    cases i with
    | zero=>simp only [List.getElem?_cons_zero, Option.some.injEq] at hx hy;subst hx hy;exact hv
    | succ i=>exact h3 i x y (by simpa using hx) (by simpa using hy)
  | .cell x t :: rs, k, hin, h=>by
    simp only [resRX] at h
    obtain ⟨v, r, b, off, h, e, hl, hv⟩:=opLoadK_sound hR (by simpa [inN, resIn] using hin (.cell x t) (by simp)) h
    obtain ⟨l, ys, h1, h2, h3, h4⟩:=resRX_sound hR rs (fun r hr=>hin r (by simp [hr])) h
    have e' : (asAddr (a.tmps.getD x undef)).run P w = .ok ⟨b, off, none⟩ w:=by
      have e1 : a.tmps.getD x undef = .pointer (some ⟨b, off, none⟩):=e
      rw [e1];rfl
    refine ⟨_, r :: ys, h1, by simp [h2], fun i x y hx hy=>?_, by simp only [List.mapM_cons, Sem.run_bind, e', Sem.run_pure, Result.andThen_ok, hl, h4]⟩
    cases i with
    | zero=>simp only [List.getElem?_cons_zero, Option.some.injEq] at hx hy;subst hx hy;exact hv
    | succ i=>exact h3 i x y (by simpa using hx) (by simpa using hy)
def ResX (P : Program) (fn : Func) (S : St) (res : AV) : Prop :=
  (resRX P fn.results.toList fun l=>.need (res = oneOf l) (.done [])).wp0 P S fun _=>True
def startX (pre : List BoxE) (args : List AV) : St:={ slot:=fun i=>args.getD i (.v undef), box:=lookE pre, tk:=fun _=>(0, 0) }
theorem startX_rel {P : Program} {N : Nat} {base : Nat→Prop} {C : Ctx} {w0 w : World} {pre : List BoxE} {args : List AV} {cargs : Array Value} (hR : Rel 0 base w0 (preSt pre) C ⟨#[], []⟩ w) (hp : KRels C args cargs) (hn : args.length ≤ N) :
    Rel N base w0 (startX pre args) C { tmps:=cargs++Array.replicate (N - cargs.size) undef, defers:=[] } w where
  cw:=hR.cw
  glob:=(by first|exact hR.glob|exact hR.globOf (by first|exact hle.le0|exact hle|exact hle0|exact hCle.le0) (by first|rfl|exact h1.cw|(rw [hC'];first|done|exact hR.cw)|exact hR.cw))
  size:=by have:=hp.1;simp;omega
  defers:=Marks.nil _ _
  slot i hin:=by
    have hs:=hp.1
    by_cases h : i < args.length
    · have e1 : (startX pre args).slot i = args[i]:=by simp [startX, h]
      have e2 : (cargs++Array.replicate (N - cargs.size) undef).getD i undef = cargs[i]:=by
        rw [Array.getD_eq_getD_getElem?, Array.getElem?_append_left (by omega)];simp [hs, h]
      rw [e1, e2]
      exact hp.2 i _ _ (by simp [h]) (by simp [hs, h])
    · have e1 : (startX pre args).slot i = .v undef:=by simp [startX, List.getD, List.getElem?_eq_none (by omega : args.length ≤ i)]
      have e2 : (cargs++Array.replicate (N - cargs.size) undef).getD i undef = undef:=by
        rw [Array.getD_eq_getD_getElem?, Array.getElem?_append_right (by omega)]
        cases hq : (Array.replicate (N - cargs.size) undef)[i - cargs.size]? with
        | none=>rfl
        | some q=>simp [Array.getElem?_replicate] at hq;simp [hq.2]
      rw [e1, e2];exact .pure (.v _)
  gb:=hR.gb
  gt:=hR.gt
  hw:=hR.hw
  box:=hR.box
  ownBox:=hR.ownBox
  immLt:=hR.immLt
  ownLt:=hR.ownLt
  below:=hR.below
  base:=hR.base
theorem boxA_of {P : Program} {f : FuncId} {fn : Func} {c : Code} {pre post : List BoxE} {args : List AV} {res : AV} (hc : Callable P f) (hf : P.funcs[f]? = some fn) (hb : fn.body = some c)
    (hst : (decide (args.length ≤ fn.ntmps) && fn.results.toList.all (resIn fn.ntmps)) = true)
    (h : WpA false P fn.ntmps c (fun e S'=>(e = .normal∨e = .ret)∧ResX P fn S' res∧∀ p ∈ post, S'.box p.1 = (p.2.1, some (p.2.2.1, p.2.2.2))) (startX pre args)) : BoxA P (.fn f) pre args res post:=by
  rw [Bool.and_eq_true] at hst
  refine ⟨hc, fun C w cargs hR0 hown hp=>callsIn_wide.1 (callsIn_of_wp_marks (F:=Fw none) (n:=0) hf hb trivial ?_)⟩
  have hR:=startX_rel (P:=P) (N:=fn.ntmps) hR0 hp (by simpa using hst.1)
  refine wpIn_mono (h none (fun _=>rfl) _ _ _ _ _ hR) ?_
  rintro e a' w' ⟨S', C', ⟨he, hres, hpost⟩, hle, hR'⟩
  have post' : LeavesInM (Fw none) 0 P fn a'.tmps (fun e w'=>∃ y S' C', e = .returned y∧C.le C'∧Rel 0 (fun b=>b < w.heap.size∧C.own b = none) w S' C' ⟨#[], []⟩ w'∧KRel C' res y ∧
      ∀ p ∈ post, S'.box p.1 = (p.2.1, some (p.2.2.1, p.2.2.2))) a'.defers .returning w':=by
    refine leaves_marks (C0:=C) (by rw [hR0.cw];exact Nat.le_refl _) a'.defers hR' hle fun C'' w'' hle'' hR''=>?_
    unfold ResX at hres
    obtain ⟨l, ys, h1, h2, h3, h4⟩:=resRX_sound hR'' _ (fun r hr=>List.all_eq_true.1 hst.2 r hr) hres
    obtain ⟨hl, _⟩:=h1
    have hrun : (results fn a'.tmps).run P w'' = .ok (if h : ys.toArray.size = 1 then ys.toArray[0] else .tuple ys.toArray) w'':=by
      unfold results
      simp only [Sem.run_bind, Array.mapM_eq_mapM_toList, Sem.run_map]
      erw [h4];rfl
    have hrel : KRel C'' res (if h : ys.toArray.size = 1 then ys.toArray[0] else .tuple ys.toArray):=by
      rw [hl]
      by_cases h1 : ys.length = 1
      · rw [dif_pos (by simpa using h1)]
        obtain ⟨y, rfl⟩ : ∃ y, ys = [y]:=List.length_eq_one_iff.1 h1
        obtain ⟨x, rfl⟩ : ∃ x, l = [x]:=List.length_eq_one_iff.1 (by omega)
        exact h3 0 x y rfl rfl
      · rw [dif_neg (by simpa using h1)]
        have : oneOf l = .tuple l:=by
          match l, h2, h1 with
          | [], _, _=>rfl
          | [x], h2, h1=>simp at h2;omega
          | _ :: _ :: _, _, _=>rfl
        rw [this]
        exact .tuple (by simpa using h2) (fun i x y hx hy=>h3 i x y hx (by simpa using hy))
    exact ⟨_, hrun, _, S', C'', rfl, hle'', hR''.bare, hrel, hpost⟩
  rcases he with rfl|rfl
  · exact post'
  · exact post'
def resBX (T : Tab) : List ResultVar→(List AV→RB)→RB
  | [], k=>k []
  | .tmp t :: rs, k=>.slot t fun v=>resBX T rs fun l=>k (v :: l)
  | .cell a t :: rs, k=>opLoadKB T t (.tmp a) fun v=>resBX T rs fun l=>k (v :: l)
theorem resBX_leq {P : Program} {T : Tab} (hT : T.Ok P) : ∀ {rs : List ResultVar} {k : List AV→RB} {k' : List AV→RM}, (∀ v, (k v).rm.leq P (k' v))→(resBX T rs k).rm.leq P (resRX P rs k')
  | [], _, _, h=>h []
  | .tmp t :: rs, _, _, h=>leq_slot fun v=>resBX_leq hT fun l=>h _
  | .cell a t :: rs, _, _, h=>opLoadKB_leq (x:=.tmp a) hT fun v=>resBX_leq hT fun l=>h _
def preK : List BoxE→List (Key × Option BoxS)
  | []=>[]
  | (k, g, sz, es) :: l=>(k, some (g, some (sz, es))) :: preK l
noncomputable def endX (P : Program) (T : Tab) (rs : List ResultVar) (res : AV) (post : List BoxE) (e : Exit) (ss : SS) : Prop :=
  match e with
  | .normal|.ret=>(resBX T rs fun l=>.lst l fun l=>.need (Res res (oneOf l)) (Classical.propDecidable _) (.done [])).ev P ss (fun _ _=>True)∧openS ss fun _ bx _=>keysLe (0, none) bx (preK post)
  | _=>False
theorem preK_look (pre : List BoxE) (k : Key) : lookE pre k = match lookK (preK pre) k with
    | some (some c)=>c
    | _=>(0, none):=by
  induction pre with
  | nil=>rfl
  | cons p l ih =>
    obtain ⟨j, g, sz, es⟩:=p
    simp only [lookE, preK, lookK]
    by_cases e : k = j
    · subst e;simp [Key.beq_eq.2]
    · have : k.beq j = false:=by
        cases hb : k.beq j with
        | false=>rfl
        | true=>exact absurd (Key.beq_eq.1 hb) e
      rw [if_neg e, this];exact ih
theorem knows_startX (pre : List BoxE) (args : List AV) : Knows ⟨slotsFrom 0 args, preK pre, []⟩ (startX pre args) where
  slot i v h:=by
    have:=(slotsFrom_look args 0 i v h).2
    simp only [Nat.sub_zero] at this
    simp [startX, List.getD, this]
  box k:=by
    have:=preK_look pre k
    split
    · rename_i c hc;simp only [startX, this, hc]
    · trivial
    · rename_i hc;simp only [startX, this, hc]
  tk k:=rfl
noncomputable def bodyX (P : Program) (T : Tab) (cx : Cx) (fn : Func) (res : AV) (post : List BoxE) (ss : SS) : Prop :=
  match fn.body with
  | some c=>codeB P T cx fn.ntmps c (endX P T fn.results.toList res post) ss
  | none=>False
theorem keysLe_post {bx : List (Key × Option BoxS)} {S : St} (hs : ∀ k, match lookK bx k with
    | some (some c)=>S.box k = c
    | some none=>True
    | none=>S.box k = (0, none)) : ∀ {post : List BoxE}, keysLe (0, none) bx (preK post)→∀ p ∈ post, S.box p.1 = (p.2.1, some (p.2.2.1, p.2.2.2))
  | [], _, p, hp=>by simp at hp
  | (k, g, sz, es) :: l, h, p, hp=>by
    rcases List.mem_cons.1 hp with e|e
    · subst e
      have h1:=h.1
      simp only at h1
      have:=hs k
      split at h1
      · rename_i o ho
        rw [ho, h1] at this
        exact this
      · cases h1
    · exact keysLe_post hs h.2 p e
theorem boxA_codeB {P : Program} {T : Tab} (hT : T.Ok P) (cx : Cx) (hm : P.follows .mixedOrders = true) {f : FuncId} {fn : Func} {pre post : List BoxE} {args : List AV} {res : AV}
    (hc : Callable P f) (hf : P.funcs[f]? = some fn) (hok : fnOk fn args.length = true)
    (h : bodyX P T cx fn res post ⟨slotsFrom 0 args, preK pre, []⟩) (hrd : cx.rd = false:=by rfl) : BoxA P (.fn f) pre args res post:=by
  unfold bodyX at h
  unfold fnOk at hok
  split at h
  · rename_i c hb
    rw [hb] at hok
    simp only [Bool.and_eq_true, decide_eq_true_eq] at hok
    refine boxA_of hc hf hb (by rw [hok.1.2, decide_eq_true hok.1.1];rfl) (hrd ▸ codeW_sound cx hm c hok.2 (codeW_mono cx c (fun e S'=>?_) (codeB_sound hT cx c (knows_startX pre args) h)))
    rintro ⟨ss', h1, h2⟩
    have key : ((resBX T fn.results.toList fun l=>.lst l fun l=>.need (Res res (oneOf l)) (Classical.propDecidable _) (.done [])).ev P ss' (fun _ _=>True)∧openS ss' fun _ bx _=>keysLe (0, none) bx (preK post)) →
        ResX P fn S' res∧∀ p ∈ post, S'.box p.1 = (p.2.1, some (p.2.2.1, p.2.2.2)):=by
      rintro ⟨h, hk⟩
      have h:=RB.ev_rm h1 _ h
      have h:=resBX_leq (rs:=fn.results.toList) (k':=fun l=>.need (res = oneOf l) (.done [])) hT (fun l=>leq_need fun hr=>leq_needR hr.eq (leq_refl _)) _ _ h
      have h:=RM.wp_wp0 _ h
      exact ⟨RM.wp0_mono _ h fun _ _=>trivial, keysLe_post h1.box hk⟩
    cases e with
    | normal=>exact ⟨.inl rfl, key h2⟩
    | ret=>exact ⟨.inr rfl, key h2⟩
    | _=>exact h2.elim
  · exact h.elim
def setPsB : List AV→List Tmp→List AV→(List AV→Prop)→Prop
  | l, [], _, K=>K l
  | l, _ :: _, [], K=>K l
  | l, p :: ps, x :: xs, K=>forceL (l.set p x) fun l'=>setPsB l' ps xs K
theorem setPsB_eq : ∀ (ps : List Tmp) (l args : List AV) (K : List AV→Prop), setPsB l ps args K = K (setPs l ps args)
  | [], l, args, K=>by cases args<;>simp [setPsB, setPs]
  | p :: ps, l, [], K=>by simp [setPsB, setPs]
  | p :: ps, l, x :: xs, K=>by simp only [setPsB, setPs, forceL_eq, setPsB_eq ps]
def slotsJ : Nat→List AV→List (Nat × AV)
  | _, []=>[]
  | i, x :: xs=>match x with
    | .junk=>slotsJ (i + 1) xs
    | x=>(i, x) :: slotsJ (i + 1) xs
theorem slotsJ_look : ∀ (xs : List AV) (k i : Nat) (v : AV), lookS (slotsJ k xs) i = some v→k ≤ i∧xs[i - k]? = some v
  | [], k, i, v, h=>by simp [slotsJ, lookS] at h
  | x :: xs, k, i, v, h=>by
    have skip : lookS (slotsJ (k + 1) xs) i = some v→k ≤ i∧(x :: xs)[i - k]? = some v:=fun h=>by
      obtain ⟨h1, h2⟩:=slotsJ_look xs (k + 1) i v h
      refine ⟨by omega, ?_⟩
      rw [show i - k = (i - (k + 1)) + 1 by omega]
      simpa using h2
    have take : lookS ((k, x) :: slotsJ (k + 1) xs) i = some v→k ≤ i∧(x :: xs)[i - k]? = some v:=fun ht=>by
      clear h
      simp only [lookS] at ht
      split at ht
      · rename_i hb
        have:=Nat.eq_of_beq_eq_true hb
        subst this
        simpa using ht
      · exact skip ht
    cases x<;>first|exact skip h|exact take h
def postLp (kl : Key) (g : Nat) (st : LoopState) (pend : Option Code) (ps : Array Tmp) (as bo : Code) (l : List AV) (b b' : Bool) (post : List BoxE) (ss : SS) : Prop :=
  match ss with
  | ⟨_, bx, _⟩=>optP (lookK bx kl) fun c=>optP c fun c=>okP (Nat.beq c.1 g) (optP c.2 fun d=>okP (Nat.beq d.1 0) (match d.2 with
    | [x]=>(x = .lp .busy none ps as bo l∧b = b')∧keysLe (0, none) ((kl, some (g, some (0, [.lp st pend ps as bo l]))) :: bx) (preK post)
    | _=>False))
def endY (kl : Key) (g : Nat) (ps : Array Tmp) (as bo : Code) (l : List AV) (b : Bool) (post : List BoxE) (e : Exit) (ss : SS) : Prop :=
  match e with
  | .normal=>postLp kl g .ready none ps as bo l b true post ss
  | .ret=>postLp kl g .done (some .ret) ps as bo l b false post ss
  | .exit i=>postLp kl g .done (some (.exit i)) ps as bo l b false post ss
  | _=>False
def midY (P : Program) (T : Tab) (cx : Cx) (N : Nat) (kl : Key) (g : Nat) (ps : Array Tmp) (as bo : Code) (l : List AV) (b : Bool) (post : List BoxE) (e : Exit) (ss : SS) : Prop :=
  match e, ss with
  | .normal, ⟨s, bx, t⟩=>optP (lookK bx kl) fun c=>c = some (g, some (0, [.lp .ready none ps as bo l]))∧codeB P T cx N bo (endY kl g ps as bo l b post) ⟨s, (kl, some (g, some (0, [.lp .busy none ps as bo l]))) :: bx, t⟩
  | _, _=>False
theorem postLp_spec {kl : Key} {g : Nat} {st : LoopState} {pend : Option Code} {ps : Array Tmp} {as bo : Code} {l : List AV} {b b' : Bool} {post : List BoxE} {ss : SS} {S : St} (hs : Knows ss S) (h : postLp kl g st pend ps as bo l b b' post ss) :
    S.box kl = (g, some (0, [.lp .busy none ps as bo l]))∧b = b'∧∀ p ∈ post, (S.put (.box kl (g, some (0, [.lp st pend ps as bo l])))).box p.1 = (p.2.1, some (p.2.2.1, p.2.2.2)):=by
  obtain ⟨s, bx, t⟩:=ss
  unfold postLp at h
  simp only at h
  obtain ⟨c, hc, k1⟩:=optP_elim h
  obtain ⟨c1, hc1, k2⟩:=optP_elim k1
  rw [hc1] at hc
  obtain ⟨e1, k3⟩:=okP_elim k2
  obtain ⟨d, hd, k4⟩:=optP_elim k3
  obtain ⟨e2, k5⟩:=okP_elim k4
  obtain ⟨g1, o1⟩:=c1
  obtain ⟨sz, es⟩:=d
  simp only at hd e1 e2 k5
  have e1:=Nat.eq_of_beq_eq_true e1
  have e2:=Nat.eq_of_beq_eq_true e2
  subst hd e1 e2
  split at k5
  · obtain ⟨⟨rfl, rfl⟩, hk⟩:=k5
    have hb:=hs.box kl
    rw [hc] at hb
    exact ⟨hb, rfl, keysLe_post (hs.put (.box kl (g1, some (0, [.lp st pend ps as bo l])))).box hk⟩
  · exact k5.elim
theorem boxA_yieldB {P : Program} {T : Tab} (hT : T.Ok P) (cx : Cx) (hm : P.follows .mixedOrders = true) (hrd : cx.rd = true) {kl : Key} {g : Nat} {pre post : List BoxE} {args : List AV} {b : Bool} {ps : Array Tmp} {as bo : Code} {l : List AV}
    (hpre : lookE pre kl = (g, some (0, [.lp .ready none ps as bo l]))) (hps : args.length = ps.size) (hin : (codeIn l.length as && codeIn l.length bo) = true)
    (h : setPsB l ps.toList args fun l'=>codeB P T cx l.length as (midY P T cx l.length kl g ps as bo l b post) ⟨slotsJ 0 l', preK pre, []⟩) :
    BoxA P (.yld kl g) pre args (.v (.bool b)) post:=by
  rw [setPsB_eq] at h
  rw [Bool.and_eq_true] at hin
  have hk : Knows ⟨slotsJ 0 (setPs l ps.toList args), preK pre, []⟩ (roundSt pre l ps args):=by
    refine ⟨fun i v hv=>?_, fun k=>?_, fun k=>rfl⟩
    · have:=(slotsJ_look _ 0 i v hv).2
      simp only [Nat.sub_zero] at this
      simp [roundSt, List.getD, this]
    · have:=preK_look pre k
      split
      · rename_i c hc;simp only [roundSt, this, hc]
      · trivial
      · rename_i hc;simp only [roundSt, this, hc]
  refine boxA_yield hpre hps (hrd ▸ (codeW_sound cx hm as hin.1 (codeB_sound hT cx as hk h)).mono fun e S1=>?_)
  rintro ⟨ss1, h1, h2⟩
  cases e with
  | normal =>
    obtain ⟨s, bx, t⟩:=ss1
    obtain ⟨c, hc, rfl, h3⟩:=optP_elim h2
    have hb:=h1.box kl
    simp only [hc] at hb
    refine ⟨hb, (codeW_sound cx hm bo hin.2 (codeB_sound hT cx bo (h1.put (.box kl (g, some (0, [.lp .busy none ps as bo l])))) h3)).mono fun e S2=>?_⟩
    rintro ⟨ss2, k1, k2⟩
    cases e with
    | normal=>obtain ⟨a1, a2, a3⟩:=postLp_spec k1 k2;exact ⟨a1, a2, a3⟩
    | ret=>obtain ⟨a1, a2, a3⟩:=postLp_spec k1 k2;exact ⟨a1, a2, a3⟩
    | exit i=>obtain ⟨a1, a2, a3⟩:=postLp_spec k1 k2;exact ⟨a1, a2, a3⟩
    | _=>exact k2.elim
  | _=>exact h2.elim
end Go.Am
