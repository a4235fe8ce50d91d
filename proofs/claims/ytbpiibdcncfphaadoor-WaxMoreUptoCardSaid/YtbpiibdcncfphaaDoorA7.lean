/- Part 7 of the texts that the last one stands on. -/
import Derived.Test.YtbpiibdcncfphaaDoorA6
set_option linter.unusedVariables false
set_option linter.unusedSimpArgs false
namespace Go.Proofs.YtbpiibdcncfphaaDoor
open Go.Am Go.Proofs Go
structure Easier (s r : Store) : Prop where
  heads : ∀ (i : Nat) y, s.heads[i]? = some y→∃ y', r.heads[i]? = some y'∧y'.wax = y.wax∧y'.days = y.days∧(y'.kept = true→y.kept = true)
  fade : r.fade = s.fade
  lots : s.lots.b ≤ r.lots.b∧s.lots.t ≤ r.lots.t∧s.lots.c ≤ r.lots.c
  orders : ∀ o' ∈ r.orders, ∃ o ∈ s.orders, (o'.tlo ≤ o.tlo∧o.thi ≤ o'.thi)∧o'.clo ≤ o.clo∧o.chi ≤ o'.chi
  sum : sumW r.orders ≤ sumW s.orders
theorem Easier.len {s r : Store} (h : Easier s r) : s.heads.length ≤ r.heads.length:=by
  by_cases h0 : s.heads.length = 0
  · omega
  · obtain ⟨y, hy, _⟩:=drop_cons (l:=s.heads) (i:=s.heads.length - 1) (by omega)
    obtain ⟨y', hy', _⟩:=h.heads _ y hy
    have:=(List.getElem?_eq_some_iff.1 hy').1
    omega
theorem Easier.feas {s r : Store} (h : Easier s r) {base a : Amt} (hb : base.upto 900000) (hf : s.Feas base a) : r.Feas base a:=by
  obtain ⟨l1, l2, l3⟩:=h.lots
  have hw : 0 ≤ (base.add a).weight:=by
    have h1:=hf.b
    have h2:=hf.t
    have h3:=hf.c
    obtain ⟨b1, b2, b3⟩:=hb
    unfold Amt.add Amt.weight
    simp only
    omega
  refine ⟨by have:=hf.b;omega, by have:=hf.t;omega, by have:=hf.c;omega, ?_⟩
  obtain ⟨q1, q2⟩:=enough_iff.1 hf.en
  refine enough_iff.2 ⟨fun o' ho'=>?_, by have:=h.sum;omega⟩
  obtain ⟨o, ho, ⟨e1, e2⟩, e3, e4⟩:=h.orders o' ho'
  obtain ⟨⟨p1, p2⟩, p3, p4⟩:=q1 o ho
  have m1:=Int.mul_le_mul_of_nonneg_right e1 hw
  have m2:=Int.mul_le_mul_of_nonneg_right e2 hw
  have m3:=Int.mul_le_mul_of_nonneg_right e3 hw
  have m4:=Int.mul_le_mul_of_nonneg_right e4 hw
  exact ⟨⟨by omega, by omega⟩, by omega, by omega⟩
theorem Easier.mem {s r : Store} (h : Easier s r) (hs : s.Good) (hr : r.Good) {n : Nat} (hn : n ∈ s.sorted) : n ∈ r.sorted∧(s.okAt 0 n = true→r.okAt 0 n = true):=by
  have h6:=hs.len
  have hl:=h.len
  obtain ⟨h1, h2⟩:=(sorted_iff h6 n).1 hn
  have hat:=(bits_all h6 h1).1
  have hget : ∀ x ∈ setL n, ∃ y y', s.heads[x.toNat]? = some y∧r.heads[x.toNat]? = some y'∧y'.wax = y.wax∧y'.days = y.days∧(y'.kept = true→y.kept = true):=by
    intro x hx
    have:=hat x hx
    obtain ⟨y, hy, _⟩:=drop_cons (l:=s.heads) (i:=x.toNat) (by omega)
    obtain ⟨y', a, b⟩:=h.heads _ y hy
    exact ⟨y, y', hy, a, b⟩
  constructor
  · refine (sorted_iff hr.len n).2 ⟨Nat.lt_of_lt_of_le h1 (Nat.pow_le_pow_right (by decide) hl), ?_⟩
    rw [List.any_eq_false] at h2 ⊢
    intro x hx
    obtain ⟨y, y', a, b, _, _, c⟩:=hget x hx
    have:=h2 x hx
    unfold Store.keptAt at this ⊢
    rw [a] at this
    rw [b]
    exact fun hk=>this (c hk)
  · intro hok
    have hbase : r.baseOf (setL n) 0 = s.baseOf (setL n) 0:=by
      have:=sumL_map (m:=s.melts 0) (m':=r.melts 0) (f:=id) (setL n) zeroT fun x hx=>by
        obtain ⟨y, y', a, b, c, d, _⟩:=hget x hx
        rw [meltsGet a]
        show (r.melts 0).getD x.toNat zeroT = _
        rw [meltsGet b, h.fade]
        unfold Head.melt Head.faded
        rw [c, d]
      rw [List.map_id] at this
      exact this
    unfold Store.okAt at hok ⊢
    rw [hbase]
    obtain ⟨a, ha⟩:=(pour_ok_iff hs (baseOf_free hs n)).1 hok
    exact (pour_ok_iff hr (baseOf_free hs n)).2 ⟨a, h.feas (baseOf_free hs n) ha⟩
theorem Easier.pour {s r : Store} (h : Easier s r) (hc : s.check.2.2 = 0) (hr : r.check.2.2 = 0) : s.pourR.2.2 = 0→r.pourR.2.2 = 0∧r.pourR.1.length ≤ s.pourR.1.length:=by
  have hs:=Store.good hc
  have hg:=Store.good hr
  unfold Store.pourR
  rw [if_neg (c:=s.check.2.2 ≠ 0) (fun h=>h hc), if_neg (c:=r.check.2.2 ≠ 0) (fun h=>h hr)]
  cases hF : s.sorted.find? (s.okAt 0) with
  | none=>intro h;cases h
  | some n =>
    intro _
    obtain ⟨h1, h2⟩:=find_mem hF
    obtain ⟨a, b⟩:=h.mem hs hg h1
    cases hG : r.sorted.find? (r.okAt 0) with
    | none=>exact absurd (b h2) (List.find?_eq_none.1 hG _ a)
    | some m =>
      show (0 : Int) = 0∧(setL m).length ≤ (setL n).length
      exact ⟨rfl, first_len hg.len hG a (b h2)⟩
theorem filter_le {α : Type} {p q : α→Bool} : ∀ (l : List α), (∀ x ∈ l, p x = true→q x = true)→(l.filter p).length ≤ (l.filter q).length
  | [], _=>Nat.le_refl _
  | x :: l, h=>by
    have ih:=filter_le l fun y hy=>h y (List.mem_cons_of_mem _ hy)
    have hx:=h x (List.mem_cons_self ..)
    rw [List.filter_cons, List.filter_cons]
    split
    · rename_i hp
      rw [if_pos (hx hp)]
      simpa using ih
    · split
      · simp;omega
      · exact ih
theorem more_lists {s r : Store} (h : Easier s r) (hc : s.check.2.2 = 0) (hr : r.check.2.2 = 0) (hh : r.heads = s.heads) :
    s.listsR.2 = 0∧r.listsR.2 = 0∧s.listsR.1.length ≤ r.listsR.1.length∧∀ l ∈ s.listsR.1, l ∈ r.listsR.1:=by
  have hs:=Store.good hc
  have hg:=Store.good hr
  have hso : r.sorted = s.sorted:=by unfold Store.sorted Store.sets;rw [hh]
  have hok : ∀ n ∈ s.sorted, s.okAt 0 n = true→r.okAt 0 n = true:=fun n hn=>(h.mem hs hg hn).2
  unfold Store.listsR
  rw [if_neg (c:=s.check.2.2 ≠ 0) (fun h=>h hc), if_neg (c:=r.check.2.2 ≠ 0) (fun h=>h hr)]
  unfold Store.allOk
  rw [hso]
  refine ⟨rfl, rfl, ?_, ?_⟩
  · show (List.map setL _).length ≤ (List.map setL _).length
    rw [List.length_map, List.length_map]
    exact filter_le _ hok
  · intro l hl
    obtain ⟨n, hn, rfl⟩:=List.mem_map.1 hl
    obtain ⟨a, b⟩:=List.mem_filter.1 hn
    exact List.mem_map_of_mem (List.mem_filter.2 ⟨a, hok n a b⟩)
theorem Easier.heads_refl {s r : Store} (h : r.heads = s.heads) : ∀ (i : Nat) y, s.heads[i]? = some y→∃ y', r.heads[i]? = some y'∧y'.wax = y.wax∧y'.days = y.days∧(y'.kept = true→y.kept = true) :=
  fun i y hy=>⟨y, by rw [h];exact hy, rfl, rfl, id⟩
def Store.few (s : Store) (k : Nat) : Store:={ s with orders:=s.orders.take k }
theorem sumW_nonneg {l : List Order} (h : ∀ o ∈ l, o.right) : 0 ≤ sumW l:=by
  induction l with
  | nil=>simp [sumW]
  | cons o l ih =>
    have:=ih fun x hx=>h x (List.mem_cons_of_mem _ hx)
    have h1:=(h o (List.mem_cons_self ..)).2.1
    simp only [Bool.or_eq_false_iff, outside_iff] at h1
    simp only [sumW]
    omega
theorem few_right {s : Store} (h : s.Right) (k : Nat) : (s.few k).Right∧Easier s (s.few k):=by
  have hsub : (s.orders.take k).Sublist s.orders:=List.take_sublist ..
  refine ⟨⟨h.lots, h.fade, h.len, h.heads, h.names, by show (s.orders.take k).length ≤ 3;rw [List.length_take];have:=h.lenO;omega, fun x hx=>h.orders x (List.mem_of_mem_take hx), h.namesO.sublist hsub⟩, ⟨Easier.heads_refl rfl, rfl, by show _∧_∧_;exact ⟨Int.le_refl _, Int.le_refl _, Int.le_refl _⟩, fun o ho=>⟨o, List.mem_of_mem_take ho, ⟨Int.le_refl _, Int.le_refl _⟩, Int.le_refl _, Int.le_refl _⟩, ?_⟩⟩
  have:=sumW_app (s.orders.take k) (s.orders.drop k)
  rw [List.take_append_drop] at this
  have h2:=sumW_nonneg (l:=s.orders.drop k) fun o ho=>h.orders o (List.mem_of_mem_drop ho)
  show sumW (s.orders.take k) ≤ sumW s.orders
  omega
def Store.lotted (s : Store) (x : Rich) : Store:={ s with lots:=lotsTo s x 3 }
theorem lots_upto {s : Store} {x : Rich} (h : s.lots.upto 40) (hx : x.fit) : (lotsTo s x 3).upto 40∧s.lots.b ≤ (lotsTo s x 3).b∧s.lots.t ≤ (lotsTo s x 3).t∧s.lots.c ≤ (lotsTo s x 3).c:=by
  obtain ⟨h1, h2, h3⟩:=h
  have u1:=hx.l0
  have u2:=hx.l1
  have u3:=hx.l2
  unfold lotsTo Amt.upto
  simp only
  omega
theorem lotted_right {s : Store} {x : Rich} (h : s.Right) (hx : x.fit) : (s.lotted x).Right∧Easier s (s.lotted x):=by
  obtain ⟨a, b⟩:=lots_upto h.lots hx
  exact ⟨⟨a, h.fade, h.len, h.heads, h.names, h.lenO, h.orders, h.namesO⟩, ⟨Easier.heads_refl rfl, rfl, b, fun o ho=>⟨o, ho, ⟨Int.le_refl _, Int.le_refl _⟩, Int.le_refl _, Int.le_refl _⟩, Int.le_refl _⟩⟩
def Store.rich2 (s : Store) (x : Rich) (L : List Head) : Store:=⟨lotsTo s x 3, s.fade, L, s.orders.map x.wide⟩
theorem sumW_wide (x : Rich) (l : List Order) : sumW (l.map x.wide) = sumW l:=by
  induction l with
  | nil=>rfl
  | cons o l ih=>simp only [List.map_cons, sumW, ih];rfl
theorem wide_right {x : Rich} (hx : x.fit) {o : Order} (h : o.right) : (x.wide o).right∧((x.wide o).tlo ≤ o.tlo∧o.thi ≤ (x.wide o).thi)∧(x.wide o).clo ≤ o.clo∧o.chi ≤ (x.wide o).chi:=by
  obtain ⟨h1, h2, h3⟩:=h
  have u1:=hx.w0
  have u2:=hx.w1
  have u3:=hx.w2
  simp only [Bool.or_eq_false_iff, outside_iff, decide_eq_false_iff_not] at h2 h3
  unfold Order.right Rich.wide
  simp only [Bool.or_eq_false_iff, outside_iff, decide_eq_false_iff_not]
  exact ⟨⟨h1, by omega, by omega⟩, by omega, by omega, by omega⟩
theorem rich_right {s : Store} {x : Rich} (h : s.Right) (hx : x.fit) {L : List Head} (h6 : L.length ≤ 6) (hL : ∀ y ∈ L, y.right) (hN : L.Pairwise (fun y x=>y.name ≠ x.name))
    (hE : ∀ (i : Nat) y, s.heads[i]? = some y→∃ y', L[i]? = some y'∧y'.wax = y.wax∧y'.days = y.days∧(y'.kept = true→y.kept = true)) : (s.rich2 x L).Right∧Easier s (s.rich2 x L):=by
  obtain ⟨a, b⟩:=lots_upto h.lots hx
  refine ⟨⟨a, h.fade, h6, hL, hN, by show (s.orders.map x.wide).length ≤ 3;rw [List.length_map];exact h.lenO, ?_, ?_⟩, ⟨hE, rfl, b, ?_, by show sumW (s.orders.map x.wide) ≤ _;rw [sumW_wide];exact Int.le_refl _⟩⟩
  · intro o ho
    obtain ⟨o, ho', rfl⟩:=List.mem_map.1 ho
    replace ho:=ho'
    exact (wide_right hx (h.orders o ho)).1
  · show (s.orders.map x.wide).Pairwise _
    rw [List.pairwise_map]
    exact h.namesO
  · intro o ho
    obtain ⟨o, ho', rfl⟩:=List.mem_map.1 ho
    replace ho:=ho'
    exact ⟨o, ho, (wide_right hx (h.orders o ho)).2⟩
theorem loose_right {s : Store} (h : s.Right) {n : Nat} {y : Head} (hy : s.heads[n]? = some y) : (s.loose n y).length ≤ 6∧(∀ z ∈ s.loose n y, z.right)∧(s.loose n y).Pairwise (fun y x=>y.name ≠ x.name) ∧
    ∀ (i : Nat) z, s.heads[i]? = some z→∃ z', (s.loose n y)[i]? = some z'∧z'.wax = z.wax∧z'.days = z.days∧(z'.kept = true→z.kept = true):=by
  have hm : (s.loose n y).map Head.bare = s.heads.map Head.bare:=by
    apply List.ext_getElem?
    intro i
    unfold Store.loose
    rw [List.getElem?_map, List.getElem?_map, List.getElem?_set]
    split
    · rename_i e
      subst e
      rw [hy, if_pos (List.getElem?_eq_some_iff.1 hy).1]
      rfl
    · rfl
  have hat : ∀ (i : Nat) z, s.heads[i]? = some z→∃ z', (s.loose n y)[i]? = some z'∧z'.wax = z.wax∧z'.days = z.days∧(z'.kept = true→z.kept = true):=by
    intro i z hz
    unfold Store.loose
    rw [List.getElem?_set]
    split
    · rename_i e
      subst e
      rw [hy] at hz
      cases hz
      rw [if_pos (List.getElem?_eq_some_iff.1 hy).1]
      exact ⟨_, rfl, rfl, rfl, fun h=>by cases h⟩
    · exact ⟨z, hz, rfl, rfl, id⟩
  have hn : ((s.loose n y).map Head.bare).Pairwise (fun y x=>y.name ≠ x.name):=by
    rw [hm, List.pairwise_map]
    exact h.names
  refine ⟨by unfold Store.loose;rw [List.length_set];exact h.len, ?_, by rw [List.pairwise_map] at hn;exact hn, hat⟩
  intro z hz
  rcases List.mem_or_eq_of_mem_set hz with hz|rfl
  · exact h.heads z hz
  · exact h.heads y (List.mem_of_getElem? hy)
end Go.Proofs.YtbpiibdcncfphaaDoor
namespace Go.Proofs.YtbpiibdcncfphaaDoor
open Go.Am Go.Proofs Go
theorem richer_law (s : Store) (x : Rich) (hr : s.small) (hc : s.check.2.2 = 0) (hx : x.fit) : ∃ r : Store, PureA Tryd.prog 42 [storeA s, richA x] (storeA r)∧r.small∧r.check.2.2 = 0∧Easier s r:=by
  have hR:=(check_right s).1 hc
  have hg:=Store.good hc
  have h6:=hg.len
  have h3:=hg.lenO
  have small : ∀ L : List Head, (∀ y ∈ L, y.name.size ≤ 1048576)→L.length ≤ 7→(s.rich2 x L).small:=by
    intro L hL h7
    refine ⟨by show L.length ≤ _;omega, by show (s.orders.map x.wide).length ≤ _;rw [List.length_map];omega, hL, ?_⟩
    intro o ho
    have ho : o ∈ s.orders.map x.wide:=ho
    obtain ⟨o, h, rfl⟩:=List.mem_map.1 ho
    exact hr.2.2.2 o h
  have small1 : ∀ L : List Head, (∀ y ∈ L, y.name.size ≤ 1048576)→L.length ≤ 7→(s.rich1 x L).small:=by
    intro L hL h7
    exact ⟨by show L.length ≤ _;omega, hr.2.1, hL, hr.2.2.2⟩
  by_cases h0 : s.heads = []
  · have hs1:=small1 [x.head] (by intro y hy;simp at hy;subst hy;exact hx.name) (by simp)
    have hv:=valid_c (s.rich1 x [x.head]) hs1
    have hE : ∀ L : List Head, ∀ (i : Nat) y, s.heads[i]? = some y→∃ y', L[i]? = some y'∧y'.wax = y.wax∧y'.days = y.days∧(y'.kept = true→y.kept = true):=by
      intro L i y hy
      rw [h0] at hy
      simp at hy
    have hw:=lotsTo0_c s x hx hR.lots h0 h3 hg.orders _ hv
    by_cases hq : (s.rich1 x [x.head]).check.2.2 = 0
    · rw [decide_eq_true hq, if_pos rfl] at hw
      have hq:=(check_right _).1 hq
      obtain ⟨a, b⟩:=rich_right hR hx (L:=[x.head]) (by simp) hq.heads hq.names (hE _)
      exact ⟨_, hw, small _ (by intro y hy;simp at hy;subst hy;exact hx.name) (by simp), (check_right _).2 a, b⟩
    · rw [decide_eq_false hq, if_neg (by simp)] at hw
      obtain ⟨a, b⟩:=rich_right hR hx (L:=[]) (by simp) (by simp) .nil (hE _)
      exact ⟨_, hw, small _ (by simp) (by simp), (check_right _).2 a, b⟩
  · have hpos : 0 < s.heads.length:=List.length_pos_iff.2 h0
    obtain ⟨n, hn, hnl⟩ : ∃ n : Nat, x.free.tmod ((s.heads.map headA).length : Int) = n∧n < s.heads.length:=by
      have e : (s.heads.map headA).length = s.heads.length:=List.length_map ..
      have a:=Int.tmod_nonneg ((s.heads.map headA).length : Int) hx.free.1
      have b:=Int.tmod_lt_of_pos x.free (show (0 : Int) < ((s.heads.map headA).length : Int) by omega)
      exact ⟨(x.free.tmod ((s.heads.map headA).length : Int)).toNat, by omega, by omega⟩
    obtain ⟨y, hy, _⟩:=drop_cons (l:=s.heads) (i:=n) hnl
    obtain ⟨c1, c2, c3, c4⟩:=loose_right hR hy
    have hnm : ∀ z ∈ s.loose n y, z.name.size ≤ 1048576:=by
      intro z hz
      rcases List.mem_or_eq_of_mem_set hz with hz|rfl
      · exact hr.2.2.1 z hz
      · exact hr.2.2.1 y (List.mem_of_getElem? hy)
    have hnm2 : ∀ z ∈ s.loose n y++[x.head], z.name.size ≤ 1048576:=by
      intro z hz
      rcases List.mem_append.1 hz with hz|hz
      · exact hnm z hz
      · simp at hz;subst hz;exact hx.name
    have hs1:=small1 (s.loose n y++[x.head]) hnm2 (by rw [List.length_append];simp;omega)
    have hv:=valid_c (s.rich1 x (s.loose n y++[x.head])) hs1
    have hw:=lotsTo_c s x hx hR.lots n y _ rfl hy hn h6 h3 hg.orders _ hv
    by_cases hq : (s.rich1 x (s.loose n y++[x.head])).check.2.2 = 0
    · rw [decide_eq_true hq, if_pos rfl] at hw
      have hq:=(check_right _).1 hq
      obtain ⟨a, b⟩:=rich_right hR hx (L:=s.loose n y++[x.head]) hq.len hq.heads hq.names fun i z hz=>by
        obtain ⟨z', h1, h2⟩:=c4 i z hz
        exact ⟨z', by rw [List.getElem?_append_left (List.getElem?_eq_some_iff.1 h1).1];exact h1, h2⟩
      exact ⟨_, hw, small _ hnm2 (by have:=hq.len;show _ ≤ 7;exact Nat.le_trans this (by decide)), (check_right _).2 a, b⟩
    · rw [decide_eq_false hq, if_neg (by simp)] at hw
      obtain ⟨a, b⟩:=rich_right hR hx c1 c2 c3 c4
      exact ⟨_, hw, small _ hnm (by omega), (check_right _).2 a, b⟩
set_option maxHeartbeats 8000000 in
set_option maxRecDepth 100000 in
theorem WaxMore_c (s : Store) (x : Rich) (bits : Int) (hr : s.small) (hx : x.fit) (hb : u8 bits) : PureA Tryd.prog 10 [storeA s, richA x, u8A bits] (boolA true):=by
  have hva:=valid_c s hr
  have aw:=Awake_c
  by_cases hc : s.check.2.2 = 0
  · rw [decide_eq_true hc] at hva
    have hR:=(check_right s).1 hc
    have hg:=Store.good hc
    have h6:=hg.len
    have h3:=hg.lenO
    obtain ⟨r, hri, hrs, hrc, hre⟩:=richer_law s x hr hc hx
    have hP:=pourTop_c s hr
    have hPr:=pourTop_c r hrs
    have hlr:=hre.pour hc hrc
    have e3 : (s.orders.map orderA).length = s.orders.length:=List.length_map ..
    obtain ⟨fR, fE⟩:=few_right hR (s.orders.length - 1)
    have fS : (s.few (s.orders.length - 1)).small:=⟨hr.1, by show (s.orders.take _).length ≤ _;rw [List.length_take];omega, hr.2.2.1, fun o ho=>hr.2.2.2 o (List.mem_of_mem_take ho)⟩
    have fC:=(check_right _).2 fR
    have hPf:=pourTop_c _ fS
    have hlf:=fE.pour hc fC
    have hpf : 0 < s.orders.length→PureA Tryd.prog 24 [.agg [intA s.lots.b, intA s.lots.t, intA s.lots.c, intA s.fade, headsA s.heads, .slice 6 ((s.orders.map orderA).take (((s.orders.map orderA).length : Int) - 1).toNat) .no]] (pourA (s.few (s.orders.length - 1)).pourR):=by
      intro h0
      have e : (s.orders.map orderA).take (((s.orders.map orderA).length : Int) - 1).toNat = (s.orders.take (s.orders.length - 1)).map orderA:=by
        rw [List.map_take, List.length_map]
        congr 1
        omega
      rw [e]
      exact hPf
    obtain ⟨lR, lE⟩:=lotted_right hR hx
    have lS : (s.lotted x).small:=hr
    have lC:=(check_right _).2 lR
    have hL:=listsTop_c s hr
    have hLl : PureA Tryd.prog 34 [.agg [intA (lotsTo s x 3).b, intA (lotsTo s x 3).t, intA (lotsTo s x 3).c, intA s.fade, headsA s.heads, ordersA s.orders]] (listsA (s.lotted x).listsR):=listsTop_c _ lS
    obtain ⟨m1, m2, m3, m4⟩:=more_lists lE hc lC rfl
    have hA : PureA Tryd.prog 26 [storeA s, .agg [u8A bits, u8A 0, u8A 0, u8A 0]] _:=any_c s bits 0 0 0 hg (by decide) (by decide) (by decide)
    obtain ⟨m, hm, hAL⟩:=any_set h6 bits
    rw [hAL] at hA
    have hll:=setL_len m
    have lsix : ∀ t : Store, ∀ l ∈ t.listsR.1, l.length ≤ 1048576:=by
      intro t l hl
      unfold Store.listsR at hl
      split at hl
      · simp at hl
      · have:=all_six l hl;omega
    have llen : ∀ t : Store, t.check.2.2 = 0→t.listsR.1.length ≤ 1048576:=by
      intro t ht
      unfold Store.listsR
      rw [if_neg (fun h=>h ht)]
      have:=all_len (Store.good ht).len
      show (List.map setL _).length ≤ _
      omega
    have o1:=oneOf_c s.listsR.1 (setL m) (llen s hc) (lsix s) (by omega)
    have o2:=oneOf_c (s.lotted x).listsR.1 (setL m) (llen _ lC) (lsix _) (by omega)
    have o3 : (s.listsR.1.any fun y=>eqAll (fun x y : Int=>decide (x = y)) y (setL m)) = true→((s.lotted x).listsR.1.any fun y=>eqAll (fun x y : Int=>decide (x = y)) y (setL m)) = true:=by
      rw [List.any_eq_true, List.any_eq_true]
      rintro ⟨l, h1, h2⟩
      exact ⟨l, m4 l h1, h2⟩
    unfold pourA at hP hPr hpf
    unfold listsA at hL hLl
    rw [m1] at hL
    rw [m2] at hLl
    have e4 : (s.listsR.1.map intsA).length = s.listsR.1.length:=List.length_map ..
    have e5 : ((s.lotted x).listsR.1.map intsA).length = (s.lotted x).listsR.1.length:=List.length_map ..
    generalize (s.listsR.1.any fun y=>eqAll (fun x y : Int=>decide (x = y)) y (setL m)) = B1 at *
    generalize ((s.lotted x).listsR.1.any fun y=>eqAll (fun x y : Int=>decide (x = y)) y (setL m)) = B2 at *
    generalize (s.lotted x).listsR.1 = LL at *
    generalize s.listsR.1 = LS at *
    have e6 : (s.pourR.1.map intA).length = s.pourR.1.length:=List.length_map ..
    have e7 : (r.pourR.1.map intA).length = r.pourR.1.length:=List.length_map ..
    have e8 : ((s.few (s.orders.length - 1)).pourR.1.map intA).length = (s.few (s.orders.length - 1)).pourR.1.length:=List.length_map ..
    generalize (s.few (s.orders.length - 1)).pourR = PF at *
    generalize r.pourR = PR at *
    generalize s.pourR = PS at *
    generalize s.anyA 0 0 0 = AA at *
    obtain ⟨S1, ⟨z1, z2, z3⟩, S3⟩:=PS
    obtain ⟨R1, ⟨z4, z5, z6⟩, R3⟩:=PR
    obtain ⟨F1, ⟨z7, z8, z9⟩, F3⟩:=PF
    obtain ⟨v1, v2, v3⟩:=AA
    generalize setL m = O at *
    simp only at hP hPr hpf hlr hlf e6 e7 e8 hA
    obtain ⟨u1, u2, u3, u4, u5, u6, u7, u8⟩:=hx
    obtain ⟨q1, q2, q3⟩:=hR.lots
    have g0 : (lotsTo s x 0).b = s.lots.b:=rfl
    have g1 : (lotsTo s x 1).t = s.lots.t:=rfl
    have g2 : (lotsTo s x 2).c = s.lots.c:=rfl
    have hb : 0 ≤ bits∧bits ≤ 255:=hb
    have hS3 : S3 = 0∨¬ S3 = 0:=Decidable.em _
    have hlr1 : S3 = 0→R3 = 0:=fun h=>(hlr h).1
    have hlr2 : S3 = 0→(R1.map intA).length ≤ (S1.map intA).length:=fun h=>by have:=(hlr h).2;omega
    have hlf1 : S3 = 0→F3 = 0:=fun h=>(hlf h).1
    have hlf2 : S3 = 0→(F1.map intA).length ≤ (S1.map intA).length:=fun h=>by have:=(hlf h).2;omega
    have hB : B1 = true→B2 = true:=o3
    clear hlr hlf o3 m1 m2 m4 hre fE lE fR lR fS lS fC lC hrc hrs hPf hm hAL lsix llen hg hR
    refine pureA_codeB tabOk { l:=0, f:=10 } mixed call_10 Tryd.func10 (by kernel_rfl) ?_
    conv=>whnf
    by_cases hz : S3 = 0
    · have hlr1:=hlr1 hz
      have hlr2:=hlr2 hz
      have hlf1:=hlf1 hz
      have hlf2:=hlf2 hz
      repeat (any_goals (first|exact falseI|((first|refine bd ?_ ?_|refine bn ?_ ?_)<;>intro _<;>first|(exfalso;omega)|conv=>whnf)|((first|refine callP_a hva ?_|refine callP_a hP ?_|refine callP_a hri ?_|refine callP_a hPr ?_|refine callP_a (hpf (by omega)) ?_|refine dI ?_|refine okI ?_|refine bt ?_|refine bi (fun _=>?_) (fun _=>?_)|refine bndI ?_|intro _)<;>conv=>whnf)))
      all_goals
        refine loopK tabOk { l:=0, f:=10 } mixed (fun i : Nat=>[(18, intA i)]) (fun i=>[(⟨0, 10, 17⟩, some (1, some (6, [.agg [intA (lotsTo s x i).b, intA (lotsTo s x i).t, intA (lotsTo s x i).c, intA s.fade, headsA s.heads, ordersA s.orders]])))]) (fun _=>[]) (fun i=>i ≤ 3) (fun i=>3 - i) 0 (by kernel_rfl)
          (Nat.zero_le _) ?_
        conv=>whnf
        refine ⟨⟨slotsLe_cons rfl trivial, keysLe_cons rfl trivial, trivial⟩, ?_⟩
        intro i hi
        conv=>whnf
        refine brP_dec (fun h4=>?_) (fun h4=>?_)
        · have h4 : (i : Int) < 3:=h4
          rcases lt3 (by omega : i < 3) with rfl|rfl|rfl
          · conv=>whnf
            repeat (any_goals (first|exact falseI|((first|refine bd ?_ ?_|refine bn ?_ ?_)<;>intro _<;>first|(exfalso;omega)|conv=>whnf)|((first|refine dI ?_|refine okI ?_|refine bt ?_|refine bi (fun _=>?_) (fun _=>?_)|refine bndI ?_|intro _)<;>conv=>whnf)))
            (refine ⟨1, (by omega), (by omega), ?_⟩;(conv=>whnf);refine ⟨?_, ?_, ?_⟩<;>repeat (first|exact trivial|refine sc rfl ?_|refine kn ?_|refine kc rfl ?_|refine sc (by rfl) ?_|refine kc (by rfl) ?_))
          · conv=>whnf
            repeat (any_goals (first|exact falseI|((first|refine bd ?_ ?_|refine bn ?_ ?_)<;>intro _<;>first|(exfalso;omega)|conv=>whnf)|((first|refine dI ?_|refine okI ?_|refine bt ?_|refine bi (fun _=>?_) (fun _=>?_)|refine bndI ?_|intro _)<;>conv=>whnf)))
            (refine ⟨2, (by omega), (by omega), ?_⟩;(conv=>whnf);refine ⟨?_, ?_, ?_⟩<;>repeat (first|exact trivial|refine sc rfl ?_|refine kn ?_|refine kc rfl ?_|refine sc (by rfl) ?_|refine kc (by rfl) ?_))
          · conv=>whnf
            repeat (any_goals (first|exact falseI|((first|refine bd ?_ ?_|refine bn ?_ ?_)<;>intro _<;>first|(exfalso;omega)|conv=>whnf)|((first|refine dI ?_|refine okI ?_|refine bt ?_|refine bi (fun _=>?_) (fun _=>?_)|refine bndI ?_|intro _)<;>conv=>whnf)))
            (refine ⟨3, (by omega), (by omega), ?_⟩;(conv=>whnf);refine ⟨?_, ?_, ?_⟩<;>repeat (first|exact trivial|refine sc rfl ?_|refine kn ?_|refine kc rfl ?_|refine sc (by rfl) ?_|refine kc (by rfl) ?_))
        · have h4 : ¬ (i : Int) < 3:=h4
          have : i = 3:=by omega
          subst this
          cases B1<;>cases B2
          · conv=>whnf
            repeat (any_goals (first|exact falseI|((first|refine bd ?_ ?_|refine bn ?_ ?_)<;>intro _<;>first|(exfalso;omega)|conv=>whnf)|((first|refine callP_a hL ?_|refine callP_a hLl ?_|refine callP_a hA ?_|refine callP_a o1 ?_|refine callP_a o2 ?_|refine callP_a aw ?_|refine dI ?_|refine okI ?_|refine bt ?_|refine bi (fun _=>?_) (fun _=>?_)|refine bndI ?_|intro _)<;>conv=>whnf)))
            (refine ⟨⟨?_⟩, trivial⟩;rfl)
          · conv=>whnf
            repeat (any_goals (first|exact falseI|((first|refine bd ?_ ?_|refine bn ?_ ?_)<;>intro _<;>first|(exfalso;omega)|conv=>whnf)|((first|refine callP_a hL ?_|refine callP_a hLl ?_|refine callP_a hA ?_|refine callP_a o1 ?_|refine callP_a o2 ?_|refine callP_a aw ?_|refine dI ?_|refine okI ?_|refine bt ?_|refine bi (fun _=>?_) (fun _=>?_)|refine bndI ?_|intro _)<;>conv=>whnf)))
            (refine ⟨⟨?_⟩, trivial⟩;rfl)
          · exact absurd (hB rfl) (by simp)
          · conv=>whnf
            repeat (any_goals (first|exact falseI|((first|refine bd ?_ ?_|refine bn ?_ ?_)<;>intro _<;>first|(exfalso;omega)|conv=>whnf)|((first|refine callP_a hL ?_|refine callP_a hLl ?_|refine callP_a hA ?_|refine callP_a o1 ?_|refine callP_a o2 ?_|refine callP_a aw ?_|refine dI ?_|refine okI ?_|refine bt ?_|refine bi (fun _=>?_) (fun _=>?_)|refine bndI ?_|intro _)<;>conv=>whnf)))
            (refine ⟨⟨?_⟩, trivial⟩;rfl)
    · repeat (any_goals (first|exact falseI|((first|refine bd ?_ ?_|refine bn ?_ ?_)<;>intro _<;>first|(exfalso;omega)|conv=>whnf)|((first|refine callP_a hva ?_|refine callP_a hP ?_|refine callP_a hri ?_|refine callP_a hPr ?_|refine callP_a (hpf (by omega)) ?_|refine dI ?_|refine okI ?_|refine bt ?_|refine bi (fun _=>?_) (fun _=>?_)|refine bndI ?_|intro _)<;>conv=>whnf)))
      all_goals
        refine loopK tabOk { l:=0, f:=10 } mixed (fun i : Nat=>[(18, intA i)]) (fun i=>[(⟨0, 10, 17⟩, some (1, some (6, [.agg [intA (lotsTo s x i).b, intA (lotsTo s x i).t, intA (lotsTo s x i).c, intA s.fade, headsA s.heads, ordersA s.orders]])))]) (fun _=>[]) (fun i=>i ≤ 3) (fun i=>3 - i) 0 (by kernel_rfl)
          (Nat.zero_le _) ?_
        conv=>whnf
        refine ⟨⟨slotsLe_cons rfl trivial, keysLe_cons rfl trivial, trivial⟩, ?_⟩
        intro i hi
        conv=>whnf
        refine brP_dec (fun h4=>?_) (fun h4=>?_)
        · have h4 : (i : Int) < 3:=h4
          rcases lt3 (by omega : i < 3) with rfl|rfl|rfl
          · conv=>whnf
            repeat (any_goals (first|exact falseI|((first|refine bd ?_ ?_|refine bn ?_ ?_)<;>intro _<;>first|(exfalso;omega)|conv=>whnf)|((first|refine dI ?_|refine okI ?_|refine bt ?_|refine bi (fun _=>?_) (fun _=>?_)|refine bndI ?_|intro _)<;>conv=>whnf)))
            (refine ⟨1, (by omega), (by omega), ?_⟩;(conv=>whnf);refine ⟨?_, ?_, ?_⟩<;>repeat (first|exact trivial|refine sc rfl ?_|refine kn ?_|refine kc rfl ?_|refine sc (by rfl) ?_|refine kc (by rfl) ?_))
          · conv=>whnf
            repeat (any_goals (first|exact falseI|((first|refine bd ?_ ?_|refine bn ?_ ?_)<;>intro _<;>first|(exfalso;omega)|conv=>whnf)|((first|refine dI ?_|refine okI ?_|refine bt ?_|refine bi (fun _=>?_) (fun _=>?_)|refine bndI ?_|intro _)<;>conv=>whnf)))
            (refine ⟨2, (by omega), (by omega), ?_⟩;(conv=>whnf);refine ⟨?_, ?_, ?_⟩<;>repeat (first|exact trivial|refine sc rfl ?_|refine kn ?_|refine kc rfl ?_|refine sc (by rfl) ?_|refine kc (by rfl) ?_))
          · conv=>whnf
            repeat (any_goals (first|exact falseI|((first|refine bd ?_ ?_|refine bn ?_ ?_)<;>intro _<;>first|(exfalso;omega)|conv=>whnf)|((first|refine dI ?_|refine okI ?_|refine bt ?_|refine bi (fun _=>?_) (fun _=>?_)|refine bndI ?_|intro _)<;>conv=>whnf)))
            (refine ⟨3, (by omega), (by omega), ?_⟩;(conv=>whnf);refine ⟨?_, ?_, ?_⟩<;>repeat (first|exact trivial|refine sc rfl ?_|refine kn ?_|refine kc rfl ?_|refine sc (by rfl) ?_|refine kc (by rfl) ?_))
        · have h4 : ¬ (i : Int) < 3:=h4
          have : i = 3:=by omega
          subst this
          cases B1<;>cases B2
          · conv=>whnf
            repeat (any_goals (first|exact falseI|((first|refine bd ?_ ?_|refine bn ?_ ?_)<;>intro _<;>first|(exfalso;omega)|conv=>whnf)|((first|refine callP_a hL ?_|refine callP_a hLl ?_|refine callP_a hA ?_|refine callP_a o1 ?_|refine callP_a o2 ?_|refine callP_a aw ?_|refine dI ?_|refine okI ?_|refine bt ?_|refine bi (fun _=>?_) (fun _=>?_)|refine bndI ?_|intro _)<;>conv=>whnf)))
            (refine ⟨⟨?_⟩, trivial⟩;rfl)
          · conv=>whnf
            repeat (any_goals (first|exact falseI|((first|refine bd ?_ ?_|refine bn ?_ ?_)<;>intro _<;>first|(exfalso;omega)|conv=>whnf)|((first|refine callP_a hL ?_|refine callP_a hLl ?_|refine callP_a hA ?_|refine callP_a o1 ?_|refine callP_a o2 ?_|refine callP_a aw ?_|refine dI ?_|refine okI ?_|refine bt ?_|refine bi (fun _=>?_) (fun _=>?_)|refine bndI ?_|intro _)<;>conv=>whnf)))
            (refine ⟨⟨?_⟩, trivial⟩;rfl)
          · exact absurd (hB rfl) (by simp)
          · conv=>whnf
            repeat (any_goals (first|exact falseI|((first|refine bd ?_ ?_|refine bn ?_ ?_)<;>intro _<;>first|(exfalso;omega)|conv=>whnf)|((first|refine callP_a hL ?_|refine callP_a hLl ?_|refine callP_a hA ?_|refine callP_a o1 ?_|refine callP_a o2 ?_|refine callP_a aw ?_|refine dI ?_|refine okI ?_|refine bt ?_|refine bi (fun _=>?_) (fun _=>?_)|refine bndI ?_|intro _)<;>conv=>whnf)))
            (refine ⟨⟨?_⟩, trivial⟩;rfl)
  · rw [decide_eq_false hc] at hva
    refine pureA_codeB tabOk { l:=0, f:=10 } mixed call_10 Tryd.func10 (by kernel_rfl) ?_
    conv=>whnf
    repeat (any_goals (first|exact falseI|((first|refine bd ?_ ?_|refine bn ?_ ?_)<;>intro _<;>first|(exfalso;omega)|conv=>whnf)|((first|refine callP_a hva ?_|refine callP_a aw ?_|refine dI ?_|refine okI ?_|refine bt ?_|refine bi (fun _=>?_) (fun _=>?_)|refine bndI ?_|intro _)<;>conv=>whnf)))
    (refine ⟨⟨?_⟩, trivial⟩;rfl)
end Go.Proofs.YtbpiibdcncfphaaDoor
