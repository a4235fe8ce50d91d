/- Part 6 of the texts that the last one stands on. -/
import Derived.Test.YtbpiibdcncfphaaDoorA5
set_option linter.unusedVariables false
set_option linter.unusedSimpArgs false
namespace Go.Proofs.YtbpiibdcncfphaaDoor
open Go.Am Go.Proofs Go
theorem tkL_idem {f g : AV→Option AV} (hf : ∀ {x y : AV}, f x = some y→g y = some y) : ∀ {xs l : List AV}, tkL f xs = some l→tkL g l = some l
  | [], l, h=>by simp only [tkL, Option.some.injEq] at h;subst h;rfl
  | x :: xs, l, h=>by
    simp only [tkL] at h
    split at h
    · rename_i y ys h1 h2
      simp only [Option.some.injEq] at h;subst h
      simp only [tkL, hf h1, tkL_idem hf h2]
    · simp at h
theorem tk0_idem {ks ks' : List Key} (hs : ∀ k, memK k ks = true→memK k ks' = true) {x y : AV} (h : tk0 ks x = some y) : tk0 ks' y = some y:=by
  have hk : ∀ {k : Key} {v z : AV}, keyd ks k v = some z→z = v∧keyd ks' k v = some v:=by
    intro k v z h
    obtain ⟨h1, h2⟩:=keyd_some h
    refine ⟨h2, ?_⟩
    unfold keyd
    rw [hs k h1]
  cases x<;>simp only [tk0] at h<;>try (simp at h;done)
  case slice sz es tok =>
    have e:=Option.some.inj h;subst e
    simp only [tk0]
    cases tok<;>cases es<;>rfl
  all_goals first
    | (have e:=Option.some.inj h;subst e;rfl)
    | (obtain ⟨e, h'⟩:=hk h;subst e;exact h')
theorem tk1_idem {ks ks' : List Key} (hs : ∀ k, memK k ks = true→memK k ks' = true) {x y : AV} (h : tk1 ks x = some y) : tk1 ks' y = some y:=by
  have one : ∀ {x y}, tk0 ks x = some y→tk1 ks' y = some y:=by
    intro x y h
    have:=tk0_idem hs h
    cases y<;>first|exact this|(simp [tk0] at this)
  cases x with
  | func fn fs cs =>
    simp only [tk1] at h
    split at h
    · rename_i a b h1 h2
      simp only [Option.some.injEq] at h;subst h
      simp only [tk1, tkL_idem (tk0_idem hs) h1, tkL_idem (tk0_idem hs) h2]
    · simp at h
  | _=>exact one (by simpa only [tk1] using h)
theorem tk2_idem {ks ks' : List Key} (hs : ∀ k, memK k ks = true→memK k ks' = true) {x y : AV} (h : tk2 ks x = some y) : tk2 ks' y = some y:=by
  have one : ∀ {x y}, tk1 ks x = some y→tk2 ks' y = some y:=by
    intro x y h
    have:=tk1_idem hs h
    cases y<;>first|exact this|(simp [tk1, tk0] at this)
  cases x with
  | agg cs =>
    simp only [tk2] at h
    split at h
    · rename_i a h1
      simp only [Option.some.injEq] at h;subst h
      simp only [tk2, tkL_idem (tk1_idem hs) h1]
    · simp at h
  | _=>exact one (by simpa only [tk2] using h)
theorem tkJs_sub {ks ks' : List Key} (hs : ∀ k, memK k ks = true→memK k ks' = true) : ∀ l : List AV, tkJs ks' (tkJs ks l) = tkJs ks l
  | []=>rfl
  | x :: l=>by
    simp only [tkJs, tkJs_sub hs l]
    congr 1
    cases h : tk2 ks x with
    | none=>rfl
    | some y=>simp only [tk2_idem hs h]
theorem tkJs_idem (ks : List Key) (l : List AV) : tkJs ks (tkJs ks l) = tkJs ks l:=tkJs_sub (fun _ h=>h) l
theorem foldG_ok {α : Type} {go : α→Nat→Bool} {nx : α→Nat→α} {ok : α→Prop} (h : ∀ a n, ok a→ok (nx a n)) : ∀ (l : List Nat) (a : α), ok a→ok (foldG go nx l a).1
  | [], a, ha=>ha
  | n :: l, a, ha=>by
    simp only [foldG]
    split
    · exact foldG_ok h l _ (h a n ha)
    · exact h a n ha
theorem foldG_any {α : Type} {go : Nat→Bool} {nx : α→Nat→α} : ∀ (l : List Nat) (a : α), (foldG (fun _ n=>!go n) nx l a).2 = l.any go
  | [], a=>rfl
  | n :: l, a=>by
    simp only [foldG, List.any_cons]
    by_cases hg : go n = true
    · rw [if_neg (by simp [hg])];simp [hg]
    · rw [if_pos (by simp [hg]), foldG_any (go:=go) (nx:=nx) l];simp [hg]
def Store.okAt (s : Store) (later : Int) (n : Nat) : Bool:=(s.pour (s.baseOf (setL n) later)).ok
def Store.someAt (s : Store) (later : Int) : Bool:=s.sorted.any (s.okAt later)
def Store.nextM (s : Store) (later : Int) (memo : MemoL) (n : Nat) : MemoL:=s.remember memo (s.baseOf (setL n) later)
theorem setL_small {s : Store} {n : Nat} (h6 : s.heads.length ≤ 6) (hn : n ∈ s.sorted) : ∀ x ∈ setL n, 0 ≤ x∧x < 6:=fun x hx=>by
  have:=(bits_all h6 (sorted_mem hn).1).1 x hx
  omega
set_option maxHeartbeats 2000000 in
theorem some_c (s : Store) (later : Int) (memo : MemoL) (hg : s.Good) (h0 : 0 ≤ later) (hok : s.memoOk memo) :
    ∃ memo', s.memoOk memo'∧BoxA Tryd.prog (.fn 67) (storeE s (sumW s.orders) (s.melts later) memo) [.ptr kS 1 27 0 0] (boolA (s.someAt later)) (storeE s (sumW s.orders) (s.melts later) memo'):=by
  have hp:=meltsTo_len s later _ (Nat.le_refl _) hg.len
  have e : meltsTo s later s.heads.length = s.melts later:=rfl
  rw [e] at hp
  refine ⟨(foldG (fun _ n=>!s.okAt later n) (s.nextM later) s.sorted memo).1, foldG_ok (fun a n ha=>ha.remember _) _ _ hok, ?_⟩
  have hany:=foldG_any (go:=s.okAt later) (nx:=s.nextM later) s.sorted memo
  unfold Store.someAt
  rw [← hany]
  have hdo:=fun memo n (h : n ∈ s.sorted) (hok : s.memoOk memo)=>does_c s later memo (setL n) hg h0 (setL_len n) (setL_small hg.len h) hok
  have hit:=fun r hl hy=>iterS_c s (sumW s.orders) (s.melts later) r hp hg hl s.memoOk (fun _ n=>!s.okAt later n) (s.nextM later) hy memo hok
  have hli:=listsF_c s (sumW s.orders) (s.melts later) memo hp
  have hnx : ∀ memo n, s.nextM later memo n = s.remember memo (s.baseOf (setL n) later):=fun _ _=>rfl
  generalize foldG (fun _ n=>!s.okAt later n) (s.nextM later) s.sorted memo = R at *
  obtain ⟨R1, R2⟩:=R
  generalize sumW s.orders = w at *
  generalize s.melts later = p at *
  obtain ⟨p0, p1, p2, p3, p4, p5, rfl⟩:=list6 hp
  refine boxA_codeB tabOk { l:=0, f:=67, mat:=[68] } mixed call_67 Tryd.func67 (by kernel_rfl) ?_
  conv=>whnf
  repeat (any_goals (first|exact falseI|((first|refine bd ?_ ?_|refine bn ?_ ?_)<;>intro _<;>first|(exfalso;omega)|conv=>whnf)|((first|refine dI ?_|refine okI ?_|refine bt ?_|refine bi (fun _=>?_) (fun _=>?_)|refine bndI ?_|intro _)<;>conv=>whnf)))
  refine ⟨[kS, kM], ?_⟩
  conv=>whnf
  refine ⟨_, _, hli, ?_⟩
  conv=>whnf
  repeat (any_goals (first|exact falseI|((first|refine bd ?_ ?_|refine bn ?_ ?_)<;>intro _<;>first|(exfalso;omega)|conv=>whnf)|((first|refine dI ?_|refine okI ?_|refine bt ?_|refine bi (fun _=>?_) (fun _=>?_)|refine bndI ?_|intro _)<;>conv=>whnf)))
  refine ⟨[kLs, ⟨0, 67, 1⟩, ⟨0, 67, 2⟩, kS, kM, kT], ?_⟩
  conv=>whnf
  refine ⟨_, _, hit ⟨_, _, _, _⟩ ?_ ?_, ?_⟩
  · intro a
    first|exact tkJs_idem _ _|rfl
  · intro a n ha hn
    have h1:=hdo a n hn ha
    rw [hnx]
    have hr:=ha.remember (s.baseOf (setL n) later)
    unfold Store.okAt
    generalize (s.pour (s.baseOf (setL n) later)).ok = b at *
    generalize s.remember a (s.baseOf (setL n) later) = a' at *
    cases b with
    | false =>
      refine .inl ⟨rfl, hr, ?_⟩
      refine boxA_yieldB tabOk { l:=0, f:=67, mat:=[74], rd:=true } mixed rfl rfl rfl (by kernel_rfl) ?_
      conv=>whnf
      refine And.intro rfl ?_
      conv=>whnf
      repeat (any_goals (first|exact falseI|((first|refine bd ?_ ?_|refine bn ?_ ?_)<;>intro _<;>first|(exfalso;omega)|conv=>whnf)|((first|refine dI ?_|refine okI ?_|refine bt ?_|refine bi (fun _=>?_) (fun _=>?_)|refine bndI ?_|intro _)<;>conv=>whnf)))
      refine ⟨[kS, kM], ?_⟩
      conv=>whnf
      refine ⟨_, _, h1, ?_⟩
      conv=>whnf
      repeat (any_goals (first|exact falseI|((first|refine bd ?_ ?_|refine bn ?_ ?_)<;>intro _<;>first|(exfalso;omega)|conv=>whnf)|((first|refine dI ?_|refine okI ?_|refine bt ?_|refine bi (fun _=>?_) (fun _=>?_)|refine bndI ?_|intro _)<;>conv=>whnf)))
      repeat (first|exact trivial|refine And.intro rfl ?_|refine kc rfl ?_)
    | true =>
      refine .inr ⟨rfl, ?_⟩
      refine boxA_yieldB tabOk { l:=0, f:=67, mat:=[74], rd:=true } mixed rfl rfl rfl (by kernel_rfl) ?_
      conv=>whnf
      refine And.intro rfl ?_
      conv=>whnf
      repeat (any_goals (first|exact falseI|((first|refine bd ?_ ?_|refine bn ?_ ?_)<;>intro _<;>first|(exfalso;omega)|conv=>whnf)|((first|refine dI ?_|refine okI ?_|refine bt ?_|refine bi (fun _=>?_) (fun _=>?_)|refine bndI ?_|intro _)<;>conv=>whnf)))
      refine ⟨[kS, kM], ?_⟩
      conv=>whnf
      refine ⟨_, _, h1, ?_⟩
      conv=>whnf
      repeat (any_goals (first|exact falseI|((first|refine bd ?_ ?_|refine bn ?_ ?_)<;>intro _<;>first|(exfalso;omega)|conv=>whnf)|((first|refine dI ?_|refine okI ?_|refine bt ?_|refine bi (fun _=>?_) (fun _=>?_)|refine bndI ?_|intro _)<;>conv=>whnf)))
      repeat (first|exact trivial|refine And.intro rfl ?_|refine kc rfl ?_)
  · cases R2
    · conv=>whnf
      repeat (any_goals (first|exact falseI|((first|refine bd ?_ ?_|refine bn ?_ ?_)<;>intro _<;>first|(exfalso;omega)|conv=>whnf)|((first|refine dI ?_|refine okI ?_|refine bt ?_|refine bi (fun _=>?_) (fun _=>?_)|refine bndI ?_|intro _)<;>conv=>whnf)))
      refine And.intro ?_ ?_
      · conv=>whnf
        refine ⟨⟨?_⟩, trivial⟩
        rfl
      · repeat (first|exact trivial|refine And.intro rfl ?_|refine And.intro (by skip) ?_)
    · conv=>whnf
      repeat (any_goals (first|exact falseI|((first|refine bd ?_ ?_|refine bn ?_ ?_)<;>intro _<;>first|(exfalso;omega)|conv=>whnf)|((first|refine dI ?_|refine okI ?_|refine bt ?_|refine bi (fun _=>?_) (fun _=>?_)|refine bndI ?_|intro _)<;>conv=>whnf)))
      refine And.intro ?_ ?_
      · conv=>whnf
        refine ⟨⟨?_⟩, trivial⟩
        rfl
      · repeat (first|exact trivial|refine And.intro rfl ?_|refine And.intro (by skip) ?_)
end Go.Proofs.YtbpiibdcncfphaaDoor
namespace Go.Proofs.YtbpiibdcncfphaaDoor
open Go.Am Go.Proofs Go
theorem foldG_find {β : Type} {ok : Nat→Bool} {f : β→Nat→β} : ∀ (l : List Nat) (a : β × Nat), match l.find? ok with
    | none=>(foldG (fun (_ : β × Nat) n=>!ok n) (fun a n=>(f a.1 n, n)) l a).2 = false
    | some n=>(foldG (fun (_ : β × Nat) n=>!ok n) (fun a n=>(f a.1 n, n)) l a).2 = true∧(foldG (fun (_ : β × Nat) n=>!ok n) (fun a n=>(f a.1 n, n)) l a).1.2 = n
  | [], a=>rfl
  | n :: l, a=>by
    by_cases hg : ok n = true
    · rw [List.find?_cons_of_pos hg]
      simp only [foldG]
      rw [if_neg (by simp [hg])]
      exact ⟨rfl, rfl⟩
    · rw [List.find?_cons_of_neg hg]
      simp only [foldG]
      rw [if_pos (by simp [hg])]
      exact foldG_find l _
def kLp : Key:=({ l:=0, f:=24 } : Cx).loopKey #[19]
def foundC (s : Store) (n : Nat) : Bool→List BoxE
  | false=>[(⟨0, 24, 2⟩, 1, 1, [.slice 0 [] .tight]), (⟨0, 24, 3⟩, 1, 3, [amtA zeroT]), (⟨0, 24, 4⟩, 1, 1, [intA 0])]
  | true=>[(⟨0, 24, 2⟩, 1, 1, [setA n]), (⟨0, 24, 3⟩, 1, 3, [amtA (s.pour (s.baseOf (setL n) 0)).amt]), (⟨0, 24, 4⟩, 1, 1, [intA 0])]
def pourE (s : Store) (w : Int) (m : List Amt) (r : Rec) (done : Bool) (a : MemoL × Nat) : List BoxE :=
  r.box kLp #[19] done :: (⟨0, 24, 1⟩, 1, 6, [storeA s]) :: (⟨0, 24, 5⟩, 1, 1, [.ptr kS 1 27 0 0]) :: (foundC s a.2 done++envE s w m a.1)
set_option maxHeartbeats 2000000 in
theorem iterP_c (s : Store) (w : Int) (m : List Amt) (r : Rec) (hm : m.length = 6) (hg : s.Good) (hl : ∀ a, tkJs (keysE (pourE s w m r false a)) r.l = r.l)
    (ok : MemoL × Nat→Prop) (go : MemoL × Nat→Nat→Bool) (nx : MemoL × Nat→Nat→MemoL × Nat)
    (hy : ∀ a n, ok a→n ∈ s.sorted→(go a n = true∧ok (nx a n)∧BoxA Tryd.prog (.yld kLp r.g) (pourE s w m r false a) [setA n] (boolA true) (pourE s w m r false (nx a n))) ∨
      (go a n = false∧BoxA Tryd.prog (.yld kLp r.g) (pourE s w m r false a) [setA n] (boolA false) (pourE s w m r true (nx a n))))
    (a0 : MemoL × Nat) (h0 : ok a0) :
    BoxA Tryd.prog (.fn 87) (pourE s w m r false a0) [.yld kLp r.g, .ptr kT 1 1 0 0] (.tuple []) (pourE s w m r (foldG go nx s.sorted a0).2 (foldG go nx s.sorted a0).1):=by
  have h6:=hg.len
  obtain ⟨p0, p1, p2, p3, p4, p5, rfl⟩:=list6 hm
  obtain ⟨rg, ra, rb, rl⟩:=r
  refine boxA_codeB tabOk { l:=0, f:=87, mat:=[77, 90], ow:=[27] } mixed call_87 Tryd.func87 (by kernel_rfl) ?_
  conv=>whnf
  repeat (any_goals (first|exact falseI|((first|refine bd ?_ ?_|refine bn ?_ ?_)<;>intro _<;>first|(exfalso;omega)|conv=>whnf)|((first|refine dI ?_|refine okI ?_|refine bt ?_|refine bi (fun _=>?_) (fun _=>?_)|refine bndI ?_|intro _)<;>conv=>whnf)))
  refine loopK tabOk { l:=0, f:=87, mat:=[77, 90], ow:=[27] } mixed (fun a : Nat × List Nat=>[(15, intA a.1), (3, ownO kA a.2)]) (fun a=>[(kA, some (boxO a.2))]) (fun _=>[]) (fun a=>a.1 ≤ 2 ^ s.heads.length∧a.2 = upto (maskOf s.heads) a.1) (fun a=>2 ^ s.heads.length - a.1) (0, []) (by kernel_rfl)
    ⟨Nat.zero_le _, rfl⟩ ?_
  conv=>whnf
  refine ⟨⟨?_, ?_, trivial⟩, ?_⟩
  · repeat (first|exact trivial|refine sc rfl ?_)
  · exact keysLe_new rfl trivial
  intro ⟨i, L⟩ ⟨hi, hL⟩
  simp only at hi hL
  have hsh:=wrap_shl s.heads.length h6
  have hp6:=two_pow_le h6
  conv=>whnf
  refine brP_dec (fun h1=>?_) (fun h1=>?_)
  · have h1 : (i : Int) < IntKind.i64.wrap (1 * 2 ^ min ((s.heads.map headA).length : Int).toNat IntKind.i64.bits):=h1
    rw [List.length_map, hsh] at h1
    have hlt : i < 2 ^ s.heads.length:=by omega
    have hlc:=list_c i (by omega)
    have hin:=(bits_all h6 hlt).1
    have hka:=anyKeptB_c s w [p0, p1, p2, p3, p4, p5] a0.1 (setL i) rfl (by have:=setL_len i;omega) hin
    rw [kept_any h6 hlt] at hka
    have hsu:=upto_succ (maskOf s.heads) i
    cases hb : (i &&& maskOf s.heads == 0) with
    | true =>
      rw [hb] at hka hsu
      simp only [Bool.not_true, if_true] at hka hsu
      cases L with
      | nil =>
        conv=>whnf
        repeat (any_goals (first|exact falseI|((first|refine bd ?_ ?_|refine bn ?_ ?_)<;>intro _<;>first|(exfalso;omega)|conv=>whnf)|((first|refine callP_a hlc ?_|refine dI ?_|refine okI ?_|refine bt ?_|refine bi (fun _=>?_) (fun _=>?_)|refine bndI ?_|intro _)<;>conv=>whnf)))
        refine ⟨[kS, kM, kT], ?_⟩
        conv=>whnf
        refine ⟨_, _, hka, ?_⟩
        conv=>whnf
        repeat (any_goals (first|exact falseI|((first|refine bd ?_ ?_|refine bn ?_ ?_)<;>intro _<;>first|(exfalso;omega)|conv=>whnf)|((first|refine dI ?_|refine okI ?_|refine bt ?_|refine bi (fun _=>?_) (fun _=>?_)|refine bndI ?_|intro _)<;>conv=>whnf)))
        (refine ⟨(i + 1, [i]), ⟨by simp only;omega, by simp only;rw [hsu, ← hL];rfl⟩, (by simp only;omega), ?_⟩;(conv=>whnf);refine ⟨?_, ?_, ?_⟩<;>repeat (first|exact trivial|refine sc rfl ?_|refine kn ?_|refine kc rfl ?_|refine sc (by rfl) ?_|refine kc (by rfl) ?_))
      | cons x L =>
        conv=>whnf
        repeat (any_goals (first|exact falseI|((first|refine bd ?_ ?_|refine bn ?_ ?_)<;>intro _<;>first|(exfalso;omega)|conv=>whnf)|((first|refine callP_a hlc ?_|refine dI ?_|refine okI ?_|refine bt ?_|refine bi (fun _=>?_) (fun _=>?_)|refine bndI ?_|intro _)<;>conv=>whnf)))
        refine ⟨[kS, kM, kT], ?_⟩
        conv=>whnf
        refine ⟨_, _, hka, ?_⟩
        conv=>whnf
        repeat (any_goals (first|exact falseI|((first|refine bd ?_ ?_|refine bn ?_ ?_)<;>intro _<;>first|(exfalso;omega)|conv=>whnf)|((first|refine dI ?_|refine okI ?_|refine bt ?_|refine bi (fun _=>?_) (fun _=>?_)|refine bndI ?_|intro _)<;>conv=>whnf)))
        have e1 : (L++[i]).length = L.length + 1:=by simp
        have e2 : List.take (L.length + 1) (setA x :: L.map setA)++[setA i] = setA x :: (L++[i]).map setA:=by
          rw [List.take_of_length_le (by simp)];simp
        have hLl : L.length + 1 ≤ 64:=by
          have:=upto_len (maskOf s.heads) i
          rw [← hL] at this
          simp only [List.length_cons] at this
          omega
        refine And.intro ⟨by simp, by simp only [List.length_cons, List.length_nil];omega, by simp only [List.length_cons, List.length_nil, maxLen];omega⟩ ?_
        conv=>whnf
        repeat (any_goals (first|exact falseI|((first|refine bd ?_ ?_|refine bn ?_ ?_)<;>intro _<;>first|(exfalso;omega)|conv=>whnf)|((first|refine dI ?_|refine okI ?_|refine bt ?_|refine bi (fun _=>?_) (fun _=>?_)|refine bndI ?_|intro _)<;>conv=>whnf)))
        (refine ⟨(i + 1, x :: (L++[i])), ⟨by simp only;omega, by simp only;rw [hsu, ← hL];rfl⟩, (by simp only;omega), ?_⟩;(conv=>whnf);refine ⟨?_, ?_, ?_⟩<;>repeat (first|exact trivial|refine sc rfl ?_|refine kn ?_|refine kc rfl ?_|refine sc (by first|(show some (AV.own kA (L.length + 1 + 1) 1 (L.length + 1 + 1) 0) = some (AV.own kA ((L++[i]).length + 1) 1 ((L++[i]).length + 1) 0);rw [e1])|(show some (some (L.length + 1 + 1, some (1, List.take (L.length + 1) (setA x :: L.map setA)++[setA i]))) = some (some ((L++[i]).length + 1, some (1, setA x :: (L++[i]).map setA)));rw [e1, e2])|rfl) ?_|refine kc (by first|(show some (AV.own kA (L.length + 1 + 1) 1 (L.length + 1 + 1) 0) = some (AV.own kA ((L++[i]).length + 1) 1 ((L++[i]).length + 1) 0);rw [e1])|(show some (some (L.length + 1 + 1, some (1, List.take (L.length + 1) (setA x :: L.map setA)++[setA i]))) = some (some ((L++[i]).length + 1, some (1, setA x :: (L++[i]).map setA)));rw [e1, e2])|rfl) ?_))
    | false =>
      rw [hb] at hka hsu
      simp only [Bool.not_false, Bool.false_eq_true, if_false, List.append_nil] at hka hsu
      cases L with
      | nil =>
        conv=>whnf
        repeat (any_goals (first|exact falseI|((first|refine bd ?_ ?_|refine bn ?_ ?_)<;>intro _<;>first|(exfalso;omega)|conv=>whnf)|((first|refine callP_a hlc ?_|refine dI ?_|refine okI ?_|refine bt ?_|refine bi (fun _=>?_) (fun _=>?_)|refine bndI ?_|intro _)<;>conv=>whnf)))
        refine ⟨[kS, kM, kT], ?_⟩
        conv=>whnf
        refine ⟨_, _, hka, ?_⟩
        conv=>whnf
        repeat (any_goals (first|exact falseI|((first|refine bd ?_ ?_|refine bn ?_ ?_)<;>intro _<;>first|(exfalso;omega)|conv=>whnf)|((first|refine dI ?_|refine okI ?_|refine bt ?_|refine bi (fun _=>?_) (fun _=>?_)|refine bndI ?_|intro _)<;>conv=>whnf)))
        (refine ⟨(i + 1, []), ⟨by simp only;omega, by simp only;rw [hsu, ← hL]⟩, (by simp only;omega), ?_⟩;(conv=>whnf);refine ⟨?_, ?_, ?_⟩<;>repeat (first|exact trivial|refine sc rfl ?_|refine kn ?_|refine kc rfl ?_|refine sc (by rfl) ?_|refine kc (by rfl) ?_))
      | cons x L =>
        conv=>whnf
        repeat (any_goals (first|exact falseI|((first|refine bd ?_ ?_|refine bn ?_ ?_)<;>intro _<;>first|(exfalso;omega)|conv=>whnf)|((first|refine callP_a hlc ?_|refine dI ?_|refine okI ?_|refine bt ?_|refine bi (fun _=>?_) (fun _=>?_)|refine bndI ?_|intro _)<;>conv=>whnf)))
        refine ⟨[kS, kM, kT], ?_⟩
        conv=>whnf
        refine ⟨_, _, hka, ?_⟩
        conv=>whnf
        repeat (any_goals (first|exact falseI|((first|refine bd ?_ ?_|refine bn ?_ ?_)<;>intro _<;>first|(exfalso;omega)|conv=>whnf)|((first|refine dI ?_|refine okI ?_|refine bt ?_|refine bi (fun _=>?_) (fun _=>?_)|refine bndI ?_|intro _)<;>conv=>whnf)))
        (refine ⟨(i + 1, x :: L), ⟨by simp only;omega, by simp only;rw [hsu, ← hL]⟩, (by simp only;omega), ?_⟩;(conv=>whnf);refine ⟨?_, ?_, ?_⟩<;>repeat (first|exact trivial|refine sc rfl ?_|refine kn ?_|refine kc rfl ?_|refine sc (by rfl) ?_|refine kc (by rfl) ?_))
  · have h1 : ¬ (i : Int) < IntKind.i64.wrap (1 * 2 ^ min ((s.heads.map headA).length : Int).toNat IntKind.i64.bits):=h1
    rw [List.length_map, hsh] at h1
    have hiN : i = 2 ^ s.heads.length:=by omega
    have hLs : L = s.sets:=by rw [hL, hiN, sets_eq]
    have hlen:=sorted_len s
    have hpq:=sorted_pdq (s:=s) h6
    have hsl : s.sets.length ≤ 64:=by
      have:=upto_len (maskOf s.heads) (2 ^ s.heads.length)
      rw [← sets_eq] at this
      omega
    obtain ⟨RR, hRR⟩ : ∃ RR, RR = foldG go nx s.sorted a0:=⟨_, rfl⟩
    rw [← hRR]
    generalize s.sorted = X at *
    cases L with
    | nil =>
      exfalso
      obtain ⟨l, h⟩:=upto_cons (maskOf s.heads) (2 ^ s.heads.length - 1)
      have : 2 ^ s.heads.length - 1 + 1 = 2 ^ s.heads.length:=by have:=Nat.two_pow_pos s.heads.length;omega
      rw [this, ← hiN, ← hL] at h
      cases h
    | cons x L =>
      rw [← hLs] at hpq hlen hsl
      simp only [List.length_cons] at hpq hlen hsl
      have hso:=sort_c (L.length + 1) (L.length + 1) 70 (x :: L) X (by simp) (by simp) hsl hpq
      have e3 : tkL (tk2 [kA]) (setA x :: L.map setA) = some ((x :: L).map setA):=tk_sets [kA] (x :: L)
      conv=>whnf
      repeat (any_goals (first|exact falseI|((first|refine bd ?_ ?_|refine bn ?_ ?_)<;>intro _<;>first|(exfalso;omega)|conv=>whnf)|((first|refine dI ?_|refine okI ?_|refine bt ?_|refine bi (fun _=>?_) (fun _=>?_)|refine bndI ?_|intro _)<;>conv=>whnf)))
      refine ⟨[kA], ?_⟩
      conv=>whnf
      refine optP_intro e3 ?_
      conv=>whnf
      refine ⟨_, _, hso, ?_⟩
      conv=>whnf
      refine optP_intro (tk_sets _ X) ?_
      conv=>whnf
      repeat (any_goals (first|exact falseI|((first|refine bd ?_ ?_|refine bn ?_ ?_)<;>intro _<;>first|(exfalso;omega)|conv=>whnf)|((first|refine dI ?_|refine okI ?_|refine bt ?_|refine bi (fun _=>?_) (fun _=>?_)|refine bndI ?_|intro _)<;>conv=>whnf)))
      refine loopK tabOk { l:=0, f:=87, mat:=[77, 90], ow:=[27] } mixed (fun a : Nat × MemoL × Nat=>[(33, intA a.1)]) (fun a=>preK (pourE s w [p0, p1, p2, p3, p4, p5] ⟨rg, ra, rb, rl⟩ false a.2)) (fun _=>[]) (fun a=>a.1 ≤ X.length∧ok a.2∧RR = foldG go nx (X.drop a.1) a.2) (fun a=>X.length - a.1) (0, a0) (by kernel_rfl)
        ⟨Nat.zero_le _, h0, hRR⟩ ?_
      conv=>whnf
      refine ⟨⟨?_, ?_, trivial⟩, ?_⟩
      · repeat (first|exact trivial|refine sc rfl ?_)
      · repeat (first|exact trivial|refine kc rfl ?_)
      intro ⟨k, a⟩ ⟨hk, hok, H⟩
      simp only at hk hok H
      skip
      conv=>whnf
      refine brP_dec (fun h1=>?_) (fun h1=>?_)
      · have h1 : (k : Int) < ((L.length + 1 : Nat) : Int):=h1
        obtain ⟨n, hn, hd⟩:=drop_cons (l:=X) (i:=k) (by omega)
        rw [hd] at H
        simp only [foldG] at H
        have hkeys : keysE (pourE s w [p0, p1, p2, p3, p4, p5] ⟨rg, ra, rb, tkJs (keysE (pourE s w [p0, p1, p2, p3, p4, p5] ⟨rg, ra, rb, rl⟩ false a)) rl⟩ false a) = keysE (pourE s w [p0, p1, p2, p3, p4, p5] ⟨rg, ra, rb, rl⟩ false a):=rfl
        have hl:=hl a
        rcases hy a n hok (List.mem_of_getElem? hn) with ⟨hgo, hok', hyy⟩|⟨hgo, hyy⟩
        · rw [if_pos hgo] at H
          have hyy : BoxA Tryd.prog (Tgt.yld kLp rg) (pourE s w [p0, p1, p2, p3, p4, p5] ⟨rg, ra, rb, tkJs (keysE (pourE s w [p0, p1, p2, p3, p4, p5] ⟨rg, ra, rb, rl⟩ false a)) rl⟩ false a) [setA n] (boolA true) (pourE s w [p0, p1, p2, p3, p4, p5] ⟨rg, ra, rb, rl⟩ false (nx a n)):=by
            rw [hl];exact hyy
          generalize nx a n = a' at *
          conv=>whnf
          repeat (any_goals (first|exact falseI|((first|refine bd ?_ ?_|refine bn ?_ ?_)<;>intro _<;>first|(exfalso;omega)|conv=>whnf)|((first|refine optP_map hn rfl ?_|refine dI ?_|refine okI ?_|refine bt ?_|refine bi (fun _=>?_) (fun _=>?_)|refine bndI ?_|intro _)<;>conv=>whnf)))
          refine ⟨keysE (pourE s w [p0, p1, p2, p3, p4, p5] ⟨rg, ra, rb, rl⟩ false a), ?_⟩
          conv=>whnf
          refine ⟨_, _, hyy, ?_⟩
          conv=>whnf
          repeat (any_goals (first|exact falseI|((first|refine bd ?_ ?_|refine bn ?_ ?_)<;>intro _<;>first|(exfalso;omega)|conv=>whnf)|((first|refine dI ?_|refine okI ?_|refine bt ?_|refine bi (fun _=>?_) (fun _=>?_)|refine bndI ?_|intro _)<;>conv=>whnf)))
          (refine ⟨(k + 1, a'), ⟨by simp only;omega, hok', H⟩, (by simp only;omega), ?_⟩;(conv=>whnf);refine ⟨?_, ?_, ?_⟩<;>repeat (first|exact trivial|refine sc rfl ?_|refine kn ?_|refine kc rfl ?_|refine sc (by first|rfl|exact congrArg (fun z=>some (some (rg, some (0, [AV.lp .ready none #[19] ra rb z])))) hl) ?_|refine kc (by first|rfl|exact congrArg (fun z=>some (some (rg, some (0, [AV.lp .ready none #[19] ra rb z])))) hl) ?_))
        · rw [if_neg (by rw [hgo];simp)] at H
          subst H
          have hyy : BoxA Tryd.prog (Tgt.yld kLp rg) (pourE s w [p0, p1, p2, p3, p4, p5] ⟨rg, ra, rb, tkJs (keysE (pourE s w [p0, p1, p2, p3, p4, p5] ⟨rg, ra, rb, rl⟩ false a)) rl⟩ false a) [setA n] (boolA false) (pourE s w [p0, p1, p2, p3, p4, p5] ⟨rg, ra, rb, rl⟩ true (nx a n)):=by
            rw [hl];exact hyy
          generalize nx a n = a' at *
          conv=>whnf
          repeat (any_goals (first|exact falseI|((first|refine bd ?_ ?_|refine bn ?_ ?_)<;>intro _<;>first|(exfalso;omega)|conv=>whnf)|((first|refine optP_map hn rfl ?_|refine dI ?_|refine okI ?_|refine bt ?_|refine bi (fun _=>?_) (fun _=>?_)|refine bndI ?_|intro _)<;>conv=>whnf)))
          refine ⟨keysE (pourE s w [p0, p1, p2, p3, p4, p5] ⟨rg, ra, rb, rl⟩ false a), ?_⟩
          conv=>whnf
          refine ⟨_, _, hyy, ?_⟩
          conv=>whnf
          repeat (any_goals (first|exact falseI|((first|refine bd ?_ ?_|refine bn ?_ ?_)<;>intro _<;>first|(exfalso;omega)|conv=>whnf)|((first|refine dI ?_|refine okI ?_|refine bt ?_|refine bi (fun _=>?_) (fun _=>?_)|refine bndI ?_|intro _)<;>conv=>whnf)))
          refine And.intro ?_ ?_
          · conv=>whnf
            exact ⟨⟨rfl⟩, trivial⟩
          · rw [openS_eq]
            refine kc ?_ ?_
            exact (congrArg (fun z=>some (some (rg, some (0, [AV.lp .done (some .ret) #[19] ra rb z])))) hl)
            repeat (first|exact trivial|refine kc rfl ?_)
      · have h1 : ¬ (k : Int) < ((L.length + 1 : Nat) : Int):=h1
        have : k = X.length:=by omega
        subst this
        rw [List.drop_length] at H
        simp only [foldG] at H
        subst H
        conv=>whnf
        refine And.intro ?_ ?_
        · conv=>whnf
          refine ⟨⟨?_⟩, trivial⟩
          rfl
        · repeat (first|exact trivial|refine And.intro rfl ?_|refine And.intro (by skip) ?_)
end Go.Proofs.YtbpiibdcncfphaaDoor
namespace Go.Proofs.YtbpiibdcncfphaaDoor
open Go.Am Go.Proofs Go
def Store.pourR (s : Store) : List Int × Amt × Int :=
  if s.check.2.2 ≠ 0 then ([], zeroT, s.check.2.2) else match s.sorted.find? (s.okAt 0) with
    | none=>([], zeroT, 9)
    | some n=>(setL n, (s.pour (s.baseOf (setL n) 0)).amt, 0)
def pourA (x : List Int × Amt × Int) : AV:=.tuple [intsA x.1, amtA x.2.1, intA x.2.2]
theorem pourF_c (s : Store) (hr : s.small) (hc : s.check.2.2 ≠ 0) : PureA Tryd.prog 24 [storeA s] (.tuple [nilS, amtA zeroT, intA s.check.2.2]):=by
  have hk:=lookF_c s 0 hr hc
  generalize s.check.2.2 = c at *
  refine pureA_codeB tabOk { l:=0, f:=24, mat:=[59] } mixed call_24 Tryd.func24 (by kernel_rfl) ?_
  conv=>whnf
  repeat (any_goals (first|exact falseI|((first|refine bd ?_ ?_|refine bn ?_ ?_)<;>intro _<;>first|(exfalso;omega)|conv=>whnf)|((first|refine dI ?_|refine okI ?_|refine bt ?_|refine bi (fun _=>?_) (fun _=>?_)|refine bndI ?_|intro _)<;>conv=>whnf)))
  refine ⟨[], ?_⟩
  conv=>whnf
  refine ⟨_, _, hk, ?_⟩
  conv=>whnf
  repeat (any_goals (first|exact falseI|((first|refine bd ?_ ?_|refine bn ?_ ?_)<;>intro _<;>first|(exfalso;omega)|conv=>whnf)|((first|refine dI ?_|refine okI ?_|refine bt ?_|refine bi (fun _=>?_) (fun _=>?_)|refine bndI ?_|intro _)<;>conv=>whnf)))
  (refine ⟨⟨?_⟩, trivial⟩;rfl)
set_option maxHeartbeats 2000000 in
theorem pourT_c (s : Store) (hr : s.small) (hc : s.check.2.2 = 0) : PureA Tryd.prog 24 [storeA s] (match s.sorted.find? (s.okAt 0) with
    | none=>.tuple [nilS, amtA zeroT, intA 9]
    | some n=>.tuple [setA n, amtA (s.pour (s.baseOf (setL n) 0)).amt, intA 0]):=by
  have hg:=Store.good hc
  have hk:=lookT_c s 0 hr hc (by decide) (by decide)
  have hp:=meltsTo_len s 0 _ (Nat.le_refl _) hg.len
  have hmab:=melts_abs hg (later:=0) (by decide)
  have e : meltsTo s 0 s.heads.length = s.melts 0:=rfl
  rw [e] at hp
  have hfind:=foldG_find (ok:=s.okAt 0) (f:=s.nextM 0) s.sorted (((0 : Int), []), 0)
  have hsum:=fun n (hn : n ∈ s.sorted)=>wsum_c s (sumW s.orders) (s.melts 0) zeroT (setL n) hp hmab (zeroT_abs _ (by decide)) (setL_small hg.len hn) (by have:=setL_len n;omega)
  have hpo:=fun memo n (hn : n ∈ s.sorted) hok=>pour_c s (s.melts 0) memo (s.baseOf (setL n) 0) hp hg (baseOf_upto hg (by decide) (setL_len n)) hok
  have hit:=fun r hl hy=>iterP_c s (sumW s.orders) (s.melts 0) r hp hg hl (fun a=>s.memoOk a.1) (fun _ n=>!s.okAt 0 n) (fun a n=>(s.nextM 0 a.1 n, n)) hy (((0 : Int), []), 0) (by intro e he;simp at he)
  have hli:=listsF_c s (sumW s.orders) (s.melts 0) (0, []) hp
  have hb : ∀ n, sumL (s.melts 0) zeroT (setL n) = s.baseOf (setL n) 0:=fun n=>rfl
  simp only [hb] at hsum
  have hnx : ∀ memo n, s.nextM 0 memo n = s.remember memo (s.baseOf (setL n) 0):=fun _ _=>rfl
  generalize foldG (fun (_ : MemoL × Nat) n=>!s.okAt 0 n) (fun a n=>(s.nextM 0 a.1 n, n)) s.sorted (((0 : Int), []), 0) = R at *
  obtain ⟨⟨R1, N⟩, R2⟩:=R
  generalize hF : s.sorted.find? (s.okAt 0) = F at *
  generalize sumW s.orders = w at *
  generalize s.melts 0 = p at *
  obtain ⟨p0, p1, p2, p3, p4, p5, rfl⟩:=list6 hp
  refine pureA_codeB tabOk { l:=0, f:=24, mat:=[59, 68] } mixed call_24 Tryd.func24 (by kernel_rfl) ?_
  conv=>whnf
  repeat (any_goals (first|exact falseI|((first|refine bd ?_ ?_|refine bn ?_ ?_)<;>intro _<;>first|(exfalso;omega)|conv=>whnf)|((first|refine dI ?_|refine okI ?_|refine bt ?_|refine bi (fun _=>?_) (fun _=>?_)|refine bndI ?_|intro _)<;>conv=>whnf)))
  refine ⟨[], ?_⟩
  conv=>whnf
  refine ⟨_, _, hk, ?_⟩
  conv=>whnf
  repeat (any_goals (first|exact falseI|((first|refine bd ?_ ?_|refine bn ?_ ?_)<;>intro _<;>first|(exfalso;omega)|conv=>whnf)|((first|refine dI ?_|refine okI ?_|refine bt ?_|refine bi (fun _=>?_) (fun _=>?_)|refine bndI ?_|intro _)<;>conv=>whnf)))
  refine ⟨[kS, kM], ?_⟩
  conv=>whnf
  refine ⟨_, _, hli, ?_⟩
  conv=>whnf
  repeat (any_goals (first|exact falseI|((first|refine bd ?_ ?_|refine bn ?_ ?_)<;>intro _<;>first|(exfalso;omega)|conv=>whnf)|((first|refine dI ?_|refine okI ?_|refine bt ?_|refine bi (fun _=>?_) (fun _=>?_)|refine bndI ?_|intro _)<;>conv=>whnf)))
  refine ⟨[kLp, ⟨0, 24, 1⟩, ⟨0, 24, 5⟩, ⟨0, 24, 2⟩, ⟨0, 24, 3⟩, ⟨0, 24, 4⟩, kS, kM, kT], ?_⟩
  conv=>whnf
  refine ⟨_, _, hit ⟨_, _, _, _⟩ ?_ ?_, ?_⟩
  · intro a
    first|exact tkJs_idem _ _|rfl
  · intro ⟨memo, N'⟩ n ha hn
    simp only at ha
    have h1:=hpo memo n hn ha
    have h2:=hsum n hn
    simp only [hnx]
    have hr:=ha.remember (s.baseOf (setL n) 0)
    unfold Store.okAt
    generalize hB : s.baseOf (setL n) 0 = B at *
    generalize hQ : s.pour B = Q at *
    obtain ⟨⟨q1, q2, q3⟩, b⟩:=Q
    generalize s.remember memo B = a' at *
    cases b with
    | false =>
      refine .inl ⟨rfl, hr, ?_⟩
      refine boxA_yieldB tabOk { l:=0, f:=24, mat:=[69], rd:=true } mixed rfl rfl rfl (by kernel_rfl) ?_
      conv=>whnf
      refine And.intro rfl ?_
      conv=>whnf
      repeat (any_goals (first|exact falseI|((first|refine bd ?_ ?_|refine bn ?_ ?_)<;>intro _<;>first|(exfalso;omega)|conv=>whnf)|((first|refine callP_f h2 rfl ?_|refine dI ?_|refine okI ?_|refine bt ?_|refine bi (fun _=>?_) (fun _=>?_)|refine bndI ?_|intro _)<;>conv=>whnf)))
      refine ⟨[kS, kM], ?_⟩
      conv=>whnf
      refine ⟨_, _, h1, ?_⟩
      conv=>whnf
      repeat (any_goals (first|exact falseI|((first|refine bd ?_ ?_|refine bn ?_ ?_)<;>intro _<;>first|(exfalso;omega)|conv=>whnf)|((first|refine dI ?_|refine okI ?_|refine bt ?_|refine bi (fun _=>?_) (fun _=>?_)|refine bndI ?_|intro _)<;>conv=>whnf)))
      repeat (first|exact trivial|refine And.intro rfl ?_|refine kc rfl ?_)
    | true =>
      refine .inr ⟨rfl, ?_⟩
      unfold pourE foundC
      simp only
      rw [hB, hQ]
      refine boxA_yieldB tabOk { l:=0, f:=24, mat:=[69], rd:=true } mixed rfl rfl rfl (by kernel_rfl) ?_
      conv=>whnf
      refine And.intro rfl ?_
      conv=>whnf
      repeat (any_goals (first|exact falseI|((first|refine bd ?_ ?_|refine bn ?_ ?_)<;>intro _<;>first|(exfalso;omega)|conv=>whnf)|((first|refine callP_f h2 rfl ?_|refine dI ?_|refine okI ?_|refine bt ?_|refine bi (fun _=>?_) (fun _=>?_)|refine bndI ?_|intro _)<;>conv=>whnf)))
      refine ⟨[kS, kM], ?_⟩
      conv=>whnf
      refine ⟨_, _, h1, ?_⟩
      conv=>whnf
      repeat (any_goals (first|exact falseI|((first|refine bd ?_ ?_|refine bn ?_ ?_)<;>intro _<;>first|(exfalso;omega)|conv=>whnf)|((first|refine dI ?_|refine okI ?_|refine bt ?_|refine bi (fun _=>?_) (fun _=>?_)|refine bndI ?_|intro _)<;>conv=>whnf)))
      repeat (first|exact trivial|refine And.intro rfl ?_|refine kc rfl ?_)
  · cases F with
    | none =>
      simp only at hfind
      subst hfind
      conv=>whnf
      repeat (any_goals (first|exact falseI|((first|refine bd ?_ ?_|refine bn ?_ ?_)<;>intro _<;>first|(exfalso;omega)|conv=>whnf)|((first|refine dI ?_|refine okI ?_|refine bt ?_|refine bi (fun _=>?_) (fun _=>?_)|refine bndI ?_|intro _)<;>conv=>whnf)))
      (refine ⟨⟨?_⟩, trivial⟩;rfl)
    | some n =>
      simp only at hfind
      obtain ⟨rfl, rfl⟩:=hfind
      generalize s.pour (s.baseOf (setL N) 0) = Q at *
      obtain ⟨⟨q1, q2, q3⟩, b⟩:=Q
      conv=>whnf
      repeat (any_goals (first|exact falseI|((first|refine bd ?_ ?_|refine bn ?_ ?_)<;>intro _<;>first|(exfalso;omega)|conv=>whnf)|((first|refine dI ?_|refine okI ?_|refine bt ?_|refine bi (fun _=>?_) (fun _=>?_)|refine bndI ?_|intro _)<;>conv=>whnf)))
      (refine ⟨⟨?_⟩, trivial⟩;rfl)
theorem pureNil1 {P : Program} {f : FuncId} {args : List AV} {l : List AV} (h : PureA P f args (.tuple (nilS :: l))) : PureA P f args (.tuple (intsA [] :: l)) :=
  h.wk (Wk.tuple (.cons (Wk.nil 1) (WkL.refl l)))
theorem pourTop_c (s : Store) (hr : s.small) : PureA Tryd.prog 24 [storeA s] (pourA s.pourR):=by
  unfold Store.pourR
  by_cases hc : s.check.2.2 = 0
  · rw [if_neg (fun h=>h hc)]
    have h:=pourT_c s hr hc
    cases hF : s.sorted.find? (s.okAt 0) with
    | none=>rw [hF] at h;exact pureNil1 h
    | some n=>rw [hF] at h;exact h
  · rw [if_pos hc]
    exact pureNil1 (pourF_c s hr hc)
end Go.Proofs.YtbpiibdcncfphaaDoor
namespace Go.Proofs.YtbpiibdcncfphaaDoor
open Go.Am Go.Proofs Go
theorem foldG_all {β : Type} {ok : Nat→Bool} {f : β→Nat→β} : ∀ (l : List Nat) (a : β × List Nat),
    (foldG (fun (_ : β × List Nat) _=>true) (fun a n=>(f a.1 n, if ok n = true then a.2++[n] else a.2)) l a).2 = false ∧
    (foldG (fun (_ : β × List Nat) _=>true) (fun a n=>(f a.1 n, if ok n = true then a.2++[n] else a.2)) l a).1.2 = a.2++l.filter ok
  | [], a=>⟨rfl, by simp [foldG]⟩
  | n :: l, a=>by
    simp only [foldG, if_true]
    have:=foldG_all (ok:=ok) (f:=f) l (f a.1 n, if ok n = true then a.2++[n] else a.2)
    refine ⟨this.1, this.2.trans ?_⟩
    simp only [List.filter_cons]
    split<;>simp
def kLl : Key:=({ l:=0, f:=34 } : Cx).loopKey #[20]
def kO : Key:=⟨0, 34, 33⟩
def allC : List Nat→List BoxE
  | []=>[]
  | x :: l=>[(kO, l.length + 1, 1, setA x :: l.map setA)]
def listsE (s : Store) (w : Int) (m : List Amt) (r : Rec) (done : Bool) (a : MemoL × List Nat) : List BoxE :=
  r.box kLl #[20] done :: (⟨0, 34, 5⟩, 1, 1, [.func (.func 74) [.ptr kS 1 27 0 0] []]) :: (⟨0, 34, 2⟩, 1, 1, [ownO kO a.2]) :: (envE s w m a.1++allC a.2)
theorem tk_setO (ks : List Key) (x : Nat) (L : List Nat) : tkL (tk2 ks) (setA x :: L.map setA) = some (setA x :: L.map setA):=tk_sets ks (x :: L)
set_option maxHeartbeats 2000000 in
theorem iterL_c (s : Store) (w : Int) (m : List Amt) (r : Rec) (hm : m.length = 6) (hg : s.Good) (hl : ∀ a, tkJs (keysE (listsE s w m r false a)) r.l = r.l)
    (ok : Nat→MemoL × List Nat→Prop) (nx : MemoL × List Nat→Nat→MemoL × List Nat) (hgrow : ∀ a n, ∃ l, (nx a n).2 = a.2++l)
    (hy : ∀ k a n, ok k a→k < 64→n ∈ s.sorted→ok (k + 1) (nx a n)∧BoxA Tryd.prog (.yld kLl r.g) (listsE s w m r false a) [setA n] (boolA true) (listsE s w m r false (nx a n)))
    (h0 : ok 0 ((0, []), [])) :
    BoxA Tryd.prog (.fn 87) (listsE s w m r false ((0, []), [])) [.yld kLl r.g, .ptr kT 1 1 0 0] (.tuple []) (listsE s w m r false (foldG (fun _ _=>true) nx s.sorted ((0, []), [])).1):=by
  have h6:=hg.len
  obtain ⟨go, hgo⟩ : ∃ go, go = (fun (_ : MemoL × List Nat) (_ : Nat)=>true):=⟨_, rfl⟩
  rw [← hgo]
  have hgo' : ∀ a n, go a n = true:=by rw [hgo];intros;rfl
  clear hgo
  obtain ⟨p0, p1, p2, p3, p4, p5, rfl⟩:=list6 hm
  obtain ⟨rg, ra, rb, rl⟩:=r
  refine boxA_codeB tabOk { l:=0, f:=87, mat:=[77, 90], ow:=[27] } mixed call_87 Tryd.func87 (by kernel_rfl) ?_
  conv=>whnf
  repeat (any_goals (first|exact falseI|((first|refine bd ?_ ?_|refine bn ?_ ?_)<;>intro _<;>first|(exfalso;omega)|conv=>whnf)|((first|refine dI ?_|refine okI ?_|refine bt ?_|refine bi (fun _=>?_) (fun _=>?_)|refine bndI ?_|intro _)<;>conv=>whnf)))
  refine loopK tabOk { l:=0, f:=87, mat:=[77, 90], ow:=[27] } mixed (fun a : Nat × List Nat=>[(15, intA a.1), (3, ownO kA a.2)]) (fun a=>[(kA, some (boxO a.2))]) (fun _=>[]) (fun a=>a.1 ≤ 2 ^ s.heads.length∧a.2 = upto (maskOf s.heads) a.1) (fun a=>2 ^ s.heads.length - a.1) (0, []) (by kernel_rfl)
    ⟨Nat.zero_le _, rfl⟩ ?_
  conv=>whnf
  refine ⟨⟨?_, ?_, trivial⟩, ?_⟩
  · repeat (first|exact trivial|refine sc rfl ?_)
  · exact keysLe_new rfl trivial
  intro ⟨i, L⟩ ⟨hi, hL⟩
  simp only at hi hL
  have hsh:=wrap_shl s.heads.length h6
  have hp6:=two_pow_le h6
  conv=>whnf
  refine brP_dec (fun h1=>?_) (fun h1=>?_)
  · have h1 : (i : Int) < IntKind.i64.wrap (1 * 2 ^ min ((s.heads.map headA).length : Int).toNat IntKind.i64.bits):=h1
    rw [List.length_map, hsh] at h1
    have hlt : i < 2 ^ s.heads.length:=by omega
    have hlc:=list_c i (by omega)
    have hin:=(bits_all h6 hlt).1
    have hka:=anyKeptB_c s w [p0, p1, p2, p3, p4, p5] ((0, []) : MemoL) (setL i) rfl (by have:=setL_len i;omega) hin
    rw [kept_any h6 hlt] at hka
    have hsu:=upto_succ (maskOf s.heads) i
    cases hb : (i &&& maskOf s.heads == 0) with
    | true =>
      rw [hb] at hka hsu
      simp only [Bool.not_true, if_true] at hka hsu
      cases L with
      | nil =>
        conv=>whnf
        repeat (any_goals (first|exact falseI|((first|refine bd ?_ ?_|refine bn ?_ ?_)<;>intro _<;>first|(exfalso;omega)|conv=>whnf)|((first|refine callP_a hlc ?_|refine dI ?_|refine okI ?_|refine bt ?_|refine bi (fun _=>?_) (fun _=>?_)|refine bndI ?_|intro _)<;>conv=>whnf)))
        refine ⟨[kS, kM, kT], ?_⟩
        conv=>whnf
        refine ⟨_, _, hka, ?_⟩
        conv=>whnf
        repeat (any_goals (first|exact falseI|((first|refine bd ?_ ?_|refine bn ?_ ?_)<;>intro _<;>first|(exfalso;omega)|conv=>whnf)|((first|refine dI ?_|refine okI ?_|refine bt ?_|refine bi (fun _=>?_) (fun _=>?_)|refine bndI ?_|intro _)<;>conv=>whnf)))
        (refine ⟨(i + 1, [i]), ⟨by simp only;omega, by simp only;rw [hsu, ← hL];rfl⟩, (by simp only;omega), ?_⟩;(conv=>whnf);refine ⟨?_, ?_, ?_⟩<;>repeat (first|exact trivial|refine sc rfl ?_|refine kn ?_|refine kc rfl ?_|refine sc (by rfl) ?_|refine kc (by rfl) ?_))
      | cons x L =>
        conv=>whnf
        repeat (any_goals (first|exact falseI|((first|refine bd ?_ ?_|refine bn ?_ ?_)<;>intro _<;>first|(exfalso;omega)|conv=>whnf)|((first|refine callP_a hlc ?_|refine dI ?_|refine okI ?_|refine bt ?_|refine bi (fun _=>?_) (fun _=>?_)|refine bndI ?_|intro _)<;>conv=>whnf)))
        refine ⟨[kS, kM, kT], ?_⟩
        conv=>whnf
        refine ⟨_, _, hka, ?_⟩
        conv=>whnf
        repeat (any_goals (first|exact falseI|((first|refine bd ?_ ?_|refine bn ?_ ?_)<;>intro _<;>first|(exfalso;omega)|conv=>whnf)|((first|refine dI ?_|refine okI ?_|refine bt ?_|refine bi (fun _=>?_) (fun _=>?_)|refine bndI ?_|intro _)<;>conv=>whnf)))
        have e1 : (L++[i]).length = L.length + 1:=by simp
        have e2 : List.take (L.length + 1) (setA x :: L.map setA)++[setA i] = setA x :: (L++[i]).map setA:=by
          rw [List.take_of_length_le (by simp)];simp
        have hLl : L.length + 1 ≤ 64:=by
          have:=upto_len (maskOf s.heads) i
          rw [← hL] at this
          simp only [List.length_cons] at this
          omega
        refine And.intro ⟨by simp, by simp only [List.length_cons, List.length_nil];omega, by simp only [List.length_cons, List.length_nil, maxLen];omega⟩ ?_
        conv=>whnf
        repeat (any_goals (first|exact falseI|((first|refine bd ?_ ?_|refine bn ?_ ?_)<;>intro _<;>first|(exfalso;omega)|conv=>whnf)|((first|refine dI ?_|refine okI ?_|refine bt ?_|refine bi (fun _=>?_) (fun _=>?_)|refine bndI ?_|intro _)<;>conv=>whnf)))
        (refine ⟨(i + 1, x :: (L++[i])), ⟨by simp only;omega, by simp only;rw [hsu, ← hL];rfl⟩, (by simp only;omega), ?_⟩;(conv=>whnf);refine ⟨?_, ?_, ?_⟩<;>repeat (first|exact trivial|refine sc rfl ?_|refine kn ?_|refine kc rfl ?_|refine sc (by first|(show some (AV.own kA (L.length + 1 + 1) 1 (L.length + 1 + 1) 0) = some (AV.own kA ((L++[i]).length + 1) 1 ((L++[i]).length + 1) 0);rw [e1])|(show some (some (L.length + 1 + 1, some (1, List.take (L.length + 1) (setA x :: L.map setA)++[setA i]))) = some (some ((L++[i]).length + 1, some (1, setA x :: (L++[i]).map setA)));rw [e1, e2])|rfl) ?_|refine kc (by first|(show some (AV.own kA (L.length + 1 + 1) 1 (L.length + 1 + 1) 0) = some (AV.own kA ((L++[i]).length + 1) 1 ((L++[i]).length + 1) 0);rw [e1])|(show some (some (L.length + 1 + 1, some (1, List.take (L.length + 1) (setA x :: L.map setA)++[setA i]))) = some (some ((L++[i]).length + 1, some (1, setA x :: (L++[i]).map setA)));rw [e1, e2])|rfl) ?_))
    | false =>
      rw [hb] at hka hsu
      simp only [Bool.not_false, Bool.false_eq_true, if_false, List.append_nil] at hka hsu
      cases L with
      | nil =>
        conv=>whnf
        repeat (any_goals (first|exact falseI|((first|refine bd ?_ ?_|refine bn ?_ ?_)<;>intro _<;>first|(exfalso;omega)|conv=>whnf)|((first|refine callP_a hlc ?_|refine dI ?_|refine okI ?_|refine bt ?_|refine bi (fun _=>?_) (fun _=>?_)|refine bndI ?_|intro _)<;>conv=>whnf)))
        refine ⟨[kS, kM, kT], ?_⟩
        conv=>whnf
        refine ⟨_, _, hka, ?_⟩
        conv=>whnf
        repeat (any_goals (first|exact falseI|((first|refine bd ?_ ?_|refine bn ?_ ?_)<;>intro _<;>first|(exfalso;omega)|conv=>whnf)|((first|refine dI ?_|refine okI ?_|refine bt ?_|refine bi (fun _=>?_) (fun _=>?_)|refine bndI ?_|intro _)<;>conv=>whnf)))
        (refine ⟨(i + 1, []), ⟨by simp only;omega, by simp only;rw [hsu, ← hL]⟩, (by simp only;omega), ?_⟩;(conv=>whnf);refine ⟨?_, ?_, ?_⟩<;>repeat (first|exact trivial|refine sc rfl ?_|refine kn ?_|refine kc rfl ?_|refine sc (by rfl) ?_|refine kc (by rfl) ?_))
      | cons x L =>
        conv=>whnf
        repeat (any_goals (first|exact falseI|((first|refine bd ?_ ?_|refine bn ?_ ?_)<;>intro _<;>first|(exfalso;omega)|conv=>whnf)|((first|refine callP_a hlc ?_|refine dI ?_|refine okI ?_|refine bt ?_|refine bi (fun _=>?_) (fun _=>?_)|refine bndI ?_|intro _)<;>conv=>whnf)))
        refine ⟨[kS, kM, kT], ?_⟩
        conv=>whnf
        refine ⟨_, _, hka, ?_⟩
        conv=>whnf
        repeat (any_goals (first|exact falseI|((first|refine bd ?_ ?_|refine bn ?_ ?_)<;>intro _<;>first|(exfalso;omega)|conv=>whnf)|((first|refine dI ?_|refine okI ?_|refine bt ?_|refine bi (fun _=>?_) (fun _=>?_)|refine bndI ?_|intro _)<;>conv=>whnf)))
        (refine ⟨(i + 1, x :: L), ⟨by simp only;omega, by simp only;rw [hsu, ← hL]⟩, (by simp only;omega), ?_⟩;(conv=>whnf);refine ⟨?_, ?_, ?_⟩<;>repeat (first|exact trivial|refine sc rfl ?_|refine kn ?_|refine kc rfl ?_|refine sc (by rfl) ?_|refine kc (by rfl) ?_))
  · have h1 : ¬ (i : Int) < IntKind.i64.wrap (1 * 2 ^ min ((s.heads.map headA).length : Int).toNat IntKind.i64.bits):=h1
    rw [List.length_map, hsh] at h1
    have hiN : i = 2 ^ s.heads.length:=by omega
    have hLs : L = s.sets:=by rw [hL, hiN, sets_eq]
    have hlen:=sorted_len s
    have hpq:=sorted_pdq (s:=s) h6
    have hsl : s.sets.length ≤ 64:=by
      have:=upto_len (maskOf s.heads) (2 ^ s.heads.length)
      rw [← sets_eq] at this
      omega
    obtain ⟨RR, hRR⟩ : ∃ RR, RR = foldG go nx s.sorted ((0, []), []):=⟨_, rfl⟩
    rw [← hRR]
    generalize s.sorted = X at *
    cases L with
    | nil =>
      exfalso
      obtain ⟨l, h⟩:=upto_cons (maskOf s.heads) (2 ^ s.heads.length - 1)
      have : 2 ^ s.heads.length - 1 + 1 = 2 ^ s.heads.length:=by have:=Nat.two_pow_pos s.heads.length;omega
      rw [this, ← hiN, ← hL] at h
      cases h
    | cons x L =>
      rw [← hLs] at hpq hlen hsl
      simp only [List.length_cons] at hpq hlen hsl
      have hso:=sort_c (L.length + 1) (L.length + 1) 70 (x :: L) X (by simp) (by simp) hsl hpq
      have e3 : tkL (tk2 [kA]) (setA x :: L.map setA) = some ((x :: L).map setA):=tk_sets [kA] (x :: L)
      conv=>whnf
      repeat (any_goals (first|exact falseI|((first|refine bd ?_ ?_|refine bn ?_ ?_)<;>intro _<;>first|(exfalso;omega)|conv=>whnf)|((first|refine dI ?_|refine okI ?_|refine bt ?_|refine bi (fun _=>?_) (fun _=>?_)|refine bndI ?_|intro _)<;>conv=>whnf)))
      refine ⟨[kA], ?_⟩
      conv=>whnf
      refine optP_intro e3 ?_
      conv=>whnf
      refine ⟨_, _, hso, ?_⟩
      conv=>whnf
      refine optP_intro (tk_sets _ X) ?_
      conv=>whnf
      repeat (any_goals (first|exact falseI|((first|refine bd ?_ ?_|refine bn ?_ ?_)<;>intro _<;>first|(exfalso;omega)|conv=>whnf)|((first|refine dI ?_|refine okI ?_|refine bt ?_|refine bi (fun _=>?_) (fun _=>?_)|refine bndI ?_|intro _)<;>conv=>whnf)))
      refine loopK tabOk { l:=0, f:=87, mat:=[77, 90], ow:=[27] } mixed (fun a : Nat × (MemoL × List Nat)=>[(33, intA a.1)]) (fun a=>preK (listsE s w [p0, p1, p2, p3, p4, p5] ⟨rg, ra, rb, rl⟩ false a.2)) (fun _=>[]) (fun a=>a.1 ≤ X.length∧ok a.1 a.2∧RR = foldG go nx (X.drop a.1) a.2) (fun a=>X.length - a.1) (0, ((0, []), [])) (by kernel_rfl)
        ⟨Nat.zero_le _, h0, hRR⟩ ?_
      conv=>whnf
      refine ⟨⟨?_, ?_, trivial⟩, ?_⟩
      · repeat (first|exact trivial|refine sc rfl ?_)
      · repeat (first|exact trivial|refine kc rfl ?_)
      intro ⟨k, ⟨memo, all⟩⟩ ⟨hk, hok, H⟩
      simp only at hk hok H
      have hl0:=hl
      have hl:=hl (memo, all)
      have hgr:=fun n=>hgrow (memo, all) n
      by_cases hkk : k < X.length
      · obtain ⟨n, hn, hd⟩:=drop_cons (l:=X) (i:=k) hkk
        rw [hd] at H
        simp only [foldG, hgo', if_true] at H
        obtain ⟨hok', hyy⟩:=hy k (memo, all) n hok (by omega) (List.mem_of_getElem? hn)
        have hyy : BoxA Tryd.prog (Tgt.yld kLl rg) (listsE s w [p0, p1, p2, p3, p4, p5] ⟨rg, ra, rb, tkJs (keysE (listsE s w [p0, p1, p2, p3, p4, p5] ⟨rg, ra, rb, rl⟩ false (memo, all))) rl⟩ false (memo, all)) [setA n] (boolA true) (listsE s w [p0, p1, p2, p3, p4, p5] ⟨rg, ra, rb, rl⟩ false (nx (memo, all) n)):=by
          rw [hl];exact hyy
        have hgr:=hgr n
        generalize nx (memo, all) n = a' at *
        obtain ⟨memo', all'⟩:=a'
        cases all with
        | nil =>
          cases all' with
          | nil =>
            conv=>whnf
            refine brP_dec (fun h1=>?_) (fun h1=>?_)
            · conv=>whnf
              repeat (any_goals (first|exact falseI|((first|refine bd ?_ ?_|refine bn ?_ ?_)<;>intro _<;>first|(exfalso;omega)|conv=>whnf)|((first|refine optP_map hn rfl ?_|refine dI ?_|refine okI ?_|refine bt ?_|refine bi (fun _=>?_) (fun _=>?_)|refine bndI ?_|intro _)<;>conv=>whnf)))
              refine ⟨keysE (listsE s w [p0, p1, p2, p3, p4, p5] ⟨rg, ra, rb, rl⟩ false (memo, [])), ?_⟩
              conv=>whnf
              refine ⟨_, _, hyy, ?_⟩
              conv=>whnf
              repeat (any_goals (first|exact falseI|((first|refine bd ?_ ?_|refine bn ?_ ?_)<;>intro _<;>first|(exfalso;omega)|conv=>whnf)|((first|refine dI ?_|refine okI ?_|refine bt ?_|refine bi (fun _=>?_) (fun _=>?_)|refine bndI ?_|intro _)<;>conv=>whnf)))
              (refine ⟨(k + 1, (memo', [])), ⟨by simp only;omega, hok', H⟩, (by simp only;omega), ?_⟩;(conv=>whnf);refine ⟨?_, ?_, ?_⟩<;>repeat (first|exact trivial|refine sc rfl ?_|refine kn ?_|refine kc rfl ?_|refine sc (by first|rfl|exact congrArg (fun z=>some (some (rg, some (0, [AV.lp .ready none #[20] ra rb z])))) hl|exact congrArg (fun z=>some (some (rg, some (0, [AV.lp .ready none #[20] ra rb z])))) (hl0 (memo', y :: all'))) ?_|refine kc (by first|rfl|exact congrArg (fun z=>some (some (rg, some (0, [AV.lp .ready none #[20] ra rb z])))) hl|exact congrArg (fun z=>some (some (rg, some (0, [AV.lp .ready none #[20] ra rb z])))) (hl0 (memo', y :: all'))) ?_))
            · exfalso
              have h1 : ¬ (k : Int) < ((L.length + 1 : Nat) : Int):=h1
              omega
          | cons y all' =>
            conv=>whnf
            refine brP_dec (fun h1=>?_) (fun h1=>?_)
            · conv=>whnf
              repeat (any_goals (first|exact falseI|((first|refine bd ?_ ?_|refine bn ?_ ?_)<;>intro _<;>first|(exfalso;omega)|conv=>whnf)|((first|refine optP_map hn rfl ?_|refine dI ?_|refine okI ?_|refine bt ?_|refine bi (fun _=>?_) (fun _=>?_)|refine bndI ?_|intro _)<;>conv=>whnf)))
              refine ⟨keysE (listsE s w [p0, p1, p2, p3, p4, p5] ⟨rg, ra, rb, rl⟩ false (memo, [])), ?_⟩
              conv=>whnf
              refine ⟨_, _, hyy, ?_⟩
              conv=>whnf
              refine optP_intro (tk_setO _ _ _) ?_
              conv=>whnf
              repeat (any_goals (first|exact falseI|((first|refine bd ?_ ?_|refine bn ?_ ?_)<;>intro _<;>first|(exfalso;omega)|conv=>whnf)|((first|refine dI ?_|refine okI ?_|refine bt ?_|refine bi (fun _=>?_) (fun _=>?_)|refine bndI ?_|intro _)<;>conv=>whnf)))
              (refine ⟨(k + 1, (memo', y :: all')), ⟨by simp only;omega, hok', H⟩, (by simp only;omega), ?_⟩;(conv=>whnf);refine ⟨?_, ?_, ?_⟩<;>repeat (first|exact trivial|refine sc rfl ?_|refine kn ?_|refine kc rfl ?_|refine sc (by first|rfl|exact congrArg (fun z=>some (some (rg, some (0, [AV.lp .ready none #[20] ra rb z])))) hl|exact congrArg (fun z=>some (some (rg, some (0, [AV.lp .ready none #[20] ra rb z])))) (hl0 (memo', y :: all'))) ?_|refine kc (by first|rfl|exact congrArg (fun z=>some (some (rg, some (0, [AV.lp .ready none #[20] ra rb z])))) hl|exact congrArg (fun z=>some (some (rg, some (0, [AV.lp .ready none #[20] ra rb z])))) (hl0 (memo', y :: all'))) ?_))
            · exfalso
              have h1 : ¬ (k : Int) < ((L.length + 1 : Nat) : Int):=h1
              omega
        | cons x2 all =>
          cases all' with
          | nil =>
            obtain ⟨l2, h2⟩:=hgr
            simp at h2
          | cons y all' =>
            conv=>whnf
            refine brP_dec (fun h1=>?_) (fun h1=>?_)
            · conv=>whnf
              repeat (any_goals (first|exact falseI|((first|refine bd ?_ ?_|refine bn ?_ ?_)<;>intro _<;>first|(exfalso;omega)|conv=>whnf)|((first|refine optP_map hn rfl ?_|refine dI ?_|refine okI ?_|refine bt ?_|refine bi (fun _=>?_) (fun _=>?_)|refine bndI ?_|intro _)<;>conv=>whnf)))
              refine ⟨keysE (listsE s w [p0, p1, p2, p3, p4, p5] ⟨rg, ra, rb, rl⟩ false (memo, x2 :: all)), ?_⟩
              conv=>whnf
              refine optP_intro (tk_setO _ _ _) ?_
              conv=>whnf
              refine ⟨_, _, hyy, ?_⟩
              conv=>whnf
              refine optP_intro (tk_setO _ _ _) ?_
              conv=>whnf
              repeat (any_goals (first|exact falseI|((first|refine bd ?_ ?_|refine bn ?_ ?_)<;>intro _<;>first|(exfalso;omega)|conv=>whnf)|((first|refine dI ?_|refine okI ?_|refine bt ?_|refine bi (fun _=>?_) (fun _=>?_)|refine bndI ?_|intro _)<;>conv=>whnf)))
              (refine ⟨(k + 1, (memo', y :: all')), ⟨by simp only;omega, hok', H⟩, (by simp only;omega), ?_⟩;(conv=>whnf);refine ⟨?_, ?_, ?_⟩<;>repeat (first|exact trivial|refine sc rfl ?_|refine kn ?_|refine kc rfl ?_|refine sc (by first|rfl|exact congrArg (fun z=>some (some (rg, some (0, [AV.lp .ready none #[20] ra rb z])))) hl|exact congrArg (fun z=>some (some (rg, some (0, [AV.lp .ready none #[20] ra rb z])))) (hl0 (memo', y :: all'))) ?_|refine kc (by first|rfl|exact congrArg (fun z=>some (some (rg, some (0, [AV.lp .ready none #[20] ra rb z])))) hl|exact congrArg (fun z=>some (some (rg, some (0, [AV.lp .ready none #[20] ra rb z])))) (hl0 (memo', y :: all'))) ?_))
            · exfalso
              have h1 : ¬ (k : Int) < ((L.length + 1 : Nat) : Int):=h1
              omega
      · have : k = X.length:=by omega
        subst this
        rw [List.drop_length] at H
        simp only [foldG] at H
        subst H
        cases all with
        | nil =>
          conv=>whnf
          refine brP_dec (fun h1=>?_) (fun h1=>?_)
          · exfalso
            have h1 : (X.length : Int) < ((L.length + 1 : Nat) : Int):=h1
            omega
          · conv=>whnf
            refine And.intro ?_ ?_
            · conv=>whnf
              refine ⟨⟨?_⟩, trivial⟩
              rfl
            · repeat (first|exact trivial|refine And.intro rfl ?_|refine And.intro (by skip) ?_)
        | cons x2 all =>
          conv=>whnf
          refine brP_dec (fun h1=>?_) (fun h1=>?_)
          · exfalso
            have h1 : (X.length : Int) < ((L.length + 1 : Nat) : Int):=h1
            omega
          · conv=>whnf
            refine And.intro ?_ ?_
            · conv=>whnf
              refine ⟨⟨?_⟩, trivial⟩
              rfl
            · repeat (first|exact trivial|refine And.intro rfl ?_|refine And.intro (by skip) ?_)
end Go.Proofs.YtbpiibdcncfphaaDoor
namespace Go.Proofs.YtbpiibdcncfphaaDoor
open Go.Am Go.Proofs Go
def Store.allOk (s : Store) : List Nat:=s.sorted.filter (s.okAt 0)
theorem listsF2_c (s : Store) (hr : s.small) (hc : s.check.2.2 ≠ 0) : PureA Tryd.prog 34 [storeA s] (.tuple [nilS, intA s.check.2.2]):=by
  have hk:=lookF_c s 0 hr hc
  generalize s.check.2.2 = c at *
  refine pureA_codeB tabOk { l:=0, f:=34, mat:=[59] } mixed call_34 Tryd.func34 (by kernel_rfl) ?_
  conv=>whnf
  repeat (any_goals (first|exact falseI|((first|refine bd ?_ ?_|refine bn ?_ ?_)<;>intro _<;>first|(exfalso;omega)|conv=>whnf)|((first|refine dI ?_|refine okI ?_|refine bt ?_|refine bi (fun _=>?_) (fun _=>?_)|refine bndI ?_|intro _)<;>conv=>whnf)))
  refine ⟨[], ?_⟩
  conv=>whnf
  refine ⟨_, _, hk, ?_⟩
  conv=>whnf
  repeat (any_goals (first|exact falseI|((first|refine bd ?_ ?_|refine bn ?_ ?_)<;>intro _<;>first|(exfalso;omega)|conv=>whnf)|((first|refine dI ?_|refine okI ?_|refine bt ?_|refine bi (fun _=>?_) (fun _=>?_)|refine bndI ?_|intro _)<;>conv=>whnf)))
  (refine ⟨⟨?_⟩, trivial⟩;rfl)
theorem pureEs_ints : ∀ l : List Int, pureEs (l.map intA) = some (l.map intA)
  | []=>rfl
  | x :: l=>by simp only [List.map_cons, pureEs, pureEs_ints l];rfl
theorem copy_ints (l : List Int) : pureEs (((l.map intA).take (min (l.map intA).length (l.map intA).length)++(List.replicate (l.map intA).length (intA 0)).drop (min (l.map intA).length (l.map intA).length)).take (l.map intA).length) = some (l.map intA):=by
  rw [Nat.min_self, List.take_length, List.drop_replicate, Nat.sub_self]
  simp only [List.replicate_zero, List.append_nil, List.take_length]
  exact pureEs_ints l
theorem pureEs_sets (x : Nat) (l : List Nat) : pureEs ((setA x :: l.map setA).take (l.length + 1)) = some ((x :: l).map setA):=by
  rw [List.take_of_length_le (by simp)]
  have : ∀ l : List Nat, pureEs (l.map setA) = some (l.map setA):=by
    intro l
    induction l with
    | nil=>rfl
    | cons x l ih=>simp only [List.map_cons, pureEs, ih];rfl
  exact this (x :: l)
set_option maxHeartbeats 2000000 in
theorem listsT_c (s : Store) (hr : s.small) (hc : s.check.2.2 = 0) : PureA Tryd.prog 34 [storeA s] (match s.allOk with
    | []=>.tuple [nilS, intA 0]
    | x :: l=>.tuple [.slice 1 ((x :: l).map setA) .no, intA 0]):=by
  have hg:=Store.good hc
  have hk:=lookT_c s 0 hr hc (by decide) (by decide)
  have hp:=meltsTo_len s 0 _ (Nat.le_refl _) hg.len
  have e : meltsTo s 0 s.heads.length = s.melts 0:=rfl
  rw [e] at hp
  have hfind:=foldG_all (ok:=s.okAt 0) (f:=s.nextM 0) s.sorted ((0, []), [])
  have hdo:=fun memo n (h : n ∈ s.sorted) (hok : s.memoOk memo)=>does_c s 0 memo (setL n) hg (by decide) (setL_len n) (setL_small hg.len h) hok
  have hit:=fun r hl hy=>iterL_c s (sumW s.orders) (s.melts 0) r hp hg hl (fun k a=>s.memoOk a.1∧a.2.length ≤ k) (fun a n=>(s.nextM 0 a.1 n, if s.okAt 0 n = true then a.2++[n] else a.2)) (fun a n=>by
    simp only
    split
    · exact ⟨_, rfl⟩
    · exact ⟨[], by simp⟩) hy ⟨by intro e he;simp at he, Nat.le_refl _⟩
  have hli:=listsF_c s (sumW s.orders) (s.melts 0) (0, []) hp
  have hnx : ∀ memo n, s.nextM 0 memo n = s.remember memo (s.baseOf (setL n) 0):=fun _ _=>rfl
  have hall : s.allOk = s.sorted.filter (s.okAt 0):=rfl
  simp only [List.nil_append] at hfind
  rw [← hall] at hfind
  generalize foldG (fun (_ : MemoL × List Nat) _=>true) (fun a n=>(s.nextM 0 a.1 n, if s.okAt 0 n = true then a.2++[n] else a.2)) s.sorted ((0, []), []) = R at *
  obtain ⟨⟨R1, N⟩, R2⟩:=R
  generalize s.allOk = F at *
  obtain ⟨h1, h2⟩:=hfind
  simp only at h1 h2
  subst h1 h2
  generalize sumW s.orders = w at *
  generalize s.melts 0 = p at *
  obtain ⟨p0, p1, p2, p3, p4, p5, rfl⟩:=list6 hp
  refine pureA_codeB tabOk { l:=0, f:=34, mat:=[59, 68] } mixed call_34 Tryd.func34 (by kernel_rfl) ?_
  conv=>whnf
  repeat (any_goals (first|exact falseI|((first|refine bd ?_ ?_|refine bn ?_ ?_)<;>intro _<;>first|(exfalso;omega)|conv=>whnf)|((first|refine dI ?_|refine okI ?_|refine bt ?_|refine bi (fun _=>?_) (fun _=>?_)|refine bndI ?_|intro _)<;>conv=>whnf)))
  refine ⟨[], ?_⟩
  conv=>whnf
  refine ⟨_, _, hk, ?_⟩
  conv=>whnf
  repeat (any_goals (first|exact falseI|((first|refine bd ?_ ?_|refine bn ?_ ?_)<;>intro _<;>first|(exfalso;omega)|conv=>whnf)|((first|refine dI ?_|refine okI ?_|refine bt ?_|refine bi (fun _=>?_) (fun _=>?_)|refine bndI ?_|intro _)<;>conv=>whnf)))
  refine ⟨[kS, kM], ?_⟩
  conv=>whnf
  refine ⟨_, _, hli, ?_⟩
  conv=>whnf
  repeat (any_goals (first|exact falseI|((first|refine bd ?_ ?_|refine bn ?_ ?_)<;>intro _<;>first|(exfalso;omega)|conv=>whnf)|((first|refine dI ?_|refine okI ?_|refine bt ?_|refine bi (fun _=>?_) (fun _=>?_)|refine bndI ?_|intro _)<;>conv=>whnf)))
  refine ⟨[kLl, ⟨0, 34, 5⟩, ⟨0, 34, 2⟩, kS, kM, kT], ?_⟩
  conv=>whnf
  refine ⟨_, _, hit ⟨_, _, _, _⟩ ?_ ?_, ?_⟩
  · intro ⟨a1, a2⟩
    cases a2 with
    | nil=>rfl
    | cons x l=>rfl
  · intro k ⟨memo, all⟩ n ⟨ha, hk2⟩ hk64 hn
    simp only at ha hk2
    have h1:=hdo memo n hn ha
    simp only [hnx]
    have hr:=ha.remember (s.baseOf (setL n) 0)
    unfold Store.okAt
    refine ⟨⟨hr, by split<;>first|omega|(simp;omega)⟩, ?_⟩
    generalize (s.pour (s.baseOf (setL n) 0)).ok = b at *
    generalize s.remember memo (s.baseOf (setL n) 0) = a' at *
    cases b with
    | false =>
      simp only [Bool.false_eq_true, if_false]
      cases all with
      | nil =>
        refine boxA_yieldB tabOk { l:=0, f:=34, mat:=[74], ow:=[33], fz:=[(10, 7)], rd:=true } mixed rfl rfl rfl (by kernel_rfl) ?_
        conv=>whnf
        refine And.intro rfl ?_
        conv=>whnf
        repeat (any_goals (first|exact falseI|((first|refine bd ?_ ?_|refine bn ?_ ?_)<;>intro _<;>first|(exfalso;omega)|conv=>whnf)|((first|refine dI ?_|refine okI ?_|refine bt ?_|refine bi (fun _=>?_) (fun _=>?_)|refine bndI ?_|intro _)<;>conv=>whnf)))
        refine ⟨[kS, kM], ?_⟩
        conv=>whnf
        refine ⟨_, _, h1, ?_⟩
        conv=>whnf
        repeat (any_goals (first|exact falseI|((first|refine bd ?_ ?_|refine bn ?_ ?_)<;>intro _<;>first|(exfalso;omega)|conv=>whnf)|((first|refine dI ?_|refine okI ?_|refine bt ?_|refine bi (fun _=>?_) (fun _=>?_)|refine bndI ?_|intro _)<;>conv=>whnf)))
        repeat (first|exact trivial|refine And.intro rfl ?_|refine kc rfl ?_)
      | cons x l =>
        refine boxA_yieldB tabOk { l:=0, f:=34, mat:=[74], ow:=[33], fz:=[(10, 7)], rd:=true } mixed rfl rfl rfl (by kernel_rfl) ?_
        conv=>whnf
        refine And.intro rfl ?_
        conv=>whnf
        repeat (any_goals (first|exact falseI|((first|refine bd ?_ ?_|refine bn ?_ ?_)<;>intro _<;>first|(exfalso;omega)|conv=>whnf)|((first|refine dI ?_|refine okI ?_|refine bt ?_|refine bi (fun _=>?_) (fun _=>?_)|refine bndI ?_|intro _)<;>conv=>whnf)))
        refine ⟨[kS, kM], ?_⟩
        conv=>whnf
        refine ⟨_, _, h1, ?_⟩
        conv=>whnf
        repeat (any_goals (first|exact falseI|((first|refine bd ?_ ?_|refine bn ?_ ?_)<;>intro _<;>first|(exfalso;omega)|conv=>whnf)|((first|refine dI ?_|refine okI ?_|refine bt ?_|refine bi (fun _=>?_) (fun _=>?_)|refine bndI ?_|intro _)<;>conv=>whnf)))
        repeat (first|exact trivial|refine And.intro rfl ?_|refine kc rfl ?_)
    | true =>
      simp only [if_true]
      have hcp:=copy_ints (setL n)
      have hl6:=setL_len n
      cases all with
      | nil =>
        refine boxA_yieldB tabOk { l:=0, f:=34, mat:=[74], ow:=[33], fz:=[(10, 7)], rd:=true } mixed rfl rfl rfl (by kernel_rfl) ?_
        conv=>whnf
        refine And.intro rfl ?_
        conv=>whnf
        repeat (any_goals (first|exact falseI|((first|refine bd ?_ ?_|refine bn ?_ ?_)<;>intro _<;>first|(exfalso;omega)|conv=>whnf)|((first|refine dI ?_|refine okI ?_|refine bt ?_|refine bi (fun _=>?_) (fun _=>?_)|refine bndI ?_|intro _)<;>conv=>whnf)))
        refine ⟨[kS, kM], ?_⟩
        conv=>whnf
        refine ⟨_, _, h1, ?_⟩
        conv=>whnf
        repeat (any_goals (first|exact falseI|((first|refine bd ?_ ?_|refine bn ?_ ?_)<;>intro _<;>first|(exfalso;omega)|conv=>whnf)|((first|refine dI ?_|refine okI ?_|refine bt ?_|refine bi (fun _=>?_) (fun _=>?_)|refine bndI ?_|intro _)<;>conv=>whnf)))
        refine optP_intro hcp ?_
        conv=>whnf
        repeat (any_goals (first|exact falseI|((first|refine bd ?_ ?_|refine bn ?_ ?_)<;>intro _<;>first|(exfalso;omega)|conv=>whnf)|((first|refine dI ?_|refine okI ?_|refine bt ?_|refine bi (fun _=>?_) (fun _=>?_)|refine bndI ?_|intro _)<;>conv=>whnf)))
        repeat (first|exact trivial|refine And.intro rfl ?_|refine kc rfl ?_)
      | cons x l =>
        have e1 : (l++[n]).length = l.length + 1:=by simp
        have e2 : List.take (l.length + 1) (setA x :: l.map setA)++[setA n] = setA x :: (l++[n]).map setA:=by
          rw [List.take_of_length_le (by simp)];simp
        refine boxA_yieldB tabOk { l:=0, f:=34, mat:=[74], ow:=[33], fz:=[(10, 7)], rd:=true } mixed rfl rfl rfl (by kernel_rfl) ?_
        conv=>whnf
        refine And.intro rfl ?_
        conv=>whnf
        repeat (any_goals (first|exact falseI|((first|refine bd ?_ ?_|refine bn ?_ ?_)<;>intro _<;>first|(exfalso;omega)|conv=>whnf)|((first|refine dI ?_|refine okI ?_|refine bt ?_|refine bi (fun _=>?_) (fun _=>?_)|refine bndI ?_|intro _)<;>conv=>whnf)))
        refine ⟨[kS, kM], ?_⟩
        conv=>whnf
        refine ⟨_, _, h1, ?_⟩
        conv=>whnf
        repeat (any_goals (first|exact falseI|((first|refine bd ?_ ?_|refine bn ?_ ?_)<;>intro _<;>first|(exfalso;omega)|conv=>whnf)|((first|refine dI ?_|refine okI ?_|refine bt ?_|refine bi (fun _=>?_) (fun _=>?_)|refine bndI ?_|intro _)<;>conv=>whnf)))
        refine optP_intro hcp ?_
        conv=>whnf
        simp only [List.length_cons] at hk2
        repeat (any_goals (first|exact falseI|((first|refine bd ?_ ?_|refine bn ?_ ?_)<;>intro _<;>first|(exfalso;omega)|conv=>whnf)|((first|refine dI ?_|refine okI ?_|refine bt ?_|refine bi (fun _=>?_) (fun _=>?_)|refine bndI ?_|intro _)<;>conv=>whnf)))
        repeat (first|exact trivial|refine And.intro rfl ?_|refine kc rfl ?_|refine kc (by first|(show some (some (1, some (1, [AV.own kO (l.length + 1 + 1) 1 (l.length + 1 + 1) 0]))) = some (some (1, some (1, [AV.own kO ((l++[n]).length + 1) 1 ((l++[n]).length + 1) 0])));rw [e1])|(show some (some (l.length + 1 + 1, some (1, List.take (l.length + 1) (setA x :: l.map setA)++[setA n]))) = some (some ((l++[n]).length + 1, some (1, setA x :: (l++[n]).map setA)));rw [e1, e2])) ?_)
  · cases N with
    | nil =>
      conv=>whnf
      repeat (any_goals (first|exact falseI|((first|refine bd ?_ ?_|refine bn ?_ ?_)<;>intro _<;>first|(exfalso;omega)|conv=>whnf)|((first|refine dI ?_|refine okI ?_|refine bt ?_|refine bi (fun _=>?_) (fun _=>?_)|refine bndI ?_|intro _)<;>conv=>whnf)))
      (refine ⟨⟨?_⟩, trivial⟩;rfl)
    | cons x l =>
      conv=>whnf
      refine optP_intro (tk_setO _ _ _) ?_
      conv=>whnf
      repeat (any_goals (first|exact falseI|((first|refine bd ?_ ?_|refine bn ?_ ?_)<;>intro _<;>first|(exfalso;omega)|conv=>whnf)|((first|refine dI ?_|refine okI ?_|refine bt ?_|refine bi (fun _=>?_) (fun _=>?_)|refine bndI ?_|intro _)<;>conv=>whnf)))
      refine optP_intro (pureEs_sets x l) ?_
      conv=>whnf
      repeat (any_goals (first|exact falseI|((first|refine bd ?_ ?_|refine bn ?_ ?_)<;>intro _<;>first|(exfalso;omega)|conv=>whnf)|((first|refine dI ?_|refine okI ?_|refine bt ?_|refine bi (fun _=>?_) (fun _=>?_)|refine bndI ?_|intro _)<;>conv=>whnf)))
      (refine ⟨⟨?_⟩, trivial⟩;rfl)
theorem intss_sets (l : List Nat) : (AV.slice 1 (l.map setA) .no) = intssA (l.map setL):=by
  unfold intssA setA
  rw [List.map_map]
  rfl
def Store.listsR (s : Store) : List (List Int) × Int:=if s.check.2.2 ≠ 0 then ([], s.check.2.2) else (s.allOk.map setL, 0)
def listsA (x : List (List Int) × Int) : AV:=.tuple [intssA x.1, intA x.2]
theorem pureNilL {P : Program} {f : FuncId} {args : List AV} {l : List AV} (h : PureA P f args (.tuple (nilS :: l))) : PureA P f args (.tuple (intssA [] :: l)) :=
  h.wk (Wk.tuple (.cons (Wk.nil 1) (WkL.refl l)))
theorem listsTop_c (s : Store) (hr : s.small) : PureA Tryd.prog 34 [storeA s] (listsA s.listsR):=by
  unfold Store.listsR
  by_cases hc : s.check.2.2 = 0
  · rw [if_neg (fun h=>h hc)]
    have h:=listsT_c s hr hc
    cases hF : s.allOk with
    | nil=>rw [hF] at h;exact pureNilL h
    | cons x l=>rw [hF] at h;simp only [intss_sets] at h;exact h
  · rw [if_pos hc]
    exact pureNilL (listsF2_c s hr hc)
end Go.Proofs.YtbpiibdcncfphaaDoor
namespace Go.Proofs.YtbpiibdcncfphaaDoor
open Go.Am Go.Proofs Go
def hasL (n : Int) (l : List Int) : Bool:=l.any (fun x=>decide (n = x))
def eachN (all : List (List Int)) (n : Int) : Nat:=(all.filter (hasL n)).length
def someN (k : Nat) (all : List (List Int)) (n : Int) : Nat:=(all.filter fun l=>hasL n l && decide ((l.length : Int) = k)).length
def pickTo (p : Int→Bool) (i : Nat) : List Int:=((List.range i).map Int.ofNat).filter p
theorem pickTo_succ (p : Int→Bool) (i : Nat) : pickTo p (i + 1) = pickTo p i++(if p (i : Int) = true then [(i : Int)] else []):=by
  unfold pickTo
  rw [List.range_succ, List.map_append, List.filter_append]
  congr 1
  simp only [List.map_cons, List.map_nil, List.filter_cons, List.filter_nil]
  rfl
theorem pickTo_len (p : Int→Bool) (i : Nat) : (pickTo p i).length ≤ i:=by
  unfold pickTo
  exact Nat.le_trans (List.length_filter_le ..) (by simp)
def mustL (h : Nat) (all : List (List Int)) : List Int:=pickTo (fun n=>decide ((eachN all n : Int) = all.length)) h
def mayL (h : Nat) (all : List (List Int)) : List Int:=pickTo (fun n=>decide (0 < (someN (all.headD []).length all n : Int))) h
def Store.doubtR (s : Store) : List Int × List Int × Int :=
  if s.check.2.2 ≠ 0 then ([], [], s.check.2.2) else match s.allOk.map setL with
    | []=>([], [], 9)
    | l :: all=>(mustL s.heads.length (l :: all), mayL s.heads.length (l :: all), 0)
def doubtA (x : List Int × List Int × Int) : AV:=.tuple [intsA x.1, intsA x.2.1, intA x.2.2]
theorem pureNil2 {P : Program} {f : FuncId} {args : List AV} {l : List AV} (h : PureA P f args (.tuple (nilS :: nilS :: l))) : PureA P f args (.tuple (intsA [] :: intsA [] :: l)) :=
  h.wk (Wk.tuple (.cons (Wk.nil 1) (.cons (Wk.nil 1) (WkL.refl l))))
theorem filter_take {α : Type} (p : α→Bool) {l : List α} {j : Nat} {x : α} (hx : l[j]? = some x) : ((l.take (j + 1)).filter p).length = ((l.take j).filter p).length + (if p x = true then 1 else 0):=by
  rw [List.take_add_one, hx, List.filter_append, List.length_append]
  congr 1
  simp only [Option.toList_some, List.filter_cons, List.filter_nil]
  split<;>rfl
theorem filter_take_le {α : Type} (p : α→Bool) (l : List α) (j : Nat) : ((l.take j).filter p).length ≤ j:=by
  refine Nat.le_trans (List.length_filter_le ..) ?_
  rw [List.length_take];omega
theorem doubtE_c (s : Store) (hr : s.small) (hc : s.check.2.2 ≠ 0) : PureA Tryd.prog 33 [storeA s] (.tuple [nilS, nilS, intA s.check.2.2]):=by
  have hk:=listsTop_c s hr
  unfold Store.listsR listsA at hk
  rw [if_pos hc] at hk
  generalize s.check.2.2 = c at *
  refine pureA_codeB tabOk { l:=0, f:=33 } mixed call_33 Tryd.func33 (by kernel_rfl) ?_
  conv=>whnf
  repeat (any_goals (first|exact falseI|((first|refine bd ?_ ?_|refine bn ?_ ?_)<;>intro _<;>first|(exfalso;omega)|conv=>whnf)|((first|refine callP_a hk ?_|refine dI ?_|refine okI ?_|refine bt ?_|refine bi (fun _=>?_) (fun _=>?_)|refine bndI ?_|intro _)<;>conv=>whnf)))
  (refine ⟨⟨?_⟩, trivial⟩;rfl)
theorem doubtN_c (s : Store) (hr : s.small) (hc : s.check.2.2 = 0) (hn : s.allOk = []) : PureA Tryd.prog 33 [storeA s] (.tuple [nilS, nilS, intA 9]):=by
  have hk:=listsTop_c s hr
  unfold Store.listsR listsA at hk
  rw [if_neg (fun h=>h hc), hn] at hk
  refine pureA_codeB tabOk { l:=0, f:=33 } mixed call_33 Tryd.func33 (by kernel_rfl) ?_
  conv=>whnf
  repeat (any_goals (first|exact falseI|((first|refine bd ?_ ?_|refine bn ?_ ?_)<;>intro _<;>first|(exfalso;omega)|conv=>whnf)|((first|refine callP_a hk ?_|refine dI ?_|refine okI ?_|refine bt ?_|refine bi (fun _=>?_) (fun _=>?_)|refine bndI ?_|intro _)<;>conv=>whnf)))
  (refine ⟨⟨?_⟩, trivial⟩;rfl)
set_option maxHeartbeats 2000000 in
theorem doubtT_c (s : Store) (hr : s.small) (hc : s.check.2.2 = 0) (l0 : List Int) (all : List (List Int)) (hn : s.allOk.map setL = l0 :: all) :
    PureA Tryd.prog 33 [storeA s] (.tuple [intsA (mustL s.heads.length (l0 :: all)), intsA (mayL s.heads.length (l0 :: all)), intA 0]):=by
  have hk:=listsTop_c s hr
  have h6:=(Store.good hc).len
  have hll : (l0 :: all).length ≤ 64:=by
    rw [← hn, List.length_map]
    refine Nat.le_trans (List.length_filter_le ..) ?_
    rw [sorted_len, sets_eq]
    exact Nat.le_trans (upto_len _ _) (two_pow_le h6)
  have hl6 : ∀ l ∈ l0 :: all, l.length ≤ 6:=by
    intro l hl
    rw [← hn] at hl
    obtain ⟨n, _, rfl⟩:=List.mem_map.1 hl
    exact setL_len n
  unfold Store.listsR listsA at hk
  rw [if_neg (fun h=>h hc), hn] at hk
  simp only at hk
  have hhas:=fun l hl n=>has_c l n (by have:=hl6 l hl;omega)
  unfold mustL mayL
  have hM:=pickTo_succ (fun n=>decide ((eachN (l0 :: all) n : Int) = (l0 :: all).length))
  have hY:=pickTo_succ (fun n=>decide (0 < (someN ((l0 :: all).headD []).length (l0 :: all) n : Int)))
  have hMl:=pickTo_len (fun n=>decide ((eachN (l0 :: all) n : Int) = (l0 :: all).length))
  have hYl:=pickTo_len (fun n=>decide (0 < (someN ((l0 :: all).headD []).length (l0 :: all) n : Int)))
  have hM0 : pickTo (fun n=>decide ((eachN (l0 :: all) n : Int) = (l0 :: all).length)) 0 = []:=rfl
  have hY0 : pickTo (fun n=>decide (0 < (someN ((l0 :: all).headD []).length (l0 :: all) n : Int))) 0 = []:=rfl
  generalize pickTo (fun n=>decide ((eachN (l0 :: all) n : Int) = (l0 :: all).length)) = M at *
  generalize pickTo (fun n=>decide (0 < (someN ((l0 :: all).headD []).length (l0 :: all) n : Int))) = Y at *
  simp only [List.headD_cons] at hY
  refine pureA_codeB tabOk { l:=0, f:=33 } mixed call_33 Tryd.func33 (by kernel_rfl) ?_
  conv=>whnf
  repeat (any_goals (first|exact falseI|((first|refine bd ?_ ?_|refine bn ?_ ?_)<;>intro _<;>first|(exfalso;omega)|conv=>whnf)|((first|refine callP_a hk ?_|refine dI ?_|refine okI ?_|refine bt ?_|refine bi (fun _=>?_) (fun _=>?_)|refine bndI ?_|intro _)<;>conv=>whnf)))
  refine loopTok 2 1 ⟨0, 33, 58⟩ ?_
  conv=>whnf
  refine loopTok 3 1 ⟨0, 33, 64⟩ ?_
  conv=>whnf
  refine loopK tabOk { l:=0, f:=33 } mixed (fun i : Nat=>[(27, intA i), (2, .slice 1 ((M i).map intA) (.own ⟨0, 33, 58⟩ 1)), (3, .slice 1 ((Y i).map intA) (.own ⟨0, 33, 64⟩ 1))]) (fun _=>[]) (fun i=>[(⟨0, 33, 58⟩, some (1, (M i).length)), (⟨0, 33, 64⟩, some (1, (Y i).length))]) (fun i=>i ≤ s.heads.length) (fun i=>s.heads.length - i) 0 (by kernel_rfl)
    (Nat.zero_le _) ?_
  conv=>whnf
  refine ⟨⟨slotsLe_cons rfl (slotsLe_cons (by rw [hM0];rfl) (slotsLe_cons (by rw [hY0];rfl) trivial)), trivial, keysLe_cons (by rw [hM0];rfl) (keysLe_cons (by rw [hY0];rfl) trivial)⟩, ?_⟩
  intro i hi
  have hMi:=hM i
  have hYi:=hY i
  have hMli:=hMl i
  have hYli:=hYl i
  conv=>whnf
  refine brP_dec (fun h1=>?_) (fun h1=>?_)
  · simp only [List.length_map] at h1
    have hE:=fun j x (hx : (l0 :: all)[j]? = some x)=>filter_take (hasL (i : Int)) hx
    have hS:=fun j x (hx : (l0 :: all)[j]? = some x)=>filter_take (fun l=>hasL (i : Int) l && decide ((l.length : Int) = l0.length)) hx
    have hEl:=filter_take_le (hasL (i : Int)) (l0 :: all)
    have hSl:=filter_take_le (fun l=>hasL (i : Int) l && decide ((l.length : Int) = l0.length)) (l0 :: all)
    have hE1 : eachN (l0 :: all) i = (((l0 :: all).take (l0 :: all).length).filter (hasL (i : Int))).length:=by rw [List.take_length];rfl
    have hS1 : someN l0.length (l0 :: all) i = (((l0 :: all).take (l0 :: all).length).filter (fun l=>hasL (i : Int) l && decide ((l.length : Int) = l0.length))).length:=by rw [List.take_length];rfl
    simp only [decide_eq_true_eq] at hMi hYi
    simp only [hE1] at hMi
    simp only [hS1] at hYi
    clear hE1 hS1 hM hY hM0 hY0 hMl hYl
    have hE0 : (((l0 :: all).take 0).filter (hasL (i : Int))).length = 0:=rfl
    have hS0 : (((l0 :: all).take 0).filter (fun l=>hasL (i : Int) l && decide ((l.length : Int) = l0.length))).length = 0:=rfl
    obtain ⟨E, hEe⟩ : ∃ E : Nat→Nat, E = fun j=>(((l0 :: all).take j).filter (hasL (i : Int))).length:=⟨_, rfl⟩
    obtain ⟨S, hSe⟩ : ∃ S : Nat→Nat, S = fun j=>(((l0 :: all).take j).filter (fun l=>hasL (i : Int) l && decide ((l.length : Int) = l0.length))).length:=⟨_, rfl⟩
    have hEj : ∀ j, (((l0 :: all).take j).filter (hasL (i : Int))).length = E j:=fun j=>by rw [hEe]
    have hSj : ∀ j, (((l0 :: all).take j).filter (fun l=>hasL (i : Int) l && decide ((l.length : Int) = l0.length))).length = S j:=fun j=>by rw [hSe]
    simp only [hEj, hSj] at hE hS hEl hSl hMi hYi hE0 hS0
    clear hEj hSj hEe hSe
    conv=>whnf
    repeat (any_goals (first|exact falseI|((first|refine bd ?_ ?_|refine bn ?_ ?_)<;>intro _<;>first|(exfalso;omega)|conv=>whnf)|((first|refine dI ?_|refine okI ?_|refine bt ?_|refine bi (fun _=>?_) (fun _=>?_)|refine bndI ?_|intro _)<;>conv=>whnf)))
    refine loopK tabOk { l:=0, f:=33 } mixed (fun j : Nat=>[(32, intA j), (7, intA (E j)), (8, intA (S j))]) (fun _=>[]) (fun _=>[]) (fun j=>j ≤ (l0 :: all).length) (fun j=>(l0 :: all).length - j) 0 (by kernel_rfl)
      (Nat.zero_le _) ?_
    conv=>whnf
    refine ⟨⟨slotsLe_cons rfl (slotsLe_cons (by rw [hE0];rfl) (slotsLe_cons (by rw [hS0];rfl) trivial)), trivial, trivial⟩, ?_⟩
    intro j hj
    conv=>whnf
    refine brP_dec (fun h2=>?_) (fun h2=>?_)
    · simp only [List.length_map] at h2
      obtain ⟨x, hx, hd⟩:=drop_cons (l:=l0 :: all) (i:=j) (by omega)
      have hE:=hE j x hx
      have hS:=hS j x hx
      have hEl:=hEl j
      have hSl:=hSl j
      have hh:=hhas x (List.mem_of_getElem? hx) i
      have hxl:=hl6 x (List.mem_of_getElem? hx)
      have h0l:=hl6 l0 (List.mem_cons_self ..)
      unfold hasL at hE hS
      generalize (x.any fun y=>decide ((i : Int) = y)) = b at *
      cases b with
      | false =>
        simp only [Bool.false_eq_true, if_false, Bool.false_and] at hE hS
        conv=>whnf
        repeat (any_goals (first|exact falseI|((first|refine bd ?_ ?_|refine bn ?_ ?_)<;>intro _<;>first|(exfalso;omega)|conv=>whnf)|((first|refine optP_map hx rfl ?_|refine callP_a hh ?_|refine dI ?_|refine okI ?_|refine bt ?_|refine bi (fun _=>?_) (fun _=>?_)|refine bndI ?_|intro _)<;>conv=>whnf)))
        (refine ⟨j + 1, (by omega), (by omega), ?_⟩;(conv=>whnf);refine ⟨?_, ?_, ?_⟩<;>repeat (first|exact trivial|refine sc rfl ?_|refine kn ?_|refine kc rfl ?_|refine sc (by first|rfl|(rw [hE];rfl)|(rw [hS];rfl)) ?_|refine kc (by first|rfl|(rw [hE];rfl)|(rw [hS];rfl)) ?_))
      | true =>
        simp only [Bool.true_and, if_true, decide_eq_true_eq] at hE hS
        by_cases hq : (x.length : Int) = l0.length
        · rw [if_pos hq] at hS
          conv=>whnf
          repeat (any_goals (first|exact falseI|((first|refine bd ?_ ?_|refine bn ?_ ?_)<;>intro _<;>first|(exfalso;omega)|conv=>whnf)|((first|refine optP_map hx rfl ?_|refine callP_a hh ?_|refine dI ?_|refine okI ?_|refine bt ?_|refine bi (fun _=>?_) (fun _=>?_)|refine bndI ?_|intro _)<;>conv=>whnf)))
          · (refine ⟨j + 1, (by omega), (by omega), ?_⟩;(conv=>whnf);refine ⟨?_, ?_, ?_⟩<;>repeat (first|exact trivial|refine sc rfl ?_|refine kn ?_|refine kc rfl ?_|refine sc (by first|rfl|(rw [hE];rfl)|(rw [hS];rfl)) ?_|refine kc (by first|rfl|(rw [hE];rfl)|(rw [hS];rfl)) ?_))
          · exfalso
            rename_i hq'
            simp only [List.length_map] at hq'
            exact hq' hq
        · rw [if_neg hq] at hS
          conv=>whnf
          repeat (any_goals (first|exact falseI|((first|refine bd ?_ ?_|refine bn ?_ ?_)<;>intro _<;>first|(exfalso;omega)|conv=>whnf)|((first|refine optP_map hx rfl ?_|refine callP_a hh ?_|refine dI ?_|refine okI ?_|refine bt ?_|refine bi (fun _=>?_) (fun _=>?_)|refine bndI ?_|intro _)<;>conv=>whnf)))
          · exfalso
            rename_i hq'
            simp only [List.length_map] at hq'
            exact hq hq'
          · (refine ⟨j + 1, (by omega), (by omega), ?_⟩;(conv=>whnf);refine ⟨?_, ?_, ?_⟩<;>repeat (first|exact trivial|refine sc rfl ?_|refine kn ?_|refine kc rfl ?_|refine sc (by first|rfl|(rw [hE];rfl)|(rw [hS];rfl)) ?_|refine kc (by first|rfl|(rw [hE];rfl)|(rw [hS];rfl)) ?_))
    · simp only [List.length_map] at h2
      have : j = (l0 :: all).length:=by omega
      subst this
      clear hE hS
      have hEl:=hEl (l0 :: all).length
      have hSl:=hSl (l0 :: all).length
      generalize E (l0 :: all).length = e at *
      generalize S (l0 :: all).length = f at *
      by_cases q1 : (e : Int) = ((((l0 :: all).map intsA).length : Nat) : Int)
      · rw [if_pos (by rw [List.length_map] at q1;exact q1)] at hMi
        by_cases q2 : (0 : Int) < f
        · rw [if_pos (decide_eq_true q2)] at hYi
          conv=>whnf
          repeat (any_goals (first|exact falseI|((first|refine bd ?_ ?_|refine bn ?_ ?_)<;>intro _<;>first|(exfalso;omega)|conv=>whnf)|((first|refine dI ?_|refine okI ?_|refine bt ?_|refine bi (fun _=>?_) (fun _=>?_)|refine bndI ?_|intro _)<;>conv=>whnf)))
          (refine ⟨i + 1, (by omega), (by omega), ?_⟩;(conv=>whnf);refine ⟨?_, ?_, ?_⟩<;>repeat (first|exact trivial|refine sc rfl ?_|refine kn ?_|refine kc rfl ?_|refine sc (by first|rfl|(simp only [hMi, hYi, List.map_append, List.length_append];rfl)|((conv=>lhs;whnf);simp [hMi, hYi, intA];done)) ?_|refine kc (by first|rfl|(simp only [hMi, hYi, List.map_append, List.length_append];rfl)|((conv=>lhs;whnf);simp [hMi, hYi, intA];done)) ?_))
        · rw [if_neg (by simpa using q2), List.append_nil] at hYi
          conv=>whnf
          repeat (any_goals (first|exact falseI|((first|refine bd ?_ ?_|refine bn ?_ ?_)<;>intro _<;>first|(exfalso;omega)|conv=>whnf)|((first|refine dI ?_|refine okI ?_|refine bt ?_|refine bi (fun _=>?_) (fun _=>?_)|refine bndI ?_|intro _)<;>conv=>whnf)))
          (refine ⟨i + 1, (by omega), (by omega), ?_⟩;(conv=>whnf);refine ⟨?_, ?_, ?_⟩<;>repeat (first|exact trivial|refine sc rfl ?_|refine kn ?_|refine kc rfl ?_|refine sc (by first|rfl|(simp only [hMi, hYi, List.map_append, List.length_append];rfl)|((conv=>lhs;whnf);simp [hMi, hYi, intA];done)) ?_|refine kc (by first|rfl|(simp only [hMi, hYi, List.map_append, List.length_append];rfl)|((conv=>lhs;whnf);simp [hMi, hYi, intA];done)) ?_))
      · rw [if_neg (by rw [List.length_map] at q1;exact q1), List.append_nil] at hMi
        by_cases q2 : (0 : Int) < f
        · rw [if_pos (decide_eq_true q2)] at hYi
          conv=>whnf
          repeat (any_goals (first|exact falseI|((first|refine bd ?_ ?_|refine bn ?_ ?_)<;>intro _<;>first|(exfalso;omega)|conv=>whnf)|((first|refine dI ?_|refine okI ?_|refine bt ?_|refine bi (fun _=>?_) (fun _=>?_)|refine bndI ?_|intro _)<;>conv=>whnf)))
          (refine ⟨i + 1, (by omega), (by omega), ?_⟩;(conv=>whnf);refine ⟨?_, ?_, ?_⟩<;>repeat (first|exact trivial|refine sc rfl ?_|refine kn ?_|refine kc rfl ?_|refine sc (by first|rfl|(simp only [hMi, hYi, List.map_append, List.length_append];rfl)|((conv=>lhs;whnf);simp [hMi, hYi, intA];done)) ?_|refine kc (by first|rfl|(simp only [hMi, hYi, List.map_append, List.length_append];rfl)|((conv=>lhs;whnf);simp [hMi, hYi, intA];done)) ?_))
        · rw [if_neg (by simpa using q2), List.append_nil] at hYi
          conv=>whnf
          repeat (any_goals (first|exact falseI|((first|refine bd ?_ ?_|refine bn ?_ ?_)<;>intro _<;>first|(exfalso;omega)|conv=>whnf)|((first|refine dI ?_|refine okI ?_|refine bt ?_|refine bi (fun _=>?_) (fun _=>?_)|refine bndI ?_|intro _)<;>conv=>whnf)))
          (refine ⟨i + 1, (by omega), (by omega), ?_⟩;(conv=>whnf);refine ⟨?_, ?_, ?_⟩<;>repeat (first|exact trivial|refine sc rfl ?_|refine kn ?_|refine kc rfl ?_|refine sc (by first|rfl|(simp only [hMi, hYi, List.map_append, List.length_append];rfl)|((conv=>lhs;whnf);simp [hMi, hYi, intA];done)) ?_|refine kc (by first|rfl|(simp only [hMi, hYi, List.map_append, List.length_append];rfl)|((conv=>lhs;whnf);simp [hMi, hYi, intA];done)) ?_))
  · simp only [List.length_map] at h1
    have : i = s.heads.length:=by omega
    subst this
    conv=>whnf
    repeat (any_goals (first|exact falseI|((first|refine bd ?_ ?_|refine bn ?_ ?_)<;>intro _<;>first|(exfalso;omega)|conv=>whnf)|((first|refine dI ?_|refine okI ?_|refine bt ?_|refine bi (fun _=>?_) (fun _=>?_)|refine bndI ?_|intro _)<;>conv=>whnf)))
    (refine ⟨⟨?_⟩, trivial⟩;rfl)
theorem doubtTop_c (s : Store) (hr : s.small) : PureA Tryd.prog 33 [storeA s] (doubtA s.doubtR):=by
  unfold Store.doubtR
  by_cases hc : s.check.2.2 = 0
  · rw [if_neg (fun h=>h hc)]
    cases hn : s.allOk.map setL with
    | nil=>exact pureNil2 (doubtN_c s hr hc (List.map_eq_nil_iff.1 hn))
    | cons l all=>exact doubtT_c s hr hc l all hn
  · rw [if_pos hc]
    exact pureNil2 (doubtE_c s hr hc)
end Go.Proofs.YtbpiibdcncfphaaDoor
namespace Go.Proofs.YtbpiibdcncfphaaDoor
open Go.Am Go.Proofs Go
def Amt.more (a : Amt) (n : Int) : Nat→Amt
  | 0=>⟨a.b + n, a.t, a.c⟩
  | 1=>⟨a.b, a.t + n, a.c⟩
  | _=>⟨a.b, a.t, a.c + n⟩
def Store.more (s : Store) (k : Nat) (n : Int) : Store:={ s with lots:=s.lots.more n k }
def Store.lackIn (s : Store) (n : Nat) : Nat→Nat→Option Nat
  | 0, _=>none
  | f + 1, k=>if ((s.more k ((n : Int) + 1)).pour zeroT).ok = true then some k else s.lackIn n f (k + 1)
def Store.lackOut (s : Store) : Nat→Nat→Int × Int × Int
  | 0, _=>(0, 0, 9)
  | f + 1, n=>match s.lackIn n 3 0 with
    | some k=>((k : Int), (n : Int) + 1, 0)
    | none=>s.lackOut f (n + 1)
def Store.lackR (s : Store) : Int × Int × Int:=if s.check.2.2 ≠ 0 then (0, 0, s.check.2.2) else if (s.pour zeroT).ok = true then (0, 0, 4) else s.lackOut 40 0
theorem more_good {s : Store} {k : Nat} {n : Int} (hg : s.Good) (h4 : s.lots.upto 40) (hn : 0 ≤ n∧n ≤ 60) : (s.more k n).Good:=by
  obtain ⟨a1, a2, a3⟩:=h4
  refine ⟨?_, hg.fade, hg.len, hg.heads, hg.lenO, hg.orders⟩
  unfold Store.more Amt.more
  split<;>(unfold Amt.upto;simp only;omega)
theorem check_lots {s : Store} (hc : s.check.2.2 = 0) : s.lots.upto 40:=by
  unfold Store.check at hc
  split at hc
  · simp at hc
  rename_i h1
  simp only [Bool.not_eq_true, Bool.or_eq_false_iff, outside_iff] at h1
  unfold Amt.upto
  omega
theorem doesN_c (s : Store) (later : Int) (memo : MemoL) (hg : s.Good) (h0 : 0 ≤ later) (hok : s.memoOk memo) :
    BoxA Tryd.prog (.fn 74) (storeE s (sumW s.orders) (s.melts later) memo) [.ptr kS 1 27 0 0, .slice 0 [] .tight] (boolA (s.pour zeroT).ok) (storeE s (sumW s.orders) (s.melts later) (s.remember memo zeroT)):=by
  have hp:=meltsTo_len s later _ (Nat.le_refl _) hg.len
  have e : meltsTo s later s.heads.length = s.melts later:=rfl
  rw [e] at hp
  have hsum:=(wsum_c s (sumW s.orders) (s.melts later) zeroT [] hp (melts_abs hg h0) (zeroT_abs _ (by decide)) (by simp) (by simp)).args (args:=[_, _, .slice 0 [] .no]) (.cons (Wk.refl _) (.cons (Wk.refl _) (.cons (Wk.nil 1) trivial)))
  have hpo:=pour_c s (s.melts later) memo zeroT hp hg (by unfold Amt.upto zeroT;simp) hok
  have eb : sumL (s.melts later) zeroT [] = zeroT:=rfl
  rw [eb] at hsum
  generalize s.pour zeroT = P at *
  generalize s.remember memo zeroT = memo' at *
  generalize sumW s.orders = w at *
  generalize s.melts later = p at *
  clear e eb
  obtain ⟨p0, p1, p2, p3, p4, p5, rfl⟩:=list6 hp
  refine boxA_codeB tabOk { l:=0, f:=74, mat:=[69] } mixed call_74 Tryd.func74 (by kernel_rfl) ?_
  conv=>whnf
  repeat (any_goals (first|exact falseI|((first|refine bd ?_ ?_|refine bn ?_ ?_)<;>intro _<;>first|(exfalso;omega)|conv=>whnf)|((first|refine callP_f hsum rfl ?_|refine dI ?_|refine okI ?_|refine bt ?_|refine bi (fun _=>?_) (fun _=>?_)|refine bndI ?_|intro _)<;>conv=>whnf)))
  refine ⟨[kS, kM], ?_⟩
  conv=>whnf
  refine ⟨_, _, hpo, ?_⟩
  conv=>whnf
  repeat (any_goals (first|exact falseI|((first|refine bd ?_ ?_|refine bn ?_ ?_)<;>intro _<;>first|(exfalso;omega)|conv=>whnf)|((first|refine dI ?_|refine okI ?_|refine bt ?_|refine bi (fun _=>?_) (fun _=>?_)|refine bndI ?_|intro _)<;>conv=>whnf)))
  refine And.intro ?_ ?_
  · conv=>whnf
    refine ⟨⟨?_⟩, trivial⟩
    rfl
  · repeat (first|exact trivial|refine And.intro rfl ?_|refine And.intro (by skip) ?_)
theorem lackE_c (s : Store) (hr : s.small) (hc : s.check.2.2 ≠ 0) : PureA Tryd.prog 39 [storeA s] (triA (0, 0, s.check.2.2)):=by
  have hk:=lookF_c s 0 hr hc
  generalize s.check.2.2 = c at *
  refine pureA_codeB tabOk { l:=0, f:=39, mat:=[59] } mixed call_39 Tryd.func39 (by kernel_rfl) ?_
  conv=>whnf
  repeat (any_goals (first|exact falseI|((first|refine bd ?_ ?_|refine bn ?_ ?_)<;>intro _<;>first|(exfalso;omega)|conv=>whnf)|((first|refine dI ?_|refine okI ?_|refine bt ?_|refine bi (fun _=>?_) (fun _=>?_)|refine bndI ?_|intro _)<;>conv=>whnf)))
  refine ⟨[], ?_⟩
  conv=>whnf
  refine ⟨_, _, hk, ?_⟩
  conv=>whnf
  repeat (any_goals (first|exact falseI|((first|refine bd ?_ ?_|refine bn ?_ ?_)<;>intro _<;>first|(exfalso;omega)|conv=>whnf)|((first|refine dI ?_|refine okI ?_|refine bt ?_|refine bi (fun _=>?_) (fun _=>?_)|refine bndI ?_|intro _)<;>conv=>whnf)))
  (refine ⟨⟨?_⟩, trivial⟩;rfl)
set_option maxHeartbeats 4000000 in
theorem lackT_c (s : Store) (hr : s.small) (hc : s.check.2.2 = 0) : PureA Tryd.prog 39 [storeA s] (triA (if (s.pour zeroT).ok = true then (0, 0, 4) else s.lackOut 40 0)):=by
  have hg:=Store.good hc
  have h4:=check_lots hc
  have hk:=lookT_c s 0 hr hc (by decide) (by decide)
  have hp:=meltsTo_len s 0 _ (Nat.le_refl _) hg.len
  have e : meltsTo s 0 s.heads.length = s.melts 0:=rfl
  rw [e] at hp
  have hd0:=doesN_c s 0 (0, []) hg (by decide) (by intro e he;simp at he)
  have hdo : ∀ k (n : Int) c, 0 ≤ n∧n ≤ 60→BoxA Tryd.prog (.fn 74) (storeE (s.more k n) (sumW s.orders) (s.melts 0) (c, [])) [.ptr kS 1 27 0 0, .slice 0 [] .tight] (boolA ((s.more k n).pour zeroT).ok) (storeE (s.more k n) (sumW s.orders) (s.melts 0) ((s.more k n).remember (c, []) zeroT)) :=
    fun k n c hn=>doesN_c (s.more k n) 0 (c, []) (more_good hg h4 hn) (by decide) (by intro e he;simp at he)
  have hrm : ∀ k n c, (s.more k n).remember (c, []) zeroT = (c, [(zeroT, (s.more k n).pour zeroT)]):=fun k n c=>rfl
  simp only [hrm] at hdo
  have hrm0 : s.remember (0, []) zeroT = (0, [(zeroT, s.pour zeroT)]):=rfl
  rw [hrm0] at hd0
  obtain ⟨R, hR⟩ : ∃ R, R = (if (s.pour zeroT).ok = true then (0, 0, 4) else s.lackOut 40 0):=⟨_, rfl⟩
  rw [← hR]
  have hin0 : ∀ n k, s.lackIn n 0 k = none:=fun _ _=>rfl
  have hin : ∀ n f k, s.lackIn n (f + 1) k = if ((s.more k ((n : Int) + 1)).pour zeroT).ok = true then some k else s.lackIn n f (k + 1):=fun _ _ _=>rfl
  have hout : ∀ f n, s.lackOut (f + 1) n = match s.lackIn n 3 0 with|some k=>((k : Int), (n : Int) + 1, 0)|none=>s.lackOut f (n + 1):=fun _ _=>rfl
  have hout0 : ∀ n, s.lackOut 0 n = (0, 0, 9):=fun _=>rfl
  generalize hq0 : s.pour zeroT = q0 at *
  obtain ⟨⟨q1, q2, q3⟩, b0⟩:=q0
  generalize sumW s.orders = w at *
  generalize s.melts 0 = p at *
  obtain ⟨p0, p1, p2, p3, p4, p5, rfl⟩:=list6 hp
  cases b0 with
  | true =>
    rw [if_pos rfl] at hR
    subst hR
    refine pureA_codeB tabOk { l:=0, f:=39, mat:=[59, 74] } mixed call_39 Tryd.func39 (by kernel_rfl) ?_
    conv=>whnf
    repeat (any_goals (first|exact falseI|((first|refine bd ?_ ?_|refine bn ?_ ?_)<;>intro _<;>first|(exfalso;omega)|conv=>whnf)|((first|refine dI ?_|refine okI ?_|refine bt ?_|refine bi (fun _=>?_) (fun _=>?_)|refine bndI ?_|intro _)<;>conv=>whnf)))
    refine ⟨[], ?_⟩
    conv=>whnf
    refine ⟨_, _, hk, ?_⟩
    conv=>whnf
    repeat (any_goals (first|exact falseI|((first|refine bd ?_ ?_|refine bn ?_ ?_)<;>intro _<;>first|(exfalso;omega)|conv=>whnf)|((first|refine dI ?_|refine okI ?_|refine bt ?_|refine bi (fun _=>?_) (fun _=>?_)|refine bndI ?_|intro _)<;>conv=>whnf)))
    refine ⟨[kS, kM], ?_⟩
    conv=>whnf
    refine ⟨_, _, hd0, ?_⟩
    conv=>whnf
    repeat (any_goals (first|exact falseI|((first|refine bd ?_ ?_|refine bn ?_ ?_)<;>intro _<;>first|(exfalso;omega)|conv=>whnf)|((first|refine dI ?_|refine okI ?_|refine bt ?_|refine bi (fun _=>?_) (fun _=>?_)|refine bndI ?_|intro _)<;>conv=>whnf)))
    (refine ⟨⟨?_⟩, trivial⟩;rfl)
  | false =>
    rw [if_neg (by simp)] at hR
    refine pureA_codeB tabOk { l:=0, f:=39, mat:=[59, 74] } mixed call_39 Tryd.func39 (by kernel_rfl) ?_
    conv=>whnf
    repeat (any_goals (first|exact falseI|((first|refine bd ?_ ?_|refine bn ?_ ?_)<;>intro _<;>first|(exfalso;omega)|conv=>whnf)|((first|refine dI ?_|refine okI ?_|refine bt ?_|refine bi (fun _=>?_) (fun _=>?_)|refine bndI ?_|intro _)<;>conv=>whnf)))
    refine ⟨[], ?_⟩
    conv=>whnf
    refine ⟨_, _, hk, ?_⟩
    conv=>whnf
    repeat (any_goals (first|exact falseI|((first|refine bd ?_ ?_|refine bn ?_ ?_)<;>intro _<;>first|(exfalso;omega)|conv=>whnf)|((first|refine dI ?_|refine okI ?_|refine bt ?_|refine bi (fun _=>?_) (fun _=>?_)|refine bndI ?_|intro _)<;>conv=>whnf)))
    refine ⟨[kS, kM], ?_⟩
    conv=>whnf
    refine ⟨_, _, hd0, ?_⟩
    conv=>whnf
    repeat (any_goals (first|exact falseI|((first|refine bd ?_ ?_|refine bn ?_ ?_)<;>intro _<;>first|(exfalso;omega)|conv=>whnf)|((first|refine dI ?_|refine okI ?_|refine bt ?_|refine bi (fun _=>?_) (fun _=>?_)|refine bndI ?_|intro _)<;>conv=>whnf)))
    have hl1:=h4.1
    have hl2:=h4.2.1
    have hl3:=h4.2.2
    refine loopK tabOk { l:=0, f:=39, mat:=[59, 74] } mixed (fun x : Nat × Amt × MemoL=>[(20, intA x.1)]) (fun x=>[(kS, some (1, some (27, [storeY { s with lots:=x.2.1 } w [p0, p1, p2, p3, p4, p5] (.mp kM 1)]))), (kM, some (1, some (0, mapX x.2.2)))]) (fun _=>[]) (fun x=>x.1 ≤ 40∧R = s.lackOut (40 - x.1) x.1) (fun x=>40 - x.1) (0, (s.lots, (0, [(zeroT, ⟨⟨q1, q2, q3⟩, false⟩)]))) (by kernel_rfl)
      ⟨Nat.zero_le _, hR⟩ ?_
    conv=>whnf
    refine ⟨⟨?_, ?_, trivial⟩, ?_⟩
    · repeat (first|exact trivial|refine sc rfl ?_)
    · repeat (first|exact trivial|refine kc rfl ?_)
    clear hR
    intro ⟨n, ⟨a, memo⟩⟩ ⟨hn, H⟩
    simp only at hn H
    conv=>whnf
    refine brP_dec (fun h1=>?_) (fun h1=>?_)
    · have h1 : (n : Int) < 40:=h1
      obtain ⟨f, hf⟩ : ∃ f, 40 - n = f + 1:=⟨39 - n, by omega⟩
      rw [hf, hout] at H
      conv=>whnf
      repeat (any_goals (first|exact falseI|((first|refine bd ?_ ?_|refine bn ?_ ?_)<;>intro _<;>first|(exfalso;omega)|conv=>whnf)|((first|refine dI ?_|refine okI ?_|refine bt ?_|refine bi (fun _=>?_) (fun _=>?_)|refine bndI ?_|intro _)<;>conv=>whnf)))
      refine loopK tabOk { l:=0, f:=39, mat:=[59, 74] } mixed (fun x : Nat × Amt × MemoL=>[(23, intA x.1)]) (fun x=>[(kS, some (1, some (27, [storeY { s with lots:=x.2.1 } w [p0, p1, p2, p3, p4, p5] (.mp kM 1)]))), (kM, some (1, some (0, mapX x.2.2)))]) (fun _=>[]) (fun x=>x.1 ≤ 3∧R = (match s.lackIn n (3 - x.1) x.1 with|some k=>((k : Int), (n : Int) + 1, 0)|none=>s.lackOut f (n + 1))) (fun x=>3 - x.1) (0, (a, memo)) (by kernel_rfl)
        ⟨Nat.zero_le _, H⟩ ?_
      conv=>whnf
      refine ⟨⟨?_, ?_, trivial⟩, ?_⟩
      · repeat (first|exact trivial|refine sc rfl ?_)
      · repeat (first|exact trivial|refine kc rfl ?_)
      clear H
      intro ⟨k, ⟨a, memo⟩⟩ ⟨hk3, H⟩
      simp only at hk3 H
      obtain ⟨c, l⟩:=memo
      conv=>whnf
      refine brP_dec (fun h2=>?_) (fun h2=>?_)
      · have h2 : (k : Int) < 3:=h2
        rcases lt3 (by omega : k < 3) with rfl|rfl|rfl
        · have hd:=hdo 0 ((n : Int) + 1) (c + ((l.map entA).length : Nat)) ⟨by omega, by omega⟩
          simp only [hin] at H
          generalize hQ : (s.more 0 ((n : Int) + 1)).pour zeroT = Q at *
          obtain ⟨⟨r1, r2, r3⟩, b⟩:=Q
          cases b with
          | true =>
            simp only [if_true] at H
            subst H
            conv=>whnf
            repeat (any_goals (first|exact falseI|((first|refine bd ?_ ?_|refine bn ?_ ?_)<;>intro _<;>first|(exfalso;omega)|conv=>whnf)|((first|refine dI ?_|refine okI ?_|refine bt ?_|refine bi (fun _=>?_) (fun _=>?_)|refine bndI ?_|intro _)<;>conv=>whnf)))
            refine ⟨[kS, kM], ?_⟩
            conv=>whnf
            refine ⟨_, _, hd, ?_⟩
            conv=>whnf
            repeat (any_goals (first|exact falseI|((first|refine bd ?_ ?_|refine bn ?_ ?_)<;>intro _<;>first|(exfalso;omega)|conv=>whnf)|((first|refine dI ?_|refine okI ?_|refine bt ?_|refine bi (fun _=>?_) (fun _=>?_)|refine bndI ?_|intro _)<;>conv=>whnf)))
            (refine ⟨⟨?_⟩, trivial⟩;rfl)
          | false =>
            simp only [Bool.false_eq_true, if_false] at H
            conv=>whnf
            repeat (any_goals (first|exact falseI|((first|refine bd ?_ ?_|refine bn ?_ ?_)<;>intro _<;>first|(exfalso;omega)|conv=>whnf)|((first|refine dI ?_|refine okI ?_|refine bt ?_|refine bi (fun _=>?_) (fun _=>?_)|refine bndI ?_|intro _)<;>conv=>whnf)))
            refine ⟨[kS, kM], ?_⟩
            conv=>whnf
            refine ⟨_, _, hd, ?_⟩
            conv=>whnf
            repeat (any_goals (first|exact falseI|((first|refine bd ?_ ?_|refine bn ?_ ?_)<;>intro _<;>first|(exfalso;omega)|conv=>whnf)|((first|refine dI ?_|refine okI ?_|refine bt ?_|refine bi (fun _=>?_) (fun _=>?_)|refine bndI ?_|intro _)<;>conv=>whnf)))
            (refine ⟨(1, (s.lots.more ((n : Int) + 1) 0, (c + ((l.map entA).length : Nat), [(zeroT, ⟨⟨r1, r2, r3⟩, false⟩)]))), ⟨by simp only;omega, H⟩, (by simp only;omega), ?_⟩;(conv=>whnf);refine ⟨?_, ?_, ?_⟩<;>repeat (first|exact trivial|refine sc rfl ?_|refine kn ?_|refine kc rfl ?_|refine sc (by rfl) ?_|refine kc (by rfl) ?_))
        · have hd:=hdo 1 ((n : Int) + 1) (c + ((l.map entA).length : Nat)) ⟨by omega, by omega⟩
          simp only [hin] at H
          generalize hQ : (s.more 1 ((n : Int) + 1)).pour zeroT = Q at *
          obtain ⟨⟨r1, r2, r3⟩, b⟩:=Q
          cases b with
          | true =>
            simp only [if_true] at H
            subst H
            conv=>whnf
            repeat (any_goals (first|exact falseI|((first|refine bd ?_ ?_|refine bn ?_ ?_)<;>intro _<;>first|(exfalso;omega)|conv=>whnf)|((first|refine dI ?_|refine okI ?_|refine bt ?_|refine bi (fun _=>?_) (fun _=>?_)|refine bndI ?_|intro _)<;>conv=>whnf)))
            refine ⟨[kS, kM], ?_⟩
            conv=>whnf
            refine ⟨_, _, hd, ?_⟩
            conv=>whnf
            repeat (any_goals (first|exact falseI|((first|refine bd ?_ ?_|refine bn ?_ ?_)<;>intro _<;>first|(exfalso;omega)|conv=>whnf)|((first|refine dI ?_|refine okI ?_|refine bt ?_|refine bi (fun _=>?_) (fun _=>?_)|refine bndI ?_|intro _)<;>conv=>whnf)))
            (refine ⟨⟨?_⟩, trivial⟩;rfl)
          | false =>
            simp only [Bool.false_eq_true, if_false] at H
            conv=>whnf
            repeat (any_goals (first|exact falseI|((first|refine bd ?_ ?_|refine bn ?_ ?_)<;>intro _<;>first|(exfalso;omega)|conv=>whnf)|((first|refine dI ?_|refine okI ?_|refine bt ?_|refine bi (fun _=>?_) (fun _=>?_)|refine bndI ?_|intro _)<;>conv=>whnf)))
            refine ⟨[kS, kM], ?_⟩
            conv=>whnf
            refine ⟨_, _, hd, ?_⟩
            conv=>whnf
            repeat (any_goals (first|exact falseI|((first|refine bd ?_ ?_|refine bn ?_ ?_)<;>intro _<;>first|(exfalso;omega)|conv=>whnf)|((first|refine dI ?_|refine okI ?_|refine bt ?_|refine bi (fun _=>?_) (fun _=>?_)|refine bndI ?_|intro _)<;>conv=>whnf)))
            (refine ⟨(2, (s.lots.more ((n : Int) + 1) 1, (c + ((l.map entA).length : Nat), [(zeroT, ⟨⟨r1, r2, r3⟩, false⟩)]))), ⟨by simp only;omega, H⟩, (by simp only;omega), ?_⟩;(conv=>whnf);refine ⟨?_, ?_, ?_⟩<;>repeat (first|exact trivial|refine sc rfl ?_|refine kn ?_|refine kc rfl ?_|refine sc (by rfl) ?_|refine kc (by rfl) ?_))
        · have hd:=hdo 2 ((n : Int) + 1) (c + ((l.map entA).length : Nat)) ⟨by omega, by omega⟩
          simp only [hin] at H
          generalize hQ : (s.more 2 ((n : Int) + 1)).pour zeroT = Q at *
          obtain ⟨⟨r1, r2, r3⟩, b⟩:=Q
          cases b with
          | true =>
            simp only [if_true] at H
            subst H
            conv=>whnf
            repeat (any_goals (first|exact falseI|((first|refine bd ?_ ?_|refine bn ?_ ?_)<;>intro _<;>first|(exfalso;omega)|conv=>whnf)|((first|refine dI ?_|refine okI ?_|refine bt ?_|refine bi (fun _=>?_) (fun _=>?_)|refine bndI ?_|intro _)<;>conv=>whnf)))
            refine ⟨[kS, kM], ?_⟩
            conv=>whnf
            refine ⟨_, _, hd, ?_⟩
            conv=>whnf
            repeat (any_goals (first|exact falseI|((first|refine bd ?_ ?_|refine bn ?_ ?_)<;>intro _<;>first|(exfalso;omega)|conv=>whnf)|((first|refine dI ?_|refine okI ?_|refine bt ?_|refine bi (fun _=>?_) (fun _=>?_)|refine bndI ?_|intro _)<;>conv=>whnf)))
            (refine ⟨⟨?_⟩, trivial⟩;rfl)
          | false =>
            simp only [Bool.false_eq_true, if_false] at H
            conv=>whnf
            repeat (any_goals (first|exact falseI|((first|refine bd ?_ ?_|refine bn ?_ ?_)<;>intro _<;>first|(exfalso;omega)|conv=>whnf)|((first|refine dI ?_|refine okI ?_|refine bt ?_|refine bi (fun _=>?_) (fun _=>?_)|refine bndI ?_|intro _)<;>conv=>whnf)))
            refine ⟨[kS, kM], ?_⟩
            conv=>whnf
            refine ⟨_, _, hd, ?_⟩
            conv=>whnf
            repeat (any_goals (first|exact falseI|((first|refine bd ?_ ?_|refine bn ?_ ?_)<;>intro _<;>first|(exfalso;omega)|conv=>whnf)|((first|refine dI ?_|refine okI ?_|refine bt ?_|refine bi (fun _=>?_) (fun _=>?_)|refine bndI ?_|intro _)<;>conv=>whnf)))
            (refine ⟨(3, (s.lots.more ((n : Int) + 1) 2, (c + ((l.map entA).length : Nat), [(zeroT, ⟨⟨r1, r2, r3⟩, false⟩)]))), ⟨by simp only;omega, H⟩, (by simp only;omega), ?_⟩;(conv=>whnf);refine ⟨?_, ?_, ?_⟩<;>repeat (first|exact trivial|refine sc rfl ?_|refine kn ?_|refine kc rfl ?_|refine sc (by rfl) ?_|refine kc (by rfl) ?_))
      · have h2 : ¬ (k : Int) < 3:=h2
        have : k = 3:=by omega
        subst this
        simp only [Nat.sub_self, hin0] at H
        conv=>whnf
        repeat (any_goals (first|exact falseI|((first|refine bd ?_ ?_|refine bn ?_ ?_)<;>intro _<;>first|(exfalso;omega)|conv=>whnf)|((first|refine dI ?_|refine okI ?_|refine bt ?_|refine bi (fun _=>?_) (fun _=>?_)|refine bndI ?_|intro _)<;>conv=>whnf)))
        (refine ⟨(n + 1, (a, (c, l))), ⟨by simp only;omega, by simp only;rw [show 40 - (n + 1) = f by omega];exact H⟩, (by simp only;omega), ?_⟩;(conv=>whnf);refine ⟨?_, ?_, ?_⟩<;>repeat (first|exact trivial|refine sc rfl ?_|refine kn ?_|refine kc rfl ?_|refine sc (by rfl) ?_|refine kc (by rfl) ?_))
    · have h1 : ¬ (n : Int) < 40:=h1
      have : n = 40:=by omega
      subst this
      simp only [Nat.sub_self, hout0] at H
      subst H
      conv=>whnf
      repeat (any_goals (first|exact falseI|((first|refine bd ?_ ?_|refine bn ?_ ?_)<;>intro _<;>first|(exfalso;omega)|conv=>whnf)|((first|refine dI ?_|refine okI ?_|refine bt ?_|refine bi (fun _=>?_) (fun _=>?_)|refine bndI ?_|intro _)<;>conv=>whnf)))
      (refine ⟨⟨?_⟩, trivial⟩;rfl)
theorem lackTop_c (s : Store) (hr : s.small) : PureA Tryd.prog 39 [storeA s] (triA s.lackR):=by
  unfold Store.lackR
  by_cases hc : s.check.2.2 = 0
  · rw [if_neg (fun h=>h hc)]
    exact lackT_c s hr hc
  · rw [if_pos hc]
    exact lackE_c s hr hc
end Go.Proofs.YtbpiibdcncfphaaDoor
namespace Go.Am
open Go.RowKit
structure Rn where
  k : Key
  k' : Key
  d : Nat
abbrev Rmap:=Key→Nat→Option (Key × Nat)
def fwdR : List Rn→Rmap
  | [], _, _=>none
  | r :: l, k, g=>match Key.beq r.k k with
    | true=>some (r.k', g + r.d)
    | false=>fwdR l k g
def bwdR (ks : List Key) : List Rn→Rmap
  | [], _, _=>none
  | r :: l, k', g'=>match Key.beq r.k' k' with
    | true=>match memK r.k ks, Nat.ble r.d g' with
      | true, true=>some (r.k, g' - r.d)
      | _, _=>none
    | false=>bwdR ks l k' g'
def rk0 (f : Rmap) : AV→Option AV
  | .v x=>some (.v x)
  | .slice sz es tok=>some (.slice sz es (tokK tok es))
  | .cptr cs=>some (.cptr cs)
  | .ptr k g sz i off=>match f k g with
    | some p=>some (.ptr p.1 p.2 sz i off)
    | none=>none
  | .own k g sz n c=>match f k g with
    | some p=>some (.own p.1 p.2 sz n c)
    | none=>none
  | .sl k g sz i off n=>match f k g with
    | some p=>some (.sl p.1 p.2 sz i off n)
    | none=>none
  | .mp k g=>match f k g with
    | some p=>some (.mp p.1 p.2)
    | none=>none
  | _=>none
def rk1 (f : Rmap) : AV→Option AV
  | .func fn fs cs=>match tkL (rk0 f) fs, tkL (rk0 f) cs with
    | some a, some b=>some (.func fn a b)
    | _, _=>none
  | x=>rk0 f x
def rk2 (f : Rmap) : AV→Option AV
  | .agg cs=>match tkL (rk1 f) cs with
    | some a=>some (.agg a)
    | none=>none
  | x=>rk1 f x
def rk3 (f : Rmap) : AV→Option AV
  | .tuple cs=>match tkL (rk2 f) cs with
    | some a=>some (.tuple a)
    | none=>none
  | x=>rk2 f x
def rkBox (f : Rmap) (sz : Nat) (es : List AV) : Option (List AV) :=
  match sz with
  | 0=>match es with
    | [.lp ..]=>none
    | es=>some es
  | _ + 1=>tkL (rk2 f) es
def rkPre (f : Rmap) : List BoxE→Option (List BoxE)
  | []=>some []
  | (k, g, sz, es) :: l=>match f k g, rkBox f sz es, rkPre f l with
    | some p, some es', some l'=>some ((p.1, p.2, sz, es') :: l')
    | _, _, _=>none
structure AgreeR (C C' : Ctx) (f : Rmap) : Prop where
  w : C'.w = C.w
  imm : C'.imm = C.imm
  key : ∀ k g k' g', f k g = some (k', g')→(g < C.gb k→g' < C'.gb k')∧(g = C.gb k→g' = C'.gb k')∧C'.jb k' = C.jb k∧(C.own (C.jb k) = some (.box k)→C'.own (C.jb k) = some (.box k'))
section
variable {C C' : Ctx} {f : Rmap}
theorem AgreeR.prel (h : AgreeR C C' f) {x : AV} {y : Value} (hx : PRel C.w C.imm x y) : PRel C'.w C'.imm x y:=by rw [h.w, h.imm];exact hx
theorem rk0_key {k : Key} {g : Nat} {F : Key × Nat→AV} {x' : AV} (h : (match f k g with|some p=>some (F p)|none=>none) = some x') : ∃ p, f k g = some p∧x' = F p:=by
  split at h
  · rename_i p hp;exact ⟨p, hp, (Option.some.inj h).symm⟩
  · simp at h
theorem carryR0 (h : AgreeR C C' f) {x x' : AV} {y : Value} (hx : KRel C x y) (ht : rk0 f x = some x') : KRel C' x' y:=by
  have pure' : Am.pure1 x = some x'→KRel C' x' y:=fun hp=>.pure (h.prel (hx.pure1 hp))
  cases x<;>simp only [rk0] at ht<;>try (simp at ht;done)
  case v u=>exact pure' (by rw [← ht];rfl)
  case slice sz es tok =>
    simp only [Option.some.injEq] at ht
    subst ht
    have hc : tokK tok es = .no∨(tokK tok es = .tight∧tok = .tight):=by
      unfold tokK
      cases tok<;>cases es<;>simp
    rcases hc with e|⟨e, rfl⟩
    · rw [e];exact .pure (h.prel (hx.pure1 rfl))
    · rw [e]
      cases hx with
      | pure hp=>exact .pure (h.prel hp)
  case cptr cs=>exact pure' (by rw [← ht];rfl)
  case ptr k g sz i off =>
    obtain ⟨⟨k', g'⟩, hm, rfl⟩:=rk0_key (F:=fun p=>.ptr p.1 p.2 sz i off) ht
    obtain ⟨e0, e1, e2, _⟩:=h.key k g k' g' hm
    cases hx with
    | pure hp=>cases hp
    | ptrOld hlt _ h1=>exact .ptrOld (e0 hlt) _ h1
    | ptr=>simp only;rw [e1 rfl, ← e2];exact .ptr
  case own k g sz n c =>
    obtain ⟨⟨k', g'⟩, hm, rfl⟩:=rk0_key (F:=fun p=>.own p.1 p.2 sz n c) ht
    obtain ⟨e0, e1, e2, e3⟩:=h.key k g k' g' hm
    cases hx with
    | pure hp=>cases hp
    | ownOld hlt _ h1=>exact .ownOld (e0 hlt) _ h1
    | own hn hcm ho hs =>
      obtain ⟨arr, e, ha, hsz⟩:=hs
      simp only
      rw [e1 rfl, ← e2];exact .own hn hcm (by rw [e2];exact e3 ho) ⟨arr, e, by rw [h.w, e2];exact ha, hsz⟩
    | ownNil hb=>simp only;rw [e1 rfl];exact .ownNil hb
  case sl k g sz i off n =>
    obtain ⟨⟨k', g'⟩, hm, rfl⟩:=rk0_key (F:=fun p=>.sl p.1 p.2 sz i off n) ht
    obtain ⟨e0, e1, e2, _⟩:=h.key k g k' g' hm
    cases hx with
    | pure hp=>cases hp
    | slOld hlt _ h1=>exact .slOld (e0 hlt) _ h1
    | sl hm=>simp only;rw [e1 rfl, ← e2];exact .sl hm
  case mp k g =>
    obtain ⟨⟨k', g'⟩, hm, rfl⟩:=rk0_key (F:=fun p=>.mp p.1 p.2) ht
    obtain ⟨e0, e1, e2, _⟩:=h.key k g k' g' hm
    cases hx with
    | pure hp=>cases hp
    | mpOld hlt _ h1=>exact .mpOld (e0 hlt) _ h1
    | mp=>simp only;rw [e1 rfl, ← e2];exact .mp
theorem carryR1 (h : AgreeR C C' f) {x x' : AV} {y : Value} (hx : KRel C x y) (ht : rk1 f x = some x') : KRel C' x' y:=by
  cases x<;>try exact carryR0 h hx ht
  rename_i fn fs cs
  simp only [rk1] at ht
  split at ht
  · rename_i a b h1 h2
    simp at ht;subst ht
    have key : ∀ {vf vc : Array Value}, vf.size = fs.length→vc.size = cs.length→(∀ (i : Nat) (x : AV) (y : Value), fs[i]? = some x→vf[i]? = some y→KRel C x y) →
        (∀ (i : Nat) (x : AV) (y : Value), cs[i]? = some x→vc[i]? = some y→KRel C x y)→KRel C' (.func fn a b) (.func fn vf vc):=by
      intro vf vc e1 e2 e3 e4
      obtain ⟨a1, a2⟩:=carryL (carryR0 h) h1 e1 e3
      obtain ⟨b1, b2⟩:=carryL (carryR0 h) h2 e2 e4
      exact .func a1 b1 a2 b2
    cases hx with
    | pure hp=>cases hp with
      | func e1 e2 e3 e4=>exact key e1 e2 (fun i x y a b=>.pure (e3 i x y a b)) (fun i x y a b=>.pure (e4 i x y a b))
    | func e1 e2 e3 e4=>exact key e1 e2 e3 e4
  · simp at ht
theorem carryR2 (h : AgreeR C C' f) {x x' : AV} {y : Value} (hx : KRel C x y) (ht : rk2 f x = some x') : KRel C' x' y:=by
  cases x<;>try exact carryR1 h hx ht
  rename_i cs
  simp only [rk2] at ht
  split at ht
  · rename_i a h1
    simp at ht;subst ht
    cases hx with
    | pure hp=>cases hp with
      | agg hl hp h2 =>
        obtain ⟨a1, a2⟩:=carryL (carryR1 h) h1 hl (fun i x y a b=>.pure (hp i x y a b))
        exact .agg a1 a2 h2
    | agg hl hp h2 =>
      obtain ⟨a1, a2⟩:=carryL (carryR1 h) h1 hl hp
      exact .agg a1 a2 h2
  · simp at ht
theorem carryR3 (h : AgreeR C C' f) {x x' : AV} {y : Value} (hx : KRel C x y) (ht : rk3 f x = some x') : KRel C' x' y:=by
  cases x<;>try exact carryR2 h hx ht
  rename_i cs
  simp only [rk3] at ht
  split at ht
  · rename_i a h1
    simp at ht;subst ht
    cases hx with
    | pure hp=>cases hp with
      | tuple hl hp =>
        obtain ⟨a1, a2⟩:=carryL (carryR2 h) h1 hl (fun i x y a b=>.pure (hp i x y a b))
        exact .tuple a1 a2
    | tuple hl hp =>
      obtain ⟨a1, a2⟩:=carryL (carryR2 h) h1 hl hp
      exact .tuple a1 a2
  · simp at ht
theorem rk0_cells {x y : AV} (h : rk0 f x = some y) : x.cells = [x]∧y.cells = [y]:=by
  cases x<;>simp only [rk0] at h<;>try (simp at h;done)
  case v u=>have e:=Option.some.inj h;subst e;exact ⟨rfl, rfl⟩
  case slice=>have e:=Option.some.inj h;subst e;exact ⟨rfl, rfl⟩
  case cptr=>have e:=Option.some.inj h;subst e;exact ⟨rfl, rfl⟩
  case ptr k g sz i off=>obtain ⟨p, _, rfl⟩:=rk0_key (F:=fun p=>.ptr p.1 p.2 sz i off) h;exact ⟨rfl, rfl⟩
  case own k g sz n c=>obtain ⟨p, _, rfl⟩:=rk0_key (F:=fun p=>.own p.1 p.2 sz n c) h;exact ⟨rfl, rfl⟩
  case sl k g sz i off n=>obtain ⟨p, _, rfl⟩:=rk0_key (F:=fun p=>.sl p.1 p.2 sz i off n) h;exact ⟨rfl, rfl⟩
  case mp k g=>obtain ⟨p, _, rfl⟩:=rk0_key (F:=fun p=>.mp p.1 p.2) h;exact ⟨rfl, rfl⟩
theorem rk1_cells {x y : AV} (h : rk1 f x = some y) : x.cells = [x]∧y.cells = [y]:=by
  cases x with
  | func fn fs cs =>
    simp only [rk1] at h
    split at h
    · have e:=Option.some.inj h;subst e;exact ⟨rfl, rfl⟩
    · simp at h
  | _=>exact rk0_cells (f:=f) (by simpa only [rk1] using h)
theorem rk2_cells {x y : AV} (h : rk2 f x = some y) : y.cells.length = x.cells.length∧∀ (c : Nat) (u : AV), y.cells[c]? = some u→∃ v, x.cells[c]? = some v∧rk1 f v = some u:=by
  have one : rk1 f x = some y→y.cells.length = x.cells.length∧∀ (c : Nat) (u : AV), y.cells[c]? = some u→∃ v, x.cells[c]? = some v∧rk1 f v = some u:=by
    intro h
    obtain ⟨e1, e2⟩:=rk1_cells h
    rw [e1, e2]
    refine ⟨rfl, fun c u hu=>?_⟩
    cases c with
    | zero=>simp at hu;subst hu;exact ⟨x, rfl, h⟩
    | succ c=>simp at hu
  cases x with
  | agg cs =>
    simp only [rk2] at h
    split at h
    · rename_i a h1
      have e:=Option.some.inj h;subst e
      exact ⟨tkL_len h1, tkL_get h1⟩
    · simp at h
  | _=>exact one (by simpa only [rk2] using h)
theorem carryRBox (h : AgreeR C C' f) {k k' : Key} {g g' : Nat} (hm : f k g = some (k', g')) {sz : Nat} {es es' : List AV} (hb : BoxOK C k sz es) (ht : rkBox f sz es = some es') : BoxOK C' k' sz es':=by
  obtain ⟨_, _, e2, e3⟩:=h.key k g k' g' hm
  cases sz with
  | zero =>
    refine ⟨fun h0=>absurd rfl h0, fun _=>?_, fun h0=>absurd rfl h0⟩
    obtain ⟨o, ob, h1, h2⟩:=hb.map rfl
    rw [e2]
    refine ⟨e3 o, ob, by rw [h.w];exact h1, ?_⟩
    cases h2 with
    | map c hl h2 =>
      simp only [rkBox, Option.some.injEq] at ht
      subst ht
      exact (ObjRel.map (R:=KRel C) c hl h2).mono' (fun x y hx=>h.prel hx)
    | iter s pos =>
      simp only [rkBox, Option.some.injEq] at ht
      subst ht
      exact .iter s pos
    | loop hl h2=>simp [rkBox] at ht
  | succ s =>
    simp only [rkBox] at ht
    refine ⟨fun h0 i e he=>?_, fun h0=>absurd h0 (by omega), fun h0 hne=>?_⟩
    · obtain ⟨u, hu, h1⟩:=tkL_get ht i e he
      rw [(rk2_cells h1).1];exact hb.wid h0 i u hu
    · have hne' : es ≠ []:=fun e=>by subst e;simp [tkL] at ht;exact hne ht
      obtain ⟨o, arr, et, ha, hl, hc⟩:=hb.own h0 hne'
      rw [e2, h.w]
      refine ⟨e3 o, arr, et, ha, by rw [tkL_len ht];exact hl, fun i e c x he hx=>?_⟩
      obtain ⟨u, hu, h1⟩:=tkL_get ht i e he
      obtain ⟨v, hv, h2⟩:=(rk2_cells h1).2 c x hx
      obtain ⟨y, f1, f2, f3⟩:=hc i u c v hu hv
      exact ⟨y, f1, carryR1 h f2 h2, f3⟩
theorem rkPre_spec : ∀ {pre pre' : List BoxE}, rkPre f pre = some pre' →
    (∀ p' ∈ pre', ∃ p ∈ pre, f p.1 p.2.1 = some (p'.1, p'.2.1)∧p'.2.2.1 = p.2.2.1∧rkBox f p.2.2.1 p.2.2.2 = some p'.2.2.2) ∧
    ∀ p ∈ pre, ∃ p' ∈ pre', f p.1 p.2.1 = some (p'.1, p'.2.1)∧p'.2.2.1 = p.2.2.1∧rkBox f p.2.2.1 p.2.2.2 = some p'.2.2.2
  | [], pre', h=>by simp [rkPre] at h;subst h;exact ⟨by simp, by simp⟩
  | (k, g, sz, es) :: l, pre', h=>by
    simp only [rkPre] at h
    split at h
    · rename_i p es' l' h0 h1 h2
      simp at h;subst h
      obtain ⟨a, b⟩:=rkPre_spec h2
      refine ⟨fun q hq=>?_, fun q hq=>?_⟩
      · rcases List.mem_cons.1 hq with e|e
        · subst e;exact ⟨_, List.mem_cons_self .., h0, rfl, h1⟩
        · obtain ⟨p, f1, f2⟩:=a q e
          exact ⟨p, List.mem_cons_of_mem _ f1, f2⟩
      · rcases List.mem_cons.1 hq with e|e
        · subst e;exact ⟨_, List.mem_cons_self .., h0, rfl, h1⟩
        · obtain ⟨p, f1, f2⟩:=b q e
          exact ⟨p, List.mem_cons_of_mem _ f1, f2⟩
    · simp at h
end
def keysR : List Rn→List Key
  | []=>[]
  | r :: l=>r.k :: keysR l
def keysR' : List Rn→List Key
  | []=>[]
  | r :: l=>r.k' :: keysR' l
theorem mem_keysR {k : Key} : ∀ {ρ : List Rn}, memK k (keysR ρ) = true↔∃ r ∈ ρ, r.k = k
  | []=>by simp [keysR, memK]
  | r :: l=>by
    have ih:=mem_keysR (k:=k) (ρ:=l)
    rw [memK_true] at ih ⊢
    simp only [keysR, List.mem_cons, ih]
    constructor
    · rintro (e|⟨p, h1, h2⟩)
      · exact ⟨_, .inl rfl, e.symm⟩
      · exact ⟨p, .inr h1, h2⟩
    · rintro ⟨p, e|h1, h2⟩
      · subst e;exact .inl h2.symm
      · exact .inr ⟨p, h1, h2⟩
theorem mem_keysR' {k : Key} : ∀ {ρ : List Rn}, memK k (keysR' ρ) = true↔∃ r ∈ ρ, r.k' = k
  | []=>by simp [keysR', memK]
  | r :: l=>by
    have ih:=mem_keysR' (k:=k) (ρ:=l)
    rw [memK_true] at ih ⊢
    simp only [keysR', List.mem_cons, ih]
    constructor
    · rintro (e|⟨p, h1, h2⟩)
      · exact ⟨_, .inl rfl, e.symm⟩
      · exact ⟨p, .inr h1, h2⟩
    · rintro ⟨p, e|h1, h2⟩
      · subst e;exact .inl h2.symm
      · exact .inr ⟨p, h1, h2⟩
theorem nodupR {ρ : List Rn} (h : nodupK (keysR ρ) = true) : ∀ {r s : Rn}, r ∈ ρ→s ∈ ρ→r.k = s.k→r = s:=by
  induction ρ with
  | nil=>intro r s hr;simp at hr
  | cons a l ih =>
    simp only [keysR, nodupK] at h
    split at h
    · simp at h
    · rename_i hm
      have no : ∀ s ∈ l, s.k ≠ a.k:=fun s hs e=>by
        have:=mem_keysR.2 ⟨s, hs, e⟩
        rw [this] at hm;simp at hm
      intro r s hr hs e
      rcases List.mem_cons.1 hr with e1|e1<;>rcases List.mem_cons.1 hs with e2|e2
      · rw [e1, e2]
      · subst e1;exact absurd e.symm (no s e2)
      · subst e2;exact absurd e (no r e1)
      · exact ih h e1 e2 e
theorem nodupR' {ρ : List Rn} (h : nodupK (keysR' ρ) = true) : ∀ {r s : Rn}, r ∈ ρ→s ∈ ρ→r.k' = s.k'→r = s:=by
  induction ρ with
  | nil=>intro r s hr;simp at hr
  | cons a l ih =>
    simp only [keysR', nodupK] at h
    split at h
    · simp at h
    · rename_i hm
      have no : ∀ s ∈ l, s.k' ≠ a.k':=fun s hs e=>by
        have:=mem_keysR'.2 ⟨s, hs, e⟩
        rw [this] at hm;simp at hm
      intro r s hr hs e
      rcases List.mem_cons.1 hr with e1|e1<;>rcases List.mem_cons.1 hs with e2|e2
      · rw [e1, e2]
      · subst e1;exact absurd e.symm (no s e2)
      · subst e2;exact absurd e (no r e1)
      · exact ih h e1 e2 e
theorem fwdR_some : ∀ {ρ : List Rn} {k : Key} {g : Nat} {p : Key × Nat}, fwdR ρ k g = some p→∃ r ∈ ρ, r.k = k∧p = (r.k', g + r.d)
  | [], k, g, p, h=>by simp [fwdR] at h
  | r :: l, k, g, p, h=>by
    simp only [fwdR] at h
    split at h
    · rename_i hk
      exact ⟨r, List.mem_cons_self .., Key.beq_eq.1 hk, (Option.some.inj h).symm⟩
    · obtain ⟨s, h1, h2⟩:=fwdR_some h
      exact ⟨s, List.mem_cons_of_mem _ h1, h2⟩
theorem bwdR_some {ks : List Key} : ∀ {ρ : List Rn} {k : Key} {g : Nat} {p : Key × Nat}, bwdR ks ρ k g = some p→∃ r ∈ ρ, r.k' = k∧memK r.k ks = true∧r.d ≤ g∧p = (r.k, g - r.d)
  | [], k, g, p, h=>by simp [bwdR] at h
  | r :: l, k, g, p, h=>by
    simp only [bwdR] at h
    split at h
    · rename_i hk
      split at h
      · rename_i h1 h2
        exact ⟨r, List.mem_cons_self .., Key.beq_eq.1 hk, h1, Nat.le_of_ble_eq_true h2, (Option.some.inj h).symm⟩
      · simp at h
    · obtain ⟨s, h1, h2⟩:=bwdR_some h
      exact ⟨s, List.mem_cons_of_mem _ h1, h2⟩
def gensOk (pre pre' : List BoxE) : List Rn→Bool
  | []=>true
  | r :: l=>match Nat.beq (lookE pre' r.k').1 ((lookE pre r.k).1 + r.d) with
    | true=>gensOk pre pre' l
    | false=>false
theorem gensOk_mem {pre pre' : List BoxE} : ∀ {ρ : List Rn}, gensOk pre pre' ρ = true→∀ r ∈ ρ, (lookE pre' r.k').1 = (lookE pre r.k).1 + r.d
  | [], _, r, hr=>by simp at hr
  | s :: l, h, r, hr=>by
    simp only [gensOk] at h
    split at h
    · rename_i hb
      rcases List.mem_cons.1 hr with e|e
      · subst e;exact Nat.eq_of_beq_eq_true hb
      · exact gensOk_mem h r e
    · simp at h
def subK : List Key→List Key→Bool
  | [], _=>true
  | k :: l, ks=>match memK k ks with
    | true=>subK l ks
    | false=>false
theorem subK_mem {ks : List Key} : ∀ {l : List Key}, subK l ks = true→∀ k, memK k l = true→memK k ks = true
  | [], _, k, hk=>by simp [memK] at hk
  | j :: l, h, k, hk=>by
    simp only [subK] at h
    split at h
    · rename_i hb
      rw [memK_true] at hk
      rcases List.mem_cons.1 hk with e|e
      · subst e;exact hb
      · exact subK_mem h k (memK_true.2 e)
    · simp at h
def findR (k : Key) : List Rn→Option Rn
  | []=>none
  | r :: l=>if r.k = k then some r else findR k l
def findR' (k : Key) : List Rn→Option Rn
  | []=>none
  | r :: l=>if r.k' = k then some r else findR' k l
theorem findR_mem {k : Key} : ∀ {ρ : List Rn} {r : Rn}, findR k ρ = some r→r ∈ ρ∧r.k = k
  | [], r, h=>by simp [findR] at h
  | s :: l, r, h=>by
    simp only [findR] at h
    split at h
    · rename_i e;cases h;exact ⟨List.mem_cons_self .., e⟩
    · have:=findR_mem h;exact ⟨List.mem_cons_of_mem _ this.1, this.2⟩
theorem findR'_mem {k : Key} : ∀ {ρ : List Rn} {r : Rn}, findR' k ρ = some r→r ∈ ρ∧r.k' = k
  | [], r, h=>by simp [findR'] at h
  | s :: l, r, h=>by
    simp only [findR'] at h
    split at h
    · rename_i e;cases h;exact ⟨List.mem_cons_self .., e⟩
    · have:=findR'_mem h;exact ⟨List.mem_cons_of_mem _ this.1, this.2⟩
theorem findR_of {ρ : List Rn} (hn : nodupK (keysR ρ) = true) {r : Rn} (hr : r ∈ ρ) : findR r.k ρ = some r:=by
  have ex : ∀ {l : List Rn}, r ∈ l→∃ s, findR r.k l = some s:=by
    intro l;induction l with
    | nil=>intro h;simp at h
    | cons a l ih =>
      intro h
      simp only [findR]
      split
      · exact ⟨_, rfl⟩
      · rename_i e
        rcases List.mem_cons.1 h with e1|e1
        · subst e1;exact absurd rfl e
        · exact ih e1
  obtain ⟨s, hs⟩:=ex hr
  obtain ⟨h1, h2⟩:=findR_mem hs
  rw [hs, nodupR hn h1 hr h2]
theorem findR'_of {ρ : List Rn} (hn : nodupK (keysR' ρ) = true) {r : Rn} (hr : r ∈ ρ) : findR' r.k' ρ = some r:=by
  have ex : ∀ {l : List Rn}, r ∈ l→∃ s, findR' r.k' l = some s:=by
    intro l;induction l with
    | nil=>intro h;simp at h
    | cons a l ih =>
      intro h
      simp only [findR']
      split
      · exact ⟨_, rfl⟩
      · rename_i e
        rcases List.mem_cons.1 h with e1|e1
        · subst e1;exact absurd rfl e
        · exact ih e1
  obtain ⟨s, hs⟩:=ex hr
  obtain ⟨h1, h2⟩:=findR'_mem hs
  rw [hs, nodupR' hn h1 hr h2]
theorem findR'_none {k : Key} {ρ : List Rn} (h : findR' k ρ = none) : ∀ r ∈ ρ, r.k' ≠ k:=by
  induction ρ with
  | nil=>intro r hr;simp at hr
  | cons a l ih =>
    simp only [findR'] at h
    split at h
    · simp at h
    · rename_i e
      intro r hr
      rcases List.mem_cons.1 hr with e1|e1
      · subst e1;exact e
      · exact ih h r e1
section
variable {P : Program} {fid : FuncId} {pre pre' preL post post' : List BoxE} {args args' : List AV} {res res' : AV} {ρ : List Rn}
noncomputable def renC (C : Ctx) (ρ : List Rn) (pre : List BoxE) : Ctx where
  w:=C.w
  imm:=C.imm
  own b:=match C.own b with
    | some (.box k')=>match findR' k' ρ with
      | some r=>if memK r.k (keysE pre) = true then some (.box r.k) else none
      | none=>none
    | _=>none
  gb k:=(lookE pre k).1
  jb k:=match findR k ρ with
    | some r=>C.jb r.k'
    | none=>C.jb k
  gt _:=0
  hw _:=0
theorem renC_own {C : Ctx} {b : Nat} {o : Owner} (h : (renC C ρ pre).own b = some o) : ∃ r ∈ ρ, o = .box r.k∧memK r.k (keysE pre) = true∧C.own b = some (.box r.k'):=by
  simp only [renC] at h
  split at h
  · rename_i k' hk
    split at h
    · rename_i r hr
      split at h
      · rename_i hm
        cases h
        obtain ⟨h1, h2⟩:=findR'_mem hr
        exact ⟨r, h1, rfl, hm, by rw [hk, h2]⟩
      · simp at h
    · simp at h
  · simp at h
open Classical in
noncomputable def renB (C C1 : Ctx) (ρ : List Rn) : Ctx where
  w:=C1.w
  imm:=C1.imm
  own b:=match C1.own b with
    | some (.box k)=>match findR k ρ with
      | some r=>if C1.jb k = b then some (.box r.k') else if b < C.w.heap.size then C.own b else none
      | none=>if b < C.w.heap.size then C.own b else none
    | _=>if b < C.w.heap.size∧¬ Melted C C1 b then C.own b else none
  gb k':=match findR' k' ρ with
    | some r=>C1.gb r.k + r.d
    | none=>C.gb k'
  jb k':=match findR' k' ρ with
    | some r=>C1.jb r.k
    | none=>C.jb k'
  gt:=C.gt
  hw:=C.hw
theorem BoxA.ren (h : BoxA P (.fn fid) pre args res post) (hn : nodupK (keysR ρ) = true) (hn' : nodupK (keysR' ρ) = true) (hg : gensOk pre pre' ρ = true) (hnp : nodupK (keysE pre) = true)
    (hsub : subK (keysE pre') (keysR' ρ) = true) (hpost : subK (keysR ρ) (keysE post) = true) (hnd' : nodupK (keysE pre') = true) (hndp : nodupK (keysE post') = true) (hlen : preL.length ≤ pre'.length∧pre'.take preL.length = preL)
    (hpre : rkPre (bwdR (keysE pre) ρ) preL = some pre) (hargs : tkL (rk2 (bwdR (keysE pre) ρ)) args' = some args) (hres : rk3 (fwdR ρ) res = some res') (hp' : rkPre (fwdR ρ) post = some post') :
    BoxA P (.fn fid) pre' args' res' post':=by
  have hL : ∀ p ∈ preL, p ∈ pre':=fun p hp=>List.mem_of_mem_take (hlen.2 ▸ hp)
  have hgen:=gensOk_mem hg
  obtain ⟨hq1, hq2⟩:=rkPre_spec hpre
  obtain ⟨hr1, hr2⟩:=rkPre_spec hp'
  refine ⟨h.1, fun C w cargs hR hown hk=>?_⟩
  have hw:=hR.cw
  subst hw
  have hgC : ∀ k, C.gb k = (lookE pre' k).1:=fun k=>hR.gb k
  have hA : AgreeR C (renC C ρ pre) (bwdR (keysE pre) ρ):=by
    refine ⟨rfl, rfl, fun k' g' k g hf=>?_⟩
    obtain ⟨r, hr, rfl, hm, hd, e⟩:=bwdR_some hf
    cases e
    have e1 : C.gb r.k' = (lookE pre r.k).1 + r.d:=by rw [hgC, hgen r hr]
    refine ⟨fun hlt=>?_, fun he=>?_, ?_, fun ho=>?_⟩
    · show g' - r.d < (lookE pre r.k).1
      omega
    · show g' - r.d = (lookE pre r.k).1
      omega
    · simp only [renC, findR_of hn hr]
    · simp only [renC, ho, findR'_of hn' hr, if_pos hm]
  have hR0 : Rel 0 (fun b=>b < C.w.heap.size∧(renC C ρ pre).own b = none) C.w (preSt pre) (renC C ρ pre) ⟨#[], []⟩ C.w:={
    cw:=rfl, glob:=hR.glob, size:=rfl, defers:=Marks.nil _ _, slot:=fun i hi=>absurd hi (by omega)
    gb:=fun k=>rfl, gt:=fun k=>rfl, hw:=fun k=>rfl
    box:=fun k sz es hb=>by
      by_cases hm : ∃ p ∈ pre, p.1 = k
      · obtain ⟨p, hp, rfl⟩:=hm
        simp only [preSt, lookE_mem hnp hp, Option.some.injEq, Prod.mk.injEq] at hb
        obtain ⟨rfl, rfl⟩:=hb
        obtain ⟨p', hp', f1, f2, f3⟩:=hq1 p hp
        have hbx:=hR.box p'.1 p'.2.2.1 p'.2.2.2 (by rw [show (preSt pre').box p'.1 = lookE pre' p'.1 from rfl, lookE_mem hnd' (hL p' hp')])
        rw [f2]
        exact carryRBox hA f1 hbx f3
      · simp [preSt, lookE_not hm] at hb
    ownBox:=fun b k hb i=>by
      obtain ⟨r, _, _, _, h1⟩:=renC_own hb
      exact hR.ownBox b _ h1 i
    immLt:=hR.immLt
    ownLt:=fun b o hb=>by
      obtain ⟨r, _, _, _, h1⟩:=renC_own hb
      exact ⟨fun hc=>by rw [hb] at hc;exact absurd hc.2 (by simp), (hR.ownLt b _ h1).2⟩
    below:=Bel.refl _ _
    base:=fun b hb=>hb.1 }
  have hargsR : KRels (renC C ρ pre) args cargs:=by
    obtain ⟨a1, a2⟩:=carryL (carryR2 hA) hargs hk.1 hk.2
    exact ⟨a1, a2⟩
  refine (h.2 (renC C ρ pre) C.w cargs hR0 (fun b o hb=>by obtain ⟨r, _, e, _⟩:=renC_own hb;exact ⟨_, e⟩) hargsR).mono ?_
  rintro e w' ⟨y, S1, C1, rfl, hle, h1, hresK, hpo⟩
  have hcg : ∀ r ∈ ρ, C.gb r.k' = (renC C ρ pre).gb r.k + r.d:=fun r hr=>by rw [hgC, hgen r hr];rfl
  have hcj : ∀ r ∈ ρ, (renC C ρ pre).jb r.k = C.jb r.k':=fun r hr=>by simp only [renC, findR_of hn hr]
  have hold : ∀ b o, C1.own b = some o→b < C.w.heap.size→∃ r ∈ ρ, o = .box r.k∧memK r.k (keysE pre) = true∧C.own b = some (.box r.k'):=fun b o hb hlt=>renC_own (hle.ownOld b o hlt hb)
  have hM : ∀ b, Melted C C1 b→(renB C C1 ρ).own b = none:=fun b hme=>by
    obtain ⟨k0, i, _, hi⟩:=id hme
    simp only [renB]
    split
    · rename_i k hk1
      exact absurd hi (h1.ownBox b k hk1 i)
    · rw [if_neg fun h=>h.2 hme]
  have hLo : ∀ b, b < C.w.heap.size→¬ Melted C C1 b→(renB C C1 ρ).own b = C.own b:=fun b hlt hme=>by
    simp only [renB]
    split
    · rename_i k hk1
      obtain ⟨r, hr, e, _, h2⟩:=hold b _ hk1 hlt
      cases e
      rw [findR_of hn hr]
      simp only
      rw [if_pos hlt, h2]
      split<;>rfl
    · rw [if_pos ⟨hlt, hme⟩]
  have hblk : ∀ b, b < C.w.heap.size→(∀ r ∈ ρ, memK r.k (keysE pre) = true→C.own b ≠ some (.box r.k'))→C1.w.heap[b]? = C.w.heap[b]?:=fun b hlt hno=>by
    rw [h1.cw]
    refine h1.below.block b ⟨hlt, ?_⟩
    cases ho : (renC C ρ pre).own b with
    | none=>rfl
    | some o =>
      obtain ⟨r, hr, _, hm, h2⟩:=renC_own ho
      exact absurd h2 (hno r hr hm)
  have himm : ∀ b i, b < C.w.heap.size→C1.imm b i→C.imm b i∨∃ r ∈ ρ, C.own b = some (.box r.k')∧C.gb r.k' < (renB C C1 ρ).gb r.k':=fun b i hlt hi=>by
    rcases hle.immOld b i hlt hi with h|⟨k, h⟩|⟨k, h3, h4, h5⟩
    · exact .inl h
    · obtain ⟨r, _, e, _⟩:=renC_own h;cases e
    · obtain ⟨r, hr, e, _, h6⟩:=renC_own h3
      cases e
      refine .inr ⟨r, hr, h6, ?_⟩
      simp only [renB, findR'_of hn' hr]
      rw [hcg r hr];omega
  have hmel : ∀ b, b < C.w.heap.size→Melted C C1 b→∃ r ∈ ρ, C.own b = some (.box r.k')∧C.gb r.k' < (renB C C1 ρ).gb r.k':=fun b hlt ⟨k, i, h2, hi⟩=>by
    rcases himm b i hlt hi with h|h
    · exact absurd h (hR.ownBox b k h2 i)
    · exact h
  have hCle : C.le (renB C C1 ρ):=by
    refine ⟨fun b i hi=>hle.imm b i hi, fun k=>?_, fun k e=>?_, fun k=>Nat.le_refl _, fun k _=>Nat.le_refl _, fun k b _ _ hb=>?_, fun k e hb=>?_, hle.size, fun b i hlt hi=>?_, fun b o hlt hb=>?_, fun b hlt ho=>hblk b hlt (fun r _ _=>by rw [ho];simp)⟩
    rotate_left 4
    · rcases himm b i hlt hi with h|⟨r, hr, h2, h3⟩
      · exact .inl h
      · exact .inr (.inr ⟨r.k', h2, hM b ⟨_, i, h2, hi⟩, h3⟩)
    · by_cases hme : Melted C C1 b
      · rw [hM b hme] at hb;cases hb
      · rw [hLo b hlt hme] at hb;exact hb
    · simp only [renB]
      split
      · rename_i r hr
        obtain ⟨h2, rfl⟩:=findR'_mem hr
        rw [hcg r h2]
        have:=hle.gb r.k
        omega
      · exact Nat.le_refl _
    · simp only [renB] at e ⊢
      split at e
      · rename_i r hr
        obtain ⟨h2, rfl⟩:=findR'_mem hr
        rw [hcg r h2] at e
        rw [← hcj r h2]
        exact hle.jb r.k (by omega)
      · rfl
    · obtain ⟨k', e⟩:=hown b _ hb
      cases e
    · have hlt:=(hR.ownLt _ _ hb).2
      have hme : ¬ Melted C C1 (C.jb k):=fun hme=>by
        obtain ⟨r, hr, h2, h3⟩:=hmel _ hlt hme
        rw [hb] at h2;cases h2
        omega
      refine ⟨by rw [hLo _ hlt hme];exact hb, fun arr' e' ha=>?_⟩
      by_cases hm : ∃ r ∈ ρ, memK r.k (keysE pre) = true∧r.k' = k
      · obtain ⟨r, hr, hm, rfl⟩:=hm
        have e2 : (renC C ρ pre).gb r.k = C1.gb r.k:=by
          have e3:=hcg r hr
          simp only [renB, findR'_of hn' hr] at e
          omega
        have ho : (renC C ρ pre).own ((renC C ρ pre).jb r.k) = some (.box r.k):=by
          rw [hcj r hr]
          simp only [renC, hb, findR'_of hn' hr, if_pos hm]
        have:=(hle.bs r.k e2 ho).2 arr' e'
        rw [hcj r hr] at this
        exact this ha
      · refine ⟨arr', e', (hblk _ hlt fun r hr hm' hc=>hm ⟨r, hr, hm', ?_⟩).trans ha, Nat.le_refl _⟩
        rw [hb] at hc;cases hc;rfl
  have hA1 : AgreeR C1 (renB C C1 ρ) (fwdR ρ):=by
    refine ⟨rfl, rfl, fun k g k' g' hf=>?_⟩
    obtain ⟨r, hr, rfl, e⟩:=fwdR_some hf
    cases e
    refine ⟨fun hlt=>?_, fun he=>?_, ?_, fun ho=>?_⟩
    · simp only [renB, findR'_of hn' hr];omega
    · simp only [renB, findR'_of hn' hr];omega
    · simp only [renB, findR'_of hn' hr]
    · simp only [renB, ho, findR_of hn hr, if_true]
  have hput : ∀ p ∈ post', ((preSt pre').puts (wrE post')).box p.1 = (p.2.1, some (p.2.2.1, p.2.2.2)):=puts_wrE_mem post' _ hndp
  have hinP : ∀ r ∈ ρ, ∃ p' ∈ post', p'.1 = r.k'∧p'.2.1 = C1.gb r.k + r.d:=fun r hr=>by
    obtain ⟨p, hp, e⟩:=memK_keysE.1 (subK_mem hpost r.k (mem_keysR.2 ⟨r, hr, rfl⟩))
    obtain ⟨p', h2, f1, f2, f3⟩:=hr2 p hp
    obtain ⟨s, hs, e1, e2⟩:=fwdR_some f1
    have : s = r:=nodupR hn hs hr (by rw [e1, e])
    subst this
    rw [Prod.mk.injEq] at e2
    refine ⟨p', h2, e2.1, ?_⟩
    rw [e2.2, h1.gb, ← e, hpo p hp]
  have hout : ∀ k, findR' k ρ = none→((preSt pre').puts (wrE post')).box k = (0, none):=fun k hk=>by
    have hno : ∀ p' ∈ post', p'.1 ≠ k:=fun p' hp'' e=>by
      obtain ⟨p, _, f1, _⟩:=hr1 p' hp''
      obtain ⟨s, hs, _, e2⟩:=fwdR_some f1
      rw [Prod.mk.injEq] at e2
      exact findR'_none hk s hs (by rw [← e2.1, e])
    refine (puts_wrE_not post' _ fun ⟨p', hp'', e⟩=>hno p' hp'' e).trans ?_
    · refine lookE_not fun ⟨p, hp, e⟩=>?_
      obtain ⟨r, hr, e2⟩:=mem_keysR'.1 (subK_mem hsub p.1 (memK_keysE.2 ⟨p, hp, rfl⟩))
      exact findR'_none hk r hr (by rw [e2, e])
  refine ⟨y, (preSt pre').puts (wrE post'), renB C C1 ρ, rfl, hCle, ?_, carryR3 hA1 hresK hres, fun p hp=>hput p hp⟩
  exact {
    cw:=h1.cw, glob:=hR.globOf hCle.le0 h1.cw, size:=hR.size, defers:=Marks.nil _ _, slot:=fun i hi=>absurd hi (by omega)
    gb:=fun k=>by
      cases hk : findR' k ρ with
      | none =>
        rw [hout k hk]
        simp only [renB, hk]
        rw [hgC]
        rw [lookE_not]
        rintro ⟨p, hp, e⟩
        obtain ⟨r, hr, e2⟩:=mem_keysR'.1 (subK_mem hsub p.1 (memK_keysE.2 ⟨p, hp, rfl⟩))
        exact findR'_none hk r hr (by rw [e2, e])
      | some r =>
        obtain ⟨hr, rfl⟩:=findR'_mem hk
        obtain ⟨p', h2, e1, e2⟩:=hinP r hr
        have:=hput p' h2
        rw [e1] at this
        rw [this]
        simp only [renB, hk]
        exact e2.symm
    gt:=fun k=>by rw [(puts_wrE_slot post' _).2];exact hR.gt k
    hw:=fun k=>by rw [(puts_wrE_slot post' _).2];exact hR.hw k
    box:=fun k sz es hb=>by
      cases hk : findR' k ρ with
      | none=>rw [hout k hk] at hb;simp at hb
      | some r =>
        obtain ⟨hr, rfl⟩:=findR'_mem hk
        obtain ⟨p', h2, e1, e2⟩:=hinP r hr
        have hpp:=hput p' h2
        rw [e1] at hpp
        rw [hpp] at hb
        simp only [Option.some.injEq, Prod.mk.injEq] at hb
        obtain ⟨rfl, rfl⟩:=hb
        obtain ⟨p, hp, f1, f2, f3⟩:=hr1 p' h2
        rw [f2, ← e1]
        exact carryRBox hA1 f1 (h1.box _ _ _ (by rw [hpo p hp])) f3
    ownBox:=fun b k hb i hi=>by
      by_cases hlt : b < C.w.heap.size
      · by_cases hme : Melted C C1 b
        · rw [hM b hme] at hb;cases hb
        · rw [hLo b hlt hme] at hb
          exact hme ⟨k, i, hb, hi⟩
      · simp only [renB] at hb
        split at hb
        · rename_i k' hk'
          exact h1.ownBox b k' hk' i hi
        · simp [hlt] at hb
    immLt:=h1.immLt
    ownLt:=fun b o hb=>by
      by_cases hlt : b < C.w.heap.size
      · by_cases hme : Melted C C1 b
        · rw [hM b hme] at hb;cases hb
        rw [hLo b hlt hme] at hb
        have:=hR.ownLt b o hb
        exact ⟨this.1, Nat.lt_of_lt_of_le hlt h1.below.size⟩
      · refine ⟨fun hc=>hlt hc.1, ?_⟩
        simp only [renB] at hb
        split at hb
        · rename_i k' hk'
          exact (h1.ownLt b _ hk').2
        · simp [hlt] at hb
    below:=h1.below.mono fun b hb=>⟨hb.1, by
      cases ho : (renC C ρ pre).own b with
      | none=>rfl
      | some o =>
        obtain ⟨r, _, _, _, h2⟩:=renC_own ho
        rw [hb.2] at h2;cases h2⟩
    base:=hR.base }
end
end Go.Am
namespace Go.Proofs.YtbpiibdcncfphaaDoor
open Go.Am Go.Proofs Go
def kSb : Bool→Key
  | false=>⟨0, 59, 27⟩
  | true=>⟨1, 59, 27⟩
def kMb : Bool→Key
  | false=>⟨0, 59, 25⟩
  | true=>⟨1, 59, 25⟩
def storeG (b : Bool) (g : Nat) (s : Store) (w : Int) (m : List Amt) (memo : MemoL) : List BoxE:=[(kSb b, g, 27, [storeY s w m (.mp (kMb b) g)]), (kMb b, g, 0, mapX memo)]
def rhoG (b : Bool) (d : Nat) : List Rn:=[⟨kS, kSb b, d⟩, ⟨kM, kMb b, d⟩]
theorem someG_c (b : Bool) (d : Nat) (s : Store) (later : Int) (memo : MemoL) (hg : s.Good) (h0 : 0 ≤ later) (hok : s.memoOk memo) :
    ∃ memo', s.memoOk memo'∧BoxA Tryd.prog (.fn 67) (storeG b (1 + d) s (sumW s.orders) (s.melts later) memo) [.ptr (kSb b) (1 + d) 27 0 0] (boolA (s.someAt later)) (storeG b (1 + d) s (sumW s.orders) (s.melts later) memo'):=by
  obtain ⟨memo', hm', h⟩:=some_c s later memo hg h0 hok
  refine ⟨memo', hm', ?_⟩
  have hp:=meltsTo_len s later _ (Nat.le_refl _) hg.len
  have e : meltsTo s later s.heads.length = s.melts later:=rfl
  rw [e] at hp
  generalize sumW s.orders = w at *
  generalize s.melts later = p at *
  obtain ⟨p0, p1, p2, p3, p4, p5, rfl⟩:=list6 hp
  have hsub : 1 + d - d = 1:=by omega
  have hble : Nat.ble d (1 + d) = true:=Nat.ble_eq_true_of_le (by omega)
  have hbS : bwdR (keysE (storeE s w [p0, p1, p2, p3, p4, p5] memo)) (rhoG b d) (kSb b) (1 + d) = some (kS, 1):=by
    cases b<;>(show (match true, Nat.ble d (1 + d) with|true, true=>some (kS, 1 + d - d)|_, _=>none) = _;rw [hble, hsub])
  have hbM : bwdR (keysE (storeE s w [p0, p1, p2, p3, p4, p5] memo)) (rhoG b d) (kMb b) (1 + d) = some (kM, 1):=by
    cases b<;>(show (match true, Nat.ble d (1 + d) with|true, true=>some (kM, 1 + d - d)|_, _=>none) = _;rw [hble, hsub])
  refine BoxA.ren (ρ:=rhoG b d) (preL:=storeG b (1 + d) s w [p0, p1, p2, p3, p4, p5] memo) h (by cases b<;>rfl) (by cases b<;>rfl) ?_ rfl (by cases b<;>rfl) (by cases b<;>rfl) (by cases b<;>rfl) (by cases b<;>rfl) ⟨Nat.le_refl _, rfl⟩ ?_ ?_ (by rfl) ?_
  · have : Nat.beq (1 + d) (1 + d) = true:=Nat.beq_refl _
    cases b<;>(show (match Nat.beq (1 + d) (1 + d) with|true=>(match Nat.beq (1 + d) (1 + d) with|true=>true|false=>false)|false=>false) = true;rw [this])
  · generalize bwdR (keysE (storeE s w [p0, p1, p2, p3, p4, p5] memo)) (rhoG b d) = f at *
    simp only [storeG, rkPre, hbS, hbM, rkBox, storeY, storeC, amtsC, mapX, List.cons_append, List.nil_append, tkL, rk2, rk1, rk0, intA, headsA, ordersA, rulesN, tokK]
    rfl
  · generalize bwdR (keysE (storeE s w [p0, p1, p2, p3, p4, p5] memo)) (rhoG b d) = f at *
    simp only [tkL, rk2, rk1, rk0, hbS]
  · cases b<;>rfl
theorem lookN_c (b : Bool) (s : Store) (later : Int) (hr : s.small) (hc : s.check.2.2 = 0) (hl : 0 ≤ later) (hl2 : later ≤ 1000000) :
    BoxA Tryd.prog (.fn 59) [] [storeA s, intA later] (.tuple [.ptr (kSb b) (1 + 0) 27 0 0, intA 0]) (storeG b (1 + 0) s (sumW s.orders) (s.melts later) (0, [])):=by
  have h:=lookT_c s later hr hc hl hl2
  have hp:=meltsTo_len s later _ (Nat.le_refl _) (Store.good hc).len
  have e : meltsTo s later s.heads.length = s.melts later:=rfl
  rw [e] at hp
  generalize sumW s.orders = w at *
  generalize s.melts later = p at *
  obtain ⟨p0, p1, p2, p3, p4, p5, rfl⟩:=list6 hp
  exact BoxA.ren (ρ:=rhoG b 0) (preL:=[]) h (by cases b<;>rfl) (by cases b<;>rfl) (by cases b<;>rfl) rfl (by cases b<;>rfl) (by cases b<;>rfl) (by cases b<;>rfl) (by cases b<;>rfl) ⟨Nat.le_refl _, rfl⟩ rfl rfl (by cases b<;>rfl) (by cases b<;>rfl)
theorem lookD_c (b : Bool) (d : Nat) (s' : Store) (w' : Int) (m' : List Amt) (memo' : MemoL) (hm' : m'.length = 6) (s : Store) (later : Int) (hr : s.small) (hc : s.check.2.2 = 0) (hl : 0 ≤ later) (hl2 : later ≤ 1000000) :
    BoxA Tryd.prog (.fn 59) (storeG b (1 + d) s' w' m' memo') [storeA s, intA later] (.tuple [.ptr (kSb b) (1 + (1 + d)) 27 0 0, intA 0]) (storeG b (1 + (1 + d)) s (sumW s.orders) (s.melts later) (0, [])):=by
  have h:=lookT_c s later hr hc hl hl2
  have hp:=meltsTo_len s later _ (Nat.le_refl _) (Store.good hc).len
  have e : meltsTo s later s.heads.length = s.melts later:=rfl
  rw [e] at hp
  generalize sumW s.orders = w at *
  generalize s.melts later = p at *
  obtain ⟨p0, p1, p2, p3, p4, p5, rfl⟩:=list6 hp
  refine BoxA.ren (ρ:=rhoG b (1 + d)) (preL:=[]) h (by cases b<;>rfl) (by cases b<;>rfl) ?_ rfl (by cases b<;>rfl) (by cases b<;>rfl) (by cases b<;>rfl) (by cases b<;>rfl) ⟨Nat.zero_le _, rfl⟩ rfl rfl (by cases b<;>rfl) (by cases b<;>rfl)
  have : Nat.beq (1 + d) (0 + (1 + d)) = true:=by rw [Nat.zero_add];exact Nat.beq_refl _
  cases b<;>(show (match Nat.beq (1 + d) (0 + (1 + d)) with|true=>(match Nat.beq (1 + d) (0 + (1 + d)) with|true=>true|false=>false)|false=>false) = true;rw [this])
end Go.Proofs.YtbpiibdcncfphaaDoor
namespace Go.Proofs.YtbpiibdcncfphaaDoor
open Go.Am Go.Proofs Go
def Store.untilF (s : Store) : Nat→Nat→Nat→Int × Int
  | 0, _, _=>(0, 4)
  | f + 1, day, day0=>if s.melts day = s.melts day0 then s.untilF f (day + 1) day0 else if s.someAt day = true then s.untilF f (day + 1) day else (day, 0)
def Store.untilR (s : Store) : Int × Int:=if s.check.2.2 ≠ 0 then (0, s.check.2.2) else if s.someAt 0 = true then s.untilF 364 1 0 else (0, 9)
def duoA (x : Int × Int) : AV:=.tuple [intA x.1, intA x.2]
theorem untilE_c (s : Store) (hr : s.small) (hc : s.check.2.2 ≠ 0) : PureA Tryd.prog 23 [storeA s] (duoA (0, s.check.2.2)):=by
  have hk:=lookF_c s 0 hr hc
  generalize s.check.2.2 = c at *
  refine pureA_codeB tabOk { l:=0, f:=23, mat:=[59] } mixed call_23 Tryd.func23 (by kernel_rfl) ?_
  conv=>whnf
  repeat (any_goals (first|exact falseI|((first|refine bd ?_ ?_|refine bn ?_ ?_)<;>intro _<;>first|(exfalso;omega)|conv=>whnf)|((first|refine dI ?_|refine okI ?_|refine bt ?_|refine bi (fun _=>?_) (fun _=>?_)|refine bndI ?_|intro _)<;>conv=>whnf)))
  refine ⟨[], ?_⟩
  conv=>whnf
  refine ⟨_, _, hk, ?_⟩
  conv=>whnf
  repeat (any_goals (first|exact falseI|((first|refine bd ?_ ?_|refine bn ?_ ?_)<;>intro _<;>first|(exfalso;omega)|conv=>whnf)|((first|refine dI ?_|refine okI ?_|refine bt ?_|refine bi (fun _=>?_) (fun _=>?_)|refine bndI ?_|intro _)<;>conv=>whnf)))
  (refine ⟨⟨?_⟩, trivial⟩;rfl)
def amtsV : List Amt→List Value
  | []=>[]
  | q :: l=>.int .i64 q.b :: .int .i64 q.t :: .int .i64 q.c :: amtsV l
theorem amts_eqL : ∀ p q : List Amt, eqL (amtsV p) (amtsV q) = decide (p = q)
  | [], []=>rfl
  | [], _ :: _=>by simp [amtsV, eqL]
  | _ :: _, []=>by simp [amtsV, eqL]
  | ⟨a, b, c⟩ :: p, ⟨a', b', c'⟩ :: q=>by
    simp only [amtsV, eqL, eqC, amts_eqL p q]
    rw [Bool.eq_iff_iff]
    simp
    constructor
    · rintro ⟨rfl, rfl, rfl, rfl⟩;simp
    · rintro ⟨⟨rfl, rfl, rfl⟩, rfl⟩;simp
theorem untilN_c (s : Store) (hr : s.small) (hc : s.check.2.2 = 0) (hs : s.someAt 0 = false) : PureA Tryd.prog 23 [storeA s] (duoA (0, 9)):=by
  have hk:=lookN_c false s 0 hr hc (by decide) (by decide)
  have hg:=Store.good hc
  obtain ⟨memo', hm', hso⟩:=someG_c false 0 s 0 (0, []) hg (by decide) (by intro e he;simp at he)
  rw [hs] at hso
  have hp:=meltsTo_len s 0 _ (Nat.le_refl _) hg.len
  have e : meltsTo s 0 s.heads.length = s.melts 0:=rfl
  rw [e] at hp
  generalize sumW s.orders = w at *
  generalize s.melts 0 = p at *
  obtain ⟨p0, p1, p2, p3, p4, p5, rfl⟩:=list6 hp
  refine pureA_codeB tabOk { l:=0, f:=23, mat:=[59, 67] } mixed call_23 Tryd.func23 (by kernel_rfl) ?_
  conv=>whnf
  repeat (any_goals (first|exact falseI|((first|refine bd ?_ ?_|refine bn ?_ ?_)<;>intro _<;>first|(exfalso;omega)|conv=>whnf)|((first|refine dI ?_|refine okI ?_|refine bt ?_|refine bi (fun _=>?_) (fun _=>?_)|refine bndI ?_|intro _)<;>conv=>whnf)))
  refine ⟨[], ?_⟩
  conv=>whnf
  refine ⟨_, _, hk, ?_⟩
  conv=>whnf
  repeat (any_goals (first|exact falseI|((first|refine bd ?_ ?_|refine bn ?_ ?_)<;>intro _<;>first|(exfalso;omega)|conv=>whnf)|((first|refine dI ?_|refine okI ?_|refine bt ?_|refine bi (fun _=>?_) (fun _=>?_)|refine bndI ?_|intro _)<;>conv=>whnf)))
  refine ⟨[kSb false, kMb false], ?_⟩
  conv=>whnf
  refine ⟨_, _, hso, ?_⟩
  conv=>whnf
  repeat (any_goals (first|exact falseI|((first|refine bd ?_ ?_|refine bn ?_ ?_)<;>intro _<;>first|(exfalso;omega)|conv=>whnf)|((first|refine dI ?_|refine okI ?_|refine bt ?_|refine bi (fun _=>?_) (fun _=>?_)|refine bndI ?_|intro _)<;>conv=>whnf)))
  (refine ⟨⟨?_⟩, trivial⟩;rfl)
structure A6 where
  a : Amt
  b : Amt
  c : Amt
  d : Amt
  e : Amt
  f : Amt
def A6.l (x : A6) : List Amt:=[x.a, x.b, x.c, x.d, x.e, x.f]
theorem A6.of {p : List Amt} (h : p.length = 6) : ∃ x : A6, p = x.l:=by
  obtain ⟨a, b, c, d, e, f, rfl⟩:=list6 h
  exact ⟨⟨a, b, c, d, e, f⟩, rfl⟩
structure UState where
  day : Nat
  b : Bool
  d : Nat
  m : A6
  memo : MemoL
  oth : Option (Nat × A6 × MemoL)
def UState.boxes (s : Store) (w : Int) (u : UState) : List (Key × Option BoxS) :=
  preK (storeG u.b (1 + u.d) s w u.m.l u.memo)++match u.oth with
    | none=>[]
    | some x=>preK (storeG (!u.b) (1 + x.1) s w x.2.1.l x.2.2)
set_option maxHeartbeats 4000000 in
theorem untilT_c (s : Store) (hr : s.small) (hc : s.check.2.2 = 0) (hs : s.someAt 0 = true) : PureA Tryd.prog 23 [storeA s] (duoA (s.untilF 364 1 0)):=by
  have hk:=lookN_c false s 0 hr hc (by decide) (by decide)
  have hg:=Store.good hc
  obtain ⟨memo', hm', hso⟩:=someG_c false 0 s 0 (0, []) hg (by decide) (by intro e he;simp at he)
  rw [hs] at hso
  have hp : ∀ later, (s.melts later).length = 6:=fun later=>meltsTo_len s later _ (Nat.le_refl _) hg.len
  have hlN:=fun b (day : Nat) (hd : day ≤ 364)=>lookN_c b s day hr hc (by omega) (by omega)
  have hlD:=fun b d (day : Nat) (m' : A6) memo (hd : day ≤ 364)=>lookD_c b d s (sumW s.orders) m'.l memo rfl s day hr hc (by omega) (by omega)
  have hsG:=fun b d (day : Nat)=>someG_c b d s day (0, []) hg (by omega) (by intro e he;simp at he)
  obtain ⟨R, hR⟩ : ∃ R, R = s.untilF 364 1 0:=⟨_, rfl⟩
  rw [← hR]
  have hF0 : ∀ d d0, s.untilF 0 d d0 = (0, 4):=fun _ _=>rfl
  have hF : ∀ f (d d0 : Nat), s.untilF (f + 1) d d0 = if s.melts d = s.melts d0 then s.untilF f (d + 1) d0 else if s.someAt d = true then s.untilF f (d + 1) d else ((d : Int), 0):=fun _ _ _=>rfl
  have e0 : s.melts 0 = s.melts ((0 : Nat) : Int):=rfl
  rw [e0] at hk hso
  clear hs e0
  generalize sumW s.orders = w at *
  obtain ⟨M, hMe⟩ : ∃ M : Nat→List Amt, ∀ d : Nat, s.melts (d : Int) = M d:=⟨fun d=>s.melts (d : Int), fun _=>rfl⟩
  simp only [hMe] at hk hso hlN hlD hsG hF
  have hp6 : ∀ d, (M d).length = 6:=fun d=>by rw [← hMe];exact hp _
  clear hp hMe
  obtain ⟨m0, h0e⟩:=A6.of (hp6 0)
  rw [h0e] at hk hso
  obtain ⟨p0, p1, p2, p3, p4, p5⟩:=m0
  refine pureA_codeB tabOk { l:=0, f:=23, mat:=[59, 67] } mixed call_23 Tryd.func23 (by kernel_rfl) ?_
  conv=>whnf
  repeat (any_goals (first|exact falseI|((first|refine bd ?_ ?_|refine bn ?_ ?_)<;>intro _<;>first|(exfalso;omega)|conv=>whnf)|((first|refine dI ?_|refine okI ?_|refine bt ?_|refine bi (fun _=>?_) (fun _=>?_)|refine bndI ?_|intro _)<;>conv=>whnf)))
  refine ⟨[], ?_⟩
  conv=>whnf
  refine ⟨_, _, hk, ?_⟩
  conv=>whnf
  repeat (any_goals (first|exact falseI|((first|refine bd ?_ ?_|refine bn ?_ ?_)<;>intro _<;>first|(exfalso;omega)|conv=>whnf)|((first|refine dI ?_|refine okI ?_|refine bt ?_|refine bi (fun _=>?_) (fun _=>?_)|refine bndI ?_|intro _)<;>conv=>whnf)))
  refine ⟨[kSb false, kMb false], ?_⟩
  conv=>whnf
  refine ⟨_, _, hso, ?_⟩
  conv=>whnf
  repeat (any_goals (first|exact falseI|((first|refine bd ?_ ?_|refine bn ?_ ?_)<;>intro _<;>first|(exfalso;omega)|conv=>whnf)|((first|refine dI ?_|refine okI ?_|refine bt ?_|refine bi (fun _=>?_) (fun _=>?_)|refine bndI ?_|intro _)<;>conv=>whnf)))
  refine loopK tabOk { l:=0, f:=23, mat:=[59, 67] } mixed (fun u : UState=>[(6, intA u.day), (4, .ptr (kSb u.b) (1 + u.d) 27 0 0)]) (fun u=>u.boxes s w) (fun _=>[]) (fun u=>u.day ≤ 365∧∃ dm, u.m.l = M dm∧R = s.untilF (365 - u.day) u.day dm) (fun u=>365 - u.day) (⟨1, false, 0, ⟨p0, p1, p2, p3, p4, p5⟩, memo', none⟩ : UState) (by kernel_rfl)
    ⟨by simp, 0, h0e.symm, hR⟩ ?_
  conv=>whnf
  refine ⟨⟨?_, ?_, trivial⟩, ?_⟩
  · repeat (first|exact trivial|refine sc rfl ?_)
  · repeat (first|exact trivial|refine kc rfl ?_)
  clear hR h0e hk hso
  intro ⟨day, b, d, m, memo, oth⟩ ⟨hd, dm, hm, H⟩
  simp only at hd hm H
  conv=>whnf
  refine brP_dec (fun h1=>?_) (fun h1=>?_)
  · have h1 : (day : Int) ≤ 364:=h1
    obtain ⟨f, hf⟩ : ∃ f, 365 - day = f + 1:=⟨364 - day, by omega⟩
    rw [hf, hF] at H
    have hd4 : day ≤ 364:=by omega
    obtain ⟨x, hx⟩:=A6.of (hp6 day)
    cases oth with
    | none =>
      cases b with
      | false =>
        have hlk:=hlN true day hd4
        rw [hx] at hlk
        by_cases hq : x = m
        · subst hq
          have hE:=amts_eqL x.l x.l
          simp only [decide_true] at hE
          rw [if_pos (by rw [hx, hm])] at H
          obtain ⟨x0, x1, x2, x3, x4, x5⟩:=x
          conv=>whnf
          repeat (any_goals (first|exact falseI|((first|refine bd ?_ ?_|refine bn ?_ ?_)<;>intro _<;>first|(exfalso;omega)|conv=>whnf)|((first|refine dI ?_|refine okI ?_|refine bt ?_|refine bi (fun _=>?_) (fun _=>?_)|refine bndI ?_|intro _)<;>conv=>whnf)))
          refine ⟨[], ?_⟩
          conv=>whnf
          refine ⟨_, _, hlk, ?_⟩
          conv=>whnf
          repeat (any_goals (first|exact falseI|((first|refine bd ?_ ?_|refine bn ?_ ?_)<;>intro _<;>first|(exfalso;omega)|conv=>whnf)|((first|refine brP_true hE ?_|refine dI ?_|refine okI ?_|refine bt ?_|refine bi (fun _=>?_) (fun _=>?_)|refine bndI ?_|intro _)<;>conv=>whnf)))
          (refine ⟨⟨day + 1, false, d, ⟨x0, x1, x2, x3, x4, x5⟩, memo, some (0, ⟨x0, x1, x2, x3, x4, x5⟩, (0, []))⟩, ⟨by simp only;omega, dm, hm, by simp only;rw [show 365 - (day + 1) = f by omega];exact H⟩, (by simp only;omega), ?_⟩;(conv=>whnf);refine ⟨?_, ?_, ?_⟩<;>repeat (first|exact trivial|refine sc rfl ?_|refine kn ?_|refine kc rfl ?_|refine sc (by rfl) ?_|refine kc (by rfl) ?_))
        · have hE:=amts_eqL x.l m.l
          have hne : x.l ≠ m.l:=fun h=>hq (by
            obtain ⟨x0, x1, x2, x3, x4, x5⟩:=x
            obtain ⟨m0, m1, m2, m3, m4, m5⟩:=m
            unfold A6.l at h
            simp only [List.cons.injEq] at h
            obtain ⟨rfl, rfl, rfl, rfl, rfl, rfl, _⟩:=h
            rfl)
          rw [decide_eq_false hne] at hE
          rw [if_neg (by rw [hx, ← hm];exact hne)] at H
          obtain ⟨memo2, hm2, hs2⟩:=hsG true (0) day
          rw [hx] at hs2
          obtain ⟨x0, x1, x2, x3, x4, x5⟩:=x
          obtain ⟨m0, m1, m2, m3, m4, m5⟩:=m
          cases hsome : s.someAt day with
          | true =>
            rw [hsome] at hs2 H
            simp only [if_true] at H
            conv=>whnf
            repeat (any_goals (first|exact falseI|((first|refine bd ?_ ?_|refine bn ?_ ?_)<;>intro _<;>first|(exfalso;omega)|conv=>whnf)|((first|refine dI ?_|refine okI ?_|refine bt ?_|refine bi (fun _=>?_) (fun _=>?_)|refine bndI ?_|intro _)<;>conv=>whnf)))
            refine ⟨[], ?_⟩
            conv=>whnf
            refine ⟨_, _, hlk, ?_⟩
            conv=>whnf
            repeat (any_goals (first|exact falseI|((first|refine bd ?_ ?_|refine bn ?_ ?_)<;>intro _<;>first|(exfalso;omega)|conv=>whnf)|((first|refine brP_false hE ?_|refine dI ?_|refine okI ?_|refine bt ?_|refine bi (fun _=>?_) (fun _=>?_)|refine bndI ?_|intro _)<;>conv=>whnf)))
            refine ⟨[kSb true, kMb true], ?_⟩
            conv=>whnf
            refine ⟨_, _, hs2, ?_⟩
            conv=>whnf
            repeat (any_goals (first|exact falseI|((first|refine bd ?_ ?_|refine bn ?_ ?_)<;>intro _<;>first|(exfalso;omega)|conv=>whnf)|((first|refine dI ?_|refine okI ?_|refine bt ?_|refine bi (fun _=>?_) (fun _=>?_)|refine bndI ?_|intro _)<;>conv=>whnf)))
            (refine ⟨⟨day + 1, true, 0, ⟨x0, x1, x2, x3, x4, x5⟩, memo2, some (d, ⟨m0, m1, m2, m3, m4, m5⟩, memo)⟩, ⟨by simp only;omega, day, hx.symm, by simp only;rw [show 365 - (day + 1) = f by omega];exact H⟩, (by simp only;omega), ?_⟩;(conv=>whnf);refine ⟨?_, ?_, ?_⟩<;>repeat (first|exact trivial|refine sc rfl ?_|refine kn ?_|refine kc rfl ?_|refine sc (by rfl) ?_|refine kc (by rfl) ?_))
          | false =>
            rw [hsome] at hs2 H
            simp only [Bool.false_eq_true, if_false] at H
            subst H
            conv=>whnf
            repeat (any_goals (first|exact falseI|((first|refine bd ?_ ?_|refine bn ?_ ?_)<;>intro _<;>first|(exfalso;omega)|conv=>whnf)|((first|refine dI ?_|refine okI ?_|refine bt ?_|refine bi (fun _=>?_) (fun _=>?_)|refine bndI ?_|intro _)<;>conv=>whnf)))
            refine ⟨[], ?_⟩
            conv=>whnf
            refine ⟨_, _, hlk, ?_⟩
            conv=>whnf
            repeat (any_goals (first|exact falseI|((first|refine bd ?_ ?_|refine bn ?_ ?_)<;>intro _<;>first|(exfalso;omega)|conv=>whnf)|((first|refine brP_false hE ?_|refine dI ?_|refine okI ?_|refine bt ?_|refine bi (fun _=>?_) (fun _=>?_)|refine bndI ?_|intro _)<;>conv=>whnf)))
            refine ⟨[kSb true, kMb true], ?_⟩
            conv=>whnf
            refine ⟨_, _, hs2, ?_⟩
            conv=>whnf
            repeat (any_goals (first|exact falseI|((first|refine bd ?_ ?_|refine bn ?_ ?_)<;>intro _<;>first|(exfalso;omega)|conv=>whnf)|((first|refine dI ?_|refine okI ?_|refine bt ?_|refine bi (fun _=>?_) (fun _=>?_)|refine bndI ?_|intro _)<;>conv=>whnf)))
            (refine ⟨⟨?_⟩, trivial⟩;rfl)
      | true =>
        have hlk:=hlN false day hd4
        rw [hx] at hlk
        by_cases hq : x = m
        · subst hq
          have hE:=amts_eqL x.l x.l
          simp only [decide_true] at hE
          rw [if_pos (by rw [hx, hm])] at H
          obtain ⟨x0, x1, x2, x3, x4, x5⟩:=x
          conv=>whnf
          repeat (any_goals (first|exact falseI|((first|refine bd ?_ ?_|refine bn ?_ ?_)<;>intro _<;>first|(exfalso;omega)|conv=>whnf)|((first|refine dI ?_|refine okI ?_|refine bt ?_|refine bi (fun _=>?_) (fun _=>?_)|refine bndI ?_|intro _)<;>conv=>whnf)))
          refine ⟨[], ?_⟩
          conv=>whnf
          refine ⟨_, _, hlk, ?_⟩
          conv=>whnf
          repeat (any_goals (first|exact falseI|((first|refine bd ?_ ?_|refine bn ?_ ?_)<;>intro _<;>first|(exfalso;omega)|conv=>whnf)|((first|refine brP_true hE ?_|refine dI ?_|refine okI ?_|refine bt ?_|refine bi (fun _=>?_) (fun _=>?_)|refine bndI ?_|intro _)<;>conv=>whnf)))
          (refine ⟨⟨day + 1, true, d, ⟨x0, x1, x2, x3, x4, x5⟩, memo, some (0, ⟨x0, x1, x2, x3, x4, x5⟩, (0, []))⟩, ⟨by simp only;omega, dm, hm, by simp only;rw [show 365 - (day + 1) = f by omega];exact H⟩, (by simp only;omega), ?_⟩;(conv=>whnf);refine ⟨?_, ?_, ?_⟩<;>repeat (first|exact trivial|refine sc rfl ?_|refine kn ?_|refine kc rfl ?_|refine sc (by rfl) ?_|refine kc (by rfl) ?_))
        · have hE:=amts_eqL x.l m.l
          have hne : x.l ≠ m.l:=fun h=>hq (by
            obtain ⟨x0, x1, x2, x3, x4, x5⟩:=x
            obtain ⟨m0, m1, m2, m3, m4, m5⟩:=m
            unfold A6.l at h
            simp only [List.cons.injEq] at h
            obtain ⟨rfl, rfl, rfl, rfl, rfl, rfl, _⟩:=h
            rfl)
          rw [decide_eq_false hne] at hE
          rw [if_neg (by rw [hx, ← hm];exact hne)] at H
          obtain ⟨memo2, hm2, hs2⟩:=hsG false (0) day
          rw [hx] at hs2
          obtain ⟨x0, x1, x2, x3, x4, x5⟩:=x
          obtain ⟨m0, m1, m2, m3, m4, m5⟩:=m
          cases hsome : s.someAt day with
          | true =>
            rw [hsome] at hs2 H
            simp only [if_true] at H
            conv=>whnf
            repeat (any_goals (first|exact falseI|((first|refine bd ?_ ?_|refine bn ?_ ?_)<;>intro _<;>first|(exfalso;omega)|conv=>whnf)|((first|refine dI ?_|refine okI ?_|refine bt ?_|refine bi (fun _=>?_) (fun _=>?_)|refine bndI ?_|intro _)<;>conv=>whnf)))
            refine ⟨[], ?_⟩
            conv=>whnf
            refine ⟨_, _, hlk, ?_⟩
            conv=>whnf
            repeat (any_goals (first|exact falseI|((first|refine bd ?_ ?_|refine bn ?_ ?_)<;>intro _<;>first|(exfalso;omega)|conv=>whnf)|((first|refine brP_false hE ?_|refine dI ?_|refine okI ?_|refine bt ?_|refine bi (fun _=>?_) (fun _=>?_)|refine bndI ?_|intro _)<;>conv=>whnf)))
            refine ⟨[kSb false, kMb false], ?_⟩
            conv=>whnf
            refine ⟨_, _, hs2, ?_⟩
            conv=>whnf
            repeat (any_goals (first|exact falseI|((first|refine bd ?_ ?_|refine bn ?_ ?_)<;>intro _<;>first|(exfalso;omega)|conv=>whnf)|((first|refine dI ?_|refine okI ?_|refine bt ?_|refine bi (fun _=>?_) (fun _=>?_)|refine bndI ?_|intro _)<;>conv=>whnf)))
            (refine ⟨⟨day + 1, false, 0, ⟨x0, x1, x2, x3, x4, x5⟩, memo2, some (d, ⟨m0, m1, m2, m3, m4, m5⟩, memo)⟩, ⟨by simp only;omega, day, hx.symm, by simp only;rw [show 365 - (day + 1) = f by omega];exact H⟩, (by simp only;omega), ?_⟩;(conv=>whnf);refine ⟨?_, ?_, ?_⟩<;>repeat (first|exact trivial|refine sc rfl ?_|refine kn ?_|refine kc rfl ?_|refine sc (by rfl) ?_|refine kc (by rfl) ?_))
          | false =>
            rw [hsome] at hs2 H
            simp only [Bool.false_eq_true, if_false] at H
            subst H
            conv=>whnf
            repeat (any_goals (first|exact falseI|((first|refine bd ?_ ?_|refine bn ?_ ?_)<;>intro _<;>first|(exfalso;omega)|conv=>whnf)|((first|refine dI ?_|refine okI ?_|refine bt ?_|refine bi (fun _=>?_) (fun _=>?_)|refine bndI ?_|intro _)<;>conv=>whnf)))
            refine ⟨[], ?_⟩
            conv=>whnf
            refine ⟨_, _, hlk, ?_⟩
            conv=>whnf
            repeat (any_goals (first|exact falseI|((first|refine bd ?_ ?_|refine bn ?_ ?_)<;>intro _<;>first|(exfalso;omega)|conv=>whnf)|((first|refine brP_false hE ?_|refine dI ?_|refine okI ?_|refine bt ?_|refine bi (fun _=>?_) (fun _=>?_)|refine bndI ?_|intro _)<;>conv=>whnf)))
            refine ⟨[kSb false, kMb false], ?_⟩
            conv=>whnf
            refine ⟨_, _, hs2, ?_⟩
            conv=>whnf
            repeat (any_goals (first|exact falseI|((first|refine bd ?_ ?_|refine bn ?_ ?_)<;>intro _<;>first|(exfalso;omega)|conv=>whnf)|((first|refine dI ?_|refine okI ?_|refine bt ?_|refine bi (fun _=>?_) (fun _=>?_)|refine bndI ?_|intro _)<;>conv=>whnf)))
            (refine ⟨⟨?_⟩, trivial⟩;rfl)
    | some q =>
      obtain ⟨qd, qm, qmemo⟩:=q
      have hlD:=hlD
      obtain ⟨y0, y1, y2, y3, y4, y5⟩:=qm
      cases b with
      | false =>
        have hlk:=hlD true qd day ⟨y0, y1, y2, y3, y4, y5⟩ qmemo hd4
        rw [hx] at hlk
        by_cases hq : x = m
        · subst hq
          have hE:=amts_eqL x.l x.l
          simp only [decide_true] at hE
          rw [if_pos (by rw [hx, hm])] at H
          obtain ⟨x0, x1, x2, x3, x4, x5⟩:=x
          conv=>whnf
          repeat (any_goals (first|exact falseI|((first|refine bd ?_ ?_|refine bn ?_ ?_)<;>intro _<;>first|(exfalso;omega)|conv=>whnf)|((first|refine dI ?_|refine okI ?_|refine bt ?_|refine bi (fun _=>?_) (fun _=>?_)|refine bndI ?_|intro _)<;>conv=>whnf)))
          refine ⟨[kSb true, kMb true], ?_⟩
          conv=>whnf
          refine ⟨_, _, hlk, ?_⟩
          conv=>whnf
          repeat (any_goals (first|exact falseI|((first|refine bd ?_ ?_|refine bn ?_ ?_)<;>intro _<;>first|(exfalso;omega)|conv=>whnf)|((first|refine brP_true hE ?_|refine dI ?_|refine okI ?_|refine bt ?_|refine bi (fun _=>?_) (fun _=>?_)|refine bndI ?_|intro _)<;>conv=>whnf)))
          (refine ⟨⟨day + 1, false, d, ⟨x0, x1, x2, x3, x4, x5⟩, memo, some (1 + qd, ⟨x0, x1, x2, x3, x4, x5⟩, (0, []))⟩, ⟨by simp only;omega, dm, hm, by simp only;rw [show 365 - (day + 1) = f by omega];exact H⟩, (by simp only;omega), ?_⟩;(conv=>whnf);refine ⟨?_, ?_, ?_⟩<;>repeat (first|exact trivial|refine sc rfl ?_|refine kn ?_|refine kc rfl ?_|refine sc (by rfl) ?_|refine kc (by rfl) ?_))
        · have hE:=amts_eqL x.l m.l
          have hne : x.l ≠ m.l:=fun h=>hq (by
            obtain ⟨x0, x1, x2, x3, x4, x5⟩:=x
            obtain ⟨m0, m1, m2, m3, m4, m5⟩:=m
            unfold A6.l at h
            simp only [List.cons.injEq] at h
            obtain ⟨rfl, rfl, rfl, rfl, rfl, rfl, _⟩:=h
            rfl)
          rw [decide_eq_false hne] at hE
          rw [if_neg (by rw [hx, ← hm];exact hne)] at H
          obtain ⟨memo2, hm2, hs2⟩:=hsG true (1 + qd) day
          rw [hx] at hs2
          obtain ⟨x0, x1, x2, x3, x4, x5⟩:=x
          obtain ⟨m0, m1, m2, m3, m4, m5⟩:=m
          cases hsome : s.someAt day with
          | true =>
            rw [hsome] at hs2 H
            simp only [if_true] at H
            conv=>whnf
            repeat (any_goals (first|exact falseI|((first|refine bd ?_ ?_|refine bn ?_ ?_)<;>intro _<;>first|(exfalso;omega)|conv=>whnf)|((first|refine dI ?_|refine okI ?_|refine bt ?_|refine bi (fun _=>?_) (fun _=>?_)|refine bndI ?_|intro _)<;>conv=>whnf)))
            refine ⟨[kSb true, kMb true], ?_⟩
            conv=>whnf
            refine ⟨_, _, hlk, ?_⟩
            conv=>whnf
            repeat (any_goals (first|exact falseI|((first|refine bd ?_ ?_|refine bn ?_ ?_)<;>intro _<;>first|(exfalso;omega)|conv=>whnf)|((first|refine brP_false hE ?_|refine dI ?_|refine okI ?_|refine bt ?_|refine bi (fun _=>?_) (fun _=>?_)|refine bndI ?_|intro _)<;>conv=>whnf)))
            refine ⟨[kSb true, kMb true], ?_⟩
            conv=>whnf
            refine ⟨_, _, hs2, ?_⟩
            conv=>whnf
            repeat (any_goals (first|exact falseI|((first|refine bd ?_ ?_|refine bn ?_ ?_)<;>intro _<;>first|(exfalso;omega)|conv=>whnf)|((first|refine dI ?_|refine okI ?_|refine bt ?_|refine bi (fun _=>?_) (fun _=>?_)|refine bndI ?_|intro _)<;>conv=>whnf)))
            (refine ⟨⟨day + 1, true, 1 + qd, ⟨x0, x1, x2, x3, x4, x5⟩, memo2, some (d, ⟨m0, m1, m2, m3, m4, m5⟩, memo)⟩, ⟨by simp only;omega, day, hx.symm, by simp only;rw [show 365 - (day + 1) = f by omega];exact H⟩, (by simp only;omega), ?_⟩;(conv=>whnf);refine ⟨?_, ?_, ?_⟩<;>repeat (first|exact trivial|refine sc rfl ?_|refine kn ?_|refine kc rfl ?_|refine sc (by rfl) ?_|refine kc (by rfl) ?_))
          | false =>
            rw [hsome] at hs2 H
            simp only [Bool.false_eq_true, if_false] at H
            subst H
            conv=>whnf
            repeat (any_goals (first|exact falseI|((first|refine bd ?_ ?_|refine bn ?_ ?_)<;>intro _<;>first|(exfalso;omega)|conv=>whnf)|((first|refine dI ?_|refine okI ?_|refine bt ?_|refine bi (fun _=>?_) (fun _=>?_)|refine bndI ?_|intro _)<;>conv=>whnf)))
            refine ⟨[kSb true, kMb true], ?_⟩
            conv=>whnf
            refine ⟨_, _, hlk, ?_⟩
            conv=>whnf
            repeat (any_goals (first|exact falseI|((first|refine bd ?_ ?_|refine bn ?_ ?_)<;>intro _<;>first|(exfalso;omega)|conv=>whnf)|((first|refine brP_false hE ?_|refine dI ?_|refine okI ?_|refine bt ?_|refine bi (fun _=>?_) (fun _=>?_)|refine bndI ?_|intro _)<;>conv=>whnf)))
            refine ⟨[kSb true, kMb true], ?_⟩
            conv=>whnf
            refine ⟨_, _, hs2, ?_⟩
            conv=>whnf
            repeat (any_goals (first|exact falseI|((first|refine bd ?_ ?_|refine bn ?_ ?_)<;>intro _<;>first|(exfalso;omega)|conv=>whnf)|((first|refine dI ?_|refine okI ?_|refine bt ?_|refine bi (fun _=>?_) (fun _=>?_)|refine bndI ?_|intro _)<;>conv=>whnf)))
            (refine ⟨⟨?_⟩, trivial⟩;rfl)
      | true =>
        have hlk:=hlD false qd day ⟨y0, y1, y2, y3, y4, y5⟩ qmemo hd4
        rw [hx] at hlk
        by_cases hq : x = m
        · subst hq
          have hE:=amts_eqL x.l x.l
          simp only [decide_true] at hE
          rw [if_pos (by rw [hx, hm])] at H
          obtain ⟨x0, x1, x2, x3, x4, x5⟩:=x
          conv=>whnf
          repeat (any_goals (first|exact falseI|((first|refine bd ?_ ?_|refine bn ?_ ?_)<;>intro _<;>first|(exfalso;omega)|conv=>whnf)|((first|refine dI ?_|refine okI ?_|refine bt ?_|refine bi (fun _=>?_) (fun _=>?_)|refine bndI ?_|intro _)<;>conv=>whnf)))
          refine ⟨[kSb false, kMb false], ?_⟩
          conv=>whnf
          refine ⟨_, _, hlk, ?_⟩
          conv=>whnf
          repeat (any_goals (first|exact falseI|((first|refine bd ?_ ?_|refine bn ?_ ?_)<;>intro _<;>first|(exfalso;omega)|conv=>whnf)|((first|refine brP_true hE ?_|refine dI ?_|refine okI ?_|refine bt ?_|refine bi (fun _=>?_) (fun _=>?_)|refine bndI ?_|intro _)<;>conv=>whnf)))
          (refine ⟨⟨day + 1, true, d, ⟨x0, x1, x2, x3, x4, x5⟩, memo, some (1 + qd, ⟨x0, x1, x2, x3, x4, x5⟩, (0, []))⟩, ⟨by simp only;omega, dm, hm, by simp only;rw [show 365 - (day + 1) = f by omega];exact H⟩, (by simp only;omega), ?_⟩;(conv=>whnf);refine ⟨?_, ?_, ?_⟩<;>repeat (first|exact trivial|refine sc rfl ?_|refine kn ?_|refine kc rfl ?_|refine sc (by rfl) ?_|refine kc (by rfl) ?_))
        · have hE:=amts_eqL x.l m.l
          have hne : x.l ≠ m.l:=fun h=>hq (by
            obtain ⟨x0, x1, x2, x3, x4, x5⟩:=x
            obtain ⟨m0, m1, m2, m3, m4, m5⟩:=m
            unfold A6.l at h
            simp only [List.cons.injEq] at h
            obtain ⟨rfl, rfl, rfl, rfl, rfl, rfl, _⟩:=h
            rfl)
          rw [decide_eq_false hne] at hE
          rw [if_neg (by rw [hx, ← hm];exact hne)] at H
          obtain ⟨memo2, hm2, hs2⟩:=hsG false (1 + qd) day
          rw [hx] at hs2
          obtain ⟨x0, x1, x2, x3, x4, x5⟩:=x
          obtain ⟨m0, m1, m2, m3, m4, m5⟩:=m
          cases hsome : s.someAt day with
          | true =>
            rw [hsome] at hs2 H
            simp only [if_true] at H
            conv=>whnf
            repeat (any_goals (first|exact falseI|((first|refine bd ?_ ?_|refine bn ?_ ?_)<;>intro _<;>first|(exfalso;omega)|conv=>whnf)|((first|refine dI ?_|refine okI ?_|refine bt ?_|refine bi (fun _=>?_) (fun _=>?_)|refine bndI ?_|intro _)<;>conv=>whnf)))
            refine ⟨[kSb false, kMb false], ?_⟩
            conv=>whnf
            refine ⟨_, _, hlk, ?_⟩
            conv=>whnf
            repeat (any_goals (first|exact falseI|((first|refine bd ?_ ?_|refine bn ?_ ?_)<;>intro _<;>first|(exfalso;omega)|conv=>whnf)|((first|refine brP_false hE ?_|refine dI ?_|refine okI ?_|refine bt ?_|refine bi (fun _=>?_) (fun _=>?_)|refine bndI ?_|intro _)<;>conv=>whnf)))
            refine ⟨[kSb false, kMb false], ?_⟩
            conv=>whnf
            refine ⟨_, _, hs2, ?_⟩
            conv=>whnf
            repeat (any_goals (first|exact falseI|((first|refine bd ?_ ?_|refine bn ?_ ?_)<;>intro _<;>first|(exfalso;omega)|conv=>whnf)|((first|refine dI ?_|refine okI ?_|refine bt ?_|refine bi (fun _=>?_) (fun _=>?_)|refine bndI ?_|intro _)<;>conv=>whnf)))
            (refine ⟨⟨day + 1, false, 1 + qd, ⟨x0, x1, x2, x3, x4, x5⟩, memo2, some (d, ⟨m0, m1, m2, m3, m4, m5⟩, memo)⟩, ⟨by simp only;omega, day, hx.symm, by simp only;rw [show 365 - (day + 1) = f by omega];exact H⟩, (by simp only;omega), ?_⟩;(conv=>whnf);refine ⟨?_, ?_, ?_⟩<;>repeat (first|exact trivial|refine sc rfl ?_|refine kn ?_|refine kc rfl ?_|refine sc (by rfl) ?_|refine kc (by rfl) ?_))
          | false =>
            rw [hsome] at hs2 H
            simp only [Bool.false_eq_true, if_false] at H
            subst H
            conv=>whnf
            repeat (any_goals (first|exact falseI|((first|refine bd ?_ ?_|refine bn ?_ ?_)<;>intro _<;>first|(exfalso;omega)|conv=>whnf)|((first|refine dI ?_|refine okI ?_|refine bt ?_|refine bi (fun _=>?_) (fun _=>?_)|refine bndI ?_|intro _)<;>conv=>whnf)))
            refine ⟨[kSb false, kMb false], ?_⟩
            conv=>whnf
            refine ⟨_, _, hlk, ?_⟩
            conv=>whnf
            repeat (any_goals (first|exact falseI|((first|refine bd ?_ ?_|refine bn ?_ ?_)<;>intro _<;>first|(exfalso;omega)|conv=>whnf)|((first|refine brP_false hE ?_|refine dI ?_|refine okI ?_|refine bt ?_|refine bi (fun _=>?_) (fun _=>?_)|refine bndI ?_|intro _)<;>conv=>whnf)))
            refine ⟨[kSb false, kMb false], ?_⟩
            conv=>whnf
            refine ⟨_, _, hs2, ?_⟩
            conv=>whnf
            repeat (any_goals (first|exact falseI|((first|refine bd ?_ ?_|refine bn ?_ ?_)<;>intro _<;>first|(exfalso;omega)|conv=>whnf)|((first|refine dI ?_|refine okI ?_|refine bt ?_|refine bi (fun _=>?_) (fun _=>?_)|refine bndI ?_|intro _)<;>conv=>whnf)))
            (refine ⟨⟨?_⟩, trivial⟩;rfl)
  · have h1 : ¬ (day : Int) ≤ 364:=h1
    have : day = 365:=by omega
    subst this
    simp only [Nat.sub_self, hF0] at H
    subst H
    cases oth with
    | none =>
      conv=>whnf
      repeat (any_goals (first|exact falseI|((first|refine bd ?_ ?_|refine bn ?_ ?_)<;>intro _<;>first|(exfalso;omega)|conv=>whnf)|((first|refine dI ?_|refine okI ?_|refine bt ?_|refine bi (fun _=>?_) (fun _=>?_)|refine bndI ?_|intro _)<;>conv=>whnf)))
      (refine ⟨⟨?_⟩, trivial⟩;rfl)
    | some q =>
      conv=>whnf
      repeat (any_goals (first|exact falseI|((first|refine bd ?_ ?_|refine bn ?_ ?_)<;>intro _<;>first|(exfalso;omega)|conv=>whnf)|((first|refine dI ?_|refine okI ?_|refine bt ?_|refine bi (fun _=>?_) (fun _=>?_)|refine bndI ?_|intro _)<;>conv=>whnf)))
      (refine ⟨⟨?_⟩, trivial⟩;rfl)
theorem untilTop_c (s : Store) (hr : s.small) : PureA Tryd.prog 23 [storeA s] (duoA s.untilR):=by
  unfold Store.untilR
  by_cases hc : s.check.2.2 = 0
  · rw [if_neg (fun h=>h hc)]
    by_cases hs : s.someAt 0 = true
    · rw [if_pos hs];exact untilT_c s hr hc hs
    · rw [if_neg hs];exact untilN_c s hr hc (Bool.eq_false_iff.2 hs)
  · rw [if_pos hc]
    exact untilE_c s hr hc
end Go.Proofs.YtbpiibdcncfphaaDoor
namespace Go.Proofs.YtbpiibdcncfphaaDoor
open Go.Am Go.Proofs Go
theorem ounces_c (a b c : Int) : PureA Tryd.prog 22 [intA a, intA b, intA c] (amtA ⟨a, b, c⟩):=by
  refine pureA_codeB tabOk { l:=0, f:=22 } mixed call_22 Tryd.func22 (by kernel_rfl) ?_
  conv=>whnf
  repeat (any_goals (first|exact falseI|((first|refine bd ?_ ?_|refine bn ?_ ?_)<;>intro _<;>first|(exfalso;omega)|conv=>whnf)|((first|refine dI ?_|refine okI ?_|refine bt ?_|refine bi (fun _=>?_) (fun _=>?_)|refine bndI ?_|intro _)<;>conv=>whnf)))
  (refine ⟨⟨?_⟩, trivial⟩;rfl)
theorem spanL_c (a b : Int) : PureA Tryd.prog 66 [intA a, intA b] (spanA a b):=by
  refine pureA_codeB tabOk { l:=0, f:=66 } mixed call_66 Tryd.func66 (by kernel_rfl) ?_
  conv=>whnf
  repeat (any_goals (first|exact falseI|((first|refine bd ?_ ?_|refine bn ?_ ?_)<;>intro _<;>first|(exfalso;omega)|conv=>whnf)|((first|refine dI ?_|refine okI ?_|refine bt ?_|refine bi (fun _=>?_) (fun _=>?_)|refine bndI ?_|intro _)<;>conv=>whnf)))
  (refine ⟨⟨?_⟩, trivial⟩;rfl)
def storeD (pale : Bool) : Store:=⟨match pale with|true=>⟨10, 4, 0⟩|false=>⟨10, 4, 2⟩, 30,
  [⟨⟨#[100, 117, 107, 101]⟩, ⟨6, 2, 2⟩, 45, false⟩, ⟨⟨#[116, 104, 105, 101, 102]⟩, ⟨8, 4, 0⟩, 0, false⟩, ⟨⟨#[113, 117, 101, 101, 110]⟩, ⟨9, 1, 2⟩, 0, true⟩],
  [⟨⟨#[98, 105, 115, 104, 111, 112]⟩, 12, 100, 300, 50, 150⟩, ⟨⟨#[99, 108, 111, 119, 110]⟩, 6, 150, 250, 50, 200⟩]⟩
theorem storeD_small (b : Bool) : (storeD b).small:=by
  unfold Store.small storeD
  refine ⟨by simp, by simp, ?_, ?_⟩
  · intro h hh
    simp only [List.mem_cons, List.not_mem_nil, or_false] at hh
    rcases hh with rfl|rfl|rfl<;>decide
  · intro h hh
    simp only [List.mem_cons, List.not_mem_nil, or_false] at hh
    rcases hh with rfl|rfl<;>decide
theorem storeD_c (b : Bool) : PureA Tryd.prog 21 [boolA b] (storeA (storeD b)):=by
  cases b
  · refine pureA_codeB tabOk { l:=0, f:=21 } mixed call_21 Tryd.func21 (by kernel_rfl) ?_
    conv=>whnf
    repeat (any_goals (first|exact falseI|((first|refine bd ?_ ?_|refine bn ?_ ?_)<;>intro _<;>first|(exfalso;omega)|conv=>whnf)|((first|refine callP_a (ounces_c _ _ _) ?_|refine callP_a (spanL_c _ _) ?_|refine dI ?_|refine okI ?_|refine bt ?_|refine bi (fun _=>?_) (fun _=>?_)|refine bndI ?_|intro _)<;>conv=>whnf)))
    (refine ⟨⟨?_⟩, trivial⟩;rfl)
  · refine pureA_codeB tabOk { l:=0, f:=21 } mixed call_21 Tryd.func21 (by kernel_rfl) ?_
    conv=>whnf
    repeat (any_goals (first|exact falseI|((first|refine bd ?_ ?_|refine bn ?_ ?_)<;>intro _<;>first|(exfalso;omega)|conv=>whnf)|((first|refine callP_a (ounces_c _ _ _) ?_|refine callP_a (spanL_c _ _) ?_|refine dI ?_|refine okI ?_|refine bt ?_|refine bi (fun _=>?_) (fun _=>?_)|refine bndI ?_|intro _)<;>conv=>whnf)))
    (refine ⟨⟨?_⟩, trivial⟩;rfl)
theorem ev_pour : (storeD false).pourR = ([0], ⟨5, 2, 1⟩, 0):=by decide +kernel
theorem ev_lists : (storeD false).listsR = ([[0], [1], [0, 1]], 0):=by decide +kernel
theorem ev_doubt : (storeD false).doubtR = ([], [0, 1], 0):=by decide +kernel
theorem ev_lack : (storeD false).lackR = (0, 2, 0):=by decide +kernel
theorem ev_until : (storeD true).untilR = (15, 0):=by decide +kernel
theorem ev_melt : (storeD false).meltedA 0 = .tuple [amtA ⟨7, 2, 1⟩, intA 0]:=by
  have h : (storeD false).check.2.2 = 0:=by decide +kernel
  unfold Store.meltedA
  rfl
theorem ev_kettle : (storeD false).kettle [0] ⟨5, 2, 1⟩ = (⟨12, 4, 2⟩, 0):=by decide +kernel
theorem ev_suits1 : (storeD false).suits [0] ⟨5, 2, 1⟩ = (0, 4):=by decide +kernel
theorem ev_suits2 : (storeD false).suits [] ⟨10, 4, 2⟩ = (0, 9):=by decide +kernel
theorem ev_suits3 : (storeD false).suits [0] ⟨10, 0, 0⟩ = (1, 0):=by decide +kernel
theorem suitsN_c (s : Store) (add : Amt) (hr : s.small) : PureA Tryd.prog 19 [storeA s, nilS, amtA add] (pairI (s.suits [] add)) :=
  (suits_c s [] add hr (by simp)).args (.cons (Wk.refl _) (.cons (Wk.nil 1) (.cons (Wk.refl _) trivial)))
end Go.Proofs.YtbpiibdcncfphaaDoor
namespace Go.Proofs.YtbpiibdcncfphaaDoor
open Go.Am Go.Proofs Go
set_option maxHeartbeats 4000000 in
set_option maxRecDepth 100000 in
theorem Awake_c : PureA Tryd.prog 18 [] (boolA true):=by
  have s1:=storeD_c false
  have s2:=storeD_c true
  have hs:=storeD_small false
  have m:=melted_c (storeD false) 0 hs
  rw [ev_melt] at m
  have k:=kettle_c (storeD false) [0] ⟨5, 2, 1⟩ hs (by simp)
  rw [ev_kettle] at k
  have t1:=suits_c (storeD false) [0] ⟨5, 2, 1⟩ hs (by simp)
  rw [ev_suits1] at t1
  have t2:=suitsN_c (storeD false) ⟨10, 4, 2⟩ hs
  rw [ev_suits2] at t2
  have t3:=suits_c (storeD false) [0] ⟨10, 0, 0⟩ hs (by simp)
  rw [ev_suits3] at t3
  have p:=pourTop_c (storeD false) hs
  rw [ev_pour] at p
  have l:=listsTop_c (storeD false) hs
  rw [ev_lists] at l
  have d : PureA Tryd.prog 33 [storeA (storeD false)] (doubtA (storeD false).doubtR):=doubtTop_c (storeD false) hs
  rw [ev_doubt] at d
  have a:=lackTop_c (storeD false) hs
  rw [ev_lack] at a
  have u:=untilTop_c (storeD true) (storeD_small true)
  rw [ev_until] at u
  have i1:=ints_c [0] [0] (by simp) (by simp)
  have i2:=ints_c [0, 1] [0, 1] (by simp) (by simp)
  have i3:=lists_c [[0], [1], [0, 1]] [[0], [1], [0, 1]] (by simp) (by simp) (by simp) (by simp)
  clear hs
  refine pureA_codeB tabOk { l:=0, f:=18 } mixed call_18 Tryd.func18 (by kernel_rfl) ?_
  conv=>whnf
  repeat (any_goals (first|exact falseI|((first|refine bd ?_ ?_|refine bn ?_ ?_)<;>intro _<;>first|(exfalso;omega)|conv=>whnf)|((first|refine callP_a s1 ?_|refine callP_a s2 ?_|refine callP_a (ounces_c _ _ _) ?_|refine callP_a m ?_|refine callP_a k ?_|refine callP_a t1 ?_|refine callP_a t2 ?_|refine callP_a t3 ?_|refine callP_a p ?_|refine callP_a l ?_|refine callP_a d ?_|refine callP_a a ?_|refine callP_a u ?_|refine callP_a i1 ?_|refine callP_a i2 ?_|refine callP_a i3 ?_|refine dI ?_|refine okI ?_|refine bt ?_|refine bi (fun _=>?_) (fun _=>?_)|refine bndI ?_|intro _)<;>conv=>whnf)))
  (refine ⟨⟨?_⟩, trivial⟩;rfl)
end Go.Proofs.YtbpiibdcncfphaaDoor
namespace Go.Proofs.YtbpiibdcncfphaaDoor
open Go.Am Go.Proofs Go
end Go.Proofs.YtbpiibdcncfphaaDoor
namespace Go.Proofs.YtbpiibdcncfphaaDoor
open Go.Am Go.Proofs Go Go.ChangeShapes Go.WideShapes Go.RowKit
section
variable {H : Type} {enc : TypeId × Value→H} {W : World} {sp : Nat→Bool} {held : Bool}
theorem two {α : Type} {l : List α} (h : l.length = 2) : ∃ a b, l = [a, b] :=
  match l, h with
  | [a, b], _=>⟨a, b, rfl⟩
end
end Go.Proofs.YtbpiibdcncfphaaDoor
namespace Go.Proofs.YtbpiibdcncfphaaDoor
open Go.Am Go.Proofs Go
theorem foldHi_spec {a : Int} (ha : 0 ≤ a) : ∀ (hs : List Int) (l : Int), (∀ h ∈ hs, 0 ≤ h)→0 ≤ l→match foldHi a hs l with
    | none=>∀ W : Int, ¬ ∀ h ∈ hs, 1000 * a ≤ h * W
    | some L=>l ≤ L∧∀ W : Int, 0 ≤ W→((l ≤ W∧∀ h ∈ hs, 1000 * a ≤ h * W)↔L ≤ W)
  | [], l, _, hl=>by simp [foldHi]
  | h :: hs, l, h0, hl=>by
    have hh:=h0 h (List.mem_cons_self ..)
    simp only [foldHi]
    by_cases hp : 0 < h
    · rw [if_pos hp]
      have hq : ∀ W : Int, (1000 * a + h - 1).tdiv h ≤ W↔1000 * a ≤ h * W:=by
        intro W
        rw [Int.tdiv_eq_ediv_of_nonneg (by omega)]
        constructor
        · intro hW
          have h1:=Int.lt_ediv_add_one_mul_self (1000 * a + h - 1) hp
          have h2 : ((1000 * a + h - 1) / h + 1) * h ≤ (W + 1) * h:=Int.mul_le_mul_of_nonneg_right (by omega) (by omega)
          have h3 : (W + 1) * h = h * W + h:=by rw [Int.add_mul, Int.one_mul, Int.mul_comm]
          omega
        · intro hW
          have h1 : (1000 * a + h - 1) / h < W + 1:=Int.ediv_lt_of_lt_mul hp (by
            have h3 : (W + 1) * h = h * W + h:=by rw [Int.add_mul, Int.one_mul, Int.mul_comm]
            omega)
          omega
      have hql : 0 ≤ max l ((1000 * a + h - 1).tdiv h):=by omega
      have ih:=foldHi_spec ha hs _ (fun x hx=>h0 x (List.mem_cons_of_mem _ hx)) hql
      cases hf : foldHi a hs (max l ((1000 * a + h - 1).tdiv h)) with
      | none =>
        rw [hf] at ih
        intro W hW
        exact ih W fun x hx=>hW x (List.mem_cons_of_mem _ hx)
      | some L =>
        rw [hf] at ih
        refine ⟨by have:=ih.1;omega, fun W hW0=>?_⟩
        rw [← ih.2 W hW0]
        have:=hq W
        simp only [List.forall_mem_cons]
        constructor
        · rintro ⟨h1, h2, h3⟩
          exact ⟨by have:=this.2 h2;omega, h3⟩
        · rintro ⟨h1, h3⟩
          exact ⟨by omega, this.1 (by omega), h3⟩
    · have : h = 0:=by omega
      subst this
      rw [if_neg hp]
      by_cases hpa : 0 < a
      · rw [if_pos hpa]
        intro W hW
        have:=hW 0 (List.mem_cons_self ..)
        omega
      · rw [if_neg hpa]
        have : a = 0:=by omega
        subst this
        have ih:=foldHi_spec (a:=0) (by omega) hs l (fun x hx=>h0 x (List.mem_cons_of_mem _ hx)) hl
        cases hf : foldHi 0 hs l with
        | none =>
          rw [hf] at ih
          intro W hW
          exact ih W fun x hx=>hW x (List.mem_cons_of_mem _ hx)
        | some L =>
          rw [hf] at ih
          refine ⟨ih.1, fun W hW0=>?_⟩
          rw [← ih.2 W hW0]
          simp only [List.forall_mem_cons]
          constructor
          · rintro ⟨h1, _, h3⟩;exact ⟨h1, h3⟩
          · rintro ⟨h1, h3⟩;exact ⟨h1, by omega, h3⟩
theorem enough_iff {s : Store} {k : Amt} : s.enough k = true↔(∀ o ∈ s.orders, (o.tlo * k.weight ≤ 1000 * k.t∧1000 * k.t ≤ o.thi * k.weight)∧o.clo * k.weight ≤ 1000 * k.c∧1000 * k.c ≤ o.chi * k.weight)∧sumW s.orders ≤ k.weight:=by
  unfold Store.enough Amt.fits within
  simp [Bool.and_eq_true]
theorem add_weight (k : Amt) (n : Int) : (k.add ⟨n, 0, 0⟩).weight = k.weight + n:=by
  unfold Amt.add Amt.weight;simp only;omega
theorem bees_spec {s : Store} {k : Amt} (hg : s.Good) (hk : k.upto 1000000) :
    ((s.bees k).2 = true→0 ≤ (s.bees k).1∧(s.bees k).1 ≤ s.lots.b∧s.enough (k.add ⟨(s.bees k).1, 0, 0⟩) = true) ∧
    ∀ n, 0 ≤ n→n ≤ s.lots.b→s.enough (k.add ⟨n, 0, 0⟩) = true→(s.bees k).2 = true∧(s.bees k).1 ≤ n:=by
  obtain ⟨k1, k2, k3⟩:=hk
  have hs:=sumW_le s.orders hg.orders
  have hw : 0 ≤ k.weight∧k.weight ≤ 3000000:=by unfold Amt.weight;omega
  have hth : ∀ h ∈ (s.orders.drop 0).map (·.thi), 0 ≤ h:=by
    intro h hh
    obtain ⟨o, ho, rfl⟩:=List.mem_map.1 hh
    have:=(hg.orders o (by simpa using ho)).2.1
    omega
  have hch : ∀ h ∈ (s.orders.drop 0).map (·.chi), 0 ≤ h:=by
    intro h hh
    obtain ⟨o, ho, rfl⟩:=List.mem_map.1 hh
    have:=(hg.orders o (by simpa using ho)).2.2
    omega
  have f1:=foldHi_spec k2.1 _ (max k.weight (sumW s.orders)) hth (by omega)
  have hE : ∀ n, s.enough (k.add ⟨n, 0, 0⟩) = true↔(∀ o ∈ s.orders, (o.tlo * (k.weight + n) ≤ 1000 * k.t∧1000 * k.t ≤ o.thi * (k.weight + n))∧o.clo * (k.weight + n) ≤ 1000 * k.c∧1000 * k.c ≤ o.chi * (k.weight + n))∧sumW s.orders ≤ k.weight + n:=by
    intro n
    rw [enough_iff, add_weight]
    simp only [Amt.add, Int.add_zero]
  simp only [List.drop_zero, List.mem_map, forall_exists_index, and_imp, forall_apply_eq_imp_iff₂] at f1
  unfold Store.bees Work.hi1
  simp only [Store.work, List.drop_zero]
  cases e1 : foldHi k.t (s.orders.map (·.thi)) (max k.weight (sumW s.orders)) with
  | none =>
    rw [e1] at f1
    refine ⟨by simp, fun n h0 h1 hn=>?_⟩
    exact absurd (fun o ho=>((hE n).1 hn).1 o ho |>.1.2) (f1 (k.weight + n))
  | some l1 =>
    rw [e1] at f1
    obtain ⟨hl1, f1⟩:=f1
    have f2:=foldHi_spec k3.1 _ l1 hch (by omega)
    simp only [List.drop_zero, List.mem_map, forall_exists_index, and_imp, forall_apply_eq_imp_iff₂] at f2
    unfold Work.hi2
    simp only [List.drop_zero]
    cases e2 : foldHi k.c (s.orders.map (·.chi)) l1 with
    | none =>
      rw [e2] at f2
      refine ⟨by simp, fun n h0 h1 hn=>?_⟩
      exact absurd (fun o ho=>((hE n).1 hn).1 o ho |>.2.2) (f2 (k.weight + n))
    | some L =>
      rw [e2] at f2
      obtain ⟨hL, f2⟩:=f2
      have hLall:=(f2 L (by omega)).2 (Int.le_refl _)
      have hl1all:=(f1 L (by omega)).2 (by omega)
      unfold Work.lo1 Work.lo2 Work.ret
      simp only [List.drop_zero]
      by_cases b1 : (s.orders.any fun o=>decide (1000 * k.t < o.tlo * L)) = true
      · rw [if_pos b1]
        refine ⟨by simp, fun n h0 h1 hn=>?_⟩
        obtain ⟨q1, q2⟩:=(hE n).1 hn
        have hLn:=(f2 (k.weight + n) (by omega)).1 ⟨(f1 (k.weight + n) (by omega)).1 ⟨by omega, fun o ho=>(q1 o ho).1.2⟩, fun o ho=>(q1 o ho).2.2⟩
        rw [List.any_eq_true] at b1
        obtain ⟨o, ho, hb⟩:=b1
        have hb:=of_decide_eq_true hb
        have hm:=(hg.orders o ho).2.1
        have : o.tlo * L ≤ o.tlo * (k.weight + n):=Int.mul_le_mul_of_nonneg_left hLn hm.1
        have:=(q1 o ho).1.1
        omega
      · rw [if_neg b1]
        by_cases b2 : (s.orders.any fun o=>decide (1000 * k.c < o.clo * L)) = true
        · rw [if_pos b2]
          refine ⟨by simp, fun n h0 h1 hn=>?_⟩
          obtain ⟨q1, q2⟩:=(hE n).1 hn
          have hLn:=(f2 (k.weight + n) (by omega)).1 ⟨(f1 (k.weight + n) (by omega)).1 ⟨by omega, fun o ho=>(q1 o ho).1.2⟩, fun o ho=>(q1 o ho).2.2⟩
          rw [List.any_eq_true] at b2
          obtain ⟨o, ho, hb⟩:=b2
          have hb:=of_decide_eq_true hb
          have hm:=(hg.orders o ho).2.2
          have : o.clo * L ≤ o.clo * (k.weight + n):=Int.mul_le_mul_of_nonneg_left hLn hm.1
          have:=(q1 o ho).2.1
          omega
        · rw [if_neg b2]
          simp only [decide_eq_true_eq]
          have c1:=fun o ho=>List.any_eq_false.1 (Bool.eq_false_iff.2 b1) o ho
          have c2:=fun o ho=>List.any_eq_false.1 (Bool.eq_false_iff.2 b2) o ho
          simp only [decide_eq_true_eq] at c1 c2
          refine ⟨fun hle=>⟨by omega, hle, (hE _).2 ?_⟩, fun n h0 h1 hn=>?_⟩
          · rw [show k.weight + (L - k.weight) = L by omega]
            exact ⟨fun o ho=>⟨⟨by have:=c1 o ho;omega, hl1all.2 o ho⟩, by have:=c2 o ho;omega, hLall.2 o ho⟩, by omega⟩
          · obtain ⟨q1, q2⟩:=(hE n).1 hn
            have hLn:=(f2 (k.weight + n) (by omega)).1 ⟨(f1 (k.weight + n) (by omega)).1 ⟨by omega, fun o ho=>(q1 o ho).1.2⟩, fun o ho=>(q1 o ho).2.2⟩
            omega
end Go.Proofs.YtbpiibdcncfphaaDoor
namespace Go.Proofs.YtbpiibdcncfphaaDoor
open Go.Am Go.Proofs Go
structure Store.Feas (s : Store) (base a : Amt) : Prop where
  b : 0 ≤ a.b∧a.b ≤ s.lots.b
  t : 0 ≤ a.t∧a.t ≤ s.lots.t
  c : 0 ≤ a.c∧a.c ≤ s.lots.c
  en : s.enough (base.add a) = true
def Amt.lt (a b : Amt) : Prop:=a.weight < b.weight∨a.weight = b.weight∧(a.b < b.b∨a.b = b.b∧(a.t < b.t∨a.t = b.t∧a.c < b.c))
theorem cmpL3 (a b : Amt) : cmpL [a.b, a.t, a.c] [b.b, b.t, b.c] < 0↔(a.b < b.b∨a.b = b.b∧(a.t < b.t∨a.t = b.t∧a.c < b.c)):=by
  simp only [cmpL]
  have h : ∀ x y : Int, (cmpI x y = 0↔x = y)∧(cmpI x y < 0↔x < y):=by
    intro x y
    unfold cmpI
    split
    · omega
    · split<;>omega
  obtain ⟨b1, b2⟩:=h a.b b.b
  obtain ⟨t1, t2⟩:=h a.t b.t
  obtain ⟨c1, c2⟩:=h a.c b.c
  split
  · split
    · split<;>omega
    · omega
  · omega
theorem better_iff (x best : Poured) : Poured.better x best = true↔best = zeroP∨x.amt.lt best.amt:=by
  unfold Poured.better Amt.lt
  simp only [Bool.or_eq_true, Bool.and_eq_true, decide_eq_true_eq, cmpL3]
  constructor
  · rintro ((h|h)|⟨h1, h2⟩)
    · exact .inl h
    · exact .inr (.inl (by omega))
    · exact .inr (.inr ⟨by omega, h2⟩)
  · rintro (h|h|⟨h1, h2⟩)
    · exact .inl (.inl h)
    · exact .inl (.inr (by omega))
    · exact .inr ⟨by omega, h2⟩
theorem add_split (base : Amt) (n t c : Int) : base.add ⟨n, t, c⟩ = (⟨base.b, base.t + t, base.c + c⟩ : Amt).add ⟨n, 0, 0⟩:=by
  unfold Amt.add;simp
def Best (s : Store) (base : Amt) (S : Int→Int→Prop) (best : Poured) : Prop :=
  (best = zeroP∧∀ a, s.Feas base a→¬ S a.t a.c)∨(best.ok = true∧s.Feas base best.amt∧∀ a, s.Feas base a→S a.t a.c→¬ a.lt best.amt)
theorem Best.step {s : Store} {base : Amt} {S S' : Int→Int→Prop} {t c : Nat} {best : Poured} (hg : s.Good) (hb : base.upto 900000) (ht : (t : Int) ≤ s.lots.t) (hc : (c : Int) ≤ s.lots.c) (hS : ∀ x y, S' x y→S x y∨(x = t∧y = c))
    (h : Best s base S best) : Best s base S' (s.pourStep base t c best):=by
  obtain ⟨l1, l2, l3⟩:=hg.lots
  have hk : (⟨base.b, base.t + t, base.c + c⟩ : Amt).upto 1000000:=by
    obtain ⟨b1, b2, b3⟩:=hb
    refine ⟨?_, ?_, ?_⟩<;>simp only<;>omega
  obtain ⟨p1, p2⟩:=bees_spec hg hk
  unfold Store.pourStep
  generalize s.bees ⟨base.b, base.t + t, base.c + c⟩ = r at *
  obtain ⟨n, is⟩:=r
  simp only at p1 p2 ⊢
  have at_ : ∀ a, s.Feas base a→a.t = t→a.c = c→is = true∧n ≤ a.b:=by
    intro a ha h1 h2
    obtain ⟨a1, a2, a3⟩:=a
    simp only at h1 h2
    subst h1 h2
    have he:=ha.en
    rw [add_split] at he
    exact p2 a1 ha.b.1 ha.b.2 he
  cases is with
  | false =>
    rw [if_pos rfl]
    rcases h with ⟨h1, h2⟩|⟨h1, h2, h3⟩
    · refine .inl ⟨h1, fun a ha hs=>?_⟩
      rcases hS _ _ hs with hs|⟨e1, e2⟩
      · exact h2 a ha hs
      · have:=(at_ a ha e1 e2).1;simp at this
    · refine .inr ⟨h1, h2, fun a ha hs=>?_⟩
      rcases hS _ _ hs with hs|⟨e1, e2⟩
      · exact h3 a ha hs
      · have:=(at_ a ha e1 e2).1;simp at this
  | true =>
    rw [if_neg (by simp)]
    obtain ⟨q1, q2, q3⟩:=p1 rfl
    have hfe : s.Feas base ⟨n, t, c⟩:=⟨⟨q1, q2⟩, ⟨by simp, ht⟩, ⟨by simp, hc⟩, by rw [add_split];exact q3⟩
    have hlow : ∀ a, s.Feas base a→a.t = t→a.c = c→¬ a.lt ⟨n, t, c⟩:=by
      intro a ha h1 h2
      have:=(at_ a ha h1 h2).2
      unfold Amt.lt Amt.weight
      simp only
      omega
    by_cases hbt : Poured.better ⟨⟨n, t, c⟩, true⟩ best = true
    · rw [if_pos hbt]
      rw [better_iff] at hbt
      refine .inr ⟨rfl, hfe, fun a ha hs hlt=>?_⟩
      rcases hS _ _ hs with hs|⟨e1, e2⟩
      · rcases h with ⟨h1, h2⟩|⟨h1, h2, h3⟩
        · exact h2 a ha hs
        · rcases hbt with hz|hbt
          · rw [hz] at h1;simp [zeroP] at h1
          · refine h3 a ha hs ?_
            unfold Amt.lt at *
            simp only at hlt hbt
            omega
      · exact hlow a ha e1 e2 hlt
    · rw [if_neg hbt]
      rw [better_iff] at hbt
      rcases h with ⟨h1, h2⟩|⟨h1, h2, h3⟩
      · exact absurd (.inl h1) hbt
      · refine .inr ⟨h1, h2, fun a ha hs hlt=>?_⟩
        rcases hS _ _ hs with hs|⟨e1, e2⟩
        · exact h3 a ha hs hlt
        · have h4:=hlow a ha e1 e2
          have h5 : ¬ (⟨n, t, c⟩ : Amt).lt best.amt:=fun h=>hbt (.inr h)
          unfold Amt.lt Amt.weight at *
          simp only at *
          omega
theorem Best.inn {s : Store} {base : Amt} {t : Nat} (hg : s.Good) (hb : base.upto 900000) (ht : (t : Int) ≤ s.lots.t) : ∀ (n c : Nat) (best : Poured), (n : Int) + c ≤ s.lots.c + 1→Best s base (fun x y=>x < t∨(x = t∧y < c)) best →
    Best s base (fun x y=>x < t∨(x = t∧y < (c : Int) + n)) (s.pourIn base t n c best)
  | 0, c, best, _, h=>by simpa [Store.pourIn] using h
  | n + 1, c, best, hn, h=>by
    unfold Store.pourIn
    have:=Best.inn hg hb ht n (c + 1) (s.pourStep base t c best) (by omega) (Best.step hg hb ht (by omega) (fun x y hxy=>by omega) h)
    have e : (((c + 1 : Nat) : Int) + (n : Int)) = (c : Int) + ((n + 1 : Nat) : Int):=by omega
    rw [e] at this
    exact this
theorem Best.out {s : Store} {base : Amt} (hg : s.Good) (hb : base.upto 900000) : ∀ (n t : Nat) (best : Poured), (n : Int) + t ≤ s.lots.t + 1→Best s base (fun x y=>x < t∧y ≤ s.lots.c) best →
    Best s base (fun x y=>x < (t : Int) + n∧y ≤ s.lots.c) (s.pourOut base n t best)
  | 0, t, best, _, h=>by simpa [Store.pourOut] using h
  | n + 1, t, best, hn, h=>by
    unfold Store.pourOut
    obtain ⟨l1, l2, l3⟩:=hg.lots
    have weak : ∀ {S S' : Int→Int→Prop} {best : Poured}, (∀ a, s.Feas base a→S' a.t a.c→S a.t a.c)→Best s base S best→Best s base S' best:=by
      intro S S' best hs h
      rcases h with ⟨h1, h2⟩|⟨h1, h2, h3⟩
      · exact .inl ⟨h1, fun a ha hsa=>h2 a ha (hs a ha hsa)⟩
      · exact .inr ⟨h1, h2, fun a ha hsa=>h3 a ha (hs a ha hsa)⟩
    have h1:=Best.inn hg hb (t:=t) (by omega) (s.lots.c.toNat + 1) 0 best (by omega) (weak (fun a ha hsa=>⟨by have:=ha.c;omega, ha.c.2⟩) h)
    have:=Best.out hg hb n (t + 1) _ (by omega) (weak (S':=fun x y=>x < ((t + 1 : Nat) : Int)∧y ≤ s.lots.c) (fun a ha hsa=>by
      have:=ha.c
      have hsa : a.t < ((t + 1 : Nat) : Int)∧a.c ≤ s.lots.c:=hsa
      show a.t < (t : Int)∨(a.t = (t : Int)∧a.c < ((0 : Nat) : Int) + ((s.lots.c.toNat + 1 : Nat) : Int))
      omega) h1)
    have e : (((t + 1 : Nat) : Int) + (n : Int)) = (t : Int) + ((n + 1 : Nat) : Int):=by omega
    rw [e] at this
    exact this
theorem pour_spec {s : Store} {base : Amt} (hg : s.Good) (hb : base.upto 900000) :
    ((s.pour base).ok = false∧(s.pour base).amt = zeroT∧∀ a, ¬ s.Feas base a)∨((s.pour base).ok = true∧s.Feas base (s.pour base).amt∧∀ a, s.Feas base a→¬ a.lt (s.pour base).amt):=by
  obtain ⟨l1, l2, l3⟩:=hg.lots
  have h:=Best.out hg hb (s.lots.t.toNat + 1) 0 zeroP (by omega) (.inl ⟨rfl, fun a ha hs=>by have:=ha.t;omega⟩)
  rcases h with ⟨h1, h2⟩|⟨h1, h2, h3⟩
  · refine .inl ⟨?_, ?_, fun a ha=>h2 a ha ⟨?_, ha.c.2⟩⟩
    · unfold Store.pour;rw [h1];rfl
    · unfold Store.pour;rw [h1];rfl
    · have:=ha.t;omega
  · exact .inr ⟨h1, h2, fun a ha=>h3 a ha ⟨by have:=ha.t;omega, ha.c.2⟩⟩
theorem pour_ok_iff {s : Store} {base : Amt} (hg : s.Good) (hb : base.upto 900000) : (s.pour base).ok = true↔∃ a, s.Feas base a:=by
  rcases pour_spec hg hb with ⟨h1, _, h3⟩|⟨h1, h2, _⟩
  · rw [h1];exact ⟨by simp, fun ⟨a, ha⟩=>absurd ha (h3 a)⟩
  · exact ⟨fun _=>⟨_, h2⟩, fun _=>h1⟩
end Go.Proofs.YtbpiibdcncfphaaDoor
namespace Go.Proofs.YtbpiibdcncfphaaDoor
open Go.Am Go.Proofs Go
end Go.Proofs.YtbpiibdcncfphaaDoor
namespace Go.Proofs.YtbpiibdcncfphaaDoor
open Go.Am Go.Proofs Go
theorem valid_c (s : Store) (hr : s.small) : PureA Tryd.prog 25 [storeA s] (boolA (decide (s.check.2.2 = 0))):=by
  have hk:=refCheck_c s hr
  unfold triA at hk
  generalize s.check = c at *
  obtain ⟨c1, c2, c3⟩:=c
  refine pureA_codeB tabOk { l:=0, f:=25 } mixed call_25 Tryd.func25 (by kernel_rfl) ?_
  conv=>whnf
  repeat (any_goals (first|exact falseI|((first|refine bd ?_ ?_|refine bn ?_ ?_)<;>intro _<;>first|(exfalso;omega)|conv=>whnf)|((first|refine callP_a hk ?_|refine dI ?_|refine okI ?_|refine bt ?_|refine bi (fun _=>?_) (fun _=>?_)|refine bndI ?_|intro _)<;>conv=>whnf)))
  (refine ⟨⟨?_⟩, trivial⟩;rfl)
def u8A (n : Int) : AV:=.v (.int .u8 n)
def pouredL (h a b c : Int) : AV:=.agg [u8A h, u8A a, u8A b, u8A c]
def bitU (h : Int) (i : Nat) : Prop:=(h.fdiv (2 ^ min ((i : Int)).toNat IntKind.u8.bits)).tmod 2 = 1
instance (h : Int) (i : Nat) : Decidable (bitU h i):=inferInstanceAs (Decidable (_ = _))
def Store.pickB (s : Store) (h : Int) (n : Int) : Bool:=decide (bitU h n.toNat) && !s.keptAt n
def Store.anyL (s : Store) (h : Int) : List Int:=pickTo (s.pickB h) s.heads.length
def Store.anyA (s : Store) (a b c : Int) : Amt:=⟨a.tmod (s.lots.b + 1), b.tmod (s.lots.t + 1), c.tmod (s.lots.c + 1)⟩
def anyTo (s : Store) (a b c : Int) : Nat→Amt
  | 0=>zeroT
  | 1=>⟨a.tmod (s.lots.b + 1), 0, 0⟩
  | 2=>⟨a.tmod (s.lots.b + 1), b.tmod (s.lots.t + 1), 0⟩
  | _=>s.anyA a b c
set_option maxHeartbeats 2000000 in
theorem any_c (s : Store) (h a b c : Int) (hg : s.Good) (h1 : 0 ≤ a∧a ≤ 255) (h2 : 0 ≤ b∧b ≤ 255) (h3 : 0 ≤ c∧c ≤ 255) :
    PureA Tryd.prog 26 [storeA s, pouredL h a b c] (.tuple [intsA (s.anyL h), amtA (s.anyA a b c)]):=by
  have h6:=hg.len
  obtain ⟨l1, l2, l3⟩:=hg.lots
  unfold Store.anyL
  have hM:=pickTo_succ (s.pickB h)
  have hMl:=pickTo_len (s.pickB h)
  have hM0 : pickTo (s.pickB h) 0 = []:=rfl
  have hpk : ∀ (i : Nat) y, s.heads[i]? = some y→s.pickB h i = (decide (bitU h i) && !y.kept):=by
    intro i y hy
    unfold Store.pickB Store.keptAt
    simp only [Int.toNat_natCast, hy]
  generalize pickTo (s.pickB h) = M at *
  refine pureA_codeB tabOk { l:=0, f:=26 } mixed call_26 Tryd.func26 (by kernel_rfl) ?_
  conv=>whnf
  refine loopTok 6 1 ⟨0, 26, 39⟩ ?_
  conv=>whnf
  refine loopK tabOk { l:=0, f:=26 } mixed (fun i : Nat=>[(7, intA i), (6, .slice 1 ((M i).map intA) (.own ⟨0, 26, 39⟩ 1))]) (fun _=>[]) (fun i=>[(⟨0, 26, 39⟩, some (1, (M i).length))]) (fun i=>i ≤ s.heads.length) (fun i=>s.heads.length - i) 0 (by kernel_rfl)
    (Nat.zero_le _) ?_
  conv=>whnf
  refine ⟨⟨slotsLe_cons rfl (slotsLe_cons (by rw [hM0];rfl) trivial), trivial, keysLe_cons (by rw [hM0];rfl) trivial⟩, ?_⟩
  intro i hi
  have hMi:=hM i
  have hMli:=hMl i
  by_cases hlt : i < s.heads.length
  · obtain ⟨y, hy, _⟩:=drop_cons (l:=s.heads) (i:=i) hlt
    rw [hpk i y hy] at hMi
    clear hpk hM hMl
    have hlm : i < (s.heads.map headA).length:=by simpa using hlt
    obtain ⟨yn, yw, yd, yk⟩:=y
    by_cases q : bitU h i
    · rw [decide_eq_true q] at hMi
      unfold bitU at q
      cases yk with
      | true =>
        simp only [Bool.not_true, Bool.and_false, Bool.false_eq_true, if_false, List.append_nil] at hMi
        conv=>whnf
        repeat (any_goals (first|exact falseI|((first|refine bd ?_ ?_|refine bn ?_ ?_)<;>intro _<;>first|(exfalso;omega)|conv=>whnf)|((first|refine optP_map hy rfl ?_|refine dI ?_|refine okI ?_|refine bt ?_|refine bi (fun _=>?_) (fun _=>?_)|refine bndI ?_|intro _)<;>conv=>whnf)))
        (refine ⟨i + 1, (by omega), (by omega), ?_⟩;(conv=>whnf);refine ⟨?_, ?_, ?_⟩<;>repeat (first|exact trivial|refine sc rfl ?_|refine kn ?_|refine kc rfl ?_|refine sc (by first|rfl|(rw [hMi];rfl)) ?_|refine kc (by first|rfl|(rw [hMi];rfl)) ?_))
      | false =>
        simp only [Bool.not_false, Bool.and_true, if_true] at hMi
        conv=>whnf
        repeat (any_goals (first|exact falseI|((first|refine bd ?_ ?_|refine bn ?_ ?_)<;>intro _<;>first|(exfalso;omega)|conv=>whnf)|((first|refine optP_map hy rfl ?_|refine dI ?_|refine okI ?_|refine bt ?_|refine bi (fun _=>?_) (fun _=>?_)|refine bndI ?_|intro _)<;>conv=>whnf)))
        (refine ⟨i + 1, (by omega), (by omega), ?_⟩;(conv=>whnf);refine ⟨?_, ?_, ?_⟩<;>repeat (first|exact trivial|refine sc rfl ?_|refine kn ?_|refine kc rfl ?_|refine sc (by first|rfl|(rw [hMi, List.map_append];rfl)|(rw [hMi, List.length_append, ← List.length_map (f:=intA)];rfl)) ?_|refine kc (by first|rfl|(rw [hMi, List.map_append];rfl)|(rw [hMi, List.length_append, ← List.length_map (f:=intA)];rfl)) ?_))
    · rw [decide_eq_false q] at hMi
      unfold bitU at q
      simp only [Bool.false_and, Bool.false_eq_true, if_false, List.append_nil] at hMi
      conv=>whnf
      repeat (any_goals (first|exact falseI|((first|refine bd ?_ ?_|refine bn ?_ ?_)<;>intro _<;>first|(exfalso;omega)|conv=>whnf)|((first|refine optP_map hy rfl ?_|refine dI ?_|refine okI ?_|refine bt ?_|refine bi (fun _=>?_) (fun _=>?_)|refine bndI ?_|intro _)<;>conv=>whnf)))
      (refine ⟨i + 1, (by omega), (by omega), ?_⟩;(conv=>whnf);refine ⟨?_, ?_, ?_⟩<;>repeat (first|exact trivial|refine sc rfl ?_|refine kn ?_|refine kc rfl ?_|refine sc (by first|rfl|(rw [hMi];rfl)) ?_|refine kc (by first|rfl|(rw [hMi];rfl)) ?_))
  · have : i = s.heads.length:=by omega
    subst this
    have hnl : ¬ ((s.heads.length : Nat) : Int) < ((s.heads.map headA).length : Nat):=by simp
    clear hM hpk hMl hMi
    generalize M s.heads.length = L at *
    conv=>whnf
    repeat (any_goals (first|exact falseI|((first|refine bd ?_ ?_|refine bn ?_ ?_)<;>intro _<;>first|(exfalso;omega)|conv=>whnf)|((first|refine dI ?_|refine okI ?_|refine bt ?_|refine bi (fun _=>?_) (fun _=>?_)|refine bndI ?_|intro _)<;>conv=>whnf)))
    refine loopK tabOk { l:=0, f:=26 } mixed (fun i : Nat=>[(9, intA i)]) (fun i=>[(⟨0, 26, 8⟩, some (1, some (3, [amtA (anyTo s a b c i)])))]) (fun _=>[]) (fun i=>i ≤ 3) (fun i=>3 - i) 0 (by kernel_rfl)
      (Nat.zero_le _) ?_
    conv=>whnf
    refine ⟨⟨slotsLe_cons rfl trivial, keysLe_cons rfl trivial, trivial⟩, ?_⟩
    intro i hi
    conv=>whnf
    refine brP_dec (fun h4=>?_) (fun h4=>?_)
    · have h4 : (i : Int) < 3:=h4
      rcases lt3 (by omega : i < 3) with rfl|rfl|rfl
      · conv=>whnf
        repeat (any_goals (first|exact falseI|((first|refine bd ?_ ?_|refine bn ?_ ?_)<;>intro _<;>first|(exfalso;omega)|conv=>whnf)|((first|refine dI ?_|refine okI ?_|refine bt ?_|refine bi (fun _=>?_) (fun _=>?_)|refine bndI ?_|intro _)<;>conv=>whnf)))
        (refine ⟨1, (by omega), (by omega), ?_⟩;(conv=>whnf);refine ⟨?_, ?_, ?_⟩<;>repeat (first|exact trivial|refine sc rfl ?_|refine kn ?_|refine kc rfl ?_|refine sc (by rfl) ?_|refine kc (by rfl) ?_))
      · conv=>whnf
        repeat (any_goals (first|exact falseI|((first|refine bd ?_ ?_|refine bn ?_ ?_)<;>intro _<;>first|(exfalso;omega)|conv=>whnf)|((first|refine dI ?_|refine okI ?_|refine bt ?_|refine bi (fun _=>?_) (fun _=>?_)|refine bndI ?_|intro _)<;>conv=>whnf)))
        (refine ⟨2, (by omega), (by omega), ?_⟩;(conv=>whnf);refine ⟨?_, ?_, ?_⟩<;>repeat (first|exact trivial|refine sc rfl ?_|refine kn ?_|refine kc rfl ?_|refine sc (by rfl) ?_|refine kc (by rfl) ?_))
      · conv=>whnf
        repeat (any_goals (first|exact falseI|((first|refine bd ?_ ?_|refine bn ?_ ?_)<;>intro _<;>first|(exfalso;omega)|conv=>whnf)|((first|refine dI ?_|refine okI ?_|refine bt ?_|refine bi (fun _=>?_) (fun _=>?_)|refine bndI ?_|intro _)<;>conv=>whnf)))
        (refine ⟨3, (by omega), (by omega), ?_⟩;(conv=>whnf);refine ⟨?_, ?_, ?_⟩<;>repeat (first|exact trivial|refine sc rfl ?_|refine kn ?_|refine kc rfl ?_|refine sc (by rfl) ?_|refine kc (by rfl) ?_))
    · have h4 : ¬ (i : Int) < 3:=h4
      have : i = 3:=by omega
      subst this
      conv=>whnf
      repeat (any_goals (first|exact falseI|((first|refine bd ?_ ?_|refine bn ?_ ?_)<;>intro _<;>first|(exfalso;omega)|conv=>whnf)|((first|refine dI ?_|refine okI ?_|refine bt ?_|refine bi (fun _=>?_) (fun _=>?_)|refine bndI ?_|intro _)<;>conv=>whnf)))
      (refine ⟨⟨?_⟩, trivial⟩;rfl)
end Go.Proofs.YtbpiibdcncfphaaDoor
namespace Go.Proofs.YtbpiibdcncfphaaDoor
open Go.Am Go.Proofs Go
def pairwB {α : Type} (r : α→α→Bool) : List α→Bool
  | []=>true
  | x :: l=>l.all (r x) && pairwB r l
theorem pairwB_iff {α : Type} {r : α→α→Bool} : ∀ {l : List α}, pairwB r l = true→l.Pairwise (fun x y=>r x y = true)
  | [], _=>.nil
  | x :: l, h=>by
    simp only [pairwB, Bool.and_eq_true, List.all_eq_true] at h
    exact .cons h.1 (pairwB_iff h.2)
def sortedOk (h K : Nat) : Bool :=
  pairwB (fun a b=>fewer (setL a) (setL b)) (insN 0 (setsOf h K).length (setsOf h K)) && (List.range (2 ^ h)).all fun n=>!(n &&& K == 0) || (insN 0 (setsOf h K).length (setsOf h K)).contains n
theorem sorted_small : ∀ h, h < 5→∀ K, K < 2 ^ h→sortedOk h K = true:=by decide +kernel
theorem sorted_five : ∀ K, K < 2 ^ 5→sortedOk 5 K = true:=by decide +kernel
theorem sorted_six : ∀ K, K < 2 ^ 6→sortedOk 6 K = true:=by decide +kernel
theorem sorted_spec (s : Store) (h6 : s.heads.length ≤ 6) : s.sorted.Pairwise (fun a b=>fewer (setL a) (setL b) = true)∧∀ n, n < 2 ^ s.heads.length→(n &&& maskOf s.heads == 0) = true→n ∈ s.sorted:=by
  have hK:=maskOf_lt s.heads
  have : sortedOk s.heads.length (maskOf s.heads) = true:=by
    rcases (by omega : s.heads.length < 5∨s.heads.length = 5∨s.heads.length = 6) with h|h|h
    · exact sorted_small _ h _ hK
    · rw [h] at hK ⊢;exact sorted_five _ hK
    · rw [h] at hK ⊢;exact sorted_six _ hK
  unfold sortedOk at this
  rw [Bool.and_eq_true, List.all_eq_true] at this
  refine ⟨pairwB_iff this.1, fun n hn h0=>?_⟩
  have:=this.2 n (List.mem_range.2 hn)
  rw [h0] at this
  simp only [Bool.not_true, Bool.false_or, List.contains_eq_mem, decide_eq_true_eq] at this
  exact this
theorem find_first {s : Store} (h6 : s.heads.length ≤ 6) {p : Nat→Bool} {n m : Nat} (h : s.sorted.find? p = some n) (hm : m ∈ s.sorted) (hp : p m = true) : m = n∨fewer (setL n) (setL m) = true:=by
  obtain ⟨hpn, l1, l2, he, hno⟩:=List.find?_eq_some_iff_append.1 h
  have hs:=(sorted_spec s h6).1
  rw [he] at hm hs
  rcases List.mem_append.1 hm with hm|hm
  · have:=hno m hm;simp [hp] at this
  · rcases List.mem_cons.1 hm with e|hm
    · exact .inl e
    · rw [List.pairwise_append] at hs
      exact .inr ((List.pairwise_cons.1 hs.2.1).1 m hm)
theorem find_mem {s : Store} {p : Nat→Bool} {n : Nat} (h : s.sorted.find? p = some n) : n ∈ s.sorted∧p n = true:=⟨List.mem_of_find?_eq_some h, List.find?_some h⟩
def setOfP (p : Int→Bool) : Nat→Nat
  | 0=>0
  | h + 1=>setOfP p h + (if p (h : Int) = true then 2 ^ h else 0)
theorem setOfP_lt (p : Int→Bool) : ∀ h, setOfP p h < 2 ^ h
  | 0=>by simp [setOfP]
  | h + 1=>by
    have:=setOfP_lt p h
    unfold setOfP
    rw [Nat.pow_succ]
    split<;>omega
theorem setOfP_bit (p : Int→Bool) : ∀ (h i : Nat), i < h→(setOfP p h).testBit i = p i
  | 0, i, hi=>absurd hi (by omega)
  | h + 1, i, hi=>by
    have hlt:=setOfP_lt p h
    unfold setOfP
    by_cases e : i = h
    · subst e
      cases hp : p i with
      | true=>rw [if_pos rfl, Nat.add_comm, Nat.testBit_two_pow_add_eq, Nat.testBit_lt_two_pow hlt];rfl
      | false=>rw [if_neg (by simp), Nat.add_zero, Nat.testBit_lt_two_pow hlt]
    · have ih:=setOfP_bit p h i (by omega)
      cases hp : p h with
      | true=>rw [if_pos rfl, Nat.add_comm, Nat.testBit_two_pow_add_gt (by omega)];exact ih
      | false=>rw [if_neg (by simp), Nat.add_zero];exact ih
def pickOk (h : Nat) : Bool:=(List.range (2 ^ h)).all fun n=>decide (setL n = pickTo (fun x=>n.testBit x.toNat) h) && decide ((setL n).Pairwise (· < ·))
theorem pick_ok : ∀ h, h < 7→pickOk h = true:=by decide +kernel
theorem setL_pick {h n : Nat} (hh : h ≤ 6) (hn : n < 2 ^ h) : setL n = pickTo (fun x=>n.testBit x.toNat) h∧(setL n).Pairwise (· < ·):=by
  have:=pick_ok h (by omega)
  unfold pickOk at this
  rw [List.all_eq_true] at this
  have:=this n (List.mem_range.2 hn)
  rw [Bool.and_eq_true, decide_eq_true_eq, decide_eq_true_eq] at this
  exact this
theorem pickTo_congr {p q : Int→Bool} : ∀ (h : Nat), (∀ i : Nat, i < h→p i = q i)→pickTo p h = pickTo q h
  | 0, _=>rfl
  | h + 1, e=>by rw [pickTo_succ, pickTo_succ, pickTo_congr h fun i hi=>e i (by omega), e h (by omega)]
theorem pickTo_mem {p : Int→Bool} {h : Nat} {x : Int} : x ∈ pickTo p h↔(0 ≤ x∧x < h)∧p x = true:=by
  unfold pickTo
  rw [List.mem_filter, List.mem_map]
  constructor
  · rintro ⟨⟨i, hi, rfl⟩, hp⟩
    have:=List.mem_range.1 hi
    exact ⟨⟨Int.natCast_nonneg i, by show (i : Int) < h;omega⟩, hp⟩
  · rintro ⟨⟨h0, h1⟩, hp⟩
    exact ⟨⟨x.toNat, List.mem_range.2 (by omega), by show ((x.toNat : Nat) : Int) = x;omega⟩, hp⟩
theorem pickTo_set (p : Int→Bool) {h : Nat} (hh : h ≤ 6) : pickTo p h = setL (setOfP p h):=by
  rw [(setL_pick hh (setOfP_lt p h)).1]
  exact pickTo_congr h fun i hi=>by rw [Int.toNat_natCast, setOfP_bit p h i hi]
theorem free_set {s : Store} (h6 : s.heads.length ≤ 6) {p : Int→Bool} (hp : ∀ x, p x = true→s.keptAt x = false) : ∃ n ∈ s.sorted, pickTo p s.heads.length = setL n:=by
  refine ⟨setOfP p s.heads.length, (sorted_spec s h6).2 _ (setOfP_lt _ _) ?_, pickTo_set p h6⟩
  have:=kept_any h6 (setOfP_lt p s.heads.length)
  rw [← pickTo_set p h6] at this
  have hno : (pickTo p s.heads.length).any s.keptAt = false:=by
    rw [List.any_eq_false]
    intro x hx
    rw [hp x (pickTo_mem.1 hx).2];simp
  rw [hno] at this
  simpa using this.symm
theorem any_set {s : Store} (h6 : s.heads.length ≤ 6) (h : Int) : ∃ n ∈ s.sorted, s.anyL h = setL n:=free_set h6 fun x hx=>by
  unfold Store.pickB at hx
  simp only [Bool.and_eq_true, Bool.not_eq_true'] at hx
  exact hx.2
end Go.Proofs.YtbpiibdcncfphaaDoor
namespace Go.Proofs.YtbpiibdcncfphaaDoor
open Go.Am Go.Proofs Go
theorem baseOf_free {s : Store} (hg : s.Good) (n : Nat) : (s.baseOf (setL n) 0).upto 900000:=baseOf_upto hg (by decide) (setL_len n)
def u8 (a : Int) : Prop:=0 ≤ a∧a ≤ 255
end Go.Proofs.YtbpiibdcncfphaaDoor
namespace Go.Proofs.YtbpiibdcncfphaaDoor
open Go.Am Go.Proofs Go Go.ChangeShapes Go.WideShapes Go.RowKit
section
variable {H : Type} {enc : TypeId × Value→H} {W : World} {sp : Nat→Bool} {held : Bool}
theorem u8_wf {n : Int} (h : (Lit.int .u8 n).wf = true) : u8 n:=bounds_u8 h
end
end Go.Proofs.YtbpiibdcncfphaaDoor
namespace Go.Proofs.YtbpiibdcncfphaaDoor
open Go.Am Go.Proofs Go
end Go.Proofs.YtbpiibdcncfphaaDoor
namespace Go.Proofs.YtbpiibdcncfphaaDoor
open Go.Am Go.Proofs Go
def Head.bare (h : Head) : Head:={ h with kept:=false }
def Store.bare (s : Store) : Store:={ s with heads:=s.heads.map Head.bare }
theorem sorted_iff {s : Store} (h6 : s.heads.length ≤ 6) (n : Nat) : n ∈ s.sorted↔n < 2 ^ s.heads.length∧(setL n).any s.keptAt = false:=by
  constructor
  · intro h
    obtain ⟨h1, h2⟩:=sorted_mem h
    have:=kept_any h6 h1
    rw [h2] at this
    exact ⟨h1, by simpa using this⟩
  · rintro ⟨h1, h2⟩
    refine (sorted_spec s h6).2 n h1 ?_
    have:=kept_any h6 h1
    rw [h2] at this
    simpa using this
theorem pureEs_heads (l : List Head) (n : Nat) (h : n = l.length) : pureEs ((l.map headA).take n) = some (l.map headA):=by
  rw [List.take_of_length_le (by simp [h])]
  clear h
  induction l with
  | nil=>rfl
  | cons x l ih=>simp only [List.map_cons, pureEs, ih, show pureE (headA x) = some (headA x) from rfl]
theorem set_heads (l : List Head) (a : Int) (n : Nat) (x : AV) (f : Head) (ha : a = n) (hx : x = headA f) : (l.map headA).set a.toNat x = (l.set n f).map headA:=by
  subst ha hx
  simp [List.map_set]
end Go.Proofs.YtbpiibdcncfphaaDoor
namespace Go.Proofs.YtbpiibdcncfphaaDoor
open Go.Am Go.Proofs Go
theorem meltsGet {s : Store} {i : Nat} {y : Head} (hy : s.heads[i]? = some y) : (s.melts 0).getD i zeroT = y.melt s.fade 0:=by
  rw [List.getD_eq_getElem?_getD, meltsTo_get hy];rfl
end Go.Proofs.YtbpiibdcncfphaaDoor
namespace Go.Proofs.YtbpiibdcncfphaaDoor
open Go.Am Go.Proofs Go
theorem all_len {s : Store} (h6 : s.heads.length ≤ 6) : (s.allOk.map setL).length ≤ 64:=by
  rw [List.length_map]
  refine Nat.le_trans (List.length_filter_le ..) ?_
  rw [sorted_len, sets_eq]
  exact Nat.le_trans (upto_len _ _) (two_pow_le h6)
theorem all_six {s : Store} : ∀ l ∈ s.allOk.map setL, l.length ≤ 6:=by
  intro l hl
  obtain ⟨n, _, rfl⟩:=List.mem_map.1 hl
  exact setL_len n
end Go.Proofs.YtbpiibdcncfphaaDoor
namespace Go.Proofs.YtbpiibdcncfphaaDoor
open Go.Am Go.Proofs Go
theorem firstFrom_iff {α : Type} (g : Nat→α→Int) : ∀ (l : List α) (i : Nat), (firstFrom g i l).2 = 0↔∀ (j : Nat) x, l[j]? = some x→g (i + j) x = 0
  | [], i=>by simp [firstFrom]
  | y :: l, i=>by
    constructor
    · intro h
      exact firstFrom_zero g (y :: l) i h
    · intro h
      unfold firstFrom
      rw [if_pos (show g i y = 0 from h 0 y rfl)]
      refine (firstFrom_iff g l (i + 1)).2 fun j x hx=>?_
      have:=h (j + 1) x (by simpa using hx)
      rw [show i + (j + 1) = i + 1 + j by omega] at this
      exact this
theorem told_apart {α β : Type} (P : α→Prop) (N : α→β) (l : List α) : (∀ (j : Nat) x, l[j]? = some x→P x∧∀ y ∈ l.take j, N y ≠ N x)↔(∀ x ∈ l, P x)∧l.Pairwise (fun y x=>N y ≠ N x):=by
  constructor
  · intro h
    refine ⟨fun x hx=>?_, ?_⟩
    · obtain ⟨j, hj⟩:=List.getElem?_of_mem hx
      exact (h j x hj).1
    · rw [List.pairwise_iff_getElem]
      intro i j hi hj hij
      refine (h j l[j] (by simp [hj])).2 l[i] ?_
      rw [List.mem_take_iff_getElem]
      exact ⟨i, by omega, rfl⟩
  · rintro ⟨h1, h2⟩ j x hx
    refine ⟨h1 x (List.mem_of_getElem? hx), fun y hy=>?_⟩
    obtain ⟨hj, rfl⟩:=List.getElem?_eq_some_iff.1 hx
    rw [List.mem_take_iff_getElem] at hy
    obtain ⟨i, hi, rfl⟩:=hy
    exact List.pairwise_iff_getElem.1 h2 i j (by omega) hj (by omega)
def Head.right (h : Head) : Prop:=nameOk h.name = true∧((outside 0 40 h.wax.b || outside 0 40 h.wax.t || outside 0 40 h.wax.c) || outside 0 364 h.days) = false
def Order.right (o : Order) : Prop:=nameOk o.name = true∧(outside 1 60 o.weight || (outside 0 1000 o.tlo || outside 0 1000 o.thi || outside 0 1000 o.clo || outside 0 1000 o.chi)) = false∧(decide (o.thi < o.tlo) || decide (o.chi < o.clo)) = false
theorem ne_any {α : Type} (N : α→ByteArray) (l : List α) (n : ByteArray) : ¬ l.any (fun x=>decide (N x = n)) = true↔∀ y ∈ l, N y ≠ n:=by
  rw [Bool.not_eq_true, List.any_eq_false]
  simp
theorem headErr_iff (l : List Head) (h : Head) : headErr l h = 0↔h.right∧∀ y ∈ l, y.name ≠ h.name:=by
  rw [← ne_any Head.name]
  unfold headErr Head.right
  split
  · rename_i e;simp [e]
  · rename_i e
    split
    · rename_i e2;simp [e2]
    · rename_i e2
      split
      · rename_i e3;simp [e3]
      · rename_i e3
        have e:=Bool.not_eq_false _ ▸ e
        simp only [e, true_and, true_iff]
        exact ⟨Bool.eq_false_iff.2 e3, e2⟩
theorem orderErr_iff (l : List Order) (h : Order) : orderErr l h = 0↔h.right∧∀ y ∈ l, y.name ≠ h.name:=by
  rw [← ne_any Order.name]
  unfold orderErr Order.right
  split
  · rename_i e;simp [e]
  · rename_i e
    split
    · rename_i e2;simp [e2]
    · rename_i e2
      split
      · rename_i e3;simp [e3]
      · rename_i e3
        split
        · rename_i e4;simp [e4]
        · rename_i e4
          have e:=Bool.not_eq_false _ ▸ e
          simp only [e, true_and, true_iff]
          exact ⟨⟨Bool.eq_false_iff.2 e3, Bool.eq_false_iff.2 e4⟩, e2⟩
theorem headsErr_iff (s : Store) : s.headsErr.2 = 0↔(∀ h ∈ s.heads, h.right)∧s.heads.Pairwise (fun y x=>y.name ≠ x.name):=by
  unfold Store.headsErr
  rw [firstFrom_iff, ← told_apart]
  simp only [headErr_iff, Nat.zero_add]
theorem ordersErr_iff (s : Store) : s.ordersErr.2 = 0↔(∀ h ∈ s.orders, h.right)∧s.orders.Pairwise (fun y x=>y.name ≠ x.name):=by
  unfold Store.ordersErr
  rw [firstFrom_iff, ← told_apart]
  simp only [orderErr_iff, Nat.zero_add]
structure Store.Right (s : Store) : Prop where
  lots : s.lots.upto 40
  fade : 1 ≤ s.fade∧s.fade ≤ 364
  len : s.heads.length ≤ 6
  heads : ∀ h ∈ s.heads, h.right
  names : s.heads.Pairwise (fun y x=>y.name ≠ x.name)
  lenO : s.orders.length ≤ 3
  orders : ∀ h ∈ s.orders, h.right
  namesO : s.orders.Pairwise (fun y x=>y.name ≠ x.name)
theorem check_right (s : Store) : s.check.2.2 = 0↔s.Right:=by
  have hH:=headsErr_iff s
  have hO:=ordersErr_iff s
  have hq : ((outside 0 40 s.lots.b || outside 0 40 s.lots.t || outside 0 40 s.lots.c) || outside 1 364 s.fade) = false↔s.lots.upto 40∧1 ≤ s.fade∧s.fade ≤ 364:=by
    simp only [Bool.or_eq_false_iff, outside_iff]
    unfold Amt.upto
    omega
  unfold Store.check
  constructor
  · intro h
    split at h
    · simp at h
    · rename_i h1
      have h1:=hq.1 (Bool.eq_false_iff.2 h1)
      split at h
      · simp at h
      · split at h
        · rename_i h3;exact absurd h h3
        · rename_i h2 h3
          split at h
          · simp at h
          · split at h
            · rename_i h5;exact absurd h h5
            · rename_i h4 h5
              have a:=hH.1 (by omega)
              have b:=hO.1 (by omega)
              exact ⟨h1.1, h1.2, by omega, a.1, a.2, by omega, b.1, b.2⟩
  · intro h
    have h1:=hq.2 ⟨h.lots, h.fade⟩
    have a:=hH.2 ⟨h.heads, h.names⟩
    have b:=hO.2 ⟨h.orders, h.namesO⟩
    have h2:=h.len
    have h3:=h.lenO
    rw [if_neg (by rw [h1];simp), if_neg (by omega), if_neg (by omega), if_neg (by omega), if_neg (by omega)]
end Go.Proofs.YtbpiibdcncfphaaDoor
namespace Go.Proofs.YtbpiibdcncfphaaDoor
open Go.Am Go.Proofs Go
theorem sumW_app : ∀ a b : List Order, sumW (a++b) = sumW a + sumW b:=by
  intro a
  induction a with
  | nil=>intro b;simp [sumW]
  | cons y a ih=>intro b;simp [sumW, ih];omega
theorem sumL_map {m m' : List Amt} {f : Int→Int} : ∀ (l : List Int) (k : Amt), (∀ x ∈ l, m'.getD (f x).toNat zeroT = m.getD x.toNat zeroT)→sumL m' k (l.map f) = sumL m k l
  | [], k, _=>rfl
  | x :: l, k, h=>by
    show sumL m' (k.add (m'.getD (f x).toNat zeroT)) (l.map f) = sumL m (k.add (m.getD x.toNat zeroT)) l
    rw [h x (List.mem_cons_self ..), sumL_map l _ fun y hy=>h y (List.mem_cons_of_mem _ hy)]
theorem fewer_len {a b : List Int} (h : fewer a b = true) : a.length ≤ b.length:=by
  unfold fewer at h
  split at h
  · omega
  · simp at h;omega
theorem first_len {s : Store} (h6 : s.heads.length ≤ 6) {p : Nat→Bool} {n m : Nat} (h : s.sorted.find? p = some n) (hm : m ∈ s.sorted) (hp : p m = true) : (setL n).length ≤ (setL m).length:=by
  rcases find_first h6 h hm hp with e|e
  · rw [e];exact Nat.le_refl _
  · exact fewer_len e
end Go.Proofs.YtbpiibdcncfphaaDoor
namespace Go.Proofs.YtbpiibdcncfphaaDoor
open Go.Am Go.Proofs Go
structure Rich where
  l0 : Int
  l1 : Int
  l2 : Int
  w0 : Int
  w1 : Int
  w2 : Int
  head : Head
  free : Int
structure Rich.fit (x : Rich) : Prop where
  l0 : 0 ≤ x.l0∧x.l0 ≤ 255
  l1 : 0 ≤ x.l1∧x.l1 ≤ 255
  l2 : 0 ≤ x.l2∧x.l2 ≤ 255
  w0 : 0 ≤ x.w0∧x.w0 ≤ 255
  w1 : 0 ≤ x.w1∧x.w1 ≤ 255
  w2 : 0 ≤ x.w2∧x.w2 ≤ 255
  free : 0 ≤ x.free∧x.free ≤ 255
  name : x.head.name.size ≤ 1048576
def richA (x : Rich) : AV:=.agg [u8A x.l0, u8A x.l1, u8A x.l2, u8A x.w0, u8A x.w1, u8A x.w2, strA x.head.name, intA x.head.wax.b, intA x.head.wax.t, intA x.head.wax.c, intA x.head.days, boolA x.head.kept, u8A x.free]
def lotsTo (s : Store) (x : Rich) : Nat→Amt
  | 0=>s.lots
  | 1=>⟨min 40 (s.lots.b + x.l0), s.lots.t, s.lots.c⟩
  | 2=>⟨min 40 (s.lots.b + x.l0), min 40 (s.lots.t + x.l1), s.lots.c⟩
  | _=>⟨min 40 (s.lots.b + x.l0), min 40 (s.lots.t + x.l1), min 40 (s.lots.c + x.l2)⟩
def Rich.wide (x : Rich) (o : Order) : Order:=⟨o.name, o.weight, max 0 (o.tlo - x.w0), min 1000 (o.thi + x.w1), max 0 (o.clo - x.w2), min 1000 (o.chi + x.w0)⟩
def Store.loose (s : Store) (n : Nat) (y : Head) : List Head:=s.heads.set n { y with kept:=false }
def wideTo (x : Rich) (l : List Order) (i : Nat) : List Order:=(l.take i).map x.wide++l.drop i
theorem wideTo_set {x : Rich} {l : List Order} {i : Nat} {o : Order} (h : l[i]? = some o) : (wideTo x l i).set i (x.wide o) = wideTo x l (i + 1):=by
  have hi:=(List.getElem?_eq_some_iff.1 h).1
  have hd : l.drop i = o :: l.drop (i + 1):=by
    obtain ⟨y, hy, e⟩:=drop_cons (l:=l) (i:=i) hi
    rw [h] at hy;cases hy;exact e
  unfold wideTo
  rw [hd, List.set_append_right _ _ (by simp;omega)]
  simp only [List.length_map, List.length_take]
  rw [show i - min i l.length = 0 by omega, List.set_cons_zero, List.take_add_one, h]
  simp
theorem wideTo_at {x : Rich} {l : List Order} {i : Nat} {o : Order} (h : l[i]? = some o) : (wideTo x l i)[i]? = some o:=by
  have hi:=(List.getElem?_eq_some_iff.1 h).1
  unfold wideTo
  rw [List.getElem?_append_right (by simp;omega)]
  simp only [List.length_map, List.length_take]
  rw [show i - min i l.length = 0 by omega, List.getElem?_drop, Nat.add_zero, h]
theorem wideTo_len (x : Rich) (l : List Order) (i : Nat) : (wideTo x l i).length = l.length:=by unfold wideTo;simp;omega
theorem wideTo_all (x : Rich) (l : List Order) : wideTo x l l.length = l.map x.wide:=by unfold wideTo;simp
theorem pureEs_orders (l : List Order) (n : Nat) (h : n = l.length) : pureEs ((l.map orderA).take n) = some (l.map orderA):=by
  rw [List.take_of_length_le (by simp [h])]
  clear h
  induction l with
  | nil=>rfl
  | cons x l ih=>simp only [List.map_cons, pureEs, ih, show pureE (orderA x) = some (orderA x) from rfl]
theorem set_orders (l : List Order) (a : Int) (n : Nat) (x : AV) (f : Order) (ha : a = n) (hx : x = orderA f) : (l.map orderA).set a.toNat x = (l.set n f).map orderA:=by
  subst ha hx
  simp [List.map_set]
def Store.rich1 (s : Store) (x : Rich) (L : List Head) : Store:=⟨lotsTo s x 3, s.fade, L, s.orders⟩
theorem lotsTo_c (s : Store) (x : Rich) (hx : x.fit) (h4 : s.lots.upto 40) (n : Nat) (y : Head) (L : List Head) (hL : L = s.loose n y) (hy : s.heads[n]? = some y) (hn : x.free.tmod ((s.heads.map headA).length : Int) = n) (h6 : s.heads.length ≤ 6) (h3 : s.orders.length ≤ 3)
    (ho : ∀ o ∈ s.orders, o.ok) (bv : Bool) (hv : PureA Tryd.prog 25 [storeA (s.rich1 x (L++[x.head]))] (boolA bv)) :
    PureA Tryd.prog 42 [storeA s, richA x] (storeA ⟨lotsTo s x 3, s.fade, if bv = true then L++[x.head] else L, s.orders.map x.wide⟩):=by
  obtain ⟨u1, u2, u3, u4, u5, u6, u7, u8⟩:=hx
  obtain ⟨q1, q2, q3⟩:=h4
  have hlt:=(List.getElem?_eq_some_iff.1 hy).1
  have e1 : (s.heads.map headA).length = s.heads.length:=List.length_map ..
  have e2 : (s.orders.map orderA).length = s.orders.length:=List.length_map ..
  have g0 : (lotsTo s x 0).b = s.lots.b:=rfl
  have g1 : (lotsTo s x 1).t = s.lots.t:=rfl
  have g2 : (lotsTo s x 2).c = s.lots.c:=rfl
  refine pureA_codeB tabOk { l:=0, f:=42, ow:=[30, 63], fz:=[(8, 2), (20, 2)] } mixed call_42 Tryd.func42 (by kernel_rfl) ?_
  conv=>whnf
  repeat (any_goals (first|exact falseI|((first|refine bd ?_ ?_|refine bn ?_ ?_)<;>intro _<;>first|(exfalso;omega)|conv=>whnf)|((first|refine dI ?_|refine okI ?_|refine bt ?_|refine bi (fun _=>?_) (fun _=>?_)|refine bndI ?_|intro _)<;>conv=>whnf)))
  refine loopK tabOk { l:=0, f:=42, ow:=[30, 63], fz:=[(8, 2), (20, 2)] } mixed (fun i : Nat=>[(5, intA i)]) (fun i=>[(⟨0, 42, 2⟩, some (1, some (6, [.agg [intA (lotsTo s x i).b, intA (lotsTo s x i).t, intA (lotsTo s x i).c, intA s.fade, headsA s.heads, ordersA s.orders]])))]) (fun _=>[]) (fun i=>i ≤ 3) (fun i=>3 - i) 0 (by kernel_rfl)
    (Nat.zero_le _) ?_
  conv=>whnf
  refine ⟨⟨slotsLe_cons rfl trivial, keysLe_cons rfl trivial, trivial⟩, ?_⟩
  intro i hi
  conv=>whnf
  refine brP_dec (fun h4=>?_) (fun h4=>?_)
  · have h4 : (i : Int) < 3:=h4
    rcases lt3 (by omega : i < 3) with rfl|rfl|rfl
    · conv=>whnf
      repeat (any_goals (first|exact falseI|((first|refine bd ?_ ?_|refine bn ?_ ?_)<;>intro _<;>first|(exfalso;omega)|conv=>whnf)|((first|refine dI ?_|refine okI ?_|refine bt ?_|refine bi (fun _=>?_) (fun _=>?_)|refine bndI ?_|intro _)<;>conv=>whnf)))
      (refine ⟨1, (by omega), (by omega), ?_⟩;(conv=>whnf);refine ⟨?_, ?_, ?_⟩<;>repeat (first|exact trivial|refine sc rfl ?_|refine kn ?_|refine kc rfl ?_|refine sc (by rfl) ?_|refine kc (by rfl) ?_))
    · conv=>whnf
      repeat (any_goals (first|exact falseI|((first|refine bd ?_ ?_|refine bn ?_ ?_)<;>intro _<;>first|(exfalso;omega)|conv=>whnf)|((first|refine dI ?_|refine okI ?_|refine bt ?_|refine bi (fun _=>?_) (fun _=>?_)|refine bndI ?_|intro _)<;>conv=>whnf)))
      (refine ⟨2, (by omega), (by omega), ?_⟩;(conv=>whnf);refine ⟨?_, ?_, ?_⟩<;>repeat (first|exact trivial|refine sc rfl ?_|refine kn ?_|refine kc rfl ?_|refine sc (by rfl) ?_|refine kc (by rfl) ?_))
    · conv=>whnf
      repeat (any_goals (first|exact falseI|((first|refine bd ?_ ?_|refine bn ?_ ?_)<;>intro _<;>first|(exfalso;omega)|conv=>whnf)|((first|refine dI ?_|refine okI ?_|refine bt ?_|refine bi (fun _=>?_) (fun _=>?_)|refine bndI ?_|intro _)<;>conv=>whnf)))
      (refine ⟨3, (by omega), (by omega), ?_⟩;(conv=>whnf);refine ⟨?_, ?_, ?_⟩<;>repeat (first|exact trivial|refine sc rfl ?_|refine kn ?_|refine kc rfl ?_|refine sc (by rfl) ?_|refine kc (by rfl) ?_))
  · have h4 : ¬ (i : Int) < 3:=h4
    have : i = 3:=by omega
    subst this
    have hs:=set_heads s.heads (x.free.tmod ((s.heads.map headA).length : Int)) n (.agg [strA y.name, intA y.wax.b, intA y.wax.t, intA y.wax.c, intA y.days, boolA false]) { y with kept:=false } hn rfl
    change (s.heads.map headA).set _ _ = (s.loose n y).map headA at hs
    rw [← hL] at hs
    have hp:=pureEs_heads (L) (s.heads.map headA).length (by rw [hL];unfold Store.loose;simp)
    have hll : (List.map headA (L)).length = s.heads.length:=by rw [hL];unfold Store.loose;simp
    have hap : []++L.map headA++[headA x.head] = (L++[x.head]).map headA:=by simp
    have hv : PureA Tryd.prog 25 [.agg [intA (lotsTo s x 3).b, intA (lotsTo s x 3).t, intA (lotsTo s x 3).c, intA s.fade, .slice 6 ([]++L.map headA++[headA x.head]) .no, ordersA s.orders]] (boolA bv):=by
      rw [hap];exact hv
    cases bv with
    | false =>
      conv=>whnf
      repeat (any_goals (first|exact falseI|((first|refine bd ?_ ?_|refine bn ?_ ?_)<;>intro _<;>first|(exfalso;omega)|conv=>whnf)|((first|refine optP_map hy hn ?_|refine forceL_to hs ?_|refine optP_intro hp ?_|refine callP_a hv ?_|refine dI ?_|refine okI ?_|refine bt ?_|refine bi (fun _=>?_) (fun _=>?_)|refine bndI ?_|intro _)<;>conv=>whnf)))
      refine loopK tabOk { l:=0, f:=42, ow:=[30, 63], fz:=[(8, 2), (20, 2)] } mixed (fun i : Nat=>[(7, intA i)]) (fun i=>[(⟨0, 42, 63⟩, some (1, some (6, (wideTo x s.orders i).map orderA)))]) (fun _=>[]) (fun i=>i ≤ s.orders.length) (fun i=>s.orders.length - i) 0 (by kernel_rfl)
        (Nat.zero_le _) ?_
      conv=>whnf
      refine ⟨⟨slotsLe_cons rfl trivial, keysLe_cons rfl trivial, trivial⟩, ?_⟩
      intro i hi
      have hwl:=wideTo_len x s.orders i
      have hwm : (List.map orderA (wideTo x s.orders i)).length = s.orders.length:=by rw [List.length_map];exact hwl
      by_cases hlt2 : i < s.orders.length
      · obtain ⟨o, hoi, _⟩:=drop_cons (l:=s.orders) (i:=i) hlt2
        obtain ⟨⟨p1, p2⟩, ⟨p3, p4, p5⟩, p6, p7, p8⟩:=ho o (List.mem_of_getElem? hoi)
        have hat:=wideTo_at (x:=x) hoi
        have hst:=set_orders (wideTo x s.orders i) i i (.agg [strA o.name, intA o.weight, intA (max 0 (o.tlo - x.w0)), intA (min 1000 (o.thi + x.w1)), intA (max 0 (o.clo - x.w2)), intA (min 1000 (o.chi + x.w0))]) (x.wide o) rfl rfl
        rw [wideTo_set hoi] at hst
        conv=>whnf
        repeat (any_goals (first|exact falseI|((first|refine bd ?_ ?_|refine bn ?_ ?_)<;>intro _<;>first|(exfalso;omega)|conv=>whnf)|((first|refine optP_map hat rfl ?_|refine callP_a (spanL_c _ _) ?_|refine forceL_to hst ?_|refine dI ?_|refine okI ?_|refine bt ?_|refine bi (fun _=>?_) (fun _=>?_)|refine bndI ?_|intro _)<;>conv=>whnf)))
        (refine ⟨i + 1, (by omega), (by omega), ?_⟩;(conv=>whnf);refine ⟨?_, ?_, ?_⟩<;>repeat (first|exact trivial|refine sc rfl ?_|refine kn ?_|refine kc rfl ?_|refine sc (by first|rfl|(rw [← hst];rfl)) ?_|refine kc (by first|rfl|(rw [← hst];rfl)) ?_))
      · have : i = s.orders.length:=by omega
        subst this
        have hpo : pureEs ((List.map orderA (wideTo x s.orders s.orders.length)).take (s.orders.map orderA).length) = some ((s.orders.map x.wide).map orderA):=by
          rw [wideTo_all]
          exact pureEs_orders _ _ (by simp)
        conv=>whnf
        repeat (any_goals (first|exact falseI|((first|refine bd ?_ ?_|refine bn ?_ ?_)<;>intro _<;>first|(exfalso;omega)|conv=>whnf)|((first|refine optP_intro hpo ?_|refine dI ?_|refine okI ?_|refine bt ?_|refine bi (fun _=>?_) (fun _=>?_)|refine bndI ?_|intro _)<;>conv=>whnf)))
        (refine ⟨⟨?_⟩, trivial⟩;first|rfl|(unfold storeA headsA;simp only [if_true];rw [← hap];rfl))
    | true =>
      conv=>whnf
      repeat (any_goals (first|exact falseI|((first|refine bd ?_ ?_|refine bn ?_ ?_)<;>intro _<;>first|(exfalso;omega)|conv=>whnf)|((first|refine optP_map hy hn ?_|refine forceL_to hs ?_|refine optP_intro hp ?_|refine callP_a hv ?_|refine dI ?_|refine okI ?_|refine bt ?_|refine bi (fun _=>?_) (fun _=>?_)|refine bndI ?_|intro _)<;>conv=>whnf)))
      refine loopK tabOk { l:=0, f:=42, ow:=[30, 63], fz:=[(8, 2), (20, 2)] } mixed (fun i : Nat=>[(7, intA i)]) (fun i=>[(⟨0, 42, 63⟩, some (1, some (6, (wideTo x s.orders i).map orderA)))]) (fun _=>[]) (fun i=>i ≤ s.orders.length) (fun i=>s.orders.length - i) 0 (by kernel_rfl)
        (Nat.zero_le _) ?_
      conv=>whnf
      refine ⟨⟨slotsLe_cons rfl trivial, keysLe_cons rfl trivial, trivial⟩, ?_⟩
      intro i hi
      have hwl:=wideTo_len x s.orders i
      have hwm : (List.map orderA (wideTo x s.orders i)).length = s.orders.length:=by rw [List.length_map];exact hwl
      by_cases hlt2 : i < s.orders.length
      · obtain ⟨o, hoi, _⟩:=drop_cons (l:=s.orders) (i:=i) hlt2
        obtain ⟨⟨p1, p2⟩, ⟨p3, p4, p5⟩, p6, p7, p8⟩:=ho o (List.mem_of_getElem? hoi)
        have hat:=wideTo_at (x:=x) hoi
        have hst:=set_orders (wideTo x s.orders i) i i (.agg [strA o.name, intA o.weight, intA (max 0 (o.tlo - x.w0)), intA (min 1000 (o.thi + x.w1)), intA (max 0 (o.clo - x.w2)), intA (min 1000 (o.chi + x.w0))]) (x.wide o) rfl rfl
        rw [wideTo_set hoi] at hst
        conv=>whnf
        repeat (any_goals (first|exact falseI|((first|refine bd ?_ ?_|refine bn ?_ ?_)<;>intro _<;>first|(exfalso;omega)|conv=>whnf)|((first|refine optP_map hat rfl ?_|refine callP_a (spanL_c _ _) ?_|refine forceL_to hst ?_|refine dI ?_|refine okI ?_|refine bt ?_|refine bi (fun _=>?_) (fun _=>?_)|refine bndI ?_|intro _)<;>conv=>whnf)))
        (refine ⟨i + 1, (by omega), (by omega), ?_⟩;(conv=>whnf);refine ⟨?_, ?_, ?_⟩<;>repeat (first|exact trivial|refine sc rfl ?_|refine kn ?_|refine kc rfl ?_|refine sc (by first|rfl|(rw [← hst];rfl)) ?_|refine kc (by first|rfl|(rw [← hst];rfl)) ?_))
      · have : i = s.orders.length:=by omega
        subst this
        have hpo : pureEs ((List.map orderA (wideTo x s.orders s.orders.length)).take (s.orders.map orderA).length) = some ((s.orders.map x.wide).map orderA):=by
          rw [wideTo_all]
          exact pureEs_orders _ _ (by simp)
        conv=>whnf
        repeat (any_goals (first|exact falseI|((first|refine bd ?_ ?_|refine bn ?_ ?_)<;>intro _<;>first|(exfalso;omega)|conv=>whnf)|((first|refine optP_intro hpo ?_|refine dI ?_|refine okI ?_|refine bt ?_|refine bi (fun _=>?_) (fun _=>?_)|refine bndI ?_|intro _)<;>conv=>whnf)))
        (refine ⟨⟨?_⟩, trivial⟩;first|rfl|(unfold storeA headsA;simp only [if_true];rw [← hap];rfl))
theorem lotsTo0_c (s : Store) (x : Rich) (hx : x.fit) (h4 : s.lots.upto 40) (h0 : s.heads = []) (h3 : s.orders.length ≤ 3)
    (ho : ∀ o ∈ s.orders, o.ok) (bv : Bool) (hv : PureA Tryd.prog 25 [storeA (s.rich1 x [x.head])] (boolA bv)) :
    PureA Tryd.prog 42 [storeA s, richA x] (storeA ⟨lotsTo s x 3, s.fade, if bv = true then [x.head] else [], s.orders.map x.wide⟩):=by
  obtain ⟨u1, u2, u3, u4, u5, u6, u7, u8⟩:=hx
  obtain ⟨q1, q2, q3⟩:=h4
  obtain ⟨lots, fade, heads, orders⟩:=s
  simp only at h0
  subst h0
  have e2 : (orders.map orderA).length = orders.length:=List.length_map ..
  have g0 : (lotsTo ⟨lots, fade, [], orders⟩ x 0).b = lots.b:=rfl
  have g1 : (lotsTo ⟨lots, fade, [], orders⟩ x 1).t = lots.t:=rfl
  have g2 : (lotsTo ⟨lots, fade, [], orders⟩ x 2).c = lots.c:=rfl
  refine pureA_codeB tabOk { l:=0, f:=42, ow:=[30, 63], fz:=[(8, 2), (20, 2)] } mixed call_42 Tryd.func42 (by kernel_rfl) ?_
  conv=>whnf
  repeat (any_goals (first|exact falseI|((first|refine bd ?_ ?_|refine bn ?_ ?_)<;>intro _<;>first|(exfalso;omega)|conv=>whnf)|((first|refine dI ?_|refine okI ?_|refine bt ?_|refine bi (fun _=>?_) (fun _=>?_)|refine bndI ?_|intro _)<;>conv=>whnf)))
  refine loopK tabOk { l:=0, f:=42, ow:=[30, 63], fz:=[(8, 2), (20, 2)] } mixed (fun i : Nat=>[(5, intA i)]) (fun i=>[(⟨0, 42, 2⟩, some (1, some (6, [.agg [intA (lotsTo ⟨lots, fade, [], orders⟩ x i).b, intA (lotsTo ⟨lots, fade, [], orders⟩ x i).t, intA (lotsTo ⟨lots, fade, [], orders⟩ x i).c, intA fade, headsA ([] : List Head), ordersA orders]])))]) (fun _=>[]) (fun i=>i ≤ 3) (fun i=>3 - i) 0 (by kernel_rfl)
    (Nat.zero_le _) ?_
  conv=>whnf
  refine ⟨⟨slotsLe_cons rfl trivial, keysLe_cons rfl trivial, trivial⟩, ?_⟩
  intro i hi
  conv=>whnf
  refine brP_dec (fun h4=>?_) (fun h4=>?_)
  · have h4 : (i : Int) < 3:=h4
    rcases lt3 (by omega : i < 3) with rfl|rfl|rfl
    · conv=>whnf
      repeat (any_goals (first|exact falseI|((first|refine bd ?_ ?_|refine bn ?_ ?_)<;>intro _<;>first|(exfalso;omega)|conv=>whnf)|((first|refine dI ?_|refine okI ?_|refine bt ?_|refine bi (fun _=>?_) (fun _=>?_)|refine bndI ?_|intro _)<;>conv=>whnf)))
      (refine ⟨1, (by omega), (by omega), ?_⟩;(conv=>whnf);refine ⟨?_, ?_, ?_⟩<;>repeat (first|exact trivial|refine sc rfl ?_|refine kn ?_|refine kc rfl ?_|refine sc (by rfl) ?_|refine kc (by rfl) ?_))
    · conv=>whnf
      repeat (any_goals (first|exact falseI|((first|refine bd ?_ ?_|refine bn ?_ ?_)<;>intro _<;>first|(exfalso;omega)|conv=>whnf)|((first|refine dI ?_|refine okI ?_|refine bt ?_|refine bi (fun _=>?_) (fun _=>?_)|refine bndI ?_|intro _)<;>conv=>whnf)))
      (refine ⟨2, (by omega), (by omega), ?_⟩;(conv=>whnf);refine ⟨?_, ?_, ?_⟩<;>repeat (first|exact trivial|refine sc rfl ?_|refine kn ?_|refine kc rfl ?_|refine sc (by rfl) ?_|refine kc (by rfl) ?_))
    · conv=>whnf
      repeat (any_goals (first|exact falseI|((first|refine bd ?_ ?_|refine bn ?_ ?_)<;>intro _<;>first|(exfalso;omega)|conv=>whnf)|((first|refine dI ?_|refine okI ?_|refine bt ?_|refine bi (fun _=>?_) (fun _=>?_)|refine bndI ?_|intro _)<;>conv=>whnf)))
      (refine ⟨3, (by omega), (by omega), ?_⟩;(conv=>whnf);refine ⟨?_, ?_, ?_⟩<;>repeat (first|exact trivial|refine sc rfl ?_|refine kn ?_|refine kc rfl ?_|refine sc (by rfl) ?_|refine kc (by rfl) ?_))
  · have h4 : ¬ (i : Int) < 3:=h4
    have : i = 3:=by omega
    subst this
    have hv : PureA Tryd.prog 25 [.agg [intA (lotsTo ⟨lots, fade, [], orders⟩ x 3).b, intA (lotsTo ⟨lots, fade, [], orders⟩ x 3).t, intA (lotsTo ⟨lots, fade, [], orders⟩ x 3).c, intA fade, .slice 6 [headA x.head] .no, ordersA orders]] (boolA bv):=hv
    cases bv with
    | false =>
      conv=>whnf
      repeat (any_goals (first|exact falseI|((first|refine bd ?_ ?_|refine bn ?_ ?_)<;>intro _<;>first|(exfalso;omega)|conv=>whnf)|((first|refine callP_a hv ?_|refine dI ?_|refine okI ?_|refine bt ?_|refine bi (fun _=>?_) (fun _=>?_)|refine bndI ?_|intro _)<;>conv=>whnf)))
      refine loopK tabOk { l:=0, f:=42, ow:=[30, 63], fz:=[(8, 2), (20, 2)] } mixed (fun i : Nat=>[(7, intA i)]) (fun i=>[(⟨0, 42, 63⟩, some (1, some (6, (wideTo x orders i).map orderA)))]) (fun _=>[]) (fun i=>i ≤ orders.length) (fun i=>orders.length - i) 0 (by kernel_rfl)
        (Nat.zero_le _) ?_
      conv=>whnf
      refine ⟨⟨slotsLe_cons rfl trivial, keysLe_cons rfl trivial, trivial⟩, ?_⟩
      intro i hi
      have hwl:=wideTo_len x orders i
      have hwm : (List.map orderA (wideTo x orders i)).length = orders.length:=by rw [List.length_map];exact hwl
      by_cases hlt2 : i < orders.length
      · obtain ⟨o, hoi, _⟩:=drop_cons (l:=orders) (i:=i) hlt2
        obtain ⟨⟨p1, p2⟩, ⟨p3, p4, p5⟩, p6, p7, p8⟩:=ho o (List.mem_of_getElem? hoi)
        have hat:=wideTo_at (x:=x) hoi
        have hst:=set_orders (wideTo x orders i) i i (.agg [strA o.name, intA o.weight, intA (max 0 (o.tlo - x.w0)), intA (min 1000 (o.thi + x.w1)), intA (max 0 (o.clo - x.w2)), intA (min 1000 (o.chi + x.w0))]) (x.wide o) rfl rfl
        rw [wideTo_set hoi] at hst
        conv=>whnf
        repeat (any_goals (first|exact falseI|((first|refine bd ?_ ?_|refine bn ?_ ?_)<;>intro _<;>first|(exfalso;omega)|conv=>whnf)|((first|refine optP_map hat rfl ?_|refine callP_a (spanL_c _ _) ?_|refine forceL_to hst ?_|refine dI ?_|refine okI ?_|refine bt ?_|refine bi (fun _=>?_) (fun _=>?_)|refine bndI ?_|intro _)<;>conv=>whnf)))
        (refine ⟨i + 1, (by omega), (by omega), ?_⟩;(conv=>whnf);refine ⟨?_, ?_, ?_⟩<;>repeat (first|exact trivial|refine sc rfl ?_|refine kn ?_|refine kc rfl ?_|refine sc (by first|rfl|(rw [← hst];rfl)) ?_|refine kc (by first|rfl|(rw [← hst];rfl)) ?_))
      · have : i = orders.length:=by omega
        subst this
        have hpo : pureEs ((List.map orderA (wideTo x orders orders.length)).take (orders.map orderA).length) = some ((orders.map x.wide).map orderA):=by
          rw [wideTo_all]
          exact pureEs_orders _ _ (by simp)
        conv=>whnf
        repeat (any_goals (first|exact falseI|((first|refine bd ?_ ?_|refine bn ?_ ?_)<;>intro _<;>first|(exfalso;omega)|conv=>whnf)|((first|refine optP_intro hpo ?_|refine dI ?_|refine okI ?_|refine bt ?_|refine bi (fun _=>?_) (fun _=>?_)|refine bndI ?_|intro _)<;>conv=>whnf)))
        (refine ⟨⟨?_⟩, trivial⟩;rfl)
    | true =>
      conv=>whnf
      repeat (any_goals (first|exact falseI|((first|refine bd ?_ ?_|refine bn ?_ ?_)<;>intro _<;>first|(exfalso;omega)|conv=>whnf)|((first|refine callP_a hv ?_|refine dI ?_|refine okI ?_|refine bt ?_|refine bi (fun _=>?_) (fun _=>?_)|refine bndI ?_|intro _)<;>conv=>whnf)))
      refine loopK tabOk { l:=0, f:=42, ow:=[30, 63], fz:=[(8, 2), (20, 2)] } mixed (fun i : Nat=>[(7, intA i)]) (fun i=>[(⟨0, 42, 63⟩, some (1, some (6, (wideTo x orders i).map orderA)))]) (fun _=>[]) (fun i=>i ≤ orders.length) (fun i=>orders.length - i) 0 (by kernel_rfl)
        (Nat.zero_le _) ?_
      conv=>whnf
      refine ⟨⟨slotsLe_cons rfl trivial, keysLe_cons rfl trivial, trivial⟩, ?_⟩
      intro i hi
      have hwl:=wideTo_len x orders i
      have hwm : (List.map orderA (wideTo x orders i)).length = orders.length:=by rw [List.length_map];exact hwl
      by_cases hlt2 : i < orders.length
      · obtain ⟨o, hoi, _⟩:=drop_cons (l:=orders) (i:=i) hlt2
        obtain ⟨⟨p1, p2⟩, ⟨p3, p4, p5⟩, p6, p7, p8⟩:=ho o (List.mem_of_getElem? hoi)
        have hat:=wideTo_at (x:=x) hoi
        have hst:=set_orders (wideTo x orders i) i i (.agg [strA o.name, intA o.weight, intA (max 0 (o.tlo - x.w0)), intA (min 1000 (o.thi + x.w1)), intA (max 0 (o.clo - x.w2)), intA (min 1000 (o.chi + x.w0))]) (x.wide o) rfl rfl
        rw [wideTo_set hoi] at hst
        conv=>whnf
        repeat (any_goals (first|exact falseI|((first|refine bd ?_ ?_|refine bn ?_ ?_)<;>intro _<;>first|(exfalso;omega)|conv=>whnf)|((first|refine optP_map hat rfl ?_|refine callP_a (spanL_c _ _) ?_|refine forceL_to hst ?_|refine dI ?_|refine okI ?_|refine bt ?_|refine bi (fun _=>?_) (fun _=>?_)|refine bndI ?_|intro _)<;>conv=>whnf)))
        (refine ⟨i + 1, (by omega), (by omega), ?_⟩;(conv=>whnf);refine ⟨?_, ?_, ?_⟩<;>repeat (first|exact trivial|refine sc rfl ?_|refine kn ?_|refine kc rfl ?_|refine sc (by first|rfl|(rw [← hst];rfl)) ?_|refine kc (by first|rfl|(rw [← hst];rfl)) ?_))
      · have : i = orders.length:=by omega
        subst this
        have hpo : pureEs ((List.map orderA (wideTo x orders orders.length)).take (orders.map orderA).length) = some ((orders.map x.wide).map orderA):=by
          rw [wideTo_all]
          exact pureEs_orders _ _ (by simp)
        conv=>whnf
        repeat (any_goals (first|exact falseI|((first|refine bd ?_ ?_|refine bn ?_ ?_)<;>intro _<;>first|(exfalso;omega)|conv=>whnf)|((first|refine optP_intro hpo ?_|refine dI ?_|refine okI ?_|refine bt ?_|refine bi (fun _=>?_) (fun _=>?_)|refine bndI ?_|intro _)<;>conv=>whnf)))
        (refine ⟨⟨?_⟩, trivial⟩;rfl)
end Go.Proofs.YtbpiibdcncfphaaDoor
namespace Go.Proofs.YtbpiibdcncfphaaDoor
open Go.Am Go.Proofs Go Go.ChangeShapes Go.WideShapes Go.RowKit
section
variable {H : Type} {enc : TypeId × Value→H} {W : World} {sp : Nat→Bool} {held : Bool}
theorem cells74 : Tryd.prog.cellsOf 74 = 13:=by kernel_rfl
theorem leaves74 : leaves Tryd.prog 6 74 = some [.int .u8, .int .u8, .int .u8, .int .u8, .int .u8, .int .u8, .str, .int .i64, .int .i64, .int .i64, .int .i64, .bool, .int .u8]:=by kernel_rfl
theorem thirteen {α : Type} {l : List α} (h : l.length = 13) : ∃ a0 a1 a2 a3 a4 a5 a6 a7 a8 a9 b0 b1 b2, l = [a0, a1, a2, a3, a4, a5, a6, a7, a8, a9, b0, b1, b2] :=
  match l, h with
  | [a0, a1, a2, a3, a4, a5, a6, a7, a8, a9, b0, b1, b2], _=>⟨a0, a1, a2, a3, a4, a5, a6, a7, a8, a9, b0, b1, b2, rfl⟩
set_option maxHeartbeats 8000000 in
set_option maxRecDepth 100000 in
theorem rich_read {r : Reach} {b0 : Nat} {v : Value} {d : DataW H} {ps : List MemPlace} (hk : Value.okWide Tryd.prog W r b0 74 v) (h : DataW.Trod enc Tryd.prog W 0 sp held 74 v d ps) :
    ∃ x : Rich, (Rows.uptoBulk d ≤ 1048576→x.fit)∧PRel W (lies W) (richA x) v:=by
  have f:=flat_arg leaves74 h
  simp only [Value.okWide, Tryd.underlying74] at hk
  obtain ⟨vs, rfl, hsz, _⟩:=hk
  rw [cells74] at hsz
  obtain ⟨l⟩:=vs
  obtain ⟨a0, a1, a2, a3, a4, a5, a6, a7, a8, a9, c0, c1, c2, rfl⟩:=thirteen (by simpa using hsz)
  have f : Fit (Rows.uptoBulk d) _ [a0, a1, a2, a3, a4, a5, a6, a7, a8, a9, c0, c1, c2]:=f
  match a0, a1, a2, a3, a4, a5, a6, a7, a8, a9, c0, c1, c2, f with
  | .int _ x0, .int _ x1, .int _ x2, .int _ x3, .int _ x4, .int _ x5, .string x6, .int _ x7, .int _ x8, .int _ x9, .int _ y0, .bool y1, .int _ y2, f =>
    obtain ⟨⟨rfl, w0⟩, ⟨rfl, w1⟩, ⟨rfl, w2⟩, ⟨rfl, w3⟩, ⟨rfl, w4⟩, ⟨rfl, w5⟩, w6, ⟨rfl, _⟩, ⟨rfl, _⟩, ⟨rfl, _⟩, ⟨rfl, _⟩, _, ⟨rfl, w7⟩, _⟩:=f
    refine ⟨⟨x0, x1, x2, x3, x4, x5, ⟨x6, ⟨x7, x8, x9⟩, y0, y1⟩, y2⟩, fun hb=>⟨bounds_u8 w0, bounds_u8 w1, bounds_u8 w2, bounds_u8 w3, bounds_u8 w4, bounds_u8 w5, bounds_u8 w7, Nat.le_trans w6 hb⟩, ?_⟩
    refine PRel.agg rfl (fun i x y hx hy=>?_) (fun y hy=>?_)
    · match i with
      | 0=>simp at hx hy;subst hx hy;exact .v _
      | 1=>simp at hx hy;subst hx hy;exact .v _
      | 2=>simp at hx hy;subst hx hy;exact .v _
      | 3=>simp at hx hy;subst hx hy;exact .v _
      | 4=>simp at hx hy;subst hx hy;exact .v _
      | 5=>simp at hx hy;subst hx hy;exact .v _
      | 6=>simp at hx hy;subst hx hy;exact .v _
      | 7=>simp at hx hy;subst hx hy;exact .v _
      | 8=>simp at hx hy;subst hx hy;exact .v _
      | 9=>simp at hx hy;subst hx hy;exact .v _
      | 10=>simp at hx hy;subst hx hy;exact .v _
      | 11=>simp at hx hy;subst hx hy;exact .v _
      | 12=>simp at hx hy;subst hx hy;exact .v _
      | i + 13=>simp at hx
    · simp at hy
      rcases hy with rfl|rfl|rfl|rfl|rfl|rfl|rfl|rfl|rfl|rfl|rfl|rfl|rfl<;>rfl
end
end Go.Proofs.YtbpiibdcncfphaaDoor
