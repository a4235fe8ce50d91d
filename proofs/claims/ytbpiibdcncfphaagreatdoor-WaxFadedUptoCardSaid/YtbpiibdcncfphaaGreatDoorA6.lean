/- Part 6 of the texts that the last one stands on. -/
import Derived.Test.YtbpiibdcncfphaaGreatDoorA5
set_option linter.unusedVariables false
set_option linter.unusedSimpArgs false
namespace Go.Proofs.YtbpiibdcncfphaaGreatDoor
open Go.Am Go.Proofs Go
def kLs : Key:=({ l:=0, f:=39 } : Cx).loopKey #[6]
def someE (s : Store) (w : Int) (m : List Amt) (r : Rec) (done : Bool) (memo : MemoL) : List BoxE :=
  r.box kLs #[6] done :: (⟨0, 39, 1⟩, 1, 1, [.ptr kS 1 27 0 0]) :: (⟨0, 39, 2⟩, 1, 1, [boolA done]) :: envE s w m memo
theorem wrap_shl : ∀ h : Nat, h ≤ 6→IntKind.i64.wrap (1 * 2 ^ min ((h : Int)).toNat IntKind.i64.bits) = ((2 ^ h : Nat) : Int):=by
  intro h hh
  rcases (by omega : h = 0∨h = 1∨h = 2∨h = 3∨h = 4∨h = 5∨h = 6) with rfl|rfl|rfl|rfl|rfl|rfl|rfl<;>rfl
set_option maxHeartbeats 2000000 in
theorem iterS_c (s : Store) (w : Int) (m : List Amt) (r : Rec) (hm : m.length = 6) (hg : s.Good) (hl : ∀ a, tkJs (keysE (someE s w m r false a)) r.l = r.l)
    (ok : MemoL→Prop) (go : MemoL→Nat→Bool) (nx : MemoL→Nat→MemoL)
    (hy : ∀ a n, ok a→n ∈ s.sorted→(go a n = true∧ok (nx a n)∧BoxA Tryz.prog (.yld kLs r.g) (someE s w m r false a) [setA n] (boolA true) (someE s w m r false (nx a n))) ∨
      (go a n = false∧BoxA Tryz.prog (.yld kLs r.g) (someE s w m r false a) [setA n] (boolA false) (someE s w m r true (nx a n))))
    (a0 : MemoL) (h0 : ok a0) :
    BoxA Tryz.prog (.fn 44) (someE s w m r false a0) [.yld kLs r.g, .ptr kT 1 1 0 0] (.tuple []) (someE s w m r (foldG go nx s.sorted a0).2 (foldG go nx s.sorted a0).1):=by
  have h6:=hg.len
  obtain ⟨p0, p1, p2, p3, p4, p5, rfl⟩:=list6 hm
  obtain ⟨rg, ra, rb, rl⟩:=r
  refine boxA_codeB tabOk { l:=0, f:=44, mat:=[46, 48], ow:=[27] } mixed call_44 Tryz.func44 (by kernel_rfl) ?_
  conv=>whnf
  repeat (any_goals (first|exact falseI|((first|refine bd ?_ ?_|refine bn ?_ ?_)<;>intro _<;>first|(exfalso;omega)|conv=>whnf)|((first|refine dI ?_|refine okI ?_|refine bt ?_|refine bi (fun _=>?_) (fun _=>?_)|refine bndI ?_|intro _)<;>conv=>whnf)))
  refine loopK tabOk { l:=0, f:=44, mat:=[46, 48], ow:=[27] } mixed (fun a : Nat × List Nat=>[(15, intA a.1), (3, ownO kA a.2)]) (fun a=>[(kA, some (boxO a.2))]) (fun _=>[]) (fun a=>a.1 ≤ 2 ^ s.heads.length∧a.2 = upto (maskOf s.heads) a.1) (fun a=>2 ^ s.heads.length - a.1) (0, []) (by kernel_rfl)
    ⟨Nat.zero_le _, rfl⟩ ?_
  conv=>whnf
  refine ⟨⟨?_, ?_, trivial⟩, ?_⟩
  · repeat (first|exact trivial|refine sc rfl ?_)
  · exact keysLe_new rfl trivial
  intro ⟨i, L⟩ ⟨hi, hL⟩
  simp only at hi hL
  have hsh:=wrap_shl s.heads.length h6
  have hp6:=two_pow_le h6
  conv=>whnf
  refine brP_dec (fun h1=>?_) (fun h1=>?_)
  · have h1 : (i : Int) < IntKind.i64.wrap (1 * 2 ^ min ((s.heads.map headA).length : Int).toNat IntKind.i64.bits):=h1
    rw [List.length_map, hsh] at h1
    have hlt : i < 2 ^ s.heads.length:=by omega
    have hlc:=list_c i (by omega)
    have hin:=(bits_all h6 hlt).1
    have hka:=anyKeptB_c s w [p0, p1, p2, p3, p4, p5] a0 (setL i) rfl (by have:=setL_len i;omega) hin
    rw [kept_any h6 hlt] at hka
    have hsu:=upto_succ (maskOf s.heads) i
    cases hb : (i &&& maskOf s.heads == 0) with
    | true =>
      rw [hb] at hka hsu
      simp only [Bool.not_true, if_true] at hka hsu
      cases L with
      | nil =>
        conv=>whnf
        repeat (any_goals (first|exact falseI|((first|refine bd ?_ ?_|refine bn ?_ ?_)<;>intro _<;>first|(exfalso;omega)|conv=>whnf)|((first|refine callP_a hlc ?_|refine dI ?_|refine okI ?_|refine bt ?_|refine bi (fun _=>?_) (fun _=>?_)|refine bndI ?_|intro _)<;>conv=>whnf)))
        refine ⟨[kS, kM, kT], ?_⟩
        conv=>whnf
        refine ⟨_, _, hka, ?_⟩
        conv=>whnf
        repeat (any_goals (first|exact falseI|((first|refine bd ?_ ?_|refine bn ?_ ?_)<;>intro _<;>first|(exfalso;omega)|conv=>whnf)|((first|refine dI ?_|refine okI ?_|refine bt ?_|refine bi (fun _=>?_) (fun _=>?_)|refine bndI ?_|intro _)<;>conv=>whnf)))
        (refine ⟨(i + 1, [i]), ⟨by simp only;omega, by simp only;rw [hsu, ← hL];rfl⟩, (by simp only;omega), ?_⟩;(conv=>whnf);refine ⟨?_, ?_, ?_⟩<;>repeat (first|exact trivial|refine sc rfl ?_|refine kn ?_|refine kc rfl ?_|refine sc (by rfl) ?_|refine kc (by rfl) ?_))
      | cons x L =>
        conv=>whnf
        repeat (any_goals (first|exact falseI|((first|refine bd ?_ ?_|refine bn ?_ ?_)<;>intro _<;>first|(exfalso;omega)|conv=>whnf)|((first|refine callP_a hlc ?_|refine dI ?_|refine okI ?_|refine bt ?_|refine bi (fun _=>?_) (fun _=>?_)|refine bndI ?_|intro _)<;>conv=>whnf)))
        refine ⟨[kS, kM, kT], ?_⟩
        conv=>whnf
        refine ⟨_, _, hka, ?_⟩
        conv=>whnf
        repeat (any_goals (first|exact falseI|((first|refine bd ?_ ?_|refine bn ?_ ?_)<;>intro _<;>first|(exfalso;omega)|conv=>whnf)|((first|refine dI ?_|refine okI ?_|refine bt ?_|refine bi (fun _=>?_) (fun _=>?_)|refine bndI ?_|intro _)<;>conv=>whnf)))
        have e1 : (L++[i]).length = L.length + 1:=by simp
        have e2 : List.take (L.length + 1) (setA x :: L.map setA)++[setA i] = setA x :: (L++[i]).map setA:=by
          rw [List.take_of_length_le (by simp)];simp
        have hLl : L.length + 1 ≤ 64:=by
          have:=upto_len (maskOf s.heads) i
          rw [← hL] at this
          simp only [List.length_cons] at this
          omega
        refine And.intro ⟨by simp, by simp only [List.length_cons, List.length_nil];omega, by simp only [List.length_cons, List.length_nil, maxLen];omega⟩ ?_
        conv=>whnf
        repeat (any_goals (first|exact falseI|((first|refine bd ?_ ?_|refine bn ?_ ?_)<;>intro _<;>first|(exfalso;omega)|conv=>whnf)|((first|refine dI ?_|refine okI ?_|refine bt ?_|refine bi (fun _=>?_) (fun _=>?_)|refine bndI ?_|intro _)<;>conv=>whnf)))
        (refine ⟨(i + 1, x :: (L++[i])), ⟨by simp only;omega, by simp only;rw [hsu, ← hL];rfl⟩, (by simp only;omega), ?_⟩;(conv=>whnf);refine ⟨?_, ?_, ?_⟩<;>repeat (first|exact trivial|refine sc rfl ?_|refine kn ?_|refine kc rfl ?_|refine sc (by first|(show some (AV.own kA (L.length + 1 + 1) 1 (L.length + 1 + 1) 0) = some (AV.own kA ((L++[i]).length + 1) 1 ((L++[i]).length + 1) 0);rw [e1])|(show some (some (L.length + 1 + 1, some (1, List.take (L.length + 1) (setA x :: L.map setA)++[setA i]))) = some (some ((L++[i]).length + 1, some (1, setA x :: (L++[i]).map setA)));rw [e1, e2])|rfl) ?_|refine kc (by first|(show some (AV.own kA (L.length + 1 + 1) 1 (L.length + 1 + 1) 0) = some (AV.own kA ((L++[i]).length + 1) 1 ((L++[i]).length + 1) 0);rw [e1])|(show some (some (L.length + 1 + 1, some (1, List.take (L.length + 1) (setA x :: L.map setA)++[setA i]))) = some (some ((L++[i]).length + 1, some (1, setA x :: (L++[i]).map setA)));rw [e1, e2])|rfl) ?_))
    | false =>
      rw [hb] at hka hsu
      simp only [Bool.not_false, Bool.false_eq_true, if_false, List.append_nil] at hka hsu
      cases L with
      | nil =>
        conv=>whnf
        repeat (any_goals (first|exact falseI|((first|refine bd ?_ ?_|refine bn ?_ ?_)<;>intro _<;>first|(exfalso;omega)|conv=>whnf)|((first|refine callP_a hlc ?_|refine dI ?_|refine okI ?_|refine bt ?_|refine bi (fun _=>?_) (fun _=>?_)|refine bndI ?_|intro _)<;>conv=>whnf)))
        refine ⟨[kS, kM, kT], ?_⟩
        conv=>whnf
        refine ⟨_, _, hka, ?_⟩
        conv=>whnf
        repeat (any_goals (first|exact falseI|((first|refine bd ?_ ?_|refine bn ?_ ?_)<;>intro _<;>first|(exfalso;omega)|conv=>whnf)|((first|refine dI ?_|refine okI ?_|refine bt ?_|refine bi (fun _=>?_) (fun _=>?_)|refine bndI ?_|intro _)<;>conv=>whnf)))
        (refine ⟨(i + 1, []), ⟨by simp only;omega, by simp only;rw [hsu, ← hL]⟩, (by simp only;omega), ?_⟩;(conv=>whnf);refine ⟨?_, ?_, ?_⟩<;>repeat (first|exact trivial|refine sc rfl ?_|refine kn ?_|refine kc rfl ?_|refine sc (by rfl) ?_|refine kc (by rfl) ?_))
      | cons x L =>
        conv=>whnf
        repeat (any_goals (first|exact falseI|((first|refine bd ?_ ?_|refine bn ?_ ?_)<;>intro _<;>first|(exfalso;omega)|conv=>whnf)|((first|refine callP_a hlc ?_|refine dI ?_|refine okI ?_|refine bt ?_|refine bi (fun _=>?_) (fun _=>?_)|refine bndI ?_|intro _)<;>conv=>whnf)))
        refine ⟨[kS, kM, kT], ?_⟩
        conv=>whnf
        refine ⟨_, _, hka, ?_⟩
        conv=>whnf
        repeat (any_goals (first|exact falseI|((first|refine bd ?_ ?_|refine bn ?_ ?_)<;>intro _<;>first|(exfalso;omega)|conv=>whnf)|((first|refine dI ?_|refine okI ?_|refine bt ?_|refine bi (fun _=>?_) (fun _=>?_)|refine bndI ?_|intro _)<;>conv=>whnf)))
        (refine ⟨(i + 1, x :: L), ⟨by simp only;omega, by simp only;rw [hsu, ← hL]⟩, (by simp only;omega), ?_⟩;(conv=>whnf);refine ⟨?_, ?_, ?_⟩<;>repeat (first|exact trivial|refine sc rfl ?_|refine kn ?_|refine kc rfl ?_|refine sc (by rfl) ?_|refine kc (by rfl) ?_))
  · have h1 : ¬ (i : Int) < IntKind.i64.wrap (1 * 2 ^ min ((s.heads.map headA).length : Int).toNat IntKind.i64.bits):=h1
    rw [List.length_map, hsh] at h1
    have hiN : i = 2 ^ s.heads.length:=by omega
    have hLs : L = s.sets:=by rw [hL, hiN, sets_eq]
    have hlen:=sorted_len s
    have hpq:=sorted_pdq (s:=s) h6
    have hsl : s.sets.length ≤ 64:=by
      have:=upto_len (maskOf s.heads) (2 ^ s.heads.length)
      rw [← sets_eq] at this
      omega
    obtain ⟨RR, hRR⟩ : ∃ RR, RR = foldG go nx s.sorted a0:=⟨_, rfl⟩
    rw [← hRR]
    generalize s.sorted = X at *
    cases L with
    | nil =>
      exfalso
      obtain ⟨l, h⟩:=upto_cons (maskOf s.heads) (2 ^ s.heads.length - 1)
      have : 2 ^ s.heads.length - 1 + 1 = 2 ^ s.heads.length:=by have:=Nat.two_pow_pos s.heads.length;omega
      rw [this, ← hiN, ← hL] at h
      cases h
    | cons x L =>
      rw [← hLs] at hpq hlen hsl
      simp only [List.length_cons] at hpq hlen hsl
      have hso:=sort_c (L.length + 1) (L.length + 1) 70 (x :: L) X (by simp) (by simp) hsl hpq
      have e3 : tkL (tk2 [kA]) (setA x :: L.map setA) = some ((x :: L).map setA):=tk_sets [kA] (x :: L)
      conv=>whnf
      repeat (any_goals (first|exact falseI|((first|refine bd ?_ ?_|refine bn ?_ ?_)<;>intro _<;>first|(exfalso;omega)|conv=>whnf)|((first|refine dI ?_|refine okI ?_|refine bt ?_|refine bi (fun _=>?_) (fun _=>?_)|refine bndI ?_|intro _)<;>conv=>whnf)))
      refine ⟨[kA], ?_⟩
      conv=>whnf
      refine optP_intro e3 ?_
      conv=>whnf
      refine ⟨_, _, hso, ?_⟩
      conv=>whnf
      refine optP_intro (tk_sets _ X) ?_
      conv=>whnf
      repeat (any_goals (first|exact falseI|((first|refine bd ?_ ?_|refine bn ?_ ?_)<;>intro _<;>first|(exfalso;omega)|conv=>whnf)|((first|refine dI ?_|refine okI ?_|refine bt ?_|refine bi (fun _=>?_) (fun _=>?_)|refine bndI ?_|intro _)<;>conv=>whnf)))
      refine loopK tabOk { l:=0, f:=44, mat:=[46, 48], ow:=[27] } mixed (fun a : Nat × MemoL=>[(33, intA a.1)]) (fun a=>preK (someE s w [p0, p1, p2, p3, p4, p5] ⟨rg, ra, rb, rl⟩ false a.2)) (fun _=>[]) (fun a=>a.1 ≤ X.length∧ok a.2∧RR = foldG go nx (X.drop a.1) a.2) (fun a=>X.length - a.1) (0, a0) (by kernel_rfl)
        ⟨Nat.zero_le _, h0, hRR⟩ ?_
      conv=>whnf
      refine ⟨⟨?_, ?_, trivial⟩, ?_⟩
      · repeat (first|exact trivial|refine sc rfl ?_)
      · repeat (first|exact trivial|refine kc rfl ?_)
      intro ⟨k, a⟩ ⟨hk, hok, H⟩
      simp only at hk hok H
      skip
      conv=>whnf
      refine brP_dec (fun h1=>?_) (fun h1=>?_)
      · have h1 : (k : Int) < ((L.length + 1 : Nat) : Int):=h1
        obtain ⟨n, hn, hd⟩:=drop_cons (l:=X) (i:=k) (by omega)
        rw [hd] at H
        simp only [foldG] at H
        have hkeys : keysE (someE s w [p0, p1, p2, p3, p4, p5] ⟨rg, ra, rb, tkJs (keysE (someE s w [p0, p1, p2, p3, p4, p5] ⟨rg, ra, rb, rl⟩ false a)) rl⟩ false a) = keysE (someE s w [p0, p1, p2, p3, p4, p5] ⟨rg, ra, rb, rl⟩ false a):=rfl
        have hl:=hl a
        rcases hy a n hok (List.mem_of_getElem? hn) with ⟨hgo, hok', hyy⟩|⟨hgo, hyy⟩
        · rw [if_pos hgo] at H
          have hyy : BoxA Tryz.prog (Tgt.yld kLs rg) (someE s w [p0, p1, p2, p3, p4, p5] ⟨rg, ra, rb, tkJs (keysE (someE s w [p0, p1, p2, p3, p4, p5] ⟨rg, ra, rb, rl⟩ false a)) rl⟩ false a) [setA n] (boolA true) (someE s w [p0, p1, p2, p3, p4, p5] ⟨rg, ra, rb, rl⟩ false (nx a n)):=by
            rw [hl];exact hyy
          generalize nx a n = a' at *
          conv=>whnf
          repeat (any_goals (first|exact falseI|((first|refine bd ?_ ?_|refine bn ?_ ?_)<;>intro _<;>first|(exfalso;omega)|conv=>whnf)|((first|refine optP_map hn rfl ?_|refine dI ?_|refine okI ?_|refine bt ?_|refine bi (fun _=>?_) (fun _=>?_)|refine bndI ?_|intro _)<;>conv=>whnf)))
          refine ⟨keysE (someE s w [p0, p1, p2, p3, p4, p5] ⟨rg, ra, rb, rl⟩ false a), ?_⟩
          conv=>whnf
          refine ⟨_, _, hyy, ?_⟩
          conv=>whnf
          repeat (any_goals (first|exact falseI|((first|refine bd ?_ ?_|refine bn ?_ ?_)<;>intro _<;>first|(exfalso;omega)|conv=>whnf)|((first|refine dI ?_|refine okI ?_|refine bt ?_|refine bi (fun _=>?_) (fun _=>?_)|refine bndI ?_|intro _)<;>conv=>whnf)))
          (refine ⟨(k + 1, a'), ⟨by simp only;omega, hok', H⟩, (by simp only;omega), ?_⟩;(conv=>whnf);refine ⟨?_, ?_, ?_⟩<;>repeat (first|exact trivial|refine sc rfl ?_|refine kn ?_|refine kc rfl ?_|refine sc (by first|rfl|exact congrArg (fun z=>some (some (rg, some (0, [AV.lp .ready none #[6] ra rb z])))) hl) ?_|refine kc (by first|rfl|exact congrArg (fun z=>some (some (rg, some (0, [AV.lp .ready none #[6] ra rb z])))) hl) ?_))
        · rw [if_neg (by rw [hgo];simp)] at H
          subst H
          have hyy : BoxA Tryz.prog (Tgt.yld kLs rg) (someE s w [p0, p1, p2, p3, p4, p5] ⟨rg, ra, rb, tkJs (keysE (someE s w [p0, p1, p2, p3, p4, p5] ⟨rg, ra, rb, rl⟩ false a)) rl⟩ false a) [setA n] (boolA false) (someE s w [p0, p1, p2, p3, p4, p5] ⟨rg, ra, rb, rl⟩ true (nx a n)):=by
            rw [hl];exact hyy
          generalize nx a n = a' at *
          conv=>whnf
          repeat (any_goals (first|exact falseI|((first|refine bd ?_ ?_|refine bn ?_ ?_)<;>intro _<;>first|(exfalso;omega)|conv=>whnf)|((first|refine optP_map hn rfl ?_|refine dI ?_|refine okI ?_|refine bt ?_|refine bi (fun _=>?_) (fun _=>?_)|refine bndI ?_|intro _)<;>conv=>whnf)))
          refine ⟨keysE (someE s w [p0, p1, p2, p3, p4, p5] ⟨rg, ra, rb, rl⟩ false a), ?_⟩
          conv=>whnf
          refine ⟨_, _, hyy, ?_⟩
          conv=>whnf
          repeat (any_goals (first|exact falseI|((first|refine bd ?_ ?_|refine bn ?_ ?_)<;>intro _<;>first|(exfalso;omega)|conv=>whnf)|((first|refine dI ?_|refine okI ?_|refine bt ?_|refine bi (fun _=>?_) (fun _=>?_)|refine bndI ?_|intro _)<;>conv=>whnf)))
          refine And.intro ?_ ?_
          · conv=>whnf
            exact ⟨⟨rfl⟩, trivial⟩
          · rw [openS_eq]
            refine kc ?_ ?_
            exact (congrArg (fun z=>some (some (rg, some (0, [AV.lp .done (some .ret) #[6] ra rb z])))) hl)
            repeat (first|exact trivial|refine kc rfl ?_)
      · have h1 : ¬ (k : Int) < ((L.length + 1 : Nat) : Int):=h1
        have : k = X.length:=by omega
        subst this
        rw [List.drop_length] at H
        simp only [foldG] at H
        subst H
        conv=>whnf
        refine And.intro ?_ ?_
        · conv=>whnf
          refine ⟨⟨?_⟩, trivial⟩
          rfl
        · repeat (first|exact trivial|refine And.intro rfl ?_|refine And.intro (by skip) ?_)
end Go.Proofs.YtbpiibdcncfphaaGreatDoor
namespace Go.Proofs.YtbpiibdcncfphaaGreatDoor
open Go.Am Go.Proofs Go
theorem tkL_idem {f g : AV→Option AV} (hf : ∀ {x y : AV}, f x = some y→g y = some y) : ∀ {xs l : List AV}, tkL f xs = some l→tkL g l = some l
  | [], l, h=>by simp only [tkL, Option.some.injEq] at h;subst h;rfl
  | x :: xs, l, h=>by
    simp only [tkL] at h
    split at h
    · rename_i y ys h1 h2
      simp only [Option.some.injEq] at h;subst h
      simp only [tkL, hf h1, tkL_idem hf h2]
    · simp at h
theorem tk0_idem {ks ks' : List Key} (hs : ∀ k, memK k ks = true→memK k ks' = true) {x y : AV} (h : tk0 ks x = some y) : tk0 ks' y = some y:=by
  have hk : ∀ {k : Key} {v z : AV}, keyd ks k v = some z→z = v∧keyd ks' k v = some v:=by
    intro k v z h
    obtain ⟨h1, h2⟩:=keyd_some h
    refine ⟨h2, ?_⟩
    unfold keyd
    rw [hs k h1]
  cases x<;>simp only [tk0] at h<;>try (simp at h;done)
  case slice sz es tok =>
    have e:=Option.some.inj h;subst e
    simp only [tk0]
    cases tok<;>cases es<;>rfl
  all_goals first
    | (have e:=Option.some.inj h;subst e;rfl)
    | (obtain ⟨e, h'⟩:=hk h;subst e;exact h')
theorem tk1_idem {ks ks' : List Key} (hs : ∀ k, memK k ks = true→memK k ks' = true) {x y : AV} (h : tk1 ks x = some y) : tk1 ks' y = some y:=by
  have one : ∀ {x y}, tk0 ks x = some y→tk1 ks' y = some y:=by
    intro x y h
    have:=tk0_idem hs h
    cases y<;>first|exact this|(simp [tk0] at this)
  cases x with
  | func fn fs cs =>
    simp only [tk1] at h
    split at h
    · rename_i a b h1 h2
      simp only [Option.some.injEq] at h;subst h
      simp only [tk1, tkL_idem (tk0_idem hs) h1, tkL_idem (tk0_idem hs) h2]
    · simp at h
  | _=>exact one (by simpa only [tk1] using h)
theorem tk2_idem {ks ks' : List Key} (hs : ∀ k, memK k ks = true→memK k ks' = true) {x y : AV} (h : tk2 ks x = some y) : tk2 ks' y = some y:=by
  have one : ∀ {x y}, tk1 ks x = some y→tk2 ks' y = some y:=by
    intro x y h
    have:=tk1_idem hs h
    cases y<;>first|exact this|(simp [tk1, tk0] at this)
  cases x with
  | agg cs =>
    simp only [tk2] at h
    split at h
    · rename_i a h1
      simp only [Option.some.injEq] at h;subst h
      simp only [tk2, tkL_idem (tk1_idem hs) h1]
    · simp at h
  | _=>exact one (by simpa only [tk2] using h)
theorem tkJs_sub {ks ks' : List Key} (hs : ∀ k, memK k ks = true→memK k ks' = true) : ∀ l : List AV, tkJs ks' (tkJs ks l) = tkJs ks l
  | []=>rfl
  | x :: l=>by
    simp only [tkJs, tkJs_sub hs l]
    congr 1
    cases h : tk2 ks x with
    | none=>rfl
    | some y=>simp only [tk2_idem hs h]
theorem tkJs_idem (ks : List Key) (l : List AV) : tkJs ks (tkJs ks l) = tkJs ks l:=tkJs_sub (fun _ h=>h) l
theorem foldG_ok {α : Type} {go : α→Nat→Bool} {nx : α→Nat→α} {ok : α→Prop} (h : ∀ a n, ok a→ok (nx a n)) : ∀ (l : List Nat) (a : α), ok a→ok (foldG go nx l a).1
  | [], a, ha=>ha
  | n :: l, a, ha=>by
    simp only [foldG]
    split
    · exact foldG_ok h l _ (h a n ha)
    · exact h a n ha
theorem foldG_any {α : Type} {go : Nat→Bool} {nx : α→Nat→α} : ∀ (l : List Nat) (a : α), (foldG (fun _ n=>!go n) nx l a).2 = l.any go
  | [], a=>rfl
  | n :: l, a=>by
    simp only [foldG, List.any_cons]
    by_cases hg : go n = true
    · rw [if_neg (by simp [hg])];simp [hg]
    · rw [if_pos (by simp [hg]), foldG_any (go:=go) (nx:=nx) l];simp [hg]
def Store.okAt (s : Store) (later : Int) (n : Nat) : Bool:=(s.pour (s.baseOf (setL n) later)).ok
def Store.someAt (s : Store) (later : Int) : Bool:=s.sorted.any (s.okAt later)
def Store.nextM (s : Store) (later : Int) (memo : MemoL) (n : Nat) : MemoL:=s.remember memo (s.baseOf (setL n) later)
theorem setL_small {s : Store} {n : Nat} (h6 : s.heads.length ≤ 6) (hn : n ∈ s.sorted) : ∀ x ∈ setL n, 0 ≤ x∧x < 6:=fun x hx=>by
  have:=(bits_all h6 (sorted_mem hn).1).1 x hx
  omega
set_option maxHeartbeats 2000000 in
theorem some_c (s : Store) (later : Int) (memo : MemoL) (hg : s.Good) (h0 : 0 ≤ later) (hok : s.memoOk memo) :
    ∃ memo', s.memoOk memo'∧BoxA Tryz.prog (.fn 39) (storeE s (sumW s.orders) (s.melts later) memo) [.ptr kS 1 27 0 0] (boolA (s.someAt later)) (storeE s (sumW s.orders) (s.melts later) memo'):=by
  have hp:=meltsTo_len s later _ (Nat.le_refl _) hg.len
  have e : meltsTo s later s.heads.length = s.melts later:=rfl
  rw [e] at hp
  refine ⟨(foldG (fun _ n=>!s.okAt later n) (s.nextM later) s.sorted memo).1, foldG_ok (fun a n ha=>ha.remember _) _ _ hok, ?_⟩
  have hany:=foldG_any (go:=s.okAt later) (nx:=s.nextM later) s.sorted memo
  unfold Store.someAt
  rw [← hany]
  have hdo:=fun memo n (h : n ∈ s.sorted) (hok : s.memoOk memo)=>does_c s later memo (setL n) hg h0 (setL_len n) (setL_small hg.len h) hok
  have hit:=fun r hl hy=>iterS_c s (sumW s.orders) (s.melts later) r hp hg hl s.memoOk (fun _ n=>!s.okAt later n) (s.nextM later) hy memo hok
  have hli:=listsF_c s (sumW s.orders) (s.melts later) memo hp
  have hnx : ∀ memo n, s.nextM later memo n = s.remember memo (s.baseOf (setL n) later):=fun _ _=>rfl
  generalize foldG (fun _ n=>!s.okAt later n) (s.nextM later) s.sorted memo = R at *
  obtain ⟨R1, R2⟩:=R
  generalize sumW s.orders = w at *
  generalize s.melts later = p at *
  obtain ⟨p0, p1, p2, p3, p4, p5, rfl⟩:=list6 hp
  refine boxA_codeB tabOk { l:=0, f:=39, mat:=[23] } mixed call_39 Tryz.func39 (by kernel_rfl) ?_
  conv=>whnf
  repeat (any_goals (first|exact falseI|((first|refine bd ?_ ?_|refine bn ?_ ?_)<;>intro _<;>first|(exfalso;omega)|conv=>whnf)|((first|refine dI ?_|refine okI ?_|refine bt ?_|refine bi (fun _=>?_) (fun _=>?_)|refine bndI ?_|intro _)<;>conv=>whnf)))
  refine ⟨[kS, kM], ?_⟩
  conv=>whnf
  refine ⟨_, _, hli, ?_⟩
  conv=>whnf
  repeat (any_goals (first|exact falseI|((first|refine bd ?_ ?_|refine bn ?_ ?_)<;>intro _<;>first|(exfalso;omega)|conv=>whnf)|((first|refine dI ?_|refine okI ?_|refine bt ?_|refine bi (fun _=>?_) (fun _=>?_)|refine bndI ?_|intro _)<;>conv=>whnf)))
  refine ⟨[kLs, ⟨0, 39, 1⟩, ⟨0, 39, 2⟩, kS, kM, kT], ?_⟩
  conv=>whnf
  refine ⟨_, _, hit ⟨_, _, _, _⟩ ?_ ?_, ?_⟩
  · intro a
    first|exact tkJs_idem _ _|rfl
  · intro a n ha hn
    have h1:=hdo a n hn ha
    rw [hnx]
    have hr:=ha.remember (s.baseOf (setL n) later)
    unfold Store.okAt
    generalize (s.pour (s.baseOf (setL n) later)).ok = b at *
    generalize s.remember a (s.baseOf (setL n) later) = a' at *
    cases b with
    | false =>
      refine .inl ⟨rfl, hr, ?_⟩
      refine boxA_yieldB tabOk { l:=0, f:=39, mat:=[29], rd:=true } mixed rfl rfl rfl (by kernel_rfl) ?_
      conv=>whnf
      refine And.intro rfl ?_
      conv=>whnf
      repeat (any_goals (first|exact falseI|((first|refine bd ?_ ?_|refine bn ?_ ?_)<;>intro _<;>first|(exfalso;omega)|conv=>whnf)|((first|refine dI ?_|refine okI ?_|refine bt ?_|refine bi (fun _=>?_) (fun _=>?_)|refine bndI ?_|intro _)<;>conv=>whnf)))
      refine ⟨[kS, kM], ?_⟩
      conv=>whnf
      refine ⟨_, _, h1, ?_⟩
      conv=>whnf
      repeat (any_goals (first|exact falseI|((first|refine bd ?_ ?_|refine bn ?_ ?_)<;>intro _<;>first|(exfalso;omega)|conv=>whnf)|((first|refine dI ?_|refine okI ?_|refine bt ?_|refine bi (fun _=>?_) (fun _=>?_)|refine bndI ?_|intro _)<;>conv=>whnf)))
      repeat (first|exact trivial|refine And.intro rfl ?_|refine kc rfl ?_)
    | true =>
      refine .inr ⟨rfl, ?_⟩
      refine boxA_yieldB tabOk { l:=0, f:=39, mat:=[29], rd:=true } mixed rfl rfl rfl (by kernel_rfl) ?_
      conv=>whnf
      refine And.intro rfl ?_
      conv=>whnf
      repeat (any_goals (first|exact falseI|((first|refine bd ?_ ?_|refine bn ?_ ?_)<;>intro _<;>first|(exfalso;omega)|conv=>whnf)|((first|refine dI ?_|refine okI ?_|refine bt ?_|refine bi (fun _=>?_) (fun _=>?_)|refine bndI ?_|intro _)<;>conv=>whnf)))
      refine ⟨[kS, kM], ?_⟩
      conv=>whnf
      refine ⟨_, _, h1, ?_⟩
      conv=>whnf
      repeat (any_goals (first|exact falseI|((first|refine bd ?_ ?_|refine bn ?_ ?_)<;>intro _<;>first|(exfalso;omega)|conv=>whnf)|((first|refine dI ?_|refine okI ?_|refine bt ?_|refine bi (fun _=>?_) (fun _=>?_)|refine bndI ?_|intro _)<;>conv=>whnf)))
      repeat (first|exact trivial|refine And.intro rfl ?_|refine kc rfl ?_)
  · cases R2
    · conv=>whnf
      repeat (any_goals (first|exact falseI|((first|refine bd ?_ ?_|refine bn ?_ ?_)<;>intro _<;>first|(exfalso;omega)|conv=>whnf)|((first|refine dI ?_|refine okI ?_|refine bt ?_|refine bi (fun _=>?_) (fun _=>?_)|refine bndI ?_|intro _)<;>conv=>whnf)))
      refine And.intro ?_ ?_
      · conv=>whnf
        refine ⟨⟨?_⟩, trivial⟩
        rfl
      · repeat (first|exact trivial|refine And.intro rfl ?_|refine And.intro (by skip) ?_)
    · conv=>whnf
      repeat (any_goals (first|exact falseI|((first|refine bd ?_ ?_|refine bn ?_ ?_)<;>intro _<;>first|(exfalso;omega)|conv=>whnf)|((first|refine dI ?_|refine okI ?_|refine bt ?_|refine bi (fun _=>?_) (fun _=>?_)|refine bndI ?_|intro _)<;>conv=>whnf)))
      refine And.intro ?_ ?_
      · conv=>whnf
        refine ⟨⟨?_⟩, trivial⟩
        rfl
      · repeat (first|exact trivial|refine And.intro rfl ?_|refine And.intro (by skip) ?_)
end Go.Proofs.YtbpiibdcncfphaaGreatDoor
namespace Go.Proofs.YtbpiibdcncfphaaGreatDoor
open Go.Am Go.Proofs Go
theorem foldG_find {β : Type} {ok : Nat→Bool} {f : β→Nat→β} : ∀ (l : List Nat) (a : β × Nat), match l.find? ok with
    | none=>(foldG (fun (_ : β × Nat) n=>!ok n) (fun a n=>(f a.1 n, n)) l a).2 = false
    | some n=>(foldG (fun (_ : β × Nat) n=>!ok n) (fun a n=>(f a.1 n, n)) l a).2 = true∧(foldG (fun (_ : β × Nat) n=>!ok n) (fun a n=>(f a.1 n, n)) l a).1.2 = n
  | [], a=>rfl
  | n :: l, a=>by
    by_cases hg : ok n = true
    · rw [List.find?_cons_of_pos hg]
      simp only [foldG]
      rw [if_neg (by simp [hg])]
      exact ⟨rfl, rfl⟩
    · rw [List.find?_cons_of_neg hg]
      simp only [foldG]
      rw [if_pos (by simp [hg])]
      exact foldG_find l _
def kLp : Key:=({ l:=0, f:=6 } : Cx).loopKey #[19]
def foundC (s : Store) (n : Nat) : Bool→List BoxE
  | false=>[(⟨0, 6, 2⟩, 1, 1, [.slice 0 [] .tight]), (⟨0, 6, 3⟩, 1, 3, [amtA zeroT]), (⟨0, 6, 4⟩, 1, 1, [intA 0])]
  | true=>[(⟨0, 6, 2⟩, 1, 1, [setA n]), (⟨0, 6, 3⟩, 1, 3, [amtA (s.pour (s.baseOf (setL n) 0)).amt]), (⟨0, 6, 4⟩, 1, 1, [intA 0])]
def pourE (s : Store) (w : Int) (m : List Amt) (r : Rec) (done : Bool) (a : MemoL × Nat) : List BoxE :=
  r.box kLp #[19] done :: (⟨0, 6, 1⟩, 1, 6, [storeA s]) :: (⟨0, 6, 5⟩, 1, 1, [.ptr kS 1 27 0 0]) :: (foundC s a.2 done++envE s w m a.1)
set_option maxHeartbeats 2000000 in
theorem iterP_c (s : Store) (w : Int) (m : List Amt) (r : Rec) (hm : m.length = 6) (hg : s.Good) (hl : ∀ a, tkJs (keysE (pourE s w m r false a)) r.l = r.l)
    (ok : MemoL × Nat→Prop) (go : MemoL × Nat→Nat→Bool) (nx : MemoL × Nat→Nat→MemoL × Nat)
    (hy : ∀ a n, ok a→n ∈ s.sorted→(go a n = true∧ok (nx a n)∧BoxA Tryz.prog (.yld kLp r.g) (pourE s w m r false a) [setA n] (boolA true) (pourE s w m r false (nx a n))) ∨
      (go a n = false∧BoxA Tryz.prog (.yld kLp r.g) (pourE s w m r false a) [setA n] (boolA false) (pourE s w m r true (nx a n))))
    (a0 : MemoL × Nat) (h0 : ok a0) :
    BoxA Tryz.prog (.fn 44) (pourE s w m r false a0) [.yld kLp r.g, .ptr kT 1 1 0 0] (.tuple []) (pourE s w m r (foldG go nx s.sorted a0).2 (foldG go nx s.sorted a0).1):=by
  have h6:=hg.len
  obtain ⟨p0, p1, p2, p3, p4, p5, rfl⟩:=list6 hm
  obtain ⟨rg, ra, rb, rl⟩:=r
  refine boxA_codeB tabOk { l:=0, f:=44, mat:=[46, 48], ow:=[27] } mixed call_44 Tryz.func44 (by kernel_rfl) ?_
  conv=>whnf
  repeat (any_goals (first|exact falseI|((first|refine bd ?_ ?_|refine bn ?_ ?_)<;>intro _<;>first|(exfalso;omega)|conv=>whnf)|((first|refine dI ?_|refine okI ?_|refine bt ?_|refine bi (fun _=>?_) (fun _=>?_)|refine bndI ?_|intro _)<;>conv=>whnf)))
  refine loopK tabOk { l:=0, f:=44, mat:=[46, 48], ow:=[27] } mixed (fun a : Nat × List Nat=>[(15, intA a.1), (3, ownO kA a.2)]) (fun a=>[(kA, some (boxO a.2))]) (fun _=>[]) (fun a=>a.1 ≤ 2 ^ s.heads.length∧a.2 = upto (maskOf s.heads) a.1) (fun a=>2 ^ s.heads.length - a.1) (0, []) (by kernel_rfl)
    ⟨Nat.zero_le _, rfl⟩ ?_
  conv=>whnf
  refine ⟨⟨?_, ?_, trivial⟩, ?_⟩
  · repeat (first|exact trivial|refine sc rfl ?_)
  · exact keysLe_new rfl trivial
  intro ⟨i, L⟩ ⟨hi, hL⟩
  simp only at hi hL
  have hsh:=wrap_shl s.heads.length h6
  have hp6:=two_pow_le h6
  conv=>whnf
  refine brP_dec (fun h1=>?_) (fun h1=>?_)
  · have h1 : (i : Int) < IntKind.i64.wrap (1 * 2 ^ min ((s.heads.map headA).length : Int).toNat IntKind.i64.bits):=h1
    rw [List.length_map, hsh] at h1
    have hlt : i < 2 ^ s.heads.length:=by omega
    have hlc:=list_c i (by omega)
    have hin:=(bits_all h6 hlt).1
    have hka:=anyKeptB_c s w [p0, p1, p2, p3, p4, p5] a0.1 (setL i) rfl (by have:=setL_len i;omega) hin
    rw [kept_any h6 hlt] at hka
    have hsu:=upto_succ (maskOf s.heads) i
    cases hb : (i &&& maskOf s.heads == 0) with
    | true =>
      rw [hb] at hka hsu
      simp only [Bool.not_true, if_true] at hka hsu
      cases L with
      | nil =>
        conv=>whnf
        repeat (any_goals (first|exact falseI|((first|refine bd ?_ ?_|refine bn ?_ ?_)<;>intro _<;>first|(exfalso;omega)|conv=>whnf)|((first|refine callP_a hlc ?_|refine dI ?_|refine okI ?_|refine bt ?_|refine bi (fun _=>?_) (fun _=>?_)|refine bndI ?_|intro _)<;>conv=>whnf)))
        refine ⟨[kS, kM, kT], ?_⟩
        conv=>whnf
        refine ⟨_, _, hka, ?_⟩
        conv=>whnf
        repeat (any_goals (first|exact falseI|((first|refine bd ?_ ?_|refine bn ?_ ?_)<;>intro _<;>first|(exfalso;omega)|conv=>whnf)|((first|refine dI ?_|refine okI ?_|refine bt ?_|refine bi (fun _=>?_) (fun _=>?_)|refine bndI ?_|intro _)<;>conv=>whnf)))
        (refine ⟨(i + 1, [i]), ⟨by simp only;omega, by simp only;rw [hsu, ← hL];rfl⟩, (by simp only;omega), ?_⟩;(conv=>whnf);refine ⟨?_, ?_, ?_⟩<;>repeat (first|exact trivial|refine sc rfl ?_|refine kn ?_|refine kc rfl ?_|refine sc (by rfl) ?_|refine kc (by rfl) ?_))
      | cons x L =>
        conv=>whnf
        repeat (any_goals (first|exact falseI|((first|refine bd ?_ ?_|refine bn ?_ ?_)<;>intro _<;>first|(exfalso;omega)|conv=>whnf)|((first|refine callP_a hlc ?_|refine dI ?_|refine okI ?_|refine bt ?_|refine bi (fun _=>?_) (fun _=>?_)|refine bndI ?_|intro _)<;>conv=>whnf)))
        refine ⟨[kS, kM, kT], ?_⟩
        conv=>whnf
        refine ⟨_, _, hka, ?_⟩
        conv=>whnf
        repeat (any_goals (first|exact falseI|((first|refine bd ?_ ?_|refine bn ?_ ?_)<;>intro _<;>first|(exfalso;omega)|conv=>whnf)|((first|refine dI ?_|refine okI ?_|refine bt ?_|refine bi (fun _=>?_) (fun _=>?_)|refine bndI ?_|intro _)<;>conv=>whnf)))
        have e1 : (L++[i]).length = L.length + 1:=by simp
        have e2 : List.take (L.length + 1) (setA x :: L.map setA)++[setA i] = setA x :: (L++[i]).map setA:=by
          rw [List.take_of_length_le (by simp)];simp
        have hLl : L.length + 1 ≤ 64:=by
          have:=upto_len (maskOf s.heads) i
          rw [← hL] at this
          simp only [List.length_cons] at this
          omega
        refine And.intro ⟨by simp, by simp only [List.length_cons, List.length_nil];omega, by simp only [List.length_cons, List.length_nil, maxLen];omega⟩ ?_
        conv=>whnf
        repeat (any_goals (first|exact falseI|((first|refine bd ?_ ?_|refine bn ?_ ?_)<;>intro _<;>first|(exfalso;omega)|conv=>whnf)|((first|refine dI ?_|refine okI ?_|refine bt ?_|refine bi (fun _=>?_) (fun _=>?_)|refine bndI ?_|intro _)<;>conv=>whnf)))
        (refine ⟨(i + 1, x :: (L++[i])), ⟨by simp only;omega, by simp only;rw [hsu, ← hL];rfl⟩, (by simp only;omega), ?_⟩;(conv=>whnf);refine ⟨?_, ?_, ?_⟩<;>repeat (first|exact trivial|refine sc rfl ?_|refine kn ?_|refine kc rfl ?_|refine sc (by first|(show some (AV.own kA (L.length + 1 + 1) 1 (L.length + 1 + 1) 0) = some (AV.own kA ((L++[i]).length + 1) 1 ((L++[i]).length + 1) 0);rw [e1])|(show some (some (L.length + 1 + 1, some (1, List.take (L.length + 1) (setA x :: L.map setA)++[setA i]))) = some (some ((L++[i]).length + 1, some (1, setA x :: (L++[i]).map setA)));rw [e1, e2])|rfl) ?_|refine kc (by first|(show some (AV.own kA (L.length + 1 + 1) 1 (L.length + 1 + 1) 0) = some (AV.own kA ((L++[i]).length + 1) 1 ((L++[i]).length + 1) 0);rw [e1])|(show some (some (L.length + 1 + 1, some (1, List.take (L.length + 1) (setA x :: L.map setA)++[setA i]))) = some (some ((L++[i]).length + 1, some (1, setA x :: (L++[i]).map setA)));rw [e1, e2])|rfl) ?_))
    | false =>
      rw [hb] at hka hsu
      simp only [Bool.not_false, Bool.false_eq_true, if_false, List.append_nil] at hka hsu
      cases L with
      | nil =>
        conv=>whnf
        repeat (any_goals (first|exact falseI|((first|refine bd ?_ ?_|refine bn ?_ ?_)<;>intro _<;>first|(exfalso;omega)|conv=>whnf)|((first|refine callP_a hlc ?_|refine dI ?_|refine okI ?_|refine bt ?_|refine bi (fun _=>?_) (fun _=>?_)|refine bndI ?_|intro _)<;>conv=>whnf)))
        refine ⟨[kS, kM, kT], ?_⟩
        conv=>whnf
        refine ⟨_, _, hka, ?_⟩
        conv=>whnf
        repeat (any_goals (first|exact falseI|((first|refine bd ?_ ?_|refine bn ?_ ?_)<;>intro _<;>first|(exfalso;omega)|conv=>whnf)|((first|refine dI ?_|refine okI ?_|refine bt ?_|refine bi (fun _=>?_) (fun _=>?_)|refine bndI ?_|intro _)<;>conv=>whnf)))
        (refine ⟨(i + 1, []), ⟨by simp only;omega, by simp only;rw [hsu, ← hL]⟩, (by simp only;omega), ?_⟩;(conv=>whnf);refine ⟨?_, ?_, ?_⟩<;>repeat (first|exact trivial|refine sc rfl ?_|refine kn ?_|refine kc rfl ?_|refine sc (by rfl) ?_|refine kc (by rfl) ?_))
      | cons x L =>
        conv=>whnf
        repeat (any_goals (first|exact falseI|((first|refine bd ?_ ?_|refine bn ?_ ?_)<;>intro _<;>first|(exfalso;omega)|conv=>whnf)|((first|refine callP_a hlc ?_|refine dI ?_|refine okI ?_|refine bt ?_|refine bi (fun _=>?_) (fun _=>?_)|refine bndI ?_|intro _)<;>conv=>whnf)))
        refine ⟨[kS, kM, kT], ?_⟩
        conv=>whnf
        refine ⟨_, _, hka, ?_⟩
        conv=>whnf
        repeat (any_goals (first|exact falseI|((first|refine bd ?_ ?_|refine bn ?_ ?_)<;>intro _<;>first|(exfalso;omega)|conv=>whnf)|((first|refine dI ?_|refine okI ?_|refine bt ?_|refine bi (fun _=>?_) (fun _=>?_)|refine bndI ?_|intro _)<;>conv=>whnf)))
        (refine ⟨(i + 1, x :: L), ⟨by simp only;omega, by simp only;rw [hsu, ← hL]⟩, (by simp only;omega), ?_⟩;(conv=>whnf);refine ⟨?_, ?_, ?_⟩<;>repeat (first|exact trivial|refine sc rfl ?_|refine kn ?_|refine kc rfl ?_|refine sc (by rfl) ?_|refine kc (by rfl) ?_))
  · have h1 : ¬ (i : Int) < IntKind.i64.wrap (1 * 2 ^ min ((s.heads.map headA).length : Int).toNat IntKind.i64.bits):=h1
    rw [List.length_map, hsh] at h1
    have hiN : i = 2 ^ s.heads.length:=by omega
    have hLs : L = s.sets:=by rw [hL, hiN, sets_eq]
    have hlen:=sorted_len s
    have hpq:=sorted_pdq (s:=s) h6
    have hsl : s.sets.length ≤ 64:=by
      have:=upto_len (maskOf s.heads) (2 ^ s.heads.length)
      rw [← sets_eq] at this
      omega
    obtain ⟨RR, hRR⟩ : ∃ RR, RR = foldG go nx s.sorted a0:=⟨_, rfl⟩
    rw [← hRR]
    generalize s.sorted = X at *
    cases L with
    | nil =>
      exfalso
      obtain ⟨l, h⟩:=upto_cons (maskOf s.heads) (2 ^ s.heads.length - 1)
      have : 2 ^ s.heads.length - 1 + 1 = 2 ^ s.heads.length:=by have:=Nat.two_pow_pos s.heads.length;omega
      rw [this, ← hiN, ← hL] at h
      cases h
    | cons x L =>
      rw [← hLs] at hpq hlen hsl
      simp only [List.length_cons] at hpq hlen hsl
      have hso:=sort_c (L.length + 1) (L.length + 1) 70 (x :: L) X (by simp) (by simp) hsl hpq
      have e3 : tkL (tk2 [kA]) (setA x :: L.map setA) = some ((x :: L).map setA):=tk_sets [kA] (x :: L)
      conv=>whnf
      repeat (any_goals (first|exact falseI|((first|refine bd ?_ ?_|refine bn ?_ ?_)<;>intro _<;>first|(exfalso;omega)|conv=>whnf)|((first|refine dI ?_|refine okI ?_|refine bt ?_|refine bi (fun _=>?_) (fun _=>?_)|refine bndI ?_|intro _)<;>conv=>whnf)))
      refine ⟨[kA], ?_⟩
      conv=>whnf
      refine optP_intro e3 ?_
      conv=>whnf
      refine ⟨_, _, hso, ?_⟩
      conv=>whnf
      refine optP_intro (tk_sets _ X) ?_
      conv=>whnf
      repeat (any_goals (first|exact falseI|((first|refine bd ?_ ?_|refine bn ?_ ?_)<;>intro _<;>first|(exfalso;omega)|conv=>whnf)|((first|refine dI ?_|refine okI ?_|refine bt ?_|refine bi (fun _=>?_) (fun _=>?_)|refine bndI ?_|intro _)<;>conv=>whnf)))
      refine loopK tabOk { l:=0, f:=44, mat:=[46, 48], ow:=[27] } mixed (fun a : Nat × MemoL × Nat=>[(33, intA a.1)]) (fun a=>preK (pourE s w [p0, p1, p2, p3, p4, p5] ⟨rg, ra, rb, rl⟩ false a.2)) (fun _=>[]) (fun a=>a.1 ≤ X.length∧ok a.2∧RR = foldG go nx (X.drop a.1) a.2) (fun a=>X.length - a.1) (0, a0) (by kernel_rfl)
        ⟨Nat.zero_le _, h0, hRR⟩ ?_
      conv=>whnf
      refine ⟨⟨?_, ?_, trivial⟩, ?_⟩
      · repeat (first|exact trivial|refine sc rfl ?_)
      · repeat (first|exact trivial|refine kc rfl ?_)
      intro ⟨k, a⟩ ⟨hk, hok, H⟩
      simp only at hk hok H
      skip
      conv=>whnf
      refine brP_dec (fun h1=>?_) (fun h1=>?_)
      · have h1 : (k : Int) < ((L.length + 1 : Nat) : Int):=h1
        obtain ⟨n, hn, hd⟩:=drop_cons (l:=X) (i:=k) (by omega)
        rw [hd] at H
        simp only [foldG] at H
        have hkeys : keysE (pourE s w [p0, p1, p2, p3, p4, p5] ⟨rg, ra, rb, tkJs (keysE (pourE s w [p0, p1, p2, p3, p4, p5] ⟨rg, ra, rb, rl⟩ false a)) rl⟩ false a) = keysE (pourE s w [p0, p1, p2, p3, p4, p5] ⟨rg, ra, rb, rl⟩ false a):=rfl
        have hl:=hl a
        rcases hy a n hok (List.mem_of_getElem? hn) with ⟨hgo, hok', hyy⟩|⟨hgo, hyy⟩
        · rw [if_pos hgo] at H
          have hyy : BoxA Tryz.prog (Tgt.yld kLp rg) (pourE s w [p0, p1, p2, p3, p4, p5] ⟨rg, ra, rb, tkJs (keysE (pourE s w [p0, p1, p2, p3, p4, p5] ⟨rg, ra, rb, rl⟩ false a)) rl⟩ false a) [setA n] (boolA true) (pourE s w [p0, p1, p2, p3, p4, p5] ⟨rg, ra, rb, rl⟩ false (nx a n)):=by
            rw [hl];exact hyy
          generalize nx a n = a' at *
          conv=>whnf
          repeat (any_goals (first|exact falseI|((first|refine bd ?_ ?_|refine bn ?_ ?_)<;>intro _<;>first|(exfalso;omega)|conv=>whnf)|((first|refine optP_map hn rfl ?_|refine dI ?_|refine okI ?_|refine bt ?_|refine bi (fun _=>?_) (fun _=>?_)|refine bndI ?_|intro _)<;>conv=>whnf)))
          refine ⟨keysE (pourE s w [p0, p1, p2, p3, p4, p5] ⟨rg, ra, rb, rl⟩ false a), ?_⟩
          conv=>whnf
          refine ⟨_, _, hyy, ?_⟩
          conv=>whnf
          repeat (any_goals (first|exact falseI|((first|refine bd ?_ ?_|refine bn ?_ ?_)<;>intro _<;>first|(exfalso;omega)|conv=>whnf)|((first|refine dI ?_|refine okI ?_|refine bt ?_|refine bi (fun _=>?_) (fun _=>?_)|refine bndI ?_|intro _)<;>conv=>whnf)))
          (refine ⟨(k + 1, a'), ⟨by simp only;omega, hok', H⟩, (by simp only;omega), ?_⟩;(conv=>whnf);refine ⟨?_, ?_, ?_⟩<;>repeat (first|exact trivial|refine sc rfl ?_|refine kn ?_|refine kc rfl ?_|refine sc (by first|rfl|exact congrArg (fun z=>some (some (rg, some (0, [AV.lp .ready none #[19] ra rb z])))) hl) ?_|refine kc (by first|rfl|exact congrArg (fun z=>some (some (rg, some (0, [AV.lp .ready none #[19] ra rb z])))) hl) ?_))
        · rw [if_neg (by rw [hgo];simp)] at H
          subst H
          have hyy : BoxA Tryz.prog (Tgt.yld kLp rg) (pourE s w [p0, p1, p2, p3, p4, p5] ⟨rg, ra, rb, tkJs (keysE (pourE s w [p0, p1, p2, p3, p4, p5] ⟨rg, ra, rb, rl⟩ false a)) rl⟩ false a) [setA n] (boolA false) (pourE s w [p0, p1, p2, p3, p4, p5] ⟨rg, ra, rb, rl⟩ true (nx a n)):=by
            rw [hl];exact hyy
          generalize nx a n = a' at *
          conv=>whnf
          repeat (any_goals (first|exact falseI|((first|refine bd ?_ ?_|refine bn ?_ ?_)<;>intro _<;>first|(exfalso;omega)|conv=>whnf)|((first|refine optP_map hn rfl ?_|refine dI ?_|refine okI ?_|refine bt ?_|refine bi (fun _=>?_) (fun _=>?_)|refine bndI ?_|intro _)<;>conv=>whnf)))
          refine ⟨keysE (pourE s w [p0, p1, p2, p3, p4, p5] ⟨rg, ra, rb, rl⟩ false a), ?_⟩
          conv=>whnf
          refine ⟨_, _, hyy, ?_⟩
          conv=>whnf
          repeat (any_goals (first|exact falseI|((first|refine bd ?_ ?_|refine bn ?_ ?_)<;>intro _<;>first|(exfalso;omega)|conv=>whnf)|((first|refine dI ?_|refine okI ?_|refine bt ?_|refine bi (fun _=>?_) (fun _=>?_)|refine bndI ?_|intro _)<;>conv=>whnf)))
          refine And.intro ?_ ?_
          · conv=>whnf
            exact ⟨⟨rfl⟩, trivial⟩
          · rw [openS_eq]
            refine kc ?_ ?_
            exact (congrArg (fun z=>some (some (rg, some (0, [AV.lp .done (some .ret) #[19] ra rb z])))) hl)
            repeat (first|exact trivial|refine kc rfl ?_)
      · have h1 : ¬ (k : Int) < ((L.length + 1 : Nat) : Int):=h1
        have : k = X.length:=by omega
        subst this
        rw [List.drop_length] at H
        simp only [foldG] at H
        subst H
        conv=>whnf
        refine And.intro ?_ ?_
        · conv=>whnf
          refine ⟨⟨?_⟩, trivial⟩
          rfl
        · repeat (first|exact trivial|refine And.intro rfl ?_|refine And.intro (by skip) ?_)
end Go.Proofs.YtbpiibdcncfphaaGreatDoor
namespace Go.Proofs.YtbpiibdcncfphaaGreatDoor
open Go.Am Go.Proofs Go
def Store.pourR (s : Store) : List Int × Amt × Int :=
  if s.check.2.2 ≠ 0 then ([], zeroT, s.check.2.2) else match s.sorted.find? (s.okAt 0) with
    | none=>([], zeroT, 9)
    | some n=>(setL n, (s.pour (s.baseOf (setL n) 0)).amt, 0)
def pourA (x : List Int × Amt × Int) : AV:=.tuple [intsA x.1, amtA x.2.1, intA x.2.2]
theorem pourF_c (s : Store) (hr : s.small) (hc : s.check.2.2 ≠ 0) : PureA Tryz.prog 6 [storeA s] (.tuple [nilS, amtA zeroT, intA s.check.2.2]):=by
  have hk:=lookF_c s 0 hr hc
  generalize s.check.2.2 = c at *
  refine pureA_codeB tabOk { l:=0, f:=6, mat:=[22] } mixed call_6 Tryz.func6 (by kernel_rfl) ?_
  conv=>whnf
  repeat (any_goals (first|exact falseI|((first|refine bd ?_ ?_|refine bn ?_ ?_)<;>intro _<;>first|(exfalso;omega)|conv=>whnf)|((first|refine dI ?_|refine okI ?_|refine bt ?_|refine bi (fun _=>?_) (fun _=>?_)|refine bndI ?_|intro _)<;>conv=>whnf)))
  refine ⟨[], ?_⟩
  conv=>whnf
  refine ⟨_, _, hk, ?_⟩
  conv=>whnf
  repeat (any_goals (first|exact falseI|((first|refine bd ?_ ?_|refine bn ?_ ?_)<;>intro _<;>first|(exfalso;omega)|conv=>whnf)|((first|refine dI ?_|refine okI ?_|refine bt ?_|refine bi (fun _=>?_) (fun _=>?_)|refine bndI ?_|intro _)<;>conv=>whnf)))
  (refine ⟨⟨?_⟩, trivial⟩;rfl)
set_option maxHeartbeats 2000000 in
theorem pourT_c (s : Store) (hr : s.small) (hc : s.check.2.2 = 0) : PureA Tryz.prog 6 [storeA s] (match s.sorted.find? (s.okAt 0) with
    | none=>.tuple [nilS, amtA zeroT, intA 9]
    | some n=>.tuple [setA n, amtA (s.pour (s.baseOf (setL n) 0)).amt, intA 0]):=by
  have hg:=Store.good hc
  have hk:=lookT_c s 0 hr hc (by decide) (by decide)
  have hp:=meltsTo_len s 0 _ (Nat.le_refl _) hg.len
  have hmab:=melts_abs hg (later:=0) (by decide)
  have e : meltsTo s 0 s.heads.length = s.melts 0:=rfl
  rw [e] at hp
  have hfind:=foldG_find (ok:=s.okAt 0) (f:=s.nextM 0) s.sorted (((0 : Int), []), 0)
  have hsum:=fun n (hn : n ∈ s.sorted)=>wsum_c s (sumW s.orders) (s.melts 0) zeroT (setL n) hp hmab (zeroT_abs _ (by decide)) (setL_small hg.len hn) (by have:=setL_len n;omega)
  have hpo:=fun memo n (hn : n ∈ s.sorted) hok=>pour_c s (s.melts 0) memo (s.baseOf (setL n) 0) hp hg (baseOf_upto hg (by decide) (setL_len n)) hok
  have hit:=fun r hl hy=>iterP_c s (sumW s.orders) (s.melts 0) r hp hg hl (fun a=>s.memoOk a.1) (fun _ n=>!s.okAt 0 n) (fun a n=>(s.nextM 0 a.1 n, n)) hy (((0 : Int), []), 0) (by intro e he;simp at he)
  have hli:=listsF_c s (sumW s.orders) (s.melts 0) (0, []) hp
  have hb : ∀ n, sumL (s.melts 0) zeroT (setL n) = s.baseOf (setL n) 0:=fun n=>rfl
  simp only [hb] at hsum
  have hnx : ∀ memo n, s.nextM 0 memo n = s.remember memo (s.baseOf (setL n) 0):=fun _ _=>rfl
  generalize foldG (fun (_ : MemoL × Nat) n=>!s.okAt 0 n) (fun a n=>(s.nextM 0 a.1 n, n)) s.sorted (((0 : Int), []), 0) = R at *
  obtain ⟨⟨R1, N⟩, R2⟩:=R
  generalize hF : s.sorted.find? (s.okAt 0) = F at *
  generalize sumW s.orders = w at *
  generalize s.melts 0 = p at *
  obtain ⟨p0, p1, p2, p3, p4, p5, rfl⟩:=list6 hp
  refine pureA_codeB tabOk { l:=0, f:=6, mat:=[22, 23] } mixed call_6 Tryz.func6 (by kernel_rfl) ?_
  conv=>whnf
  repeat (any_goals (first|exact falseI|((first|refine bd ?_ ?_|refine bn ?_ ?_)<;>intro _<;>first|(exfalso;omega)|conv=>whnf)|((first|refine dI ?_|refine okI ?_|refine bt ?_|refine bi (fun _=>?_) (fun _=>?_)|refine bndI ?_|intro _)<;>conv=>whnf)))
  refine ⟨[], ?_⟩
  conv=>whnf
  refine ⟨_, _, hk, ?_⟩
  conv=>whnf
  repeat (any_goals (first|exact falseI|((first|refine bd ?_ ?_|refine bn ?_ ?_)<;>intro _<;>first|(exfalso;omega)|conv=>whnf)|((first|refine dI ?_|refine okI ?_|refine bt ?_|refine bi (fun _=>?_) (fun _=>?_)|refine bndI ?_|intro _)<;>conv=>whnf)))
  refine ⟨[kS, kM], ?_⟩
  conv=>whnf
  refine ⟨_, _, hli, ?_⟩
  conv=>whnf
  repeat (any_goals (first|exact falseI|((first|refine bd ?_ ?_|refine bn ?_ ?_)<;>intro _<;>first|(exfalso;omega)|conv=>whnf)|((first|refine dI ?_|refine okI ?_|refine bt ?_|refine bi (fun _=>?_) (fun _=>?_)|refine bndI ?_|intro _)<;>conv=>whnf)))
  refine ⟨[kLp, ⟨0, 6, 1⟩, ⟨0, 6, 5⟩, ⟨0, 6, 2⟩, ⟨0, 6, 3⟩, ⟨0, 6, 4⟩, kS, kM, kT], ?_⟩
  conv=>whnf
  refine ⟨_, _, hit ⟨_, _, _, _⟩ ?_ ?_, ?_⟩
  · intro a
    first|exact tkJs_idem _ _|rfl
  · intro ⟨memo, N'⟩ n ha hn
    simp only at ha
    have h1:=hpo memo n hn ha
    have h2:=hsum n hn
    simp only [hnx]
    have hr:=ha.remember (s.baseOf (setL n) 0)
    unfold Store.okAt
    generalize hB : s.baseOf (setL n) 0 = B at *
    generalize hQ : s.pour B = Q at *
    obtain ⟨⟨q1, q2, q3⟩, b⟩:=Q
    generalize s.remember memo B = a' at *
    cases b with
    | false =>
      refine .inl ⟨rfl, hr, ?_⟩
      refine boxA_yieldB tabOk { l:=0, f:=6, mat:=[24], rd:=true } mixed rfl rfl rfl (by kernel_rfl) ?_
      conv=>whnf
      refine And.intro rfl ?_
      conv=>whnf
      repeat (any_goals (first|exact falseI|((first|refine bd ?_ ?_|refine bn ?_ ?_)<;>intro _<;>first|(exfalso;omega)|conv=>whnf)|((first|refine callP_f h2 rfl ?_|refine dI ?_|refine okI ?_|refine bt ?_|refine bi (fun _=>?_) (fun _=>?_)|refine bndI ?_|intro _)<;>conv=>whnf)))
      refine ⟨[kS, kM], ?_⟩
      conv=>whnf
      refine ⟨_, _, h1, ?_⟩
      conv=>whnf
      repeat (any_goals (first|exact falseI|((first|refine bd ?_ ?_|refine bn ?_ ?_)<;>intro _<;>first|(exfalso;omega)|conv=>whnf)|((first|refine dI ?_|refine okI ?_|refine bt ?_|refine bi (fun _=>?_) (fun _=>?_)|refine bndI ?_|intro _)<;>conv=>whnf)))
      repeat (first|exact trivial|refine And.intro rfl ?_|refine kc rfl ?_)
    | true =>
      refine .inr ⟨rfl, ?_⟩
      unfold pourE foundC
      simp only
      rw [hB, hQ]
      refine boxA_yieldB tabOk { l:=0, f:=6, mat:=[24], rd:=true } mixed rfl rfl rfl (by kernel_rfl) ?_
      conv=>whnf
      refine And.intro rfl ?_
      conv=>whnf
      repeat (any_goals (first|exact falseI|((first|refine bd ?_ ?_|refine bn ?_ ?_)<;>intro _<;>first|(exfalso;omega)|conv=>whnf)|((first|refine callP_f h2 rfl ?_|refine dI ?_|refine okI ?_|refine bt ?_|refine bi (fun _=>?_) (fun _=>?_)|refine bndI ?_|intro _)<;>conv=>whnf)))
      refine ⟨[kS, kM], ?_⟩
      conv=>whnf
      refine ⟨_, _, h1, ?_⟩
      conv=>whnf
      repeat (any_goals (first|exact falseI|((first|refine bd ?_ ?_|refine bn ?_ ?_)<;>intro _<;>first|(exfalso;omega)|conv=>whnf)|((first|refine dI ?_|refine okI ?_|refine bt ?_|refine bi (fun _=>?_) (fun _=>?_)|refine bndI ?_|intro _)<;>conv=>whnf)))
      repeat (first|exact trivial|refine And.intro rfl ?_|refine kc rfl ?_)
  · cases F with
    | none =>
      simp only at hfind
      subst hfind
      conv=>whnf
      repeat (any_goals (first|exact falseI|((first|refine bd ?_ ?_|refine bn ?_ ?_)<;>intro _<;>first|(exfalso;omega)|conv=>whnf)|((first|refine dI ?_|refine okI ?_|refine bt ?_|refine bi (fun _=>?_) (fun _=>?_)|refine bndI ?_|intro _)<;>conv=>whnf)))
      (refine ⟨⟨?_⟩, trivial⟩;rfl)
    | some n =>
      simp only at hfind
      obtain ⟨rfl, rfl⟩:=hfind
      generalize s.pour (s.baseOf (setL N) 0) = Q at *
      obtain ⟨⟨q1, q2, q3⟩, b⟩:=Q
      conv=>whnf
      repeat (any_goals (first|exact falseI|((first|refine bd ?_ ?_|refine bn ?_ ?_)<;>intro _<;>first|(exfalso;omega)|conv=>whnf)|((first|refine dI ?_|refine okI ?_|refine bt ?_|refine bi (fun _=>?_) (fun _=>?_)|refine bndI ?_|intro _)<;>conv=>whnf)))
      (refine ⟨⟨?_⟩, trivial⟩;rfl)
theorem pureNil1 {P : Program} {f : FuncId} {args : List AV} {l : List AV} (h : PureA P f args (.tuple (nilS :: l))) : PureA P f args (.tuple (intsA [] :: l)) :=
  h.wk (Wk.tuple (.cons (Wk.nil 1) (WkL.refl l)))
theorem pourTop_c (s : Store) (hr : s.small) : PureA Tryz.prog 6 [storeA s] (pourA s.pourR):=by
  unfold Store.pourR
  by_cases hc : s.check.2.2 = 0
  · rw [if_neg (fun h=>h hc)]
    have h:=pourT_c s hr hc
    cases hF : s.sorted.find? (s.okAt 0) with
    | none=>rw [hF] at h;exact pureNil1 h
    | some n=>rw [hF] at h;exact h
  · rw [if_pos hc]
    exact pureNil1 (pourF_c s hr hc)
end Go.Proofs.YtbpiibdcncfphaaGreatDoor
namespace Go.Proofs.YtbpiibdcncfphaaGreatDoor
open Go.Am Go.Proofs Go
theorem foldG_all {β : Type} {ok : Nat→Bool} {f : β→Nat→β} : ∀ (l : List Nat) (a : β × List Nat),
    (foldG (fun (_ : β × List Nat) _=>true) (fun a n=>(f a.1 n, if ok n = true then a.2++[n] else a.2)) l a).2 = false ∧
    (foldG (fun (_ : β × List Nat) _=>true) (fun a n=>(f a.1 n, if ok n = true then a.2++[n] else a.2)) l a).1.2 = a.2++l.filter ok
  | [], a=>⟨rfl, by simp [foldG]⟩
  | n :: l, a=>by
    simp only [foldG, if_true]
    have:=foldG_all (ok:=ok) (f:=f) l (f a.1 n, if ok n = true then a.2++[n] else a.2)
    refine ⟨this.1, this.2.trans ?_⟩
    simp only [List.filter_cons]
    split<;>simp
def kLl : Key:=({ l:=0, f:=9 } : Cx).loopKey #[20]
def kO : Key:=⟨0, 9, 33⟩
def allC : List Nat→List BoxE
  | []=>[]
  | x :: l=>[(kO, l.length + 1, 1, setA x :: l.map setA)]
def listsE (s : Store) (w : Int) (m : List Amt) (r : Rec) (done : Bool) (a : MemoL × List Nat) : List BoxE :=
  r.box kLl #[20] done :: (⟨0, 9, 5⟩, 1, 1, [.func (.func 29) [.ptr kS 1 27 0 0] []]) :: (⟨0, 9, 2⟩, 1, 1, [ownO kO a.2]) :: (envE s w m a.1++allC a.2)
theorem tk_setO (ks : List Key) (x : Nat) (L : List Nat) : tkL (tk2 ks) (setA x :: L.map setA) = some (setA x :: L.map setA):=tk_sets ks (x :: L)
set_option maxHeartbeats 2000000 in
theorem iterL_c (s : Store) (w : Int) (m : List Amt) (r : Rec) (hm : m.length = 6) (hg : s.Good) (hl : ∀ a, tkJs (keysE (listsE s w m r false a)) r.l = r.l)
    (ok : Nat→MemoL × List Nat→Prop) (nx : MemoL × List Nat→Nat→MemoL × List Nat) (hgrow : ∀ a n, ∃ l, (nx a n).2 = a.2++l)
    (hy : ∀ k a n, ok k a→k < 64→n ∈ s.sorted→ok (k + 1) (nx a n)∧BoxA Tryz.prog (.yld kLl r.g) (listsE s w m r false a) [setA n] (boolA true) (listsE s w m r false (nx a n)))
    (h0 : ok 0 ((0, []), [])) :
    BoxA Tryz.prog (.fn 44) (listsE s w m r false ((0, []), [])) [.yld kLl r.g, .ptr kT 1 1 0 0] (.tuple []) (listsE s w m r false (foldG (fun _ _=>true) nx s.sorted ((0, []), [])).1):=by
  have h6:=hg.len
  obtain ⟨go, hgo⟩ : ∃ go, go = (fun (_ : MemoL × List Nat) (_ : Nat)=>true):=⟨_, rfl⟩
  rw [← hgo]
  have hgo' : ∀ a n, go a n = true:=by rw [hgo];intros;rfl
  clear hgo
  obtain ⟨p0, p1, p2, p3, p4, p5, rfl⟩:=list6 hm
  obtain ⟨rg, ra, rb, rl⟩:=r
  refine boxA_codeB tabOk { l:=0, f:=44, mat:=[46, 48], ow:=[27] } mixed call_44 Tryz.func44 (by kernel_rfl) ?_
  conv=>whnf
  repeat (any_goals (first|exact falseI|((first|refine bd ?_ ?_|refine bn ?_ ?_)<;>intro _<;>first|(exfalso;omega)|conv=>whnf)|((first|refine dI ?_|refine okI ?_|refine bt ?_|refine bi (fun _=>?_) (fun _=>?_)|refine bndI ?_|intro _)<;>conv=>whnf)))
  refine loopK tabOk { l:=0, f:=44, mat:=[46, 48], ow:=[27] } mixed (fun a : Nat × List Nat=>[(15, intA a.1), (3, ownO kA a.2)]) (fun a=>[(kA, some (boxO a.2))]) (fun _=>[]) (fun a=>a.1 ≤ 2 ^ s.heads.length∧a.2 = upto (maskOf s.heads) a.1) (fun a=>2 ^ s.heads.length - a.1) (0, []) (by kernel_rfl)
    ⟨Nat.zero_le _, rfl⟩ ?_
  conv=>whnf
  refine ⟨⟨?_, ?_, trivial⟩, ?_⟩
  · repeat (first|exact trivial|refine sc rfl ?_)
  · exact keysLe_new rfl trivial
  intro ⟨i, L⟩ ⟨hi, hL⟩
  simp only at hi hL
  have hsh:=wrap_shl s.heads.length h6
  have hp6:=two_pow_le h6
  conv=>whnf
  refine brP_dec (fun h1=>?_) (fun h1=>?_)
  · have h1 : (i : Int) < IntKind.i64.wrap (1 * 2 ^ min ((s.heads.map headA).length : Int).toNat IntKind.i64.bits):=h1
    rw [List.length_map, hsh] at h1
    have hlt : i < 2 ^ s.heads.length:=by omega
    have hlc:=list_c i (by omega)
    have hin:=(bits_all h6 hlt).1
    have hka:=anyKeptB_c s w [p0, p1, p2, p3, p4, p5] ((0, []) : MemoL) (setL i) rfl (by have:=setL_len i;omega) hin
    rw [kept_any h6 hlt] at hka
    have hsu:=upto_succ (maskOf s.heads) i
    cases hb : (i &&& maskOf s.heads == 0) with
    | true =>
      rw [hb] at hka hsu
      simp only [Bool.not_true, if_true] at hka hsu
      cases L with
      | nil =>
        conv=>whnf
        repeat (any_goals (first|exact falseI|((first|refine bd ?_ ?_|refine bn ?_ ?_)<;>intro _<;>first|(exfalso;omega)|conv=>whnf)|((first|refine callP_a hlc ?_|refine dI ?_|refine okI ?_|refine bt ?_|refine bi (fun _=>?_) (fun _=>?_)|refine bndI ?_|intro _)<;>conv=>whnf)))
        refine ⟨[kS, kM, kT], ?_⟩
        conv=>whnf
        refine ⟨_, _, hka, ?_⟩
        conv=>whnf
        repeat (any_goals (first|exact falseI|((first|refine bd ?_ ?_|refine bn ?_ ?_)<;>intro _<;>first|(exfalso;omega)|conv=>whnf)|((first|refine dI ?_|refine okI ?_|refine bt ?_|refine bi (fun _=>?_) (fun _=>?_)|refine bndI ?_|intro _)<;>conv=>whnf)))
        (refine ⟨(i + 1, [i]), ⟨by simp only;omega, by simp only;rw [hsu, ← hL];rfl⟩, (by simp only;omega), ?_⟩;(conv=>whnf);refine ⟨?_, ?_, ?_⟩<;>repeat (first|exact trivial|refine sc rfl ?_|refine kn ?_|refine kc rfl ?_|refine sc (by rfl) ?_|refine kc (by rfl) ?_))
      | cons x L =>
        conv=>whnf
        repeat (any_goals (first|exact falseI|((first|refine bd ?_ ?_|refine bn ?_ ?_)<;>intro _<;>first|(exfalso;omega)|conv=>whnf)|((first|refine callP_a hlc ?_|refine dI ?_|refine okI ?_|refine bt ?_|refine bi (fun _=>?_) (fun _=>?_)|refine bndI ?_|intro _)<;>conv=>whnf)))
        refine ⟨[kS, kM, kT], ?_⟩
        conv=>whnf
        refine ⟨_, _, hka, ?_⟩
        conv=>whnf
        repeat (any_goals (first|exact falseI|((first|refine bd ?_ ?_|refine bn ?_ ?_)<;>intro _<;>first|(exfalso;omega)|conv=>whnf)|((first|refine dI ?_|refine okI ?_|refine bt ?_|refine bi (fun _=>?_) (fun _=>?_)|refine bndI ?_|intro _)<;>conv=>whnf)))
        have e1 : (L++[i]).length = L.length + 1:=by simp
        have e2 : List.take (L.length + 1) (setA x :: L.map setA)++[setA i] = setA x :: (L++[i]).map setA:=by
          rw [List.take_of_length_le (by simp)];simp
        have hLl : L.length + 1 ≤ 64:=by
          have:=upto_len (maskOf s.heads) i
          rw [← hL] at this
          simp only [List.length_cons] at this
          omega
        refine And.intro ⟨by simp, by simp only [List.length_cons, List.length_nil];omega, by simp only [List.length_cons, List.length_nil, maxLen];omega⟩ ?_
        conv=>whnf
        repeat (any_goals (first|exact falseI|((first|refine bd ?_ ?_|refine bn ?_ ?_)<;>intro _<;>first|(exfalso;omega)|conv=>whnf)|((first|refine dI ?_|refine okI ?_|refine bt ?_|refine bi (fun _=>?_) (fun _=>?_)|refine bndI ?_|intro _)<;>conv=>whnf)))
        (refine ⟨(i + 1, x :: (L++[i])), ⟨by simp only;omega, by simp only;rw [hsu, ← hL];rfl⟩, (by simp only;omega), ?_⟩;(conv=>whnf);refine ⟨?_, ?_, ?_⟩<;>repeat (first|exact trivial|refine sc rfl ?_|refine kn ?_|refine kc rfl ?_|refine sc (by first|(show some (AV.own kA (L.length + 1 + 1) 1 (L.length + 1 + 1) 0) = some (AV.own kA ((L++[i]).length + 1) 1 ((L++[i]).length + 1) 0);rw [e1])|(show some (some (L.length + 1 + 1, some (1, List.take (L.length + 1) (setA x :: L.map setA)++[setA i]))) = some (some ((L++[i]).length + 1, some (1, setA x :: (L++[i]).map setA)));rw [e1, e2])|rfl) ?_|refine kc (by first|(show some (AV.own kA (L.length + 1 + 1) 1 (L.length + 1 + 1) 0) = some (AV.own kA ((L++[i]).length + 1) 1 ((L++[i]).length + 1) 0);rw [e1])|(show some (some (L.length + 1 + 1, some (1, List.take (L.length + 1) (setA x :: L.map setA)++[setA i]))) = some (some ((L++[i]).length + 1, some (1, setA x :: (L++[i]).map setA)));rw [e1, e2])|rfl) ?_))
    | false =>
      rw [hb] at hka hsu
      simp only [Bool.not_false, Bool.false_eq_true, if_false, List.append_nil] at hka hsu
      cases L with
      | nil =>
        conv=>whnf
        repeat (any_goals (first|exact falseI|((first|refine bd ?_ ?_|refine bn ?_ ?_)<;>intro _<;>first|(exfalso;omega)|conv=>whnf)|((first|refine callP_a hlc ?_|refine dI ?_|refine okI ?_|refine bt ?_|refine bi (fun _=>?_) (fun _=>?_)|refine bndI ?_|intro _)<;>conv=>whnf)))
        refine ⟨[kS, kM, kT], ?_⟩
        conv=>whnf
        refine ⟨_, _, hka, ?_⟩
        conv=>whnf
        repeat (any_goals (first|exact falseI|((first|refine bd ?_ ?_|refine bn ?_ ?_)<;>intro _<;>first|(exfalso;omega)|conv=>whnf)|((first|refine dI ?_|refine okI ?_|refine bt ?_|refine bi (fun _=>?_) (fun _=>?_)|refine bndI ?_|intro _)<;>conv=>whnf)))
        (refine ⟨(i + 1, []), ⟨by simp only;omega, by simp only;rw [hsu, ← hL]⟩, (by simp only;omega), ?_⟩;(conv=>whnf);refine ⟨?_, ?_, ?_⟩<;>repeat (first|exact trivial|refine sc rfl ?_|refine kn ?_|refine kc rfl ?_|refine sc (by rfl) ?_|refine kc (by rfl) ?_))
      | cons x L =>
        conv=>whnf
        repeat (any_goals (first|exact falseI|((first|refine bd ?_ ?_|refine bn ?_ ?_)<;>intro _<;>first|(exfalso;omega)|conv=>whnf)|((first|refine callP_a hlc ?_|refine dI ?_|refine okI ?_|refine bt ?_|refine bi (fun _=>?_) (fun _=>?_)|refine bndI ?_|intro _)<;>conv=>whnf)))
        refine ⟨[kS, kM, kT], ?_⟩
        conv=>whnf
        refine ⟨_, _, hka, ?_⟩
        conv=>whnf
        repeat (any_goals (first|exact falseI|((first|refine bd ?_ ?_|refine bn ?_ ?_)<;>intro _<;>first|(exfalso;omega)|conv=>whnf)|((first|refine dI ?_|refine okI ?_|refine bt ?_|refine bi (fun _=>?_) (fun _=>?_)|refine bndI ?_|intro _)<;>conv=>whnf)))
        (refine ⟨(i + 1, x :: L), ⟨by simp only;omega, by simp only;rw [hsu, ← hL]⟩, (by simp only;omega), ?_⟩;(conv=>whnf);refine ⟨?_, ?_, ?_⟩<;>repeat (first|exact trivial|refine sc rfl ?_|refine kn ?_|refine kc rfl ?_|refine sc (by rfl) ?_|refine kc (by rfl) ?_))
  · have h1 : ¬ (i : Int) < IntKind.i64.wrap (1 * 2 ^ min ((s.heads.map headA).length : Int).toNat IntKind.i64.bits):=h1
    rw [List.length_map, hsh] at h1
    have hiN : i = 2 ^ s.heads.length:=by omega
    have hLs : L = s.sets:=by rw [hL, hiN, sets_eq]
    have hlen:=sorted_len s
    have hpq:=sorted_pdq (s:=s) h6
    have hsl : s.sets.length ≤ 64:=by
      have:=upto_len (maskOf s.heads) (2 ^ s.heads.length)
      rw [← sets_eq] at this
      omega
    obtain ⟨RR, hRR⟩ : ∃ RR, RR = foldG go nx s.sorted ((0, []), []):=⟨_, rfl⟩
    rw [← hRR]
    generalize s.sorted = X at *
    cases L with
    | nil =>
      exfalso
      obtain ⟨l, h⟩:=upto_cons (maskOf s.heads) (2 ^ s.heads.length - 1)
      have : 2 ^ s.heads.length - 1 + 1 = 2 ^ s.heads.length:=by have:=Nat.two_pow_pos s.heads.length;omega
      rw [this, ← hiN, ← hL] at h
      cases h
    | cons x L =>
      rw [← hLs] at hpq hlen hsl
      simp only [List.length_cons] at hpq hlen hsl
      have hso:=sort_c (L.length + 1) (L.length + 1) 70 (x :: L) X (by simp) (by simp) hsl hpq
      have e3 : tkL (tk2 [kA]) (setA x :: L.map setA) = some ((x :: L).map setA):=tk_sets [kA] (x :: L)
      conv=>whnf
      repeat (any_goals (first|exact falseI|((first|refine bd ?_ ?_|refine bn ?_ ?_)<;>intro _<;>first|(exfalso;omega)|conv=>whnf)|((first|refine dI ?_|refine okI ?_|refine bt ?_|refine bi (fun _=>?_) (fun _=>?_)|refine bndI ?_|intro _)<;>conv=>whnf)))
      refine ⟨[kA], ?_⟩
      conv=>whnf
      refine optP_intro e3 ?_
      conv=>whnf
      refine ⟨_, _, hso, ?_⟩
      conv=>whnf
      refine optP_intro (tk_sets _ X) ?_
      conv=>whnf
      repeat (any_goals (first|exact falseI|((first|refine bd ?_ ?_|refine bn ?_ ?_)<;>intro _<;>first|(exfalso;omega)|conv=>whnf)|((first|refine dI ?_|refine okI ?_|refine bt ?_|refine bi (fun _=>?_) (fun _=>?_)|refine bndI ?_|intro _)<;>conv=>whnf)))
      refine loopK tabOk { l:=0, f:=44, mat:=[46, 48], ow:=[27] } mixed (fun a : Nat × (MemoL × List Nat)=>[(33, intA a.1)]) (fun a=>preK (listsE s w [p0, p1, p2, p3, p4, p5] ⟨rg, ra, rb, rl⟩ false a.2)) (fun _=>[]) (fun a=>a.1 ≤ X.length∧ok a.1 a.2∧RR = foldG go nx (X.drop a.1) a.2) (fun a=>X.length - a.1) (0, ((0, []), [])) (by kernel_rfl)
        ⟨Nat.zero_le _, h0, hRR⟩ ?_
      conv=>whnf
      refine ⟨⟨?_, ?_, trivial⟩, ?_⟩
      · repeat (first|exact trivial|refine sc rfl ?_)
      · repeat (first|exact trivial|refine kc rfl ?_)
      intro ⟨k, ⟨memo, all⟩⟩ ⟨hk, hok, H⟩
      simp only at hk hok H
      have hl0:=hl
      have hl:=hl (memo, all)
      have hgr:=fun n=>hgrow (memo, all) n
      by_cases hkk : k < X.length
      · obtain ⟨n, hn, hd⟩:=drop_cons (l:=X) (i:=k) hkk
        rw [hd] at H
        simp only [foldG, hgo', if_true] at H
        obtain ⟨hok', hyy⟩:=hy k (memo, all) n hok (by omega) (List.mem_of_getElem? hn)
        have hyy : BoxA Tryz.prog (Tgt.yld kLl rg) (listsE s w [p0, p1, p2, p3, p4, p5] ⟨rg, ra, rb, tkJs (keysE (listsE s w [p0, p1, p2, p3, p4, p5] ⟨rg, ra, rb, rl⟩ false (memo, all))) rl⟩ false (memo, all)) [setA n] (boolA true) (listsE s w [p0, p1, p2, p3, p4, p5] ⟨rg, ra, rb, rl⟩ false (nx (memo, all) n)):=by
          rw [hl];exact hyy
        have hgr:=hgr n
        generalize nx (memo, all) n = a' at *
        obtain ⟨memo', all'⟩:=a'
        cases all with
        | nil =>
          cases all' with
          | nil =>
            conv=>whnf
            refine brP_dec (fun h1=>?_) (fun h1=>?_)
            · conv=>whnf
              repeat (any_goals (first|exact falseI|((first|refine bd ?_ ?_|refine bn ?_ ?_)<;>intro _<;>first|(exfalso;omega)|conv=>whnf)|((first|refine optP_map hn rfl ?_|refine dI ?_|refine okI ?_|refine bt ?_|refine bi (fun _=>?_) (fun _=>?_)|refine bndI ?_|intro _)<;>conv=>whnf)))
              refine ⟨keysE (listsE s w [p0, p1, p2, p3, p4, p5] ⟨rg, ra, rb, rl⟩ false (memo, [])), ?_⟩
              conv=>whnf
              refine ⟨_, _, hyy, ?_⟩
              conv=>whnf
              repeat (any_goals (first|exact falseI|((first|refine bd ?_ ?_|refine bn ?_ ?_)<;>intro _<;>first|(exfalso;omega)|conv=>whnf)|((first|refine dI ?_|refine okI ?_|refine bt ?_|refine bi (fun _=>?_) (fun _=>?_)|refine bndI ?_|intro _)<;>conv=>whnf)))
              (refine ⟨(k + 1, (memo', [])), ⟨by simp only;omega, hok', H⟩, (by simp only;omega), ?_⟩;(conv=>whnf);refine ⟨?_, ?_, ?_⟩<;>repeat (first|exact trivial|refine sc rfl ?_|refine kn ?_|refine kc rfl ?_|refine sc (by first|rfl|exact congrArg (fun z=>some (some (rg, some (0, [AV.lp .ready none #[20] ra rb z])))) hl|exact congrArg (fun z=>some (some (rg, some (0, [AV.lp .ready none #[20] ra rb z])))) (hl0 (memo', y :: all'))) ?_|refine kc (by first|rfl|exact congrArg (fun z=>some (some (rg, some (0, [AV.lp .ready none #[20] ra rb z])))) hl|exact congrArg (fun z=>some (some (rg, some (0, [AV.lp .ready none #[20] ra rb z])))) (hl0 (memo', y :: all'))) ?_))
            · exfalso
              have h1 : ¬ (k : Int) < ((L.length + 1 : Nat) : Int):=h1
              omega
          | cons y all' =>
            conv=>whnf
            refine brP_dec (fun h1=>?_) (fun h1=>?_)
            · conv=>whnf
              repeat (any_goals (first|exact falseI|((first|refine bd ?_ ?_|refine bn ?_ ?_)<;>intro _<;>first|(exfalso;omega)|conv=>whnf)|((first|refine optP_map hn rfl ?_|refine dI ?_|refine okI ?_|refine bt ?_|refine bi (fun _=>?_) (fun _=>?_)|refine bndI ?_|intro _)<;>conv=>whnf)))
              refine ⟨keysE (listsE s w [p0, p1, p2, p3, p4, p5] ⟨rg, ra, rb, rl⟩ false (memo, [])), ?_⟩
              conv=>whnf
              refine ⟨_, _, hyy, ?_⟩
              conv=>whnf
              refine optP_intro (tk_setO _ _ _) ?_
              conv=>whnf
              repeat (any_goals (first|exact falseI|((first|refine bd ?_ ?_|refine bn ?_ ?_)<;>intro _<;>first|(exfalso;omega)|conv=>whnf)|((first|refine dI ?_|refine okI ?_|refine bt ?_|refine bi (fun _=>?_) (fun _=>?_)|refine bndI ?_|intro _)<;>conv=>whnf)))
              (refine ⟨(k + 1, (memo', y :: all')), ⟨by simp only;omega, hok', H⟩, (by simp only;omega), ?_⟩;(conv=>whnf);refine ⟨?_, ?_, ?_⟩<;>repeat (first|exact trivial|refine sc rfl ?_|refine kn ?_|refine kc rfl ?_|refine sc (by first|rfl|exact congrArg (fun z=>some (some (rg, some (0, [AV.lp .ready none #[20] ra rb z])))) hl|exact congrArg (fun z=>some (some (rg, some (0, [AV.lp .ready none #[20] ra rb z])))) (hl0 (memo', y :: all'))) ?_|refine kc (by first|rfl|exact congrArg (fun z=>some (some (rg, some (0, [AV.lp .ready none #[20] ra rb z])))) hl|exact congrArg (fun z=>some (some (rg, some (0, [AV.lp .ready none #[20] ra rb z])))) (hl0 (memo', y :: all'))) ?_))
            · exfalso
              have h1 : ¬ (k : Int) < ((L.length + 1 : Nat) : Int):=h1
              omega
        | cons x2 all =>
          cases all' with
          | nil =>
            obtain ⟨l2, h2⟩:=hgr
            simp at h2
          | cons y all' =>
            conv=>whnf
            refine brP_dec (fun h1=>?_) (fun h1=>?_)
            · conv=>whnf
              repeat (any_goals (first|exact falseI|((first|refine bd ?_ ?_|refine bn ?_ ?_)<;>intro _<;>first|(exfalso;omega)|conv=>whnf)|((first|refine optP_map hn rfl ?_|refine dI ?_|refine okI ?_|refine bt ?_|refine bi (fun _=>?_) (fun _=>?_)|refine bndI ?_|intro _)<;>conv=>whnf)))
              refine ⟨keysE (listsE s w [p0, p1, p2, p3, p4, p5] ⟨rg, ra, rb, rl⟩ false (memo, x2 :: all)), ?_⟩
              conv=>whnf
              refine optP_intro (tk_setO _ _ _) ?_
              conv=>whnf
              refine ⟨_, _, hyy, ?_⟩
              conv=>whnf
              refine optP_intro (tk_setO _ _ _) ?_
              conv=>whnf
              repeat (any_goals (first|exact falseI|((first|refine bd ?_ ?_|refine bn ?_ ?_)<;>intro _<;>first|(exfalso;omega)|conv=>whnf)|((first|refine dI ?_|refine okI ?_|refine bt ?_|refine bi (fun _=>?_) (fun _=>?_)|refine bndI ?_|intro _)<;>conv=>whnf)))
              (refine ⟨(k + 1, (memo', y :: all')), ⟨by simp only;omega, hok', H⟩, (by simp only;omega), ?_⟩;(conv=>whnf);refine ⟨?_, ?_, ?_⟩<;>repeat (first|exact trivial|refine sc rfl ?_|refine kn ?_|refine kc rfl ?_|refine sc (by first|rfl|exact congrArg (fun z=>some (some (rg, some (0, [AV.lp .ready none #[20] ra rb z])))) hl|exact congrArg (fun z=>some (some (rg, some (0, [AV.lp .ready none #[20] ra rb z])))) (hl0 (memo', y :: all'))) ?_|refine kc (by first|rfl|exact congrArg (fun z=>some (some (rg, some (0, [AV.lp .ready none #[20] ra rb z])))) hl|exact congrArg (fun z=>some (some (rg, some (0, [AV.lp .ready none #[20] ra rb z])))) (hl0 (memo', y :: all'))) ?_))
            · exfalso
              have h1 : ¬ (k : Int) < ((L.length + 1 : Nat) : Int):=h1
              omega
      · have : k = X.length:=by omega
        subst this
        rw [List.drop_length] at H
        simp only [foldG] at H
        subst H
        cases all with
        | nil =>
          conv=>whnf
          refine brP_dec (fun h1=>?_) (fun h1=>?_)
          · exfalso
            have h1 : (X.length : Int) < ((L.length + 1 : Nat) : Int):=h1
            omega
          · conv=>whnf
            refine And.intro ?_ ?_
            · conv=>whnf
              refine ⟨⟨?_⟩, trivial⟩
              rfl
            · repeat (first|exact trivial|refine And.intro rfl ?_|refine And.intro (by skip) ?_)
        | cons x2 all =>
          conv=>whnf
          refine brP_dec (fun h1=>?_) (fun h1=>?_)
          · exfalso
            have h1 : (X.length : Int) < ((L.length + 1 : Nat) : Int):=h1
            omega
          · conv=>whnf
            refine And.intro ?_ ?_
            · conv=>whnf
              refine ⟨⟨?_⟩, trivial⟩
              rfl
            · repeat (first|exact trivial|refine And.intro rfl ?_|refine And.intro (by skip) ?_)
end Go.Proofs.YtbpiibdcncfphaaGreatDoor
namespace Go.Proofs.YtbpiibdcncfphaaGreatDoor
open Go.Am Go.Proofs Go
def Store.allOk (s : Store) : List Nat:=s.sorted.filter (s.okAt 0)
theorem listsF2_c (s : Store) (hr : s.small) (hc : s.check.2.2 ≠ 0) : PureA Tryz.prog 9 [storeA s] (.tuple [nilS, intA s.check.2.2]):=by
  have hk:=lookF_c s 0 hr hc
  generalize s.check.2.2 = c at *
  refine pureA_codeB tabOk { l:=0, f:=9, mat:=[22] } mixed call_9 Tryz.func9 (by kernel_rfl) ?_
  conv=>whnf
  repeat (any_goals (first|exact falseI|((first|refine bd ?_ ?_|refine bn ?_ ?_)<;>intro _<;>first|(exfalso;omega)|conv=>whnf)|((first|refine dI ?_|refine okI ?_|refine bt ?_|refine bi (fun _=>?_) (fun _=>?_)|refine bndI ?_|intro _)<;>conv=>whnf)))
  refine ⟨[], ?_⟩
  conv=>whnf
  refine ⟨_, _, hk, ?_⟩
  conv=>whnf
  repeat (any_goals (first|exact falseI|((first|refine bd ?_ ?_|refine bn ?_ ?_)<;>intro _<;>first|(exfalso;omega)|conv=>whnf)|((first|refine dI ?_|refine okI ?_|refine bt ?_|refine bi (fun _=>?_) (fun _=>?_)|refine bndI ?_|intro _)<;>conv=>whnf)))
  (refine ⟨⟨?_⟩, trivial⟩;rfl)
theorem pureEs_ints : ∀ l : List Int, pureEs (l.map intA) = some (l.map intA)
  | []=>rfl
  | x :: l=>by simp only [List.map_cons, pureEs, pureEs_ints l];rfl
theorem copy_ints (l : List Int) : pureEs (((l.map intA).take (min (l.map intA).length (l.map intA).length)++(List.replicate (l.map intA).length (intA 0)).drop (min (l.map intA).length (l.map intA).length)).take (l.map intA).length) = some (l.map intA):=by
  rw [Nat.min_self, List.take_length, List.drop_replicate, Nat.sub_self]
  simp only [List.replicate_zero, List.append_nil, List.take_length]
  exact pureEs_ints l
theorem pureEs_sets (x : Nat) (l : List Nat) : pureEs ((setA x :: l.map setA).take (l.length + 1)) = some ((x :: l).map setA):=by
  rw [List.take_of_length_le (by simp)]
  have : ∀ l : List Nat, pureEs (l.map setA) = some (l.map setA):=by
    intro l
    induction l with
    | nil=>rfl
    | cons x l ih=>simp only [List.map_cons, pureEs, ih];rfl
  exact this (x :: l)
set_option maxHeartbeats 2000000 in
theorem listsT_c (s : Store) (hr : s.small) (hc : s.check.2.2 = 0) : PureA Tryz.prog 9 [storeA s] (match s.allOk with
    | []=>.tuple [nilS, intA 0]
    | x :: l=>.tuple [.slice 1 ((x :: l).map setA) .no, intA 0]):=by
  have hg:=Store.good hc
  have hk:=lookT_c s 0 hr hc (by decide) (by decide)
  have hp:=meltsTo_len s 0 _ (Nat.le_refl _) hg.len
  have e : meltsTo s 0 s.heads.length = s.melts 0:=rfl
  rw [e] at hp
  have hfind:=foldG_all (ok:=s.okAt 0) (f:=s.nextM 0) s.sorted ((0, []), [])
  have hdo:=fun memo n (h : n ∈ s.sorted) (hok : s.memoOk memo)=>does_c s 0 memo (setL n) hg (by decide) (setL_len n) (setL_small hg.len h) hok
  have hit:=fun r hl hy=>iterL_c s (sumW s.orders) (s.melts 0) r hp hg hl (fun k a=>s.memoOk a.1∧a.2.length ≤ k) (fun a n=>(s.nextM 0 a.1 n, if s.okAt 0 n = true then a.2++[n] else a.2)) (fun a n=>by
    simp only
    split
    · exact ⟨_, rfl⟩
    · exact ⟨[], by simp⟩) hy ⟨by intro e he;simp at he, Nat.le_refl _⟩
  have hli:=listsF_c s (sumW s.orders) (s.melts 0) (0, []) hp
  have hnx : ∀ memo n, s.nextM 0 memo n = s.remember memo (s.baseOf (setL n) 0):=fun _ _=>rfl
  have hall : s.allOk = s.sorted.filter (s.okAt 0):=rfl
  simp only [List.nil_append] at hfind
  rw [← hall] at hfind
  generalize foldG (fun (_ : MemoL × List Nat) _=>true) (fun a n=>(s.nextM 0 a.1 n, if s.okAt 0 n = true then a.2++[n] else a.2)) s.sorted ((0, []), []) = R at *
  obtain ⟨⟨R1, N⟩, R2⟩:=R
  generalize s.allOk = F at *
  obtain ⟨h1, h2⟩:=hfind
  simp only at h1 h2
  subst h1 h2
  generalize sumW s.orders = w at *
  generalize s.melts 0 = p at *
  obtain ⟨p0, p1, p2, p3, p4, p5, rfl⟩:=list6 hp
  refine pureA_codeB tabOk { l:=0, f:=9, mat:=[22, 23] } mixed call_9 Tryz.func9 (by kernel_rfl) ?_
  conv=>whnf
  repeat (any_goals (first|exact falseI|((first|refine bd ?_ ?_|refine bn ?_ ?_)<;>intro _<;>first|(exfalso;omega)|conv=>whnf)|((first|refine dI ?_|refine okI ?_|refine bt ?_|refine bi (fun _=>?_) (fun _=>?_)|refine bndI ?_|intro _)<;>conv=>whnf)))
  refine ⟨[], ?_⟩
  conv=>whnf
  refine ⟨_, _, hk, ?_⟩
  conv=>whnf
  repeat (any_goals (first|exact falseI|((first|refine bd ?_ ?_|refine bn ?_ ?_)<;>intro _<;>first|(exfalso;omega)|conv=>whnf)|((first|refine dI ?_|refine okI ?_|refine bt ?_|refine bi (fun _=>?_) (fun _=>?_)|refine bndI ?_|intro _)<;>conv=>whnf)))
  refine ⟨[kS, kM], ?_⟩
  conv=>whnf
  refine ⟨_, _, hli, ?_⟩
  conv=>whnf
  repeat (any_goals (first|exact falseI|((first|refine bd ?_ ?_|refine bn ?_ ?_)<;>intro _<;>first|(exfalso;omega)|conv=>whnf)|((first|refine dI ?_|refine okI ?_|refine bt ?_|refine bi (fun _=>?_) (fun _=>?_)|refine bndI ?_|intro _)<;>conv=>whnf)))
  refine ⟨[kLl, ⟨0, 9, 5⟩, ⟨0, 9, 2⟩, kS, kM, kT], ?_⟩
  conv=>whnf
  refine ⟨_, _, hit ⟨_, _, _, _⟩ ?_ ?_, ?_⟩
  · intro ⟨a1, a2⟩
    cases a2 with
    | nil=>rfl
    | cons x l=>rfl
  · intro k ⟨memo, all⟩ n ⟨ha, hk2⟩ hk64 hn
    simp only at ha hk2
    have h1:=hdo memo n hn ha
    simp only [hnx]
    have hr:=ha.remember (s.baseOf (setL n) 0)
    unfold Store.okAt
    refine ⟨⟨hr, by split<;>first|omega|(simp;omega)⟩, ?_⟩
    generalize (s.pour (s.baseOf (setL n) 0)).ok = b at *
    generalize s.remember memo (s.baseOf (setL n) 0) = a' at *
    cases b with
    | false =>
      simp only [Bool.false_eq_true, if_false]
      cases all with
      | nil =>
        refine boxA_yieldB tabOk { l:=0, f:=9, mat:=[29], ow:=[33], fz:=[(10, 7)], rd:=true } mixed rfl rfl rfl (by kernel_rfl) ?_
        conv=>whnf
        refine And.intro rfl ?_
        conv=>whnf
        repeat (any_goals (first|exact falseI|((first|refine bd ?_ ?_|refine bn ?_ ?_)<;>intro _<;>first|(exfalso;omega)|conv=>whnf)|((first|refine dI ?_|refine okI ?_|refine bt ?_|refine bi (fun _=>?_) (fun _=>?_)|refine bndI ?_|intro _)<;>conv=>whnf)))
        refine ⟨[kS, kM], ?_⟩
        conv=>whnf
        refine ⟨_, _, h1, ?_⟩
        conv=>whnf
        repeat (any_goals (first|exact falseI|((first|refine bd ?_ ?_|refine bn ?_ ?_)<;>intro _<;>first|(exfalso;omega)|conv=>whnf)|((first|refine dI ?_|refine okI ?_|refine bt ?_|refine bi (fun _=>?_) (fun _=>?_)|refine bndI ?_|intro _)<;>conv=>whnf)))
        repeat (first|exact trivial|refine And.intro rfl ?_|refine kc rfl ?_)
      | cons x l =>
        refine boxA_yieldB tabOk { l:=0, f:=9, mat:=[29], ow:=[33], fz:=[(10, 7)], rd:=true } mixed rfl rfl rfl (by kernel_rfl) ?_
        conv=>whnf
        refine And.intro rfl ?_
        conv=>whnf
        repeat (any_goals (first|exact falseI|((first|refine bd ?_ ?_|refine bn ?_ ?_)<;>intro _<;>first|(exfalso;omega)|conv=>whnf)|((first|refine dI ?_|refine okI ?_|refine bt ?_|refine bi (fun _=>?_) (fun _=>?_)|refine bndI ?_|intro _)<;>conv=>whnf)))
        refine ⟨[kS, kM], ?_⟩
        conv=>whnf
        refine ⟨_, _, h1, ?_⟩
        conv=>whnf
        repeat (any_goals (first|exact falseI|((first|refine bd ?_ ?_|refine bn ?_ ?_)<;>intro _<;>first|(exfalso;omega)|conv=>whnf)|((first|refine dI ?_|refine okI ?_|refine bt ?_|refine bi (fun _=>?_) (fun _=>?_)|refine bndI ?_|intro _)<;>conv=>whnf)))
        repeat (first|exact trivial|refine And.intro rfl ?_|refine kc rfl ?_)
    | true =>
      simp only [if_true]
      have hcp:=copy_ints (setL n)
      have hl6:=setL_len n
      cases all with
      | nil =>
        refine boxA_yieldB tabOk { l:=0, f:=9, mat:=[29], ow:=[33], fz:=[(10, 7)], rd:=true } mixed rfl rfl rfl (by kernel_rfl) ?_
        conv=>whnf
        refine And.intro rfl ?_
        conv=>whnf
        repeat (any_goals (first|exact falseI|((first|refine bd ?_ ?_|refine bn ?_ ?_)<;>intro _<;>first|(exfalso;omega)|conv=>whnf)|((first|refine dI ?_|refine okI ?_|refine bt ?_|refine bi (fun _=>?_) (fun _=>?_)|refine bndI ?_|intro _)<;>conv=>whnf)))
        refine ⟨[kS, kM], ?_⟩
        conv=>whnf
        refine ⟨_, _, h1, ?_⟩
        conv=>whnf
        repeat (any_goals (first|exact falseI|((first|refine bd ?_ ?_|refine bn ?_ ?_)<;>intro _<;>first|(exfalso;omega)|conv=>whnf)|((first|refine dI ?_|refine okI ?_|refine bt ?_|refine bi (fun _=>?_) (fun _=>?_)|refine bndI ?_|intro _)<;>conv=>whnf)))
        refine optP_intro hcp ?_
        conv=>whnf
        repeat (any_goals (first|exact falseI|((first|refine bd ?_ ?_|refine bn ?_ ?_)<;>intro _<;>first|(exfalso;omega)|conv=>whnf)|((first|refine dI ?_|refine okI ?_|refine bt ?_|refine bi (fun _=>?_) (fun _=>?_)|refine bndI ?_|intro _)<;>conv=>whnf)))
        repeat (first|exact trivial|refine And.intro rfl ?_|refine kc rfl ?_)
      | cons x l =>
        have e1 : (l++[n]).length = l.length + 1:=by simp
        have e2 : List.take (l.length + 1) (setA x :: l.map setA)++[setA n] = setA x :: (l++[n]).map setA:=by
          rw [List.take_of_length_le (by simp)];simp
        refine boxA_yieldB tabOk { l:=0, f:=9, mat:=[29], ow:=[33], fz:=[(10, 7)], rd:=true } mixed rfl rfl rfl (by kernel_rfl) ?_
        conv=>whnf
        refine And.intro rfl ?_
        conv=>whnf
        repeat (any_goals (first|exact falseI|((first|refine bd ?_ ?_|refine bn ?_ ?_)<;>intro _<;>first|(exfalso;omega)|conv=>whnf)|((first|refine dI ?_|refine okI ?_|refine bt ?_|refine bi (fun _=>?_) (fun _=>?_)|refine bndI ?_|intro _)<;>conv=>whnf)))
        refine ⟨[kS, kM], ?_⟩
        conv=>whnf
        refine ⟨_, _, h1, ?_⟩
        conv=>whnf
        repeat (any_goals (first|exact falseI|((first|refine bd ?_ ?_|refine bn ?_ ?_)<;>intro _<;>first|(exfalso;omega)|conv=>whnf)|((first|refine dI ?_|refine okI ?_|refine bt ?_|refine bi (fun _=>?_) (fun _=>?_)|refine bndI ?_|intro _)<;>conv=>whnf)))
        refine optP_intro hcp ?_
        conv=>whnf
        simp only [List.length_cons] at hk2
        repeat (any_goals (first|exact falseI|((first|refine bd ?_ ?_|refine bn ?_ ?_)<;>intro _<;>first|(exfalso;omega)|conv=>whnf)|((first|refine dI ?_|refine okI ?_|refine bt ?_|refine bi (fun _=>?_) (fun _=>?_)|refine bndI ?_|intro _)<;>conv=>whnf)))
        repeat (first|exact trivial|refine And.intro rfl ?_|refine kc rfl ?_|refine kc (by first|(show some (some (1, some (1, [AV.own kO (l.length + 1 + 1) 1 (l.length + 1 + 1) 0]))) = some (some (1, some (1, [AV.own kO ((l++[n]).length + 1) 1 ((l++[n]).length + 1) 0])));rw [e1])|(show some (some (l.length + 1 + 1, some (1, List.take (l.length + 1) (setA x :: l.map setA)++[setA n]))) = some (some ((l++[n]).length + 1, some (1, setA x :: (l++[n]).map setA)));rw [e1, e2])) ?_)
  · cases N with
    | nil =>
      conv=>whnf
      repeat (any_goals (first|exact falseI|((first|refine bd ?_ ?_|refine bn ?_ ?_)<;>intro _<;>first|(exfalso;omega)|conv=>whnf)|((first|refine dI ?_|refine okI ?_|refine bt ?_|refine bi (fun _=>?_) (fun _=>?_)|refine bndI ?_|intro _)<;>conv=>whnf)))
      (refine ⟨⟨?_⟩, trivial⟩;rfl)
    | cons x l =>
      conv=>whnf
      refine optP_intro (tk_setO _ _ _) ?_
      conv=>whnf
      repeat (any_goals (first|exact falseI|((first|refine bd ?_ ?_|refine bn ?_ ?_)<;>intro _<;>first|(exfalso;omega)|conv=>whnf)|((first|refine dI ?_|refine okI ?_|refine bt ?_|refine bi (fun _=>?_) (fun _=>?_)|refine bndI ?_|intro _)<;>conv=>whnf)))
      refine optP_intro (pureEs_sets x l) ?_
      conv=>whnf
      repeat (any_goals (first|exact falseI|((first|refine bd ?_ ?_|refine bn ?_ ?_)<;>intro _<;>first|(exfalso;omega)|conv=>whnf)|((first|refine dI ?_|refine okI ?_|refine bt ?_|refine bi (fun _=>?_) (fun _=>?_)|refine bndI ?_|intro _)<;>conv=>whnf)))
      (refine ⟨⟨?_⟩, trivial⟩;rfl)
theorem intss_sets (l : List Nat) : (AV.slice 1 (l.map setA) .no) = intssA (l.map setL):=by
  unfold intssA setA
  rw [List.map_map]
  rfl
def Store.listsR (s : Store) : List (List Int) × Int:=if s.check.2.2 ≠ 0 then ([], s.check.2.2) else (s.allOk.map setL, 0)
def listsA (x : List (List Int) × Int) : AV:=.tuple [intssA x.1, intA x.2]
theorem pureNilL {P : Program} {f : FuncId} {args : List AV} {l : List AV} (h : PureA P f args (.tuple (nilS :: l))) : PureA P f args (.tuple (intssA [] :: l)) :=
  h.wk (Wk.tuple (.cons (Wk.nil 1) (WkL.refl l)))
theorem listsTop_c (s : Store) (hr : s.small) : PureA Tryz.prog 9 [storeA s] (listsA s.listsR):=by
  unfold Store.listsR
  by_cases hc : s.check.2.2 = 0
  · rw [if_neg (fun h=>h hc)]
    have h:=listsT_c s hr hc
    cases hF : s.allOk with
    | nil=>rw [hF] at h;exact pureNilL h
    | cons x l=>rw [hF] at h;simp only [intss_sets] at h;exact h
  · rw [if_pos hc]
    exact pureNilL (listsF2_c s hr hc)
end Go.Proofs.YtbpiibdcncfphaaGreatDoor
namespace Go.Proofs.YtbpiibdcncfphaaGreatDoor
open Go.Am Go.Proofs Go
def hasL (n : Int) (l : List Int) : Bool:=l.any (fun x=>decide (n = x))
def eachN (all : List (List Int)) (n : Int) : Nat:=(all.filter (hasL n)).length
def someN (k : Nat) (all : List (List Int)) (n : Int) : Nat:=(all.filter fun l=>hasL n l && decide ((l.length : Int) = k)).length
def pickTo (p : Int→Bool) (i : Nat) : List Int:=((List.range i).map Int.ofNat).filter p
theorem pickTo_succ (p : Int→Bool) (i : Nat) : pickTo p (i + 1) = pickTo p i++(if p (i : Int) = true then [(i : Int)] else []):=by
  unfold pickTo
  rw [List.range_succ, List.map_append, List.filter_append]
  congr 1
  simp only [List.map_cons, List.map_nil, List.filter_cons, List.filter_nil]
  rfl
theorem pickTo_len (p : Int→Bool) (i : Nat) : (pickTo p i).length ≤ i:=by
  unfold pickTo
  exact Nat.le_trans (List.length_filter_le ..) (by simp)
def mustL (h : Nat) (all : List (List Int)) : List Int:=pickTo (fun n=>decide ((eachN all n : Int) = all.length)) h
def mayL (h : Nat) (all : List (List Int)) : List Int:=pickTo (fun n=>decide (0 < (someN (all.headD []).length all n : Int))) h
def Store.doubtR (s : Store) : List Int × List Int × Int :=
  if s.check.2.2 ≠ 0 then ([], [], s.check.2.2) else match s.allOk.map setL with
    | []=>([], [], 9)
    | l :: all=>(mustL s.heads.length (l :: all), mayL s.heads.length (l :: all), 0)
def doubtA (x : List Int × List Int × Int) : AV:=.tuple [intsA x.1, intsA x.2.1, intA x.2.2]
theorem pureNil2 {P : Program} {f : FuncId} {args : List AV} {l : List AV} (h : PureA P f args (.tuple (nilS :: nilS :: l))) : PureA P f args (.tuple (intsA [] :: intsA [] :: l)) :=
  h.wk (Wk.tuple (.cons (Wk.nil 1) (.cons (Wk.nil 1) (WkL.refl l))))
theorem filter_take {α : Type} (p : α→Bool) {l : List α} {j : Nat} {x : α} (hx : l[j]? = some x) : ((l.take (j + 1)).filter p).length = ((l.take j).filter p).length + (if p x = true then 1 else 0):=by
  rw [List.take_add_one, hx, List.filter_append, List.length_append]
  congr 1
  simp only [Option.toList_some, List.filter_cons, List.filter_nil]
  split<;>rfl
theorem filter_take_le {α : Type} (p : α→Bool) (l : List α) (j : Nat) : ((l.take j).filter p).length ≤ j:=by
  refine Nat.le_trans (List.length_filter_le ..) ?_
  rw [List.length_take];omega
theorem doubtE_c (s : Store) (hr : s.small) (hc : s.check.2.2 ≠ 0) : PureA Tryz.prog 12 [storeA s] (.tuple [nilS, nilS, intA s.check.2.2]):=by
  have hk:=listsTop_c s hr
  unfold Store.listsR listsA at hk
  rw [if_pos hc] at hk
  generalize s.check.2.2 = c at *
  refine pureA_codeB tabOk { l:=0, f:=12 } mixed call_12 Tryz.func12 (by kernel_rfl) ?_
  conv=>whnf
  repeat (any_goals (first|exact falseI|((first|refine bd ?_ ?_|refine bn ?_ ?_)<;>intro _<;>first|(exfalso;omega)|conv=>whnf)|((first|refine callP_a hk ?_|refine dI ?_|refine okI ?_|refine bt ?_|refine bi (fun _=>?_) (fun _=>?_)|refine bndI ?_|intro _)<;>conv=>whnf)))
  (refine ⟨⟨?_⟩, trivial⟩;rfl)
theorem doubtN_c (s : Store) (hr : s.small) (hc : s.check.2.2 = 0) (hn : s.allOk = []) : PureA Tryz.prog 12 [storeA s] (.tuple [nilS, nilS, intA 9]):=by
  have hk:=listsTop_c s hr
  unfold Store.listsR listsA at hk
  rw [if_neg (fun h=>h hc), hn] at hk
  refine pureA_codeB tabOk { l:=0, f:=12 } mixed call_12 Tryz.func12 (by kernel_rfl) ?_
  conv=>whnf
  repeat (any_goals (first|exact falseI|((first|refine bd ?_ ?_|refine bn ?_ ?_)<;>intro _<;>first|(exfalso;omega)|conv=>whnf)|((first|refine callP_a hk ?_|refine dI ?_|refine okI ?_|refine bt ?_|refine bi (fun _=>?_) (fun _=>?_)|refine bndI ?_|intro _)<;>conv=>whnf)))
  (refine ⟨⟨?_⟩, trivial⟩;rfl)
set_option maxHeartbeats 2000000 in
theorem doubtT_c (s : Store) (hr : s.small) (hc : s.check.2.2 = 0) (l0 : List Int) (all : List (List Int)) (hn : s.allOk.map setL = l0 :: all) :
    PureA Tryz.prog 12 [storeA s] (.tuple [intsA (mustL s.heads.length (l0 :: all)), intsA (mayL s.heads.length (l0 :: all)), intA 0]):=by
  have hk:=listsTop_c s hr
  have h6:=(Store.good hc).len
  have hll : (l0 :: all).length ≤ 64:=by
    rw [← hn, List.length_map]
    refine Nat.le_trans (List.length_filter_le ..) ?_
    rw [sorted_len, sets_eq]
    exact Nat.le_trans (upto_len _ _) (two_pow_le h6)
  have hl6 : ∀ l ∈ l0 :: all, l.length ≤ 6:=by
    intro l hl
    rw [← hn] at hl
    obtain ⟨n, _, rfl⟩:=List.mem_map.1 hl
    exact setL_len n
  unfold Store.listsR listsA at hk
  rw [if_neg (fun h=>h hc), hn] at hk
  simp only at hk
  have hhas:=fun l hl n=>has_c l n (by have:=hl6 l hl;omega)
  unfold mustL mayL
  have hM:=pickTo_succ (fun n=>decide ((eachN (l0 :: all) n : Int) = (l0 :: all).length))
  have hY:=pickTo_succ (fun n=>decide (0 < (someN ((l0 :: all).headD []).length (l0 :: all) n : Int)))
  have hMl:=pickTo_len (fun n=>decide ((eachN (l0 :: all) n : Int) = (l0 :: all).length))
  have hYl:=pickTo_len (fun n=>decide (0 < (someN ((l0 :: all).headD []).length (l0 :: all) n : Int)))
  have hM0 : pickTo (fun n=>decide ((eachN (l0 :: all) n : Int) = (l0 :: all).length)) 0 = []:=rfl
  have hY0 : pickTo (fun n=>decide (0 < (someN ((l0 :: all).headD []).length (l0 :: all) n : Int))) 0 = []:=rfl
  generalize pickTo (fun n=>decide ((eachN (l0 :: all) n : Int) = (l0 :: all).length)) = M at *
  generalize pickTo (fun n=>decide (0 < (someN ((l0 :: all).headD []).length (l0 :: all) n : Int))) = Y at *
  simp only [List.headD_cons] at hY
  refine pureA_codeB tabOk { l:=0, f:=12 } mixed call_12 Tryz.func12 (by kernel_rfl) ?_
  conv=>whnf
  repeat (any_goals (first|exact falseI|((first|refine bd ?_ ?_|refine bn ?_ ?_)<;>intro _<;>first|(exfalso;omega)|conv=>whnf)|((first|refine callP_a hk ?_|refine dI ?_|refine okI ?_|refine bt ?_|refine bi (fun _=>?_) (fun _=>?_)|refine bndI ?_|intro _)<;>conv=>whnf)))
  refine loopTok 2 1 ⟨0, 12, 58⟩ ?_
  conv=>whnf
  refine loopTok 3 1 ⟨0, 12, 64⟩ ?_
  conv=>whnf
  refine loopK tabOk { l:=0, f:=12 } mixed (fun i : Nat=>[(27, intA i), (2, .slice 1 ((M i).map intA) (.own ⟨0, 12, 58⟩ 1)), (3, .slice 1 ((Y i).map intA) (.own ⟨0, 12, 64⟩ 1))]) (fun _=>[]) (fun i=>[(⟨0, 12, 58⟩, some (1, (M i).length)), (⟨0, 12, 64⟩, some (1, (Y i).length))]) (fun i=>i ≤ s.heads.length) (fun i=>s.heads.length - i) 0 (by kernel_rfl)
    (Nat.zero_le _) ?_
  conv=>whnf
  refine ⟨⟨slotsLe_cons rfl (slotsLe_cons (by rw [hM0];rfl) (slotsLe_cons (by rw [hY0];rfl) trivial)), trivial, keysLe_cons (by rw [hM0];rfl) (keysLe_cons (by rw [hY0];rfl) trivial)⟩, ?_⟩
  intro i hi
  have hMi:=hM i
  have hYi:=hY i
  have hMli:=hMl i
  have hYli:=hYl i
  conv=>whnf
  refine brP_dec (fun h1=>?_) (fun h1=>?_)
  · simp only [List.length_map] at h1
    have hE:=fun j x (hx : (l0 :: all)[j]? = some x)=>filter_take (hasL (i : Int)) hx
    have hS:=fun j x (hx : (l0 :: all)[j]? = some x)=>filter_take (fun l=>hasL (i : Int) l && decide ((l.length : Int) = l0.length)) hx
    have hEl:=filter_take_le (hasL (i : Int)) (l0 :: all)
    have hSl:=filter_take_le (fun l=>hasL (i : Int) l && decide ((l.length : Int) = l0.length)) (l0 :: all)
    have hE1 : eachN (l0 :: all) i = (((l0 :: all).take (l0 :: all).length).filter (hasL (i : Int))).length:=by rw [List.take_length];rfl
    have hS1 : someN l0.length (l0 :: all) i = (((l0 :: all).take (l0 :: all).length).filter (fun l=>hasL (i : Int) l && decide ((l.length : Int) = l0.length))).length:=by rw [List.take_length];rfl
    simp only [decide_eq_true_eq] at hMi hYi
    simp only [hE1] at hMi
    simp only [hS1] at hYi
    clear hE1 hS1 hM hY hM0 hY0 hMl hYl
    have hE0 : (((l0 :: all).take 0).filter (hasL (i : Int))).length = 0:=rfl
    have hS0 : (((l0 :: all).take 0).filter (fun l=>hasL (i : Int) l && decide ((l.length : Int) = l0.length))).length = 0:=rfl
    obtain ⟨E, hEe⟩ : ∃ E : Nat→Nat, E = fun j=>(((l0 :: all).take j).filter (hasL (i : Int))).length:=⟨_, rfl⟩
    obtain ⟨S, hSe⟩ : ∃ S : Nat→Nat, S = fun j=>(((l0 :: all).take j).filter (fun l=>hasL (i : Int) l && decide ((l.length : Int) = l0.length))).length:=⟨_, rfl⟩
    have hEj : ∀ j, (((l0 :: all).take j).filter (hasL (i : Int))).length = E j:=fun j=>by rw [hEe]
    have hSj : ∀ j, (((l0 :: all).take j).filter (fun l=>hasL (i : Int) l && decide ((l.length : Int) = l0.length))).length = S j:=fun j=>by rw [hSe]
    simp only [hEj, hSj] at hE hS hEl hSl hMi hYi hE0 hS0
    clear hEj hSj hEe hSe
    conv=>whnf
    repeat (any_goals (first|exact falseI|((first|refine bd ?_ ?_|refine bn ?_ ?_)<;>intro _<;>first|(exfalso;omega)|conv=>whnf)|((first|refine dI ?_|refine okI ?_|refine bt ?_|refine bi (fun _=>?_) (fun _=>?_)|refine bndI ?_|intro _)<;>conv=>whnf)))
    refine loopK tabOk { l:=0, f:=12 } mixed (fun j : Nat=>[(32, intA j), (7, intA (E j)), (8, intA (S j))]) (fun _=>[]) (fun _=>[]) (fun j=>j ≤ (l0 :: all).length) (fun j=>(l0 :: all).length - j) 0 (by kernel_rfl)
      (Nat.zero_le _) ?_
    conv=>whnf
    refine ⟨⟨slotsLe_cons rfl (slotsLe_cons (by rw [hE0];rfl) (slotsLe_cons (by rw [hS0];rfl) trivial)), trivial, trivial⟩, ?_⟩
    intro j hj
    conv=>whnf
    refine brP_dec (fun h2=>?_) (fun h2=>?_)
    · simp only [List.length_map] at h2
      obtain ⟨x, hx, hd⟩:=drop_cons (l:=l0 :: all) (i:=j) (by omega)
      have hE:=hE j x hx
      have hS:=hS j x hx
      have hEl:=hEl j
      have hSl:=hSl j
      have hh:=hhas x (List.mem_of_getElem? hx) i
      have hxl:=hl6 x (List.mem_of_getElem? hx)
      have h0l:=hl6 l0 (List.mem_cons_self ..)
      unfold hasL at hE hS
      generalize (x.any fun y=>decide ((i : Int) = y)) = b at *
      cases b with
      | false =>
        simp only [Bool.false_eq_true, if_false, Bool.false_and] at hE hS
        conv=>whnf
        repeat (any_goals (first|exact falseI|((first|refine bd ?_ ?_|refine bn ?_ ?_)<;>intro _<;>first|(exfalso;omega)|conv=>whnf)|((first|refine optP_map hx rfl ?_|refine callP_a hh ?_|refine dI ?_|refine okI ?_|refine bt ?_|refine bi (fun _=>?_) (fun _=>?_)|refine bndI ?_|intro _)<;>conv=>whnf)))
        (refine ⟨j + 1, (by omega), (by omega), ?_⟩;(conv=>whnf);refine ⟨?_, ?_, ?_⟩<;>repeat (first|exact trivial|refine sc rfl ?_|refine kn ?_|refine kc rfl ?_|refine sc (by first|rfl|(rw [hE];rfl)|(rw [hS];rfl)) ?_|refine kc (by first|rfl|(rw [hE];rfl)|(rw [hS];rfl)) ?_))
      | true =>
        simp only [Bool.true_and, if_true, decide_eq_true_eq] at hE hS
        by_cases hq : (x.length : Int) = l0.length
        · rw [if_pos hq] at hS
          conv=>whnf
          repeat (any_goals (first|exact falseI|((first|refine bd ?_ ?_|refine bn ?_ ?_)<;>intro _<;>first|(exfalso;omega)|conv=>whnf)|((first|refine optP_map hx rfl ?_|refine callP_a hh ?_|refine dI ?_|refine okI ?_|refine bt ?_|refine bi (fun _=>?_) (fun _=>?_)|refine bndI ?_|intro _)<;>conv=>whnf)))
          · (refine ⟨j + 1, (by omega), (by omega), ?_⟩;(conv=>whnf);refine ⟨?_, ?_, ?_⟩<;>repeat (first|exact trivial|refine sc rfl ?_|refine kn ?_|refine kc rfl ?_|refine sc (by first|rfl|(rw [hE];rfl)|(rw [hS];rfl)) ?_|refine kc (by first|rfl|(rw [hE];rfl)|(rw [hS];rfl)) ?_))
          · exfalso
            rename_i hq'
            simp only [List.length_map] at hq'
            exact hq' hq
        · rw [if_neg hq] at hS
          conv=>whnf
          repeat (any_goals (first|exact falseI|((first|refine bd ?_ ?_|refine bn ?_ ?_)<;>intro _<;>first|(exfalso;omega)|conv=>whnf)|((first|refine optP_map hx rfl ?_|refine callP_a hh ?_|refine dI ?_|refine okI ?_|refine bt ?_|refine bi (fun _=>?_) (fun _=>?_)|refine bndI ?_|intro _)<;>conv=>whnf)))
          · exfalso
            rename_i hq'
            simp only [List.length_map] at hq'
            exact hq hq'
          · (refine ⟨j + 1, (by omega), (by omega), ?_⟩;(conv=>whnf);refine ⟨?_, ?_, ?_⟩<;>repeat (first|exact trivial|refine sc rfl ?_|refine kn ?_|refine kc rfl ?_|refine sc (by first|rfl|(rw [hE];rfl)|(rw [hS];rfl)) ?_|refine kc (by first|rfl|(rw [hE];rfl)|(rw [hS];rfl)) ?_))
    · simp only [List.length_map] at h2
      have : j = (l0 :: all).length:=by omega
      subst this
      clear hE hS
      have hEl:=hEl (l0 :: all).length
      have hSl:=hSl (l0 :: all).length
      generalize E (l0 :: all).length = e at *
      generalize S (l0 :: all).length = f at *
      by_cases q1 : (e : Int) = ((((l0 :: all).map intsA).length : Nat) : Int)
      · rw [if_pos (by rw [List.length_map] at q1;exact q1)] at hMi
        by_cases q2 : (0 : Int) < f
        · rw [if_pos (decide_eq_true q2)] at hYi
          conv=>whnf
          repeat (any_goals (first|exact falseI|((first|refine bd ?_ ?_|refine bn ?_ ?_)<;>intro _<;>first|(exfalso;omega)|conv=>whnf)|((first|refine dI ?_|refine okI ?_|refine bt ?_|refine bi (fun _=>?_) (fun _=>?_)|refine bndI ?_|intro _)<;>conv=>whnf)))
          (refine ⟨i + 1, (by omega), (by omega), ?_⟩;(conv=>whnf);refine ⟨?_, ?_, ?_⟩<;>repeat (first|exact trivial|refine sc rfl ?_|refine kn ?_|refine kc rfl ?_|refine sc (by first|rfl|(simp only [hMi, hYi, List.map_append, List.length_append];rfl)|((conv=>lhs;whnf);simp [hMi, hYi, intA];done)) ?_|refine kc (by first|rfl|(simp only [hMi, hYi, List.map_append, List.length_append];rfl)|((conv=>lhs;whnf);simp [hMi, hYi, intA];done)) ?_))
        · rw [if_neg (by simpa using q2), List.append_nil] at hYi
          conv=>whnf
          repeat (any_goals (first|exact falseI|((first|refine bd ?_ ?_|refine bn ?_ ?_)<;>intro _<;>first|(exfalso;omega)|conv=>whnf)|((first|refine dI ?_|refine okI ?_|refine bt ?_|refine bi (fun _=>?_) (fun _=>?_)|refine bndI ?_|intro _)<;>conv=>whnf)))
          (refine ⟨i + 1, (by omega), (by omega), ?_⟩;(conv=>whnf);refine ⟨?_, ?_, ?_⟩<;>repeat (first|exact trivial|refine sc rfl ?_|refine kn ?_|refine kc rfl ?_|refine sc (by first|rfl|(simp only [hMi, hYi, List.map_append, List.length_append];rfl)|((conv=>lhs;whnf);simp [hMi, hYi, intA];done)) ?_|refine kc (by first|rfl|(simp only [hMi, hYi, List.map_append, List.length_append];rfl)|((conv=>lhs;whnf);simp [hMi, hYi, intA];done)) ?_))
      · rw [if_neg (by rw [List.length_map] at q1;exact q1), List.append_nil] at hMi
        by_cases q2 : (0 : Int) < f
        · rw [if_pos (decide_eq_true q2)] at hYi
          conv=>whnf
          repeat (any_goals (first|exact falseI|((first|refine bd ?_ ?_|refine bn ?_ ?_)<;>intro _<;>first|(exfalso;omega)|conv=>whnf)|((first|refine dI ?_|refine okI ?_|refine bt ?_|refine bi (fun _=>?_) (fun _=>?_)|refine bndI ?_|intro _)<;>conv=>whnf)))
          (refine ⟨i + 1, (by omega), (by omega), ?_⟩;(conv=>whnf);refine ⟨?_, ?_, ?_⟩<;>repeat (first|exact trivial|refine sc rfl ?_|refine kn ?_|refine kc rfl ?_|refine sc (by first|rfl|(simp only [hMi, hYi, List.map_append, List.length_append];rfl)|((conv=>lhs;whnf);simp [hMi, hYi, intA];done)) ?_|refine kc (by first|rfl|(simp only [hMi, hYi, List.map_append, List.length_append];rfl)|((conv=>lhs;whnf);simp [hMi, hYi, intA];done)) ?_))
        · rw [if_neg (by simpa using q2), List.append_nil] at hYi
          conv=>whnf
          repeat (any_goals (first|exact falseI|((first|refine bd ?_ ?_|refine bn ?_ ?_)<;>intro _<;>first|(exfalso;omega)|conv=>whnf)|((first|refine dI ?_|refine okI ?_|refine bt ?_|refine bi (fun _=>?_) (fun _=>?_)|refine bndI ?_|intro _)<;>conv=>whnf)))
          (refine ⟨i + 1, (by omega), (by omega), ?_⟩;(conv=>whnf);refine ⟨?_, ?_, ?_⟩<;>repeat (first|exact trivial|refine sc rfl ?_|refine kn ?_|refine kc rfl ?_|refine sc (by first|rfl|(simp only [hMi, hYi, List.map_append, List.length_append];rfl)|((conv=>lhs;whnf);simp [hMi, hYi, intA];done)) ?_|refine kc (by first|rfl|(simp only [hMi, hYi, List.map_append, List.length_append];rfl)|((conv=>lhs;whnf);simp [hMi, hYi, intA];done)) ?_))
  · simp only [List.length_map] at h1
    have : i = s.heads.length:=by omega
    subst this
    conv=>whnf
    repeat (any_goals (first|exact falseI|((first|refine bd ?_ ?_|refine bn ?_ ?_)<;>intro _<;>first|(exfalso;omega)|conv=>whnf)|((first|refine dI ?_|refine okI ?_|refine bt ?_|refine bi (fun _=>?_) (fun _=>?_)|refine bndI ?_|intro _)<;>conv=>whnf)))
    (refine ⟨⟨?_⟩, trivial⟩;rfl)
theorem doubtTop_c (s : Store) (hr : s.small) : PureA Tryz.prog 12 [storeA s] (doubtA s.doubtR):=by
  unfold Store.doubtR
  by_cases hc : s.check.2.2 = 0
  · rw [if_neg (fun h=>h hc)]
    cases hn : s.allOk.map setL with
    | nil=>exact pureNil2 (doubtN_c s hr hc (List.map_eq_nil_iff.1 hn))
    | cons l all=>exact doubtT_c s hr hc l all hn
  · rw [if_pos hc]
    exact pureNil2 (doubtE_c s hr hc)
end Go.Proofs.YtbpiibdcncfphaaGreatDoor
namespace Go.Proofs.YtbpiibdcncfphaaGreatDoor
open Go.Am Go.Proofs Go
def Amt.more (a : Amt) (n : Int) : Nat→Amt
  | 0=>⟨a.b + n, a.t, a.c⟩
  | 1=>⟨a.b, a.t + n, a.c⟩
  | _=>⟨a.b, a.t, a.c + n⟩
def Store.more (s : Store) (k : Nat) (n : Int) : Store:={ s with lots:=s.lots.more n k }
def Store.lackIn (s : Store) (n : Nat) : Nat→Nat→Option Nat
  | 0, _=>none
  | f + 1, k=>if ((s.more k ((n : Int) + 1)).pour zeroT).ok = true then some k else s.lackIn n f (k + 1)
def Store.lackOut (s : Store) : Nat→Nat→Int × Int × Int
  | 0, _=>(0, 0, 9)
  | f + 1, n=>match s.lackIn n 3 0 with
    | some k=>((k : Int), (n : Int) + 1, 0)
    | none=>s.lackOut f (n + 1)
def Store.lackR (s : Store) : Int × Int × Int:=if s.check.2.2 ≠ 0 then (0, 0, s.check.2.2) else if (s.pour zeroT).ok = true then (0, 0, 4) else s.lackOut 40 0
theorem more_good {s : Store} {k : Nat} {n : Int} (hg : s.Good) (h4 : s.lots.upto 40) (hn : 0 ≤ n∧n ≤ 60) : (s.more k n).Good:=by
  obtain ⟨a1, a2, a3⟩:=h4
  refine ⟨?_, hg.fade, hg.len, hg.heads, hg.lenO, hg.orders⟩
  unfold Store.more Amt.more
  split<;>(unfold Amt.upto;simp only;omega)
theorem check_lots {s : Store} (hc : s.check.2.2 = 0) : s.lots.upto 40:=by
  unfold Store.check at hc
  split at hc
  · simp at hc
  rename_i h1
  simp only [Bool.not_eq_true, Bool.or_eq_false_iff, outside_iff] at h1
  unfold Amt.upto
  omega
theorem doesN_c (s : Store) (later : Int) (memo : MemoL) (hg : s.Good) (h0 : 0 ≤ later) (hok : s.memoOk memo) :
    BoxA Tryz.prog (.fn 29) (storeE s (sumW s.orders) (s.melts later) memo) [.ptr kS 1 27 0 0, .slice 0 [] .tight] (boolA (s.pour zeroT).ok) (storeE s (sumW s.orders) (s.melts later) (s.remember memo zeroT)):=by
  have hp:=meltsTo_len s later _ (Nat.le_refl _) hg.len
  have e : meltsTo s later s.heads.length = s.melts later:=rfl
  rw [e] at hp
  have hsum:=(wsum_c s (sumW s.orders) (s.melts later) zeroT [] hp (melts_abs hg h0) (zeroT_abs _ (by decide)) (by simp) (by simp)).args (args:=[_, _, .slice 0 [] .no]) (.cons (Wk.refl _) (.cons (Wk.refl _) (.cons (Wk.nil 1) trivial)))
  have hpo:=pour_c s (s.melts later) memo zeroT hp hg (by unfold Amt.upto zeroT;simp) hok
  have eb : sumL (s.melts later) zeroT [] = zeroT:=rfl
  rw [eb] at hsum
  generalize s.pour zeroT = P at *
  generalize s.remember memo zeroT = memo' at *
  generalize sumW s.orders = w at *
  generalize s.melts later = p at *
  clear e eb
  obtain ⟨p0, p1, p2, p3, p4, p5, rfl⟩:=list6 hp
  refine boxA_codeB tabOk { l:=0, f:=29, mat:=[24] } mixed call_29 Tryz.func29 (by kernel_rfl) ?_
  conv=>whnf
  repeat (any_goals (first|exact falseI|((first|refine bd ?_ ?_|refine bn ?_ ?_)<;>intro _<;>first|(exfalso;omega)|conv=>whnf)|((first|refine callP_f hsum rfl ?_|refine dI ?_|refine okI ?_|refine bt ?_|refine bi (fun _=>?_) (fun _=>?_)|refine bndI ?_|intro _)<;>conv=>whnf)))
  refine ⟨[kS, kM], ?_⟩
  conv=>whnf
  refine ⟨_, _, hpo, ?_⟩
  conv=>whnf
  repeat (any_goals (first|exact falseI|((first|refine bd ?_ ?_|refine bn ?_ ?_)<;>intro _<;>first|(exfalso;omega)|conv=>whnf)|((first|refine dI ?_|refine okI ?_|refine bt ?_|refine bi (fun _=>?_) (fun _=>?_)|refine bndI ?_|intro _)<;>conv=>whnf)))
  refine And.intro ?_ ?_
  · conv=>whnf
    refine ⟨⟨?_⟩, trivial⟩
    rfl
  · repeat (first|exact trivial|refine And.intro rfl ?_|refine And.intro (by skip) ?_)
theorem lackE_c (s : Store) (hr : s.small) (hc : s.check.2.2 ≠ 0) : PureA Tryz.prog 15 [storeA s] (triA (0, 0, s.check.2.2)):=by
  have hk:=lookF_c s 0 hr hc
  generalize s.check.2.2 = c at *
  refine pureA_codeB tabOk { l:=0, f:=15, mat:=[22] } mixed call_15 Tryz.func15 (by kernel_rfl) ?_
  conv=>whnf
  repeat (any_goals (first|exact falseI|((first|refine bd ?_ ?_|refine bn ?_ ?_)<;>intro _<;>first|(exfalso;omega)|conv=>whnf)|((first|refine dI ?_|refine okI ?_|refine bt ?_|refine bi (fun _=>?_) (fun _=>?_)|refine bndI ?_|intro _)<;>conv=>whnf)))
  refine ⟨[], ?_⟩
  conv=>whnf
  refine ⟨_, _, hk, ?_⟩
  conv=>whnf
  repeat (any_goals (first|exact falseI|((first|refine bd ?_ ?_|refine bn ?_ ?_)<;>intro _<;>first|(exfalso;omega)|conv=>whnf)|((first|refine dI ?_|refine okI ?_|refine bt ?_|refine bi (fun _=>?_) (fun _=>?_)|refine bndI ?_|intro _)<;>conv=>whnf)))
  (refine ⟨⟨?_⟩, trivial⟩;rfl)
set_option maxHeartbeats 4000000 in
theorem lackT_c (s : Store) (hr : s.small) (hc : s.check.2.2 = 0) : PureA Tryz.prog 15 [storeA s] (triA (if (s.pour zeroT).ok = true then (0, 0, 4) else s.lackOut 40 0)):=by
  have hg:=Store.good hc
  have h4:=check_lots hc
  have hk:=lookT_c s 0 hr hc (by decide) (by decide)
  have hp:=meltsTo_len s 0 _ (Nat.le_refl _) hg.len
  have e : meltsTo s 0 s.heads.length = s.melts 0:=rfl
  rw [e] at hp
  have hd0:=doesN_c s 0 (0, []) hg (by decide) (by intro e he;simp at he)
  have hdo : ∀ k (n : Int) c, 0 ≤ n∧n ≤ 60→BoxA Tryz.prog (.fn 29) (storeE (s.more k n) (sumW s.orders) (s.melts 0) (c, [])) [.ptr kS 1 27 0 0, .slice 0 [] .tight] (boolA ((s.more k n).pour zeroT).ok) (storeE (s.more k n) (sumW s.orders) (s.melts 0) ((s.more k n).remember (c, []) zeroT)) :=
    fun k n c hn=>doesN_c (s.more k n) 0 (c, []) (more_good hg h4 hn) (by decide) (by intro e he;simp at he)
  have hrm : ∀ k n c, (s.more k n).remember (c, []) zeroT = (c, [(zeroT, (s.more k n).pour zeroT)]):=fun k n c=>rfl
  simp only [hrm] at hdo
  have hrm0 : s.remember (0, []) zeroT = (0, [(zeroT, s.pour zeroT)]):=rfl
  rw [hrm0] at hd0
  obtain ⟨R, hR⟩ : ∃ R, R = (if (s.pour zeroT).ok = true then (0, 0, 4) else s.lackOut 40 0):=⟨_, rfl⟩
  rw [← hR]
  have hin0 : ∀ n k, s.lackIn n 0 k = none:=fun _ _=>rfl
  have hin : ∀ n f k, s.lackIn n (f + 1) k = if ((s.more k ((n : Int) + 1)).pour zeroT).ok = true then some k else s.lackIn n f (k + 1):=fun _ _ _=>rfl
  have hout : ∀ f n, s.lackOut (f + 1) n = match s.lackIn n 3 0 with|some k=>((k : Int), (n : Int) + 1, 0)|none=>s.lackOut f (n + 1):=fun _ _=>rfl
  have hout0 : ∀ n, s.lackOut 0 n = (0, 0, 9):=fun _=>rfl
  generalize hq0 : s.pour zeroT = q0 at *
  obtain ⟨⟨q1, q2, q3⟩, b0⟩:=q0
  generalize sumW s.orders = w at *
  generalize s.melts 0 = p at *
  obtain ⟨p0, p1, p2, p3, p4, p5, rfl⟩:=list6 hp
  cases b0 with
  | true =>
    rw [if_pos rfl] at hR
    subst hR
    refine pureA_codeB tabOk { l:=0, f:=15, mat:=[22, 29] } mixed call_15 Tryz.func15 (by kernel_rfl) ?_
    conv=>whnf
    repeat (any_goals (first|exact falseI|((first|refine bd ?_ ?_|refine bn ?_ ?_)<;>intro _<;>first|(exfalso;omega)|conv=>whnf)|((first|refine dI ?_|refine okI ?_|refine bt ?_|refine bi (fun _=>?_) (fun _=>?_)|refine bndI ?_|intro _)<;>conv=>whnf)))
    refine ⟨[], ?_⟩
    conv=>whnf
    refine ⟨_, _, hk, ?_⟩
    conv=>whnf
    repeat (any_goals (first|exact falseI|((first|refine bd ?_ ?_|refine bn ?_ ?_)<;>intro _<;>first|(exfalso;omega)|conv=>whnf)|((first|refine dI ?_|refine okI ?_|refine bt ?_|refine bi (fun _=>?_) (fun _=>?_)|refine bndI ?_|intro _)<;>conv=>whnf)))
    refine ⟨[kS, kM], ?_⟩
    conv=>whnf
    refine ⟨_, _, hd0, ?_⟩
    conv=>whnf
    repeat (any_goals (first|exact falseI|((first|refine bd ?_ ?_|refine bn ?_ ?_)<;>intro _<;>first|(exfalso;omega)|conv=>whnf)|((first|refine dI ?_|refine okI ?_|refine bt ?_|refine bi (fun _=>?_) (fun _=>?_)|refine bndI ?_|intro _)<;>conv=>whnf)))
    (refine ⟨⟨?_⟩, trivial⟩;rfl)
  | false =>
    rw [if_neg (by simp)] at hR
    refine pureA_codeB tabOk { l:=0, f:=15, mat:=[22, 29] } mixed call_15 Tryz.func15 (by kernel_rfl) ?_
    conv=>whnf
    repeat (any_goals (first|exact falseI|((first|refine bd ?_ ?_|refine bn ?_ ?_)<;>intro _<;>first|(exfalso;omega)|conv=>whnf)|((first|refine dI ?_|refine okI ?_|refine bt ?_|refine bi (fun _=>?_) (fun _=>?_)|refine bndI ?_|intro _)<;>conv=>whnf)))
    refine ⟨[], ?_⟩
    conv=>whnf
    refine ⟨_, _, hk, ?_⟩
    conv=>whnf
    repeat (any_goals (first|exact falseI|((first|refine bd ?_ ?_|refine bn ?_ ?_)<;>intro _<;>first|(exfalso;omega)|conv=>whnf)|((first|refine dI ?_|refine okI ?_|refine bt ?_|refine bi (fun _=>?_) (fun _=>?_)|refine bndI ?_|intro _)<;>conv=>whnf)))
    refine ⟨[kS, kM], ?_⟩
    conv=>whnf
    refine ⟨_, _, hd0, ?_⟩
    conv=>whnf
    repeat (any_goals (first|exact falseI|((first|refine bd ?_ ?_|refine bn ?_ ?_)<;>intro _<;>first|(exfalso;omega)|conv=>whnf)|((first|refine dI ?_|refine okI ?_|refine bt ?_|refine bi (fun _=>?_) (fun _=>?_)|refine bndI ?_|intro _)<;>conv=>whnf)))
    have hl1:=h4.1
    have hl2:=h4.2.1
    have hl3:=h4.2.2
    refine loopK tabOk { l:=0, f:=15, mat:=[22, 29] } mixed (fun x : Nat × Amt × MemoL=>[(20, intA x.1)]) (fun x=>[(kS, some (1, some (27, [storeY { s with lots:=x.2.1 } w [p0, p1, p2, p3, p4, p5] (.mp kM 1)]))), (kM, some (1, some (0, mapX x.2.2)))]) (fun _=>[]) (fun x=>x.1 ≤ 40∧R = s.lackOut (40 - x.1) x.1) (fun x=>40 - x.1) (0, (s.lots, (0, [(zeroT, ⟨⟨q1, q2, q3⟩, false⟩)]))) (by kernel_rfl)
      ⟨Nat.zero_le _, hR⟩ ?_
    conv=>whnf
    refine ⟨⟨?_, ?_, trivial⟩, ?_⟩
    · repeat (first|exact trivial|refine sc rfl ?_)
    · repeat (first|exact trivial|refine kc rfl ?_)
    clear hR
    intro ⟨n, ⟨a, memo⟩⟩ ⟨hn, H⟩
    simp only at hn H
    conv=>whnf
    refine brP_dec (fun h1=>?_) (fun h1=>?_)
    · have h1 : (n : Int) < 40:=h1
      obtain ⟨f, hf⟩ : ∃ f, 40 - n = f + 1:=⟨39 - n, by omega⟩
      rw [hf, hout] at H
      conv=>whnf
      repeat (any_goals (first|exact falseI|((first|refine bd ?_ ?_|refine bn ?_ ?_)<;>intro _<;>first|(exfalso;omega)|conv=>whnf)|((first|refine dI ?_|refine okI ?_|refine bt ?_|refine bi (fun _=>?_) (fun _=>?_)|refine bndI ?_|intro _)<;>conv=>whnf)))
      refine loopK tabOk { l:=0, f:=15, mat:=[22, 29] } mixed (fun x : Nat × Amt × MemoL=>[(23, intA x.1)]) (fun x=>[(kS, some (1, some (27, [storeY { s with lots:=x.2.1 } w [p0, p1, p2, p3, p4, p5] (.mp kM 1)]))), (kM, some (1, some (0, mapX x.2.2)))]) (fun _=>[]) (fun x=>x.1 ≤ 3∧R = (match s.lackIn n (3 - x.1) x.1 with|some k=>((k : Int), (n : Int) + 1, 0)|none=>s.lackOut f (n + 1))) (fun x=>3 - x.1) (0, (a, memo)) (by kernel_rfl)
        ⟨Nat.zero_le _, H⟩ ?_
      conv=>whnf
      refine ⟨⟨?_, ?_, trivial⟩, ?_⟩
      · repeat (first|exact trivial|refine sc rfl ?_)
      · repeat (first|exact trivial|refine kc rfl ?_)
      clear H
      intro ⟨k, ⟨a, memo⟩⟩ ⟨hk3, H⟩
      simp only at hk3 H
      obtain ⟨c, l⟩:=memo
      conv=>whnf
      refine brP_dec (fun h2=>?_) (fun h2=>?_)
      · have h2 : (k : Int) < 3:=h2
        rcases lt3 (by omega : k < 3) with rfl|rfl|rfl
        · have hd:=hdo 0 ((n : Int) + 1) (c + ((l.map entA).length : Nat)) ⟨by omega, by omega⟩
          simp only [hin] at H
          generalize hQ : (s.more 0 ((n : Int) + 1)).pour zeroT = Q at *
          obtain ⟨⟨r1, r2, r3⟩, b⟩:=Q
          cases b with
          | true =>
            simp only [if_true] at H
            subst H
            conv=>whnf
            repeat (any_goals (first|exact falseI|((first|refine bd ?_ ?_|refine bn ?_ ?_)<;>intro _<;>first|(exfalso;omega)|conv=>whnf)|((first|refine dI ?_|refine okI ?_|refine bt ?_|refine bi (fun _=>?_) (fun _=>?_)|refine bndI ?_|intro _)<;>conv=>whnf)))
            refine ⟨[kS, kM], ?_⟩
            conv=>whnf
            refine ⟨_, _, hd, ?_⟩
            conv=>whnf
            repeat (any_goals (first|exact falseI|((first|refine bd ?_ ?_|refine bn ?_ ?_)<;>intro _<;>first|(exfalso;omega)|conv=>whnf)|((first|refine dI ?_|refine okI ?_|refine bt ?_|refine bi (fun _=>?_) (fun _=>?_)|refine bndI ?_|intro _)<;>conv=>whnf)))
            (refine ⟨⟨?_⟩, trivial⟩;rfl)
          | false =>
            simp only [Bool.false_eq_true, if_false] at H
            conv=>whnf
            repeat (any_goals (first|exact falseI|((first|refine bd ?_ ?_|refine bn ?_ ?_)<;>intro _<;>first|(exfalso;omega)|conv=>whnf)|((first|refine dI ?_|refine okI ?_|refine bt ?_|refine bi (fun _=>?_) (fun _=>?_)|refine bndI ?_|intro _)<;>conv=>whnf)))
            refine ⟨[kS, kM], ?_⟩
            conv=>whnf
            refine ⟨_, _, hd, ?_⟩
            conv=>whnf
            repeat (any_goals (first|exact falseI|((first|refine bd ?_ ?_|refine bn ?_ ?_)<;>intro _<;>first|(exfalso;omega)|conv=>whnf)|((first|refine dI ?_|refine okI ?_|refine bt ?_|refine bi (fun _=>?_) (fun _=>?_)|refine bndI ?_|intro _)<;>conv=>whnf)))
            (refine ⟨(1, (s.lots.more ((n : Int) + 1) 0, (c + ((l.map entA).length : Nat), [(zeroT, ⟨⟨r1, r2, r3⟩, false⟩)]))), ⟨by simp only;omega, H⟩, (by simp only;omega), ?_⟩;(conv=>whnf);refine ⟨?_, ?_, ?_⟩<;>repeat (first|exact trivial|refine sc rfl ?_|refine kn ?_|refine kc rfl ?_|refine sc (by rfl) ?_|refine kc (by rfl) ?_))
        · have hd:=hdo 1 ((n : Int) + 1) (c + ((l.map entA).length : Nat)) ⟨by omega, by omega⟩
          simp only [hin] at H
          generalize hQ : (s.more 1 ((n : Int) + 1)).pour zeroT = Q at *
          obtain ⟨⟨r1, r2, r3⟩, b⟩:=Q
          cases b with
          | true =>
            simp only [if_true] at H
            subst H
            conv=>whnf
            repeat (any_goals (first|exact falseI|((first|refine bd ?_ ?_|refine bn ?_ ?_)<;>intro _<;>first|(exfalso;omega)|conv=>whnf)|((first|refine dI ?_|refine okI ?_|refine bt ?_|refine bi (fun _=>?_) (fun _=>?_)|refine bndI ?_|intro _)<;>conv=>whnf)))
            refine ⟨[kS, kM], ?_⟩
            conv=>whnf
            refine ⟨_, _, hd, ?_⟩
            conv=>whnf
            repeat (any_goals (first|exact falseI|((first|refine bd ?_ ?_|refine bn ?_ ?_)<;>intro _<;>first|(exfalso;omega)|conv=>whnf)|((first|refine dI ?_|refine okI ?_|refine bt ?_|refine bi (fun _=>?_) (fun _=>?_)|refine bndI ?_|intro _)<;>conv=>whnf)))
            (refine ⟨⟨?_⟩, trivial⟩;rfl)
          | false =>
            simp only [Bool.false_eq_true, if_false] at H
            conv=>whnf
            repeat (any_goals (first|exact falseI|((first|refine bd ?_ ?_|refine bn ?_ ?_)<;>intro _<;>first|(exfalso;omega)|conv=>whnf)|((first|refine dI ?_|refine okI ?_|refine bt ?_|refine bi (fun _=>?_) (fun _=>?_)|refine bndI ?_|intro _)<;>conv=>whnf)))
            refine ⟨[kS, kM], ?_⟩
            conv=>whnf
            refine ⟨_, _, hd, ?_⟩
            conv=>whnf
            repeat (any_goals (first|exact falseI|((first|refine bd ?_ ?_|refine bn ?_ ?_)<;>intro _<;>first|(exfalso;omega)|conv=>whnf)|((first|refine dI ?_|refine okI ?_|refine bt ?_|refine bi (fun _=>?_) (fun _=>?_)|refine bndI ?_|intro _)<;>conv=>whnf)))
            (refine ⟨(2, (s.lots.more ((n : Int) + 1) 1, (c + ((l.map entA).length : Nat), [(zeroT, ⟨⟨r1, r2, r3⟩, false⟩)]))), ⟨by simp only;omega, H⟩, (by simp only;omega), ?_⟩;(conv=>whnf);refine ⟨?_, ?_, ?_⟩<;>repeat (first|exact trivial|refine sc rfl ?_|refine kn ?_|refine kc rfl ?_|refine sc (by rfl) ?_|refine kc (by rfl) ?_))
        · have hd:=hdo 2 ((n : Int) + 1) (c + ((l.map entA).length : Nat)) ⟨by omega, by omega⟩
          simp only [hin] at H
          generalize hQ : (s.more 2 ((n : Int) + 1)).pour zeroT = Q at *
          obtain ⟨⟨r1, r2, r3⟩, b⟩:=Q
          cases b with
          | true =>
            simp only [if_true] at H
            subst H
            conv=>whnf
            repeat (any_goals (first|exact falseI|((first|refine bd ?_ ?_|refine bn ?_ ?_)<;>intro _<;>first|(exfalso;omega)|conv=>whnf)|((first|refine dI ?_|refine okI ?_|refine bt ?_|refine bi (fun _=>?_) (fun _=>?_)|refine bndI ?_|intro _)<;>conv=>whnf)))
            refine ⟨[kS, kM], ?_⟩
            conv=>whnf
            refine ⟨_, _, hd, ?_⟩
            conv=>whnf
            repeat (any_goals (first|exact falseI|((first|refine bd ?_ ?_|refine bn ?_ ?_)<;>intro _<;>first|(exfalso;omega)|conv=>whnf)|((first|refine dI ?_|refine okI ?_|refine bt ?_|refine bi (fun _=>?_) (fun _=>?_)|refine bndI ?_|intro _)<;>conv=>whnf)))
            (refine ⟨⟨?_⟩, trivial⟩;rfl)
          | false =>
            simp only [Bool.false_eq_true, if_false] at H
            conv=>whnf
            repeat (any_goals (first|exact falseI|((first|refine bd ?_ ?_|refine bn ?_ ?_)<;>intro _<;>first|(exfalso;omega)|conv=>whnf)|((first|refine dI ?_|refine okI ?_|refine bt ?_|refine bi (fun _=>?_) (fun _=>?_)|refine bndI ?_|intro _)<;>conv=>whnf)))
            refine ⟨[kS, kM], ?_⟩
            conv=>whnf
            refine ⟨_, _, hd, ?_⟩
            conv=>whnf
            repeat (any_goals (first|exact falseI|((first|refine bd ?_ ?_|refine bn ?_ ?_)<;>intro _<;>first|(exfalso;omega)|conv=>whnf)|((first|refine dI ?_|refine okI ?_|refine bt ?_|refine bi (fun _=>?_) (fun _=>?_)|refine bndI ?_|intro _)<;>conv=>whnf)))
            (refine ⟨(3, (s.lots.more ((n : Int) + 1) 2, (c + ((l.map entA).length : Nat), [(zeroT, ⟨⟨r1, r2, r3⟩, false⟩)]))), ⟨by simp only;omega, H⟩, (by simp only;omega), ?_⟩;(conv=>whnf);refine ⟨?_, ?_, ?_⟩<;>repeat (first|exact trivial|refine sc rfl ?_|refine kn ?_|refine kc rfl ?_|refine sc (by rfl) ?_|refine kc (by rfl) ?_))
      · have h2 : ¬ (k : Int) < 3:=h2
        have : k = 3:=by omega
        subst this
        simp only [Nat.sub_self, hin0] at H
        conv=>whnf
        repeat (any_goals (first|exact falseI|((first|refine bd ?_ ?_|refine bn ?_ ?_)<;>intro _<;>first|(exfalso;omega)|conv=>whnf)|((first|refine dI ?_|refine okI ?_|refine bt ?_|refine bi (fun _=>?_) (fun _=>?_)|refine bndI ?_|intro _)<;>conv=>whnf)))
        (refine ⟨(n + 1, (a, (c, l))), ⟨by simp only;omega, by simp only;rw [show 40 - (n + 1) = f by omega];exact H⟩, (by simp only;omega), ?_⟩;(conv=>whnf);refine ⟨?_, ?_, ?_⟩<;>repeat (first|exact trivial|refine sc rfl ?_|refine kn ?_|refine kc rfl ?_|refine sc (by rfl) ?_|refine kc (by rfl) ?_))
    · have h1 : ¬ (n : Int) < 40:=h1
      have : n = 40:=by omega
      subst this
      simp only [Nat.sub_self, hout0] at H
      subst H
      conv=>whnf
      repeat (any_goals (first|exact falseI|((first|refine bd ?_ ?_|refine bn ?_ ?_)<;>intro _<;>first|(exfalso;omega)|conv=>whnf)|((first|refine dI ?_|refine okI ?_|refine bt ?_|refine bi (fun _=>?_) (fun _=>?_)|refine bndI ?_|intro _)<;>conv=>whnf)))
      (refine ⟨⟨?_⟩, trivial⟩;rfl)
theorem lackTop_c (s : Store) (hr : s.small) : PureA Tryz.prog 15 [storeA s] (triA s.lackR):=by
  unfold Store.lackR
  by_cases hc : s.check.2.2 = 0
  · rw [if_neg (fun h=>h hc)]
    exact lackT_c s hr hc
  · rw [if_pos hc]
    exact lackE_c s hr hc
end Go.Proofs.YtbpiibdcncfphaaGreatDoor
namespace Go.Am
open Go.RowKit
structure Rn where
  k : Key
  k' : Key
  d : Nat
abbrev Rmap:=Key→Nat→Option (Key × Nat)
def fwdR : List Rn→Rmap
  | [], _, _=>none
  | r :: l, k, g=>match Key.beq r.k k with
    | true=>some (r.k', g + r.d)
    | false=>fwdR l k g
def bwdR (ks : List Key) : List Rn→Rmap
  | [], _, _=>none
  | r :: l, k', g'=>match Key.beq r.k' k' with
    | true=>match memK r.k ks, Nat.ble r.d g' with
      | true, true=>some (r.k, g' - r.d)
      | _, _=>none
    | false=>bwdR ks l k' g'
def rk0 (f : Rmap) : AV→Option AV
  | .v x=>some (.v x)
  | .slice sz es tok=>some (.slice sz es (tokK tok es))
  | .cptr cs=>some (.cptr cs)
  | .ptr k g sz i off=>match f k g with
    | some p=>some (.ptr p.1 p.2 sz i off)
    | none=>none
  | .own k g sz n c=>match f k g with
    | some p=>some (.own p.1 p.2 sz n c)
    | none=>none
  | .sl k g sz i off n=>match f k g with
    | some p=>some (.sl p.1 p.2 sz i off n)
    | none=>none
  | .mp k g=>match f k g with
    | some p=>some (.mp p.1 p.2)
    | none=>none
  | _=>none
def rk1 (f : Rmap) : AV→Option AV
  | .func fn fs cs=>match tkL (rk0 f) fs, tkL (rk0 f) cs with
    | some a, some b=>some (.func fn a b)
    | _, _=>none
  | x=>rk0 f x
def rk2 (f : Rmap) : AV→Option AV
  | .agg cs=>match tkL (rk1 f) cs with
    | some a=>some (.agg a)
    | none=>none
  | x=>rk1 f x
def rk3 (f : Rmap) : AV→Option AV
  | .tuple cs=>match tkL (rk2 f) cs with
    | some a=>some (.tuple a)
    | none=>none
  | x=>rk2 f x
def rkBox (f : Rmap) (sz : Nat) (es : List AV) : Option (List AV) :=
  match sz with
  | 0=>match es with
    | [.lp ..]=>none
    | es=>some es
  | _ + 1=>tkL (rk2 f) es
def rkPre (f : Rmap) : List BoxE→Option (List BoxE)
  | []=>some []
  | (k, g, sz, es) :: l=>match f k g, rkBox f sz es, rkPre f l with
    | some p, some es', some l'=>some ((p.1, p.2, sz, es') :: l')
    | _, _, _=>none
structure AgreeR (C C' : Ctx) (f : Rmap) : Prop where
  w : C'.w = C.w
  imm : C'.imm = C.imm
  key : ∀ k g k' g', f k g = some (k', g')→(g < C.gb k→g' < C'.gb k')∧(g = C.gb k→g' = C'.gb k')∧C'.jb k' = C.jb k∧(C.own (C.jb k) = some (.box k)→C'.own (C.jb k) = some (.box k'))
section
variable {C C' : Ctx} {f : Rmap}
theorem AgreeR.prel (h : AgreeR C C' f) {x : AV} {y : Value} (hx : PRel C.w C.imm x y) : PRel C'.w C'.imm x y:=by rw [h.w, h.imm];exact hx
theorem rk0_key {k : Key} {g : Nat} {F : Key × Nat→AV} {x' : AV} (h : (match f k g with|some p=>some (F p)|none=>none) = some x') : ∃ p, f k g = some p∧x' = F p:=by
  split at h
  · rename_i p hp;exact ⟨p, hp, (Option.some.inj h).symm⟩
  · simp at h
theorem carryR0 (h : AgreeR C C' f) {x x' : AV} {y : Value} (hx : KRel C x y) (ht : rk0 f x = some x') : KRel C' x' y:=by
  have pure' : Am.pure1 x = some x'→KRel C' x' y:=fun hp=>.pure (h.prel (hx.pure1 hp))
  cases x<;>simp only [rk0] at ht<;>try (simp at ht;done)
  case v u=>exact pure' (by rw [← ht];rfl)
  case slice sz es tok =>
    simp only [Option.some.injEq] at ht
    subst ht
    have hc : tokK tok es = .no∨(tokK tok es = .tight∧tok = .tight):=by
      unfold tokK
      cases tok<;>cases es<;>simp
    rcases hc with e|⟨e, rfl⟩
    · rw [e];exact .pure (h.prel (hx.pure1 rfl))
    · rw [e]
      cases hx with
      | pure hp=>exact .pure (h.prel hp)
  case cptr cs=>exact pure' (by rw [← ht];rfl)
  case ptr k g sz i off =>
    obtain ⟨⟨k', g'⟩, hm, rfl⟩:=rk0_key (F:=fun p=>.ptr p.1 p.2 sz i off) ht
    obtain ⟨e0, e1, e2, _⟩:=h.key k g k' g' hm
    cases hx with
    | pure hp=>cases hp
    | ptrOld hlt _ h1=>exact .ptrOld (e0 hlt) _ h1
    | ptr=>simp only;rw [e1 rfl, ← e2];exact .ptr
  case own k g sz n c =>
    obtain ⟨⟨k', g'⟩, hm, rfl⟩:=rk0_key (F:=fun p=>.own p.1 p.2 sz n c) ht
    obtain ⟨e0, e1, e2, e3⟩:=h.key k g k' g' hm
    cases hx with
    | pure hp=>cases hp
    | ownOld hlt _ h1=>exact .ownOld (e0 hlt) _ h1
    | own hn hcm ho hs =>
      obtain ⟨arr, e, ha, hsz⟩:=hs
      simp only
      rw [e1 rfl, ← e2];exact .own hn hcm (by rw [e2];exact e3 ho) ⟨arr, e, by rw [h.w, e2];exact ha, hsz⟩
    | ownNil hb=>simp only;rw [e1 rfl];exact .ownNil hb
  case sl k g sz i off n =>
    obtain ⟨⟨k', g'⟩, hm, rfl⟩:=rk0_key (F:=fun p=>.sl p.1 p.2 sz i off n) ht
    obtain ⟨e0, e1, e2, _⟩:=h.key k g k' g' hm
    cases hx with
    | pure hp=>cases hp
    | slOld hlt _ h1=>exact .slOld (e0 hlt) _ h1
    | sl hm=>simp only;rw [e1 rfl, ← e2];exact .sl hm
  case mp k g =>
    obtain ⟨⟨k', g'⟩, hm, rfl⟩:=rk0_key (F:=fun p=>.mp p.1 p.2) ht
    obtain ⟨e0, e1, e2, _⟩:=h.key k g k' g' hm
    cases hx with
    | pure hp=>cases hp
    | mpOld hlt _ h1=>exact .mpOld (e0 hlt) _ h1
    | mp=>simp only;rw [e1 rfl, ← e2];exact .mp
theorem carryR1 (h : AgreeR C C' f) {x x' : AV} {y : Value} (hx : KRel C x y) (ht : rk1 f x = some x') : KRel C' x' y:=by
  cases x<;>try exact carryR0 h hx ht
  rename_i fn fs cs
  simp only [rk1] at ht
  split at ht
  · rename_i a b h1 h2
    simp at ht;subst ht
    have key : ∀ {vf vc : Array Value}, vf.size = fs.length→vc.size = cs.length→(∀ (i : Nat) (x : AV) (y : Value), fs[i]? = some x→vf[i]? = some y→KRel C x y) →
        (∀ (i : Nat) (x : AV) (y : Value), cs[i]? = some x→vc[i]? = some y→KRel C x y)→KRel C' (.func fn a b) (.func fn vf vc):=by
      intro vf vc e1 e2 e3 e4
      obtain ⟨a1, a2⟩:=carryL (carryR0 h) h1 e1 e3
      obtain ⟨b1, b2⟩:=carryL (carryR0 h) h2 e2 e4
      exact .func a1 b1 a2 b2
    cases hx with
    | pure hp=>cases hp with
      | func e1 e2 e3 e4=>exact key e1 e2 (fun i x y a b=>.pure (e3 i x y a b)) (fun i x y a b=>.pure (e4 i x y a b))
    | func e1 e2 e3 e4=>exact key e1 e2 e3 e4
  · simp at ht
theorem carryR2 (h : AgreeR C C' f) {x x' : AV} {y : Value} (hx : KRel C x y) (ht : rk2 f x = some x') : KRel C' x' y:=by
  cases x<;>try exact carryR1 h hx ht
  rename_i cs
  simp only [rk2] at ht
  split at ht
  · rename_i a h1
    simp at ht;subst ht
    cases hx with
    | pure hp=>cases hp with
      | agg hl hp h2 =>
        obtain ⟨a1, a2⟩:=carryL (carryR1 h) h1 hl (fun i x y a b=>.pure (hp i x y a b))
        exact .agg a1 a2 h2
    | agg hl hp h2 =>
      obtain ⟨a1, a2⟩:=carryL (carryR1 h) h1 hl hp
      exact .agg a1 a2 h2
  · simp at ht
theorem carryR3 (h : AgreeR C C' f) {x x' : AV} {y : Value} (hx : KRel C x y) (ht : rk3 f x = some x') : KRel C' x' y:=by
  cases x<;>try exact carryR2 h hx ht
  rename_i cs
  simp only [rk3] at ht
  split at ht
  · rename_i a h1
    simp at ht;subst ht
    cases hx with
    | pure hp=>cases hp with
      | tuple hl hp =>
        obtain ⟨a1, a2⟩:=carryL (carryR2 h) h1 hl (fun i x y a b=>.pure (hp i x y a b))
        exact .tuple a1 a2
    | tuple hl hp =>
      obtain ⟨a1, a2⟩:=carryL (carryR2 h) h1 hl hp
      exact .tuple a1 a2
  · simp at ht
theorem rk0_cells {x y : AV} (h : rk0 f x = some y) : x.cells = [x]∧y.cells = [y]:=by
  cases x<;>simp only [rk0] at h<;>try (simp at h;done)
  case v u=>have e:=Option.some.inj h;subst e;exact ⟨rfl, rfl⟩
  case slice=>have e:=Option.some.inj h;subst e;exact ⟨rfl, rfl⟩
  case cptr=>have e:=Option.some.inj h;subst e;exact ⟨rfl, rfl⟩
  case ptr k g sz i off=>obtain ⟨p, _, rfl⟩:=rk0_key (F:=fun p=>.ptr p.1 p.2 sz i off) h;exact ⟨rfl, rfl⟩
  case own k g sz n c=>obtain ⟨p, _, rfl⟩:=rk0_key (F:=fun p=>.own p.1 p.2 sz n c) h;exact ⟨rfl, rfl⟩
  case sl k g sz i off n=>obtain ⟨p, _, rfl⟩:=rk0_key (F:=fun p=>.sl p.1 p.2 sz i off n) h;exact ⟨rfl, rfl⟩
  case mp k g=>obtain ⟨p, _, rfl⟩:=rk0_key (F:=fun p=>.mp p.1 p.2) h;exact ⟨rfl, rfl⟩
theorem rk1_cells {x y : AV} (h : rk1 f x = some y) : x.cells = [x]∧y.cells = [y]:=by
  cases x with
  | func fn fs cs =>
    simp only [rk1] at h
    split at h
    · have e:=Option.some.inj h;subst e;exact ⟨rfl, rfl⟩
    · simp at h
  | _=>exact rk0_cells (f:=f) (by simpa only [rk1] using h)
theorem rk2_cells {x y : AV} (h : rk2 f x = some y) : y.cells.length = x.cells.length∧∀ (c : Nat) (u : AV), y.cells[c]? = some u→∃ v, x.cells[c]? = some v∧rk1 f v = some u:=by
  have one : rk1 f x = some y→y.cells.length = x.cells.length∧∀ (c : Nat) (u : AV), y.cells[c]? = some u→∃ v, x.cells[c]? = some v∧rk1 f v = some u:=by
    intro h
    obtain ⟨e1, e2⟩:=rk1_cells h
    rw [e1, e2]
    refine ⟨rfl, fun c u hu=>?_⟩
    cases c with
    | zero=>simp at hu;subst hu;exact ⟨x, rfl, h⟩
    | succ c=>simp at hu
  cases x with
  | agg cs =>
    simp only [rk2] at h
    split at h
    · rename_i a h1
      have e:=Option.some.inj h;subst e
      exact ⟨tkL_len h1, tkL_get h1⟩
    · simp at h
  | _=>exact one (by simpa only [rk2] using h)
theorem carryRBox (h : AgreeR C C' f) {k k' : Key} {g g' : Nat} (hm : f k g = some (k', g')) {sz : Nat} {es es' : List AV} (hb : BoxOK C k sz es) (ht : rkBox f sz es = some es') : BoxOK C' k' sz es':=by
  obtain ⟨_, _, e2, e3⟩:=h.key k g k' g' hm
  cases sz with
  | zero =>
    refine ⟨fun h0=>absurd rfl h0, fun _=>?_, fun h0=>absurd rfl h0⟩
    obtain ⟨o, ob, h1, h2⟩:=hb.map rfl
    rw [e2]
    refine ⟨e3 o, ob, by rw [h.w];exact h1, ?_⟩
    cases h2 with
    | map c hl h2 =>
      simp only [rkBox, Option.some.injEq] at ht
      subst ht
      exact (ObjRel.map (R:=KRel C) c hl h2).mono' (fun x y hx=>h.prel hx)
    | iter s pos =>
      simp only [rkBox, Option.some.injEq] at ht
      subst ht
      exact .iter s pos
    | loop hl h2=>simp [rkBox] at ht
  | succ s =>
    simp only [rkBox] at ht
    refine ⟨fun h0 i e he=>?_, fun h0=>absurd h0 (by omega), fun h0 hne=>?_⟩
    · obtain ⟨u, hu, h1⟩:=tkL_get ht i e he
      rw [(rk2_cells h1).1];exact hb.wid h0 i u hu
    · have hne' : es ≠ []:=fun e=>by subst e;simp [tkL] at ht;exact hne ht
      obtain ⟨o, arr, et, ha, hl, hc⟩:=hb.own h0 hne'
      rw [e2, h.w]
      refine ⟨e3 o, arr, et, ha, by rw [tkL_len ht];exact hl, fun i e c x he hx=>?_⟩
      obtain ⟨u, hu, h1⟩:=tkL_get ht i e he
      obtain ⟨v, hv, h2⟩:=(rk2_cells h1).2 c x hx
      obtain ⟨y, f1, f2, f3⟩:=hc i u c v hu hv
      exact ⟨y, f1, carryR1 h f2 h2, f3⟩
theorem rkPre_spec : ∀ {pre pre' : List BoxE}, rkPre f pre = some pre' →
    (∀ p' ∈ pre', ∃ p ∈ pre, f p.1 p.2.1 = some (p'.1, p'.2.1)∧p'.2.2.1 = p.2.2.1∧rkBox f p.2.2.1 p.2.2.2 = some p'.2.2.2) ∧
    ∀ p ∈ pre, ∃ p' ∈ pre', f p.1 p.2.1 = some (p'.1, p'.2.1)∧p'.2.2.1 = p.2.2.1∧rkBox f p.2.2.1 p.2.2.2 = some p'.2.2.2
  | [], pre', h=>by simp [rkPre] at h;subst h;exact ⟨by simp, by simp⟩
  | (k, g, sz, es) :: l, pre', h=>by
    simp only [rkPre] at h
    split at h
    · rename_i p es' l' h0 h1 h2
      simp at h;subst h
      obtain ⟨a, b⟩:=rkPre_spec h2
      refine ⟨fun q hq=>?_, fun q hq=>?_⟩
      · rcases List.mem_cons.1 hq with e|e
        · subst e;exact ⟨_, List.mem_cons_self .., h0, rfl, h1⟩
        · obtain ⟨p, f1, f2⟩:=a q e
          exact ⟨p, List.mem_cons_of_mem _ f1, f2⟩
      · rcases List.mem_cons.1 hq with e|e
        · subst e;exact ⟨_, List.mem_cons_self .., h0, rfl, h1⟩
        · obtain ⟨p, f1, f2⟩:=b q e
          exact ⟨p, List.mem_cons_of_mem _ f1, f2⟩
    · simp at h
end
def keysR : List Rn→List Key
  | []=>[]
  | r :: l=>r.k :: keysR l
def keysR' : List Rn→List Key
  | []=>[]
  | r :: l=>r.k' :: keysR' l
theorem mem_keysR {k : Key} : ∀ {ρ : List Rn}, memK k (keysR ρ) = true↔∃ r ∈ ρ, r.k = k
  | []=>by simp [keysR, memK]
  | r :: l=>by
    have ih:=mem_keysR (k:=k) (ρ:=l)
    rw [memK_true] at ih ⊢
    simp only [keysR, List.mem_cons, ih]
    constructor
    · rintro (e|⟨p, h1, h2⟩)
      · exact ⟨_, .inl rfl, e.symm⟩
      · exact ⟨p, .inr h1, h2⟩
    · rintro ⟨p, e|h1, h2⟩
      · subst e;exact .inl h2.symm
      · exact .inr ⟨p, h1, h2⟩
theorem mem_keysR' {k : Key} : ∀ {ρ : List Rn}, memK k (keysR' ρ) = true↔∃ r ∈ ρ, r.k' = k
  | []=>by simp [keysR', memK]
  | r :: l=>by
    have ih:=mem_keysR' (k:=k) (ρ:=l)
    rw [memK_true] at ih ⊢
    simp only [keysR', List.mem_cons, ih]
    constructor
    · rintro (e|⟨p, h1, h2⟩)
      · exact ⟨_, .inl rfl, e.symm⟩
      · exact ⟨p, .inr h1, h2⟩
    · rintro ⟨p, e|h1, h2⟩
      · subst e;exact .inl h2.symm
      · exact .inr ⟨p, h1, h2⟩
theorem nodupR {ρ : List Rn} (h : nodupK (keysR ρ) = true) : ∀ {r s : Rn}, r ∈ ρ→s ∈ ρ→r.k = s.k→r = s:=by
  induction ρ with
  | nil=>intro r s hr;simp at hr
  | cons a l ih =>
    simp only [keysR, nodupK] at h
    split at h
    · simp at h
    · rename_i hm
      have no : ∀ s ∈ l, s.k ≠ a.k:=fun s hs e=>by
        have:=mem_keysR.2 ⟨s, hs, e⟩
        rw [this] at hm;simp at hm
      intro r s hr hs e
      rcases List.mem_cons.1 hr with e1|e1<;>rcases List.mem_cons.1 hs with e2|e2
      · rw [e1, e2]
      · subst e1;exact absurd e.symm (no s e2)
      · subst e2;exact absurd e (no r e1)
      · exact ih h e1 e2 e
theorem nodupR' {ρ : List Rn} (h : nodupK (keysR' ρ) = true) : ∀ {r s : Rn}, r ∈ ρ→s ∈ ρ→r.k' = s.k'→r = s:=by
  induction ρ with
  | nil=>intro r s hr;simp at hr
  | cons a l ih =>
    simp only [keysR', nodupK] at h
    split at h
    · simp at h
    · rename_i hm
      have no : ∀ s ∈ l, s.k' ≠ a.k':=fun s hs e=>by
        have:=mem_keysR'.2 ⟨s, hs, e⟩
        rw [this] at hm;simp at hm
      intro r s hr hs e
      rcases List.mem_cons.1 hr with e1|e1<;>rcases List.mem_cons.1 hs with e2|e2
      · rw [e1, e2]
      · subst e1;exact absurd e.symm (no s e2)
      · subst e2;exact absurd e (no r e1)
      · exact ih h e1 e2 e
theorem fwdR_some : ∀ {ρ : List Rn} {k : Key} {g : Nat} {p : Key × Nat}, fwdR ρ k g = some p→∃ r ∈ ρ, r.k = k∧p = (r.k', g + r.d)
  | [], k, g, p, h=>by simp [fwdR] at h
  | r :: l, k, g, p, h=>by
    simp only [fwdR] at h
    split at h
    · rename_i hk
      exact ⟨r, List.mem_cons_self .., Key.beq_eq.1 hk, (Option.some.inj h).symm⟩
    · obtain ⟨s, h1, h2⟩:=fwdR_some h
      exact ⟨s, List.mem_cons_of_mem _ h1, h2⟩
theorem bwdR_some {ks : List Key} : ∀ {ρ : List Rn} {k : Key} {g : Nat} {p : Key × Nat}, bwdR ks ρ k g = some p→∃ r ∈ ρ, r.k' = k∧memK r.k ks = true∧r.d ≤ g∧p = (r.k, g - r.d)
  | [], k, g, p, h=>by simp [bwdR] at h
  | r :: l, k, g, p, h=>by
    simp only [bwdR] at h
    split at h
    · rename_i hk
      split at h
      · rename_i h1 h2
        exact ⟨r, List.mem_cons_self .., Key.beq_eq.1 hk, h1, Nat.le_of_ble_eq_true h2, (Option.some.inj h).symm⟩
      · simp at h
    · obtain ⟨s, h1, h2⟩:=bwdR_some h
      exact ⟨s, List.mem_cons_of_mem _ h1, h2⟩
def gensOk (pre pre' : List BoxE) : List Rn→Bool
  | []=>true
  | r :: l=>match Nat.beq (lookE pre' r.k').1 ((lookE pre r.k).1 + r.d) with
    | true=>gensOk pre pre' l
    | false=>false
theorem gensOk_mem {pre pre' : List BoxE} : ∀ {ρ : List Rn}, gensOk pre pre' ρ = true→∀ r ∈ ρ, (lookE pre' r.k').1 = (lookE pre r.k).1 + r.d
  | [], _, r, hr=>by simp at hr
  | s :: l, h, r, hr=>by
    simp only [gensOk] at h
    split at h
    · rename_i hb
      rcases List.mem_cons.1 hr with e|e
      · subst e;exact Nat.eq_of_beq_eq_true hb
      · exact gensOk_mem h r e
    · simp at h
def subK : List Key→List Key→Bool
  | [], _=>true
  | k :: l, ks=>match memK k ks with
    | true=>subK l ks
    | false=>false
theorem subK_mem {ks : List Key} : ∀ {l : List Key}, subK l ks = true→∀ k, memK k l = true→memK k ks = true
  | [], _, k, hk=>by simp [memK] at hk
  | j :: l, h, k, hk=>by
    simp only [subK] at h
    split at h
    · rename_i hb
      rw [memK_true] at hk
      rcases List.mem_cons.1 hk with e|e
      · subst e;exact hb
      · exact subK_mem h k (memK_true.2 e)
    · simp at h
def findR (k : Key) : List Rn→Option Rn
  | []=>none
  | r :: l=>if r.k = k then some r else findR k l
def findR' (k : Key) : List Rn→Option Rn
  | []=>none
  | r :: l=>if r.k' = k then some r else findR' k l
theorem findR_mem {k : Key} : ∀ {ρ : List Rn} {r : Rn}, findR k ρ = some r→r ∈ ρ∧r.k = k
  | [], r, h=>by simp [findR] at h
  | s :: l, r, h=>by
    simp only [findR] at h
    split at h
    · rename_i e;cases h;exact ⟨List.mem_cons_self .., e⟩
    · have:=findR_mem h;exact ⟨List.mem_cons_of_mem _ this.1, this.2⟩
theorem findR'_mem {k : Key} : ∀ {ρ : List Rn} {r : Rn}, findR' k ρ = some r→r ∈ ρ∧r.k' = k
  | [], r, h=>by simp [findR'] at h
  | s :: l, r, h=>by
    simp only [findR'] at h
    split at h
    · rename_i e;cases h;exact ⟨List.mem_cons_self .., e⟩
    · have:=findR'_mem h;exact ⟨List.mem_cons_of_mem _ this.1, this.2⟩
theorem findR_of {ρ : List Rn} (hn : nodupK (keysR ρ) = true) {r : Rn} (hr : r ∈ ρ) : findR r.k ρ = some r:=by
  have ex : ∀ {l : List Rn}, r ∈ l→∃ s, findR r.k l = some s:=by
    intro l;induction l with
    | nil=>intro h;simp at h
    | cons a l ih =>
      intro h
      simp only [findR]
      split
      · exact ⟨_, rfl⟩
      · rename_i e
        rcases List.mem_cons.1 h with e1|e1
        · subst e1;exact absurd rfl e
        · exact ih e1
  obtain ⟨s, hs⟩:=ex hr
  obtain ⟨h1, h2⟩:=findR_mem hs
  rw [hs, nodupR hn h1 hr h2]
theorem findR'_of {ρ : List Rn} (hn : nodupK (keysR' ρ) = true) {r : Rn} (hr : r ∈ ρ) : findR' r.k' ρ = some r:=by
  have ex : ∀ {l : List Rn}, r ∈ l→∃ s, findR' r.k' l = some s:=by
    intro l;induction l with
    | nil=>intro h;simp at h
    | cons a l ih =>
      intro h
      simp only [findR']
      split
      · exact ⟨_, rfl⟩
      · rename_i e
        rcases List.mem_cons.1 h with e1|e1
        · subst e1;exact absurd rfl e
        · exact ih e1
  obtain ⟨s, hs⟩:=ex hr
  obtain ⟨h1, h2⟩:=findR'_mem hs
  rw [hs, nodupR' hn h1 hr h2]
theorem findR'_none {k : Key} {ρ : List Rn} (h : findR' k ρ = none) : ∀ r ∈ ρ, r.k' ≠ k:=by
  induction ρ with
  | nil=>intro r hr;simp at hr
  | cons a l ih =>
    simp only [findR'] at h
    split at h
    · simp at h
    · rename_i e
      intro r hr
      rcases List.mem_cons.1 hr with e1|e1
      · subst e1;exact e
      · exact ih h r e1
section
variable {P : Program} {fid : FuncId} {pre pre' preL post post' : List BoxE} {args args' : List AV} {res res' : AV} {ρ : List Rn}
noncomputable def renC (C : Ctx) (ρ : List Rn) (pre : List BoxE) : Ctx where
  w:=C.w
  imm:=C.imm
  own b:=match C.own b with
    | some (.box k')=>match findR' k' ρ with
      | some r=>if memK r.k (keysE pre) = true then some (.box r.k) else none
      | none=>none
    | _=>none
  gb k:=(lookE pre k).1
  jb k:=match findR k ρ with
    | some r=>C.jb r.k'
    | none=>C.jb k
  gt _:=0
  hw _:=0
theorem renC_own {C : Ctx} {b : Nat} {o : Owner} (h : (renC C ρ pre).own b = some o) : ∃ r ∈ ρ, o = .box r.k∧memK r.k (keysE pre) = true∧C.own b = some (.box r.k'):=by
  simp only [renC] at h
  split at h
  · rename_i k' hk
    split at h
    · rename_i r hr
      split at h
      · rename_i hm
        cases h
        obtain ⟨h1, h2⟩:=findR'_mem hr
        exact ⟨r, h1, rfl, hm, by rw [hk, h2]⟩
      · simp at h
    · simp at h
  · simp at h
open Classical in
noncomputable def renB (C C1 : Ctx) (ρ : List Rn) : Ctx where
  w:=C1.w
  imm:=C1.imm
  own b:=match C1.own b with
    | some (.box k)=>match findR k ρ with
      | some r=>if C1.jb k = b then some (.box r.k') else if b < C.w.heap.size then C.own b else none
      | none=>if b < C.w.heap.size then C.own b else none
    | _=>if b < C.w.heap.size∧¬ Melted C C1 b then C.own b else none
  gb k':=match findR' k' ρ with
    | some r=>C1.gb r.k + r.d
    | none=>C.gb k'
  jb k':=match findR' k' ρ with
    | some r=>C1.jb r.k
    | none=>C.jb k'
  gt:=C.gt
  hw:=C.hw
theorem BoxA.ren (h : BoxA P (.fn fid) pre args res post) (hn : nodupK (keysR ρ) = true) (hn' : nodupK (keysR' ρ) = true) (hg : gensOk pre pre' ρ = true) (hnp : nodupK (keysE pre) = true)
    (hsub : subK (keysE pre') (keysR' ρ) = true) (hpost : subK (keysR ρ) (keysE post) = true) (hnd' : nodupK (keysE pre') = true) (hndp : nodupK (keysE post') = true) (hlen : preL.length ≤ pre'.length∧pre'.take preL.length = preL)
    (hpre : rkPre (bwdR (keysE pre) ρ) preL = some pre) (hargs : tkL (rk2 (bwdR (keysE pre) ρ)) args' = some args) (hres : rk3 (fwdR ρ) res = some res') (hp' : rkPre (fwdR ρ) post = some post') :
    BoxA P (.fn fid) pre' args' res' post':=by
  have hL : ∀ p ∈ preL, p ∈ pre':=fun p hp=>List.mem_of_mem_take (hlen.2 ▸ hp)
  have hgen:=gensOk_mem hg
  obtain ⟨hq1, hq2⟩:=rkPre_spec hpre
  obtain ⟨hr1, hr2⟩:=rkPre_spec hp'
  refine ⟨h.1, fun C w cargs hR hown hk=>?_⟩
  have hw:=hR.cw
  subst hw
  have hgC : ∀ k, C.gb k = (lookE pre' k).1:=fun k=>hR.gb k
  have hA : AgreeR C (renC C ρ pre) (bwdR (keysE pre) ρ):=by
    refine ⟨rfl, rfl, fun k' g' k g hf=>?_⟩
    obtain ⟨r, hr, rfl, hm, hd, e⟩:=bwdR_some hf
    cases e
    have e1 : C.gb r.k' = (lookE pre r.k).1 + r.d:=by rw [hgC, hgen r hr]
    refine ⟨fun hlt=>?_, fun he=>?_, ?_, fun ho=>?_⟩
    · show g' - r.d < (lookE pre r.k).1
      omega
    · show g' - r.d = (lookE pre r.k).1
      omega
    · simp only [renC, findR_of hn hr]
    · simp only [renC, ho, findR'_of hn' hr, if_pos hm]
  have hR0 : Rel 0 (fun b=>b < C.w.heap.size∧(renC C ρ pre).own b = none) C.w (preSt pre) (renC C ρ pre) ⟨#[], []⟩ C.w:={
    cw:=rfl, glob:=hR.glob, size:=rfl, defers:=Marks.nil _ _, slot:=fun i hi=>absurd hi (by omega)
    gb:=fun k=>rfl, gt:=fun k=>rfl, hw:=fun k=>rfl
    box:=fun k sz es hb=>by
      by_cases hm : ∃ p ∈ pre, p.1 = k
      · obtain ⟨p, hp, rfl⟩:=hm
        simp only [preSt, lookE_mem hnp hp, Option.some.injEq, Prod.mk.injEq] at hb
        obtain ⟨rfl, rfl⟩:=hb
        obtain ⟨p', hp', f1, f2, f3⟩:=hq1 p hp
        have hbx:=hR.box p'.1 p'.2.2.1 p'.2.2.2 (by rw [show (preSt pre').box p'.1 = lookE pre' p'.1 from rfl, lookE_mem hnd' (hL p' hp')])
        rw [f2]
        exact carryRBox hA f1 hbx f3
      · simp [preSt, lookE_not hm] at hb
    ownBox:=fun b k hb i=>by
      obtain ⟨r, _, _, _, h1⟩:=renC_own hb
      exact hR.ownBox b _ h1 i
    immLt:=hR.immLt
    ownLt:=fun b o hb=>by
      obtain ⟨r, _, _, _, h1⟩:=renC_own hb
      exact ⟨fun hc=>by rw [hb] at hc;exact absurd hc.2 (by simp), (hR.ownLt b _ h1).2⟩
    below:=Bel.refl _ _
    base:=fun b hb=>hb.1 }
  have hargsR : KRels (renC C ρ pre) args cargs:=by
    obtain ⟨a1, a2⟩:=carryL (carryR2 hA) hargs hk.1 hk.2
    exact ⟨a1, a2⟩
  refine (h.2 (renC C ρ pre) C.w cargs hR0 (fun b o hb=>by obtain ⟨r, _, e, _⟩:=renC_own hb;exact ⟨_, e⟩) hargsR).mono ?_
  rintro e w' ⟨y, S1, C1, rfl, hle, h1, hresK, hpo⟩
  have hcg : ∀ r ∈ ρ, C.gb r.k' = (renC C ρ pre).gb r.k + r.d:=fun r hr=>by rw [hgC, hgen r hr];rfl
  have hcj : ∀ r ∈ ρ, (renC C ρ pre).jb r.k = C.jb r.k':=fun r hr=>by simp only [renC, findR_of hn hr]
  have hold : ∀ b o, C1.own b = some o→b < C.w.heap.size→∃ r ∈ ρ, o = .box r.k∧memK r.k (keysE pre) = true∧C.own b = some (.box r.k'):=fun b o hb hlt=>renC_own (hle.ownOld b o hlt hb)
  have hM : ∀ b, Melted C C1 b→(renB C C1 ρ).own b = none:=fun b hme=>by
    obtain ⟨k0, i, _, hi⟩:=id hme
    simp only [renB]
    split
    · rename_i k hk1
      exact absurd hi (h1.ownBox b k hk1 i)
    · rw [if_neg fun h=>h.2 hme]
  have hLo : ∀ b, b < C.w.heap.size→¬ Melted C C1 b→(renB C C1 ρ).own b = C.own b:=fun b hlt hme=>by
    simp only [renB]
    split
    · rename_i k hk1
      obtain ⟨r, hr, e, _, h2⟩:=hold b _ hk1 hlt
      cases e
      rw [findR_of hn hr]
      simp only
      rw [if_pos hlt, h2]
      split<;>rfl
    · rw [if_pos ⟨hlt, hme⟩]
  have hblk : ∀ b, b < C.w.heap.size→(∀ r ∈ ρ, memK r.k (keysE pre) = true→C.own b ≠ some (.box r.k'))→C1.w.heap[b]? = C.w.heap[b]?:=fun b hlt hno=>by
    rw [h1.cw]
    refine h1.below.block b ⟨hlt, ?_⟩
    cases ho : (renC C ρ pre).own b with
    | none=>rfl
    | some o =>
      obtain ⟨r, hr, _, hm, h2⟩:=renC_own ho
      exact absurd h2 (hno r hr hm)
  have himm : ∀ b i, b < C.w.heap.size→C1.imm b i→C.imm b i∨∃ r ∈ ρ, C.own b = some (.box r.k')∧C.gb r.k' < (renB C C1 ρ).gb r.k':=fun b i hlt hi=>by
    rcases hle.immOld b i hlt hi with h|⟨k, h⟩|⟨k, h3, h4, h5⟩
    · exact .inl h
    · obtain ⟨r, _, e, _⟩:=renC_own h;cases e
    · obtain ⟨r, hr, e, _, h6⟩:=renC_own h3
      cases e
      refine .inr ⟨r, hr, h6, ?_⟩
      simp only [renB, findR'_of hn' hr]
      rw [hcg r hr];omega
  have hmel : ∀ b, b < C.w.heap.size→Melted C C1 b→∃ r ∈ ρ, C.own b = some (.box r.k')∧C.gb r.k' < (renB C C1 ρ).gb r.k':=fun b hlt ⟨k, i, h2, hi⟩=>by
    rcases himm b i hlt hi with h|h
    · exact absurd h (hR.ownBox b k h2 i)
    · exact h
  have hCle : C.le (renB C C1 ρ):=by
    refine ⟨fun b i hi=>hle.imm b i hi, fun k=>?_, fun k e=>?_, fun k=>Nat.le_refl _, fun k _=>Nat.le_refl _, fun k b _ _ hb=>?_, fun k e hb=>?_, hle.size, fun b i hlt hi=>?_, fun b o hlt hb=>?_, fun b hlt ho=>hblk b hlt (fun r _ _=>by rw [ho];simp)⟩
    rotate_left 4
    · rcases himm b i hlt hi with h|⟨r, hr, h2, h3⟩
      · exact .inl h
      · exact .inr (.inr ⟨r.k', h2, hM b ⟨_, i, h2, hi⟩, h3⟩)
    · by_cases hme : Melted C C1 b
      · rw [hM b hme] at hb;cases hb
      · rw [hLo b hlt hme] at hb;exact hb
    · simp only [renB]
      split
      · rename_i r hr
        obtain ⟨h2, rfl⟩:=findR'_mem hr
        rw [hcg r h2]
        have:=hle.gb r.k
        omega
      · exact Nat.le_refl _
    · simp only [renB] at e ⊢
      split at e
      · rename_i r hr
        obtain ⟨h2, rfl⟩:=findR'_mem hr
        rw [hcg r h2] at e
        rw [← hcj r h2]
        exact hle.jb r.k (by omega)
      · rfl
    · obtain ⟨k', e⟩:=hown b _ hb
      cases e
    · have hlt:=(hR.ownLt _ _ hb).2
      have hme : ¬ Melted C C1 (C.jb k):=fun hme=>by
        obtain ⟨r, hr, h2, h3⟩:=hmel _ hlt hme
        rw [hb] at h2;cases h2
        omega
      refine ⟨by rw [hLo _ hlt hme];exact hb, fun arr' e' ha=>?_⟩
      by_cases hm : ∃ r ∈ ρ, memK r.k (keysE pre) = true∧r.k' = k
      · obtain ⟨r, hr, hm, rfl⟩:=hm
        have e2 : (renC C ρ pre).gb r.k = C1.gb r.k:=by
          have e3:=hcg r hr
          simp only [renB, findR'_of hn' hr] at e
          omega
        have ho : (renC C ρ pre).own ((renC C ρ pre).jb r.k) = some (.box r.k):=by
          rw [hcj r hr]
          simp only [renC, hb, findR'_of hn' hr, if_pos hm]
        have:=(hle.bs r.k e2 ho).2 arr' e'
        rw [hcj r hr] at this
        exact this ha
      · refine ⟨arr', e', (hblk _ hlt fun r hr hm' hc=>hm ⟨r, hr, hm', ?_⟩).trans ha, Nat.le_refl _⟩
        rw [hb] at hc;cases hc;rfl
  have hA1 : AgreeR C1 (renB C C1 ρ) (fwdR ρ):=by
    refine ⟨rfl, rfl, fun k g k' g' hf=>?_⟩
    obtain ⟨r, hr, rfl, e⟩:=fwdR_some hf
    cases e
    refine ⟨fun hlt=>?_, fun he=>?_, ?_, fun ho=>?_⟩
    · simp only [renB, findR'_of hn' hr];omega
    · simp only [renB, findR'_of hn' hr];omega
    · simp only [renB, findR'_of hn' hr]
    · simp only [renB, ho, findR_of hn hr, if_true]
  have hput : ∀ p ∈ post', ((preSt pre').puts (wrE post')).box p.1 = (p.2.1, some (p.2.2.1, p.2.2.2)):=puts_wrE_mem post' _ hndp
  have hinP : ∀ r ∈ ρ, ∃ p' ∈ post', p'.1 = r.k'∧p'.2.1 = C1.gb r.k + r.d:=fun r hr=>by
    obtain ⟨p, hp, e⟩:=memK_keysE.1 (subK_mem hpost r.k (mem_keysR.2 ⟨r, hr, rfl⟩))
    obtain ⟨p', h2, f1, f2, f3⟩:=hr2 p hp
    obtain ⟨s, hs, e1, e2⟩:=fwdR_some f1
    have : s = r:=nodupR hn hs hr (by rw [e1, e])
    subst this
    rw [Prod.mk.injEq] at e2
    refine ⟨p', h2, e2.1, ?_⟩
    rw [e2.2, h1.gb, ← e, hpo p hp]
  have hout : ∀ k, findR' k ρ = none→((preSt pre').puts (wrE post')).box k = (0, none):=fun k hk=>by
    have hno : ∀ p' ∈ post', p'.1 ≠ k:=fun p' hp'' e=>by
      obtain ⟨p, _, f1, _⟩:=hr1 p' hp''
      obtain ⟨s, hs, _, e2⟩:=fwdR_some f1
      rw [Prod.mk.injEq] at e2
      exact findR'_none hk s hs (by rw [← e2.1, e])
    refine (puts_wrE_not post' _ fun ⟨p', hp'', e⟩=>hno p' hp'' e).trans ?_
    · refine lookE_not fun ⟨p, hp, e⟩=>?_
      obtain ⟨r, hr, e2⟩:=mem_keysR'.1 (subK_mem hsub p.1 (memK_keysE.2 ⟨p, hp, rfl⟩))
      exact findR'_none hk r hr (by rw [e2, e])
  refine ⟨y, (preSt pre').puts (wrE post'), renB C C1 ρ, rfl, hCle, ?_, carryR3 hA1 hresK hres, fun p hp=>hput p hp⟩
  exact {
    cw:=h1.cw, glob:=hR.globOf hCle.le0 h1.cw, size:=hR.size, defers:=Marks.nil _ _, slot:=fun i hi=>absurd hi (by omega)
    gb:=fun k=>by
      cases hk : findR' k ρ with
      | none =>
        rw [hout k hk]
        simp only [renB, hk]
        rw [hgC]
        rw [lookE_not]
        rintro ⟨p, hp, e⟩
        obtain ⟨r, hr, e2⟩:=mem_keysR'.1 (subK_mem hsub p.1 (memK_keysE.2 ⟨p, hp, rfl⟩))
        exact findR'_none hk r hr (by rw [e2, e])
      | some r =>
        obtain ⟨hr, rfl⟩:=findR'_mem hk
        obtain ⟨p', h2, e1, e2⟩:=hinP r hr
        have:=hput p' h2
        rw [e1] at this
        rw [this]
        simp only [renB, hk]
        exact e2.symm
    gt:=fun k=>by rw [(puts_wrE_slot post' _).2];exact hR.gt k
    hw:=fun k=>by rw [(puts_wrE_slot post' _).2];exact hR.hw k
    box:=fun k sz es hb=>by
      cases hk : findR' k ρ with
      | none=>rw [hout k hk] at hb;simp at hb
      | some r =>
        obtain ⟨hr, rfl⟩:=findR'_mem hk
        obtain ⟨p', h2, e1, e2⟩:=hinP r hr
        have hpp:=hput p' h2
        rw [e1] at hpp
        rw [hpp] at hb
        simp only [Option.some.injEq, Prod.mk.injEq] at hb
        obtain ⟨rfl, rfl⟩:=hb
        obtain ⟨p, hp, f1, f2, f3⟩:=hr1 p' h2
        rw [f2, ← e1]
        exact carryRBox hA1 f1 (h1.box _ _ _ (by rw [hpo p hp])) f3
    ownBox:=fun b k hb i hi=>by
      by_cases hlt : b < C.w.heap.size
      · by_cases hme : Melted C C1 b
        · rw [hM b hme] at hb;cases hb
        · rw [hLo b hlt hme] at hb
          exact hme ⟨k, i, hb, hi⟩
      · simp only [renB] at hb
        split at hb
        · rename_i k' hk'
          exact h1.ownBox b k' hk' i hi
        · simp [hlt] at hb
    immLt:=h1.immLt
    ownLt:=fun b o hb=>by
      by_cases hlt : b < C.w.heap.size
      · by_cases hme : Melted C C1 b
        · rw [hM b hme] at hb;cases hb
        rw [hLo b hlt hme] at hb
        have:=hR.ownLt b o hb
        exact ⟨this.1, Nat.lt_of_lt_of_le hlt h1.below.size⟩
      · refine ⟨fun hc=>hlt hc.1, ?_⟩
        simp only [renB] at hb
        split at hb
        · rename_i k' hk'
          exact (h1.ownLt b _ hk').2
        · simp [hlt] at hb
    below:=h1.below.mono fun b hb=>⟨hb.1, by
      cases ho : (renC C ρ pre).own b with
      | none=>rfl
      | some o =>
        obtain ⟨r, _, _, _, h2⟩:=renC_own ho
        rw [hb.2] at h2;cases h2⟩
    base:=hR.base }
end
end Go.Am
namespace Go.Proofs.YtbpiibdcncfphaaGreatDoor
open Go.Am Go.Proofs Go
def kSb : Bool→Key
  | false=>⟨0, 22, 27⟩
  | true=>⟨1, 22, 27⟩
def kMb : Bool→Key
  | false=>⟨0, 22, 25⟩
  | true=>⟨1, 22, 25⟩
def storeG (b : Bool) (g : Nat) (s : Store) (w : Int) (m : List Amt) (memo : MemoL) : List BoxE:=[(kSb b, g, 27, [storeY s w m (.mp (kMb b) g)]), (kMb b, g, 0, mapX memo)]
def rhoG (b : Bool) (d : Nat) : List Rn:=[⟨kS, kSb b, d⟩, ⟨kM, kMb b, d⟩]
theorem someG_c (b : Bool) (d : Nat) (s : Store) (later : Int) (memo : MemoL) (hg : s.Good) (h0 : 0 ≤ later) (hok : s.memoOk memo) :
    ∃ memo', s.memoOk memo'∧BoxA Tryz.prog (.fn 39) (storeG b (1 + d) s (sumW s.orders) (s.melts later) memo) [.ptr (kSb b) (1 + d) 27 0 0] (boolA (s.someAt later)) (storeG b (1 + d) s (sumW s.orders) (s.melts later) memo'):=by
  obtain ⟨memo', hm', h⟩:=some_c s later memo hg h0 hok
  refine ⟨memo', hm', ?_⟩
  have hp:=meltsTo_len s later _ (Nat.le_refl _) hg.len
  have e : meltsTo s later s.heads.length = s.melts later:=rfl
  rw [e] at hp
  generalize sumW s.orders = w at *
  generalize s.melts later = p at *
  obtain ⟨p0, p1, p2, p3, p4, p5, rfl⟩:=list6 hp
  have hsub : 1 + d - d = 1:=by omega
  have hble : Nat.ble d (1 + d) = true:=Nat.ble_eq_true_of_le (by omega)
  have hbS : bwdR (keysE (storeE s w [p0, p1, p2, p3, p4, p5] memo)) (rhoG b d) (kSb b) (1 + d) = some (kS, 1):=by
    cases b<;>(show (match true, Nat.ble d (1 + d) with|true, true=>some (kS, 1 + d - d)|_, _=>none) = _;rw [hble, hsub])
  have hbM : bwdR (keysE (storeE s w [p0, p1, p2, p3, p4, p5] memo)) (rhoG b d) (kMb b) (1 + d) = some (kM, 1):=by
    cases b<;>(show (match true, Nat.ble d (1 + d) with|true, true=>some (kM, 1 + d - d)|_, _=>none) = _;rw [hble, hsub])
  refine BoxA.ren (ρ:=rhoG b d) (preL:=storeG b (1 + d) s w [p0, p1, p2, p3, p4, p5] memo) h (by cases b<;>rfl) (by cases b<;>rfl) ?_ rfl (by cases b<;>rfl) (by cases b<;>rfl) (by cases b<;>rfl) (by cases b<;>rfl) ⟨Nat.le_refl _, rfl⟩ ?_ ?_ (by rfl) ?_
  · have : Nat.beq (1 + d) (1 + d) = true:=Nat.beq_refl _
    cases b<;>(show (match Nat.beq (1 + d) (1 + d) with|true=>(match Nat.beq (1 + d) (1 + d) with|true=>true|false=>false)|false=>false) = true;rw [this])
  · generalize bwdR (keysE (storeE s w [p0, p1, p2, p3, p4, p5] memo)) (rhoG b d) = f at *
    simp only [storeG, rkPre, hbS, hbM, rkBox, storeY, storeC, amtsC, mapX, List.cons_append, List.nil_append, tkL, rk2, rk1, rk0, intA, headsA, ordersA, rulesN, tokK]
    rfl
  · generalize bwdR (keysE (storeE s w [p0, p1, p2, p3, p4, p5] memo)) (rhoG b d) = f at *
    simp only [tkL, rk2, rk1, rk0, hbS]
  · cases b<;>rfl
theorem lookN_c (b : Bool) (s : Store) (later : Int) (hr : s.small) (hc : s.check.2.2 = 0) (hl : 0 ≤ later) (hl2 : later ≤ 1000000) :
    BoxA Tryz.prog (.fn 22) [] [storeA s, intA later] (.tuple [.ptr (kSb b) (1 + 0) 27 0 0, intA 0]) (storeG b (1 + 0) s (sumW s.orders) (s.melts later) (0, [])):=by
  have h:=lookT_c s later hr hc hl hl2
  have hp:=meltsTo_len s later _ (Nat.le_refl _) (Store.good hc).len
  have e : meltsTo s later s.heads.length = s.melts later:=rfl
  rw [e] at hp
  generalize sumW s.orders = w at *
  generalize s.melts later = p at *
  obtain ⟨p0, p1, p2, p3, p4, p5, rfl⟩:=list6 hp
  exact BoxA.ren (ρ:=rhoG b 0) (preL:=[]) h (by cases b<;>rfl) (by cases b<;>rfl) (by cases b<;>rfl) rfl (by cases b<;>rfl) (by cases b<;>rfl) (by cases b<;>rfl) (by cases b<;>rfl) ⟨Nat.le_refl _, rfl⟩ rfl rfl (by cases b<;>rfl) (by cases b<;>rfl)
theorem lookD_c (b : Bool) (d : Nat) (s' : Store) (w' : Int) (m' : List Amt) (memo' : MemoL) (hm' : m'.length = 6) (s : Store) (later : Int) (hr : s.small) (hc : s.check.2.2 = 0) (hl : 0 ≤ later) (hl2 : later ≤ 1000000) :
    BoxA Tryz.prog (.fn 22) (storeG b (1 + d) s' w' m' memo') [storeA s, intA later] (.tuple [.ptr (kSb b) (1 + (1 + d)) 27 0 0, intA 0]) (storeG b (1 + (1 + d)) s (sumW s.orders) (s.melts later) (0, [])):=by
  have h:=lookT_c s later hr hc hl hl2
  have hp:=meltsTo_len s later _ (Nat.le_refl _) (Store.good hc).len
  have e : meltsTo s later s.heads.length = s.melts later:=rfl
  rw [e] at hp
  generalize sumW s.orders = w at *
  generalize s.melts later = p at *
  obtain ⟨p0, p1, p2, p3, p4, p5, rfl⟩:=list6 hp
  refine BoxA.ren (ρ:=rhoG b (1 + d)) (preL:=[]) h (by cases b<;>rfl) (by cases b<;>rfl) ?_ rfl (by cases b<;>rfl) (by cases b<;>rfl) (by cases b<;>rfl) (by cases b<;>rfl) ⟨Nat.zero_le _, rfl⟩ rfl rfl (by cases b<;>rfl) (by cases b<;>rfl)
  have : Nat.beq (1 + d) (0 + (1 + d)) = true:=by rw [Nat.zero_add];exact Nat.beq_refl _
  cases b<;>(show (match Nat.beq (1 + d) (0 + (1 + d)) with|true=>(match Nat.beq (1 + d) (0 + (1 + d)) with|true=>true|false=>false)|false=>false) = true;rw [this])
end Go.Proofs.YtbpiibdcncfphaaGreatDoor
namespace Go.Proofs.YtbpiibdcncfphaaGreatDoor
open Go.Am Go.Proofs Go
def Store.untilF (s : Store) : Nat→Nat→Nat→Int × Int
  | 0, _, _=>(0, 4)
  | f + 1, day, day0=>if s.melts day = s.melts day0 then s.untilF f (day + 1) day0 else if s.someAt day = true then s.untilF f (day + 1) day else (day, 0)
def Store.untilR (s : Store) : Int × Int:=if s.check.2.2 ≠ 0 then (0, s.check.2.2) else if s.someAt 0 = true then s.untilF 364 1 0 else (0, 9)
def duoA (x : Int × Int) : AV:=.tuple [intA x.1, intA x.2]
theorem untilE_c (s : Store) (hr : s.small) (hc : s.check.2.2 ≠ 0) : PureA Tryz.prog 17 [storeA s] (duoA (0, s.check.2.2)):=by
  have hk:=lookF_c s 0 hr hc
  generalize s.check.2.2 = c at *
  refine pureA_codeB tabOk { l:=0, f:=17, mat:=[22] } mixed call_17 Tryz.func17 (by kernel_rfl) ?_
  conv=>whnf
  repeat (any_goals (first|exact falseI|((first|refine bd ?_ ?_|refine bn ?_ ?_)<;>intro _<;>first|(exfalso;omega)|conv=>whnf)|((first|refine dI ?_|refine okI ?_|refine bt ?_|refine bi (fun _=>?_) (fun _=>?_)|refine bndI ?_|intro _)<;>conv=>whnf)))
  refine ⟨[], ?_⟩
  conv=>whnf
  refine ⟨_, _, hk, ?_⟩
  conv=>whnf
  repeat (any_goals (first|exact falseI|((first|refine bd ?_ ?_|refine bn ?_ ?_)<;>intro _<;>first|(exfalso;omega)|conv=>whnf)|((first|refine dI ?_|refine okI ?_|refine bt ?_|refine bi (fun _=>?_) (fun _=>?_)|refine bndI ?_|intro _)<;>conv=>whnf)))
  (refine ⟨⟨?_⟩, trivial⟩;rfl)
def amtsV : List Amt→List Value
  | []=>[]
  | q :: l=>.int .i64 q.b :: .int .i64 q.t :: .int .i64 q.c :: amtsV l
theorem amts_eqL : ∀ p q : List Amt, eqL (amtsV p) (amtsV q) = decide (p = q)
  | [], []=>rfl
  | [], _ :: _=>by simp [amtsV, eqL]
  | _ :: _, []=>by simp [amtsV, eqL]
  | ⟨a, b, c⟩ :: p, ⟨a', b', c'⟩ :: q=>by
    simp only [amtsV, eqL, eqC, amts_eqL p q]
    rw [Bool.eq_iff_iff]
    simp
    constructor
    · rintro ⟨rfl, rfl, rfl, rfl⟩;simp
    · rintro ⟨⟨rfl, rfl, rfl⟩, rfl⟩;simp
theorem untilN_c (s : Store) (hr : s.small) (hc : s.check.2.2 = 0) (hs : s.someAt 0 = false) : PureA Tryz.prog 17 [storeA s] (duoA (0, 9)):=by
  have hk:=lookN_c false s 0 hr hc (by decide) (by decide)
  have hg:=Store.good hc
  obtain ⟨memo', hm', hso⟩:=someG_c false 0 s 0 (0, []) hg (by decide) (by intro e he;simp at he)
  rw [hs] at hso
  have hp:=meltsTo_len s 0 _ (Nat.le_refl _) hg.len
  have e : meltsTo s 0 s.heads.length = s.melts 0:=rfl
  rw [e] at hp
  generalize sumW s.orders = w at *
  generalize s.melts 0 = p at *
  obtain ⟨p0, p1, p2, p3, p4, p5, rfl⟩:=list6 hp
  refine pureA_codeB tabOk { l:=0, f:=17, mat:=[22, 39] } mixed call_17 Tryz.func17 (by kernel_rfl) ?_
  conv=>whnf
  repeat (any_goals (first|exact falseI|((first|refine bd ?_ ?_|refine bn ?_ ?_)<;>intro _<;>first|(exfalso;omega)|conv=>whnf)|((first|refine dI ?_|refine okI ?_|refine bt ?_|refine bi (fun _=>?_) (fun _=>?_)|refine bndI ?_|intro _)<;>conv=>whnf)))
  refine ⟨[], ?_⟩
  conv=>whnf
  refine ⟨_, _, hk, ?_⟩
  conv=>whnf
  repeat (any_goals (first|exact falseI|((first|refine bd ?_ ?_|refine bn ?_ ?_)<;>intro _<;>first|(exfalso;omega)|conv=>whnf)|((first|refine dI ?_|refine okI ?_|refine bt ?_|refine bi (fun _=>?_) (fun _=>?_)|refine bndI ?_|intro _)<;>conv=>whnf)))
  refine ⟨[kSb false, kMb false], ?_⟩
  conv=>whnf
  refine ⟨_, _, hso, ?_⟩
  conv=>whnf
  repeat (any_goals (first|exact falseI|((first|refine bd ?_ ?_|refine bn ?_ ?_)<;>intro _<;>first|(exfalso;omega)|conv=>whnf)|((first|refine dI ?_|refine okI ?_|refine bt ?_|refine bi (fun _=>?_) (fun _=>?_)|refine bndI ?_|intro _)<;>conv=>whnf)))
  (refine ⟨⟨?_⟩, trivial⟩;rfl)
structure A6 where
  a : Amt
  b : Amt
  c : Amt
  d : Amt
  e : Amt
  f : Amt
def A6.l (x : A6) : List Amt:=[x.a, x.b, x.c, x.d, x.e, x.f]
theorem A6.of {p : List Amt} (h : p.length = 6) : ∃ x : A6, p = x.l:=by
  obtain ⟨a, b, c, d, e, f, rfl⟩:=list6 h
  exact ⟨⟨a, b, c, d, e, f⟩, rfl⟩
structure UState where
  day : Nat
  b : Bool
  d : Nat
  m : A6
  memo : MemoL
  oth : Option (Nat × A6 × MemoL)
def UState.boxes (s : Store) (w : Int) (u : UState) : List (Key × Option BoxS) :=
  preK (storeG u.b (1 + u.d) s w u.m.l u.memo)++match u.oth with
    | none=>[]
    | some x=>preK (storeG (!u.b) (1 + x.1) s w x.2.1.l x.2.2)
set_option maxHeartbeats 4000000 in
theorem untilT_c (s : Store) (hr : s.small) (hc : s.check.2.2 = 0) (hs : s.someAt 0 = true) : PureA Tryz.prog 17 [storeA s] (duoA (s.untilF 364 1 0)):=by
  have hk:=lookN_c false s 0 hr hc (by decide) (by decide)
  have hg:=Store.good hc
  obtain ⟨memo', hm', hso⟩:=someG_c false 0 s 0 (0, []) hg (by decide) (by intro e he;simp at he)
  rw [hs] at hso
  have hp : ∀ later, (s.melts later).length = 6:=fun later=>meltsTo_len s later _ (Nat.le_refl _) hg.len
  have hlN:=fun b (day : Nat) (hd : day ≤ 364)=>lookN_c b s day hr hc (by omega) (by omega)
  have hlD:=fun b d (day : Nat) (m' : A6) memo (hd : day ≤ 364)=>lookD_c b d s (sumW s.orders) m'.l memo rfl s day hr hc (by omega) (by omega)
  have hsG:=fun b d (day : Nat)=>someG_c b d s day (0, []) hg (by omega) (by intro e he;simp at he)
  obtain ⟨R, hR⟩ : ∃ R, R = s.untilF 364 1 0:=⟨_, rfl⟩
  rw [← hR]
  have hF0 : ∀ d d0, s.untilF 0 d d0 = (0, 4):=fun _ _=>rfl
  have hF : ∀ f (d d0 : Nat), s.untilF (f + 1) d d0 = if s.melts d = s.melts d0 then s.untilF f (d + 1) d0 else if s.someAt d = true then s.untilF f (d + 1) d else ((d : Int), 0):=fun _ _ _=>rfl
  have e0 : s.melts 0 = s.melts ((0 : Nat) : Int):=rfl
  rw [e0] at hk hso
  clear hs e0
  generalize sumW s.orders = w at *
  obtain ⟨M, hMe⟩ : ∃ M : Nat→List Amt, ∀ d : Nat, s.melts (d : Int) = M d:=⟨fun d=>s.melts (d : Int), fun _=>rfl⟩
  simp only [hMe] at hk hso hlN hlD hsG hF
  have hp6 : ∀ d, (M d).length = 6:=fun d=>by rw [← hMe];exact hp _
  clear hp hMe
  obtain ⟨m0, h0e⟩:=A6.of (hp6 0)
  rw [h0e] at hk hso
  obtain ⟨p0, p1, p2, p3, p4, p5⟩:=m0
  refine pureA_codeB tabOk { l:=0, f:=17, mat:=[22, 39] } mixed call_17 Tryz.func17 (by kernel_rfl) ?_
  conv=>whnf
  repeat (any_goals (first|exact falseI|((first|refine bd ?_ ?_|refine bn ?_ ?_)<;>intro _<;>first|(exfalso;omega)|conv=>whnf)|((first|refine dI ?_|refine okI ?_|refine bt ?_|refine bi (fun _=>?_) (fun _=>?_)|refine bndI ?_|intro _)<;>conv=>whnf)))
  refine ⟨[], ?_⟩
  conv=>whnf
  refine ⟨_, _, hk, ?_⟩
  conv=>whnf
  repeat (any_goals (first|exact falseI|((first|refine bd ?_ ?_|refine bn ?_ ?_)<;>intro _<;>first|(exfalso;omega)|conv=>whnf)|((first|refine dI ?_|refine okI ?_|refine bt ?_|refine bi (fun _=>?_) (fun _=>?_)|refine bndI ?_|intro _)<;>conv=>whnf)))
  refine ⟨[kSb false, kMb false], ?_⟩
  conv=>whnf
  refine ⟨_, _, hso, ?_⟩
  conv=>whnf
  repeat (any_goals (first|exact falseI|((first|refine bd ?_ ?_|refine bn ?_ ?_)<;>intro _<;>first|(exfalso;omega)|conv=>whnf)|((first|refine dI ?_|refine okI ?_|refine bt ?_|refine bi (fun _=>?_) (fun _=>?_)|refine bndI ?_|intro _)<;>conv=>whnf)))
  refine loopK tabOk { l:=0, f:=17, mat:=[22, 39] } mixed (fun u : UState=>[(6, intA u.day), (4, .ptr (kSb u.b) (1 + u.d) 27 0 0)]) (fun u=>u.boxes s w) (fun _=>[]) (fun u=>u.day ≤ 365∧∃ dm, u.m.l = M dm∧R = s.untilF (365 - u.day) u.day dm) (fun u=>365 - u.day) (⟨1, false, 0, ⟨p0, p1, p2, p3, p4, p5⟩, memo', none⟩ : UState) (by kernel_rfl)
    ⟨by simp, 0, h0e.symm, hR⟩ ?_
  conv=>whnf
  refine ⟨⟨?_, ?_, trivial⟩, ?_⟩
  · repeat (first|exact trivial|refine sc rfl ?_)
  · repeat (first|exact trivial|refine kc rfl ?_)
  clear hR h0e hk hso
  intro ⟨day, b, d, m, memo, oth⟩ ⟨hd, dm, hm, H⟩
  simp only at hd hm H
  conv=>whnf
  refine brP_dec (fun h1=>?_) (fun h1=>?_)
  · have h1 : (day : Int) ≤ 364:=h1
    obtain ⟨f, hf⟩ : ∃ f, 365 - day = f + 1:=⟨364 - day, by omega⟩
    rw [hf, hF] at H
    have hd4 : day ≤ 364:=by omega
    obtain ⟨x, hx⟩:=A6.of (hp6 day)
    cases oth with
    | none =>
      cases b with
      | false =>
        have hlk:=hlN true day hd4
        rw [hx] at hlk
        by_cases hq : x = m
        · subst hq
          have hE:=amts_eqL x.l x.l
          simp only [decide_true] at hE
          rw [if_pos (by rw [hx, hm])] at H
          obtain ⟨x0, x1, x2, x3, x4, x5⟩:=x
          conv=>whnf
          repeat (any_goals (first|exact falseI|((first|refine bd ?_ ?_|refine bn ?_ ?_)<;>intro _<;>first|(exfalso;omega)|conv=>whnf)|((first|refine dI ?_|refine okI ?_|refine bt ?_|refine bi (fun _=>?_) (fun _=>?_)|refine bndI ?_|intro _)<;>conv=>whnf)))
          refine ⟨[], ?_⟩
          conv=>whnf
          refine ⟨_, _, hlk, ?_⟩
          conv=>whnf
          repeat (any_goals (first|exact falseI|((first|refine bd ?_ ?_|refine bn ?_ ?_)<;>intro _<;>first|(exfalso;omega)|conv=>whnf)|((first|refine brP_true hE ?_|refine dI ?_|refine okI ?_|refine bt ?_|refine bi (fun _=>?_) (fun _=>?_)|refine bndI ?_|intro _)<;>conv=>whnf)))
          (refine ⟨⟨day + 1, false, d, ⟨x0, x1, x2, x3, x4, x5⟩, memo, some (0, ⟨x0, x1, x2, x3, x4, x5⟩, (0, []))⟩, ⟨by simp only;omega, dm, hm, by simp only;rw [show 365 - (day + 1) = f by omega];exact H⟩, (by simp only;omega), ?_⟩;(conv=>whnf);refine ⟨?_, ?_, ?_⟩<;>repeat (first|exact trivial|refine sc rfl ?_|refine kn ?_|refine kc rfl ?_|refine sc (by rfl) ?_|refine kc (by rfl) ?_))
        · have hE:=amts_eqL x.l m.l
          have hne : x.l ≠ m.l:=fun h=>hq (by
            obtain ⟨x0, x1, x2, x3, x4, x5⟩:=x
            obtain ⟨m0, m1, m2, m3, m4, m5⟩:=m
            unfold A6.l at h
            simp only [List.cons.injEq] at h
            obtain ⟨rfl, rfl, rfl, rfl, rfl, rfl, _⟩:=h
            rfl)
          rw [decide_eq_false hne] at hE
          rw [if_neg (by rw [hx, ← hm];exact hne)] at H
          obtain ⟨memo2, hm2, hs2⟩:=hsG true (0) day
          rw [hx] at hs2
          obtain ⟨x0, x1, x2, x3, x4, x5⟩:=x
          obtain ⟨m0, m1, m2, m3, m4, m5⟩:=m
          cases hsome : s.someAt day with
          | true =>
            rw [hsome] at hs2 H
            simp only [if_true] at H
            conv=>whnf
            repeat (any_goals (first|exact falseI|((first|refine bd ?_ ?_|refine bn ?_ ?_)<;>intro _<;>first|(exfalso;omega)|conv=>whnf)|((first|refine dI ?_|refine okI ?_|refine bt ?_|refine bi (fun _=>?_) (fun _=>?_)|refine bndI ?_|intro _)<;>conv=>whnf)))
            refine ⟨[], ?_⟩
            conv=>whnf
            refine ⟨_, _, hlk, ?_⟩
            conv=>whnf
            repeat (any_goals (first|exact falseI|((first|refine bd ?_ ?_|refine bn ?_ ?_)<;>intro _<;>first|(exfalso;omega)|conv=>whnf)|((first|refine brP_false hE ?_|refine dI ?_|refine okI ?_|refine bt ?_|refine bi (fun _=>?_) (fun _=>?_)|refine bndI ?_|intro _)<;>conv=>whnf)))
            refine ⟨[kSb true, kMb true], ?_⟩
            conv=>whnf
            refine ⟨_, _, hs2, ?_⟩
            conv=>whnf
            repeat (any_goals (first|exact falseI|((first|refine bd ?_ ?_|refine bn ?_ ?_)<;>intro _<;>first|(exfalso;omega)|conv=>whnf)|((first|refine dI ?_|refine okI ?_|refine bt ?_|refine bi (fun _=>?_) (fun _=>?_)|refine bndI ?_|intro _)<;>conv=>whnf)))
            (refine ⟨⟨day + 1, true, 0, ⟨x0, x1, x2, x3, x4, x5⟩, memo2, some (d, ⟨m0, m1, m2, m3, m4, m5⟩, memo)⟩, ⟨by simp only;omega, day, hx.symm, by simp only;rw [show 365 - (day + 1) = f by omega];exact H⟩, (by simp only;omega), ?_⟩;(conv=>whnf);refine ⟨?_, ?_, ?_⟩<;>repeat (first|exact trivial|refine sc rfl ?_|refine kn ?_|refine kc rfl ?_|refine sc (by rfl) ?_|refine kc (by rfl) ?_))
          | false =>
            rw [hsome] at hs2 H
            simp only [Bool.false_eq_true, if_false] at H
            subst H
            conv=>whnf
            repeat (any_goals (first|exact falseI|((first|refine bd ?_ ?_|refine bn ?_ ?_)<;>intro _<;>first|(exfalso;omega)|conv=>whnf)|((first|refine dI ?_|refine okI ?_|refine bt ?_|refine bi (fun _=>?_) (fun _=>?_)|refine bndI ?_|intro _)<;>conv=>whnf)))
            refine ⟨[], ?_⟩
            conv=>whnf
            refine ⟨_, _, hlk, ?_⟩
            conv=>whnf
            repeat (any_goals (first|exact falseI|((first|refine bd ?_ ?_|refine bn ?_ ?_)<;>intro _<;>first|(exfalso;omega)|conv=>whnf)|((first|refine brP_false hE ?_|refine dI ?_|refine okI ?_|refine bt ?_|refine bi (fun _=>?_) (fun _=>?_)|refine bndI ?_|intro _)<;>conv=>whnf)))
            refine ⟨[kSb true, kMb true], ?_⟩
            conv=>whnf
            refine ⟨_, _, hs2, ?_⟩
            conv=>whnf
            repeat (any_goals (first|exact falseI|((first|refine bd ?_ ?_|refine bn ?_ ?_)<;>intro _<;>first|(exfalso;omega)|conv=>whnf)|((first|refine dI ?_|refine okI ?_|refine bt ?_|refine bi (fun _=>?_) (fun _=>?_)|refine bndI ?_|intro _)<;>conv=>whnf)))
            (refine ⟨⟨?_⟩, trivial⟩;rfl)
      | true =>
        have hlk:=hlN false day hd4
        rw [hx] at hlk
        by_cases hq : x = m
        · subst hq
          have hE:=amts_eqL x.l x.l
          simp only [decide_true] at hE
          rw [if_pos (by rw [hx, hm])] at H
          obtain ⟨x0, x1, x2, x3, x4, x5⟩:=x
          conv=>whnf
          repeat (any_goals (first|exact falseI|((first|refine bd ?_ ?_|refine bn ?_ ?_)<;>intro _<;>first|(exfalso;omega)|conv=>whnf)|((first|refine dI ?_|refine okI ?_|refine bt ?_|refine bi (fun _=>?_) (fun _=>?_)|refine bndI ?_|intro _)<;>conv=>whnf)))
          refine ⟨[], ?_⟩
          conv=>whnf
          refine ⟨_, _, hlk, ?_⟩
          conv=>whnf
          repeat (any_goals (first|exact falseI|((first|refine bd ?_ ?_|refine bn ?_ ?_)<;>intro _<;>first|(exfalso;omega)|conv=>whnf)|((first|refine brP_true hE ?_|refine dI ?_|refine okI ?_|refine bt ?_|refine bi (fun _=>?_) (fun _=>?_)|refine bndI ?_|intro _)<;>conv=>whnf)))
          (refine ⟨⟨day + 1, true, d, ⟨x0, x1, x2, x3, x4, x5⟩, memo, some (0, ⟨x0, x1, x2, x3, x4, x5⟩, (0, []))⟩, ⟨by simp only;omega, dm, hm, by simp only;rw [show 365 - (day + 1) = f by omega];exact H⟩, (by simp only;omega), ?_⟩;(conv=>whnf);refine ⟨?_, ?_, ?_⟩<;>repeat (first|exact trivial|refine sc rfl ?_|refine kn ?_|refine kc rfl ?_|refine sc (by rfl) ?_|refine kc (by rfl) ?_))
        · have hE:=amts_eqL x.l m.l
          have hne : x.l ≠ m.l:=fun h=>hq (by
            obtain ⟨x0, x1, x2, x3, x4, x5⟩:=x
            obtain ⟨m0, m1, m2, m3, m4, m5⟩:=m
            unfold A6.l at h
            simp only [List.cons.injEq] at h
            obtain ⟨rfl, rfl, rfl, rfl, rfl, rfl, _⟩:=h
            rfl)
          rw [decide_eq_false hne] at hE
          rw [if_neg (by rw [hx, ← hm];exact hne)] at H
          obtain ⟨memo2, hm2, hs2⟩:=hsG false (0) day
          rw [hx] at hs2
          obtain ⟨x0, x1, x2, x3, x4, x5⟩:=x
          obtain ⟨m0, m1, m2, m3, m4, m5⟩:=m
          cases hsome : s.someAt day with
          | true =>
            rw [hsome] at hs2 H
            simp only [if_true] at H
            conv=>whnf
            repeat (any_goals (first|exact falseI|((first|refine bd ?_ ?_|refine bn ?_ ?_)<;>intro _<;>first|(exfalso;omega)|conv=>whnf)|((first|refine dI ?_|refine okI ?_|refine bt ?_|refine bi (fun _=>?_) (fun _=>?_)|refine bndI ?_|intro _)<;>conv=>whnf)))
            refine ⟨[], ?_⟩
            conv=>whnf
            refine ⟨_, _, hlk, ?_⟩
            conv=>whnf
            repeat (any_goals (first|exact falseI|((first|refine bd ?_ ?_|refine bn ?_ ?_)<;>intro _<;>first|(exfalso;omega)|conv=>whnf)|((first|refine brP_false hE ?_|refine dI ?_|refine okI ?_|refine bt ?_|refine bi (fun _=>?_) (fun _=>?_)|refine bndI ?_|intro _)<;>conv=>whnf)))
            refine ⟨[kSb false, kMb false], ?_⟩
            conv=>whnf
            refine ⟨_, _, hs2, ?_⟩
            conv=>whnf
            repeat (any_goals (first|exact falseI|((first|refine bd ?_ ?_|refine bn ?_ ?_)<;>intro _<;>first|(exfalso;omega)|conv=>whnf)|((first|refine dI ?_|refine okI ?_|refine bt ?_|refine bi (fun _=>?_) (fun _=>?_)|refine bndI ?_|intro _)<;>conv=>whnf)))
            (refine ⟨⟨day + 1, false, 0, ⟨x0, x1, x2, x3, x4, x5⟩, memo2, some (d, ⟨m0, m1, m2, m3, m4, m5⟩, memo)⟩, ⟨by simp only;omega, day, hx.symm, by simp only;rw [show 365 - (day + 1) = f by omega];exact H⟩, (by simp only;omega), ?_⟩;(conv=>whnf);refine ⟨?_, ?_, ?_⟩<;>repeat (first|exact trivial|refine sc rfl ?_|refine kn ?_|refine kc rfl ?_|refine sc (by rfl) ?_|refine kc (by rfl) ?_))
          | false =>
            rw [hsome] at hs2 H
            simp only [Bool.false_eq_true, if_false] at H
            subst H
            conv=>whnf
            repeat (any_goals (first|exact falseI|((first|refine bd ?_ ?_|refine bn ?_ ?_)<;>intro _<;>first|(exfalso;omega)|conv=>whnf)|((first|refine dI ?_|refine okI ?_|refine bt ?_|refine bi (fun _=>?_) (fun _=>?_)|refine bndI ?_|intro _)<;>conv=>whnf)))
            refine ⟨[], ?_⟩
            conv=>whnf
            refine ⟨_, _, hlk, ?_⟩
            conv=>whnf
            repeat (any_goals (first|exact falseI|((first|refine bd ?_ ?_|refine bn ?_ ?_)<;>intro _<;>first|(exfalso;omega)|conv=>whnf)|((first|refine brP_false hE ?_|refine dI ?_|refine okI ?_|refine bt ?_|refine bi (fun _=>?_) (fun _=>?_)|refine bndI ?_|intro _)<;>conv=>whnf)))
            refine ⟨[kSb false, kMb false], ?_⟩
            conv=>whnf
            refine ⟨_, _, hs2, ?_⟩
            conv=>whnf
            repeat (any_goals (first|exact falseI|((first|refine bd ?_ ?_|refine bn ?_ ?_)<;>intro _<;>first|(exfalso;omega)|conv=>whnf)|((first|refine dI ?_|refine okI ?_|refine bt ?_|refine bi (fun _=>?_) (fun _=>?_)|refine bndI ?_|intro _)<;>conv=>whnf)))
            (refine ⟨⟨?_⟩, trivial⟩;rfl)
    | some q =>
      obtain ⟨qd, qm, qmemo⟩:=q
      have hlD:=hlD
      obtain ⟨y0, y1, y2, y3, y4, y5⟩:=qm
      cases b with
      | false =>
        have hlk:=hlD true qd day ⟨y0, y1, y2, y3, y4, y5⟩ qmemo hd4
        rw [hx] at hlk
        by_cases hq : x = m
        · subst hq
          have hE:=amts_eqL x.l x.l
          simp only [decide_true] at hE
          rw [if_pos (by rw [hx, hm])] at H
          obtain ⟨x0, x1, x2, x3, x4, x5⟩:=x
          conv=>whnf
          repeat (any_goals (first|exact falseI|((first|refine bd ?_ ?_|refine bn ?_ ?_)<;>intro _<;>first|(exfalso;omega)|conv=>whnf)|((first|refine dI ?_|refine okI ?_|refine bt ?_|refine bi (fun _=>?_) (fun _=>?_)|refine bndI ?_|intro _)<;>conv=>whnf)))
          refine ⟨[kSb true, kMb true], ?_⟩
          conv=>whnf
          refine ⟨_, _, hlk, ?_⟩
          conv=>whnf
          repeat (any_goals (first|exact falseI|((first|refine bd ?_ ?_|refine bn ?_ ?_)<;>intro _<;>first|(exfalso;omega)|conv=>whnf)|((first|refine brP_true hE ?_|refine dI ?_|refine okI ?_|refine bt ?_|refine bi (fun _=>?_) (fun _=>?_)|refine bndI ?_|intro _)<;>conv=>whnf)))
          (refine ⟨⟨day + 1, false, d, ⟨x0, x1, x2, x3, x4, x5⟩, memo, some (1 + qd, ⟨x0, x1, x2, x3, x4, x5⟩, (0, []))⟩, ⟨by simp only;omega, dm, hm, by simp only;rw [show 365 - (day + 1) = f by omega];exact H⟩, (by simp only;omega), ?_⟩;(conv=>whnf);refine ⟨?_, ?_, ?_⟩<;>repeat (first|exact trivial|refine sc rfl ?_|refine kn ?_|refine kc rfl ?_|refine sc (by rfl) ?_|refine kc (by rfl) ?_))
        · have hE:=amts_eqL x.l m.l
          have hne : x.l ≠ m.l:=fun h=>hq (by
            obtain ⟨x0, x1, x2, x3, x4, x5⟩:=x
            obtain ⟨m0, m1, m2, m3, m4, m5⟩:=m
            unfold A6.l at h
            simp only [List.cons.injEq] at h
            obtain ⟨rfl, rfl, rfl, rfl, rfl, rfl, _⟩:=h
            rfl)
          rw [decide_eq_false hne] at hE
          rw [if_neg (by rw [hx, ← hm];exact hne)] at H
          obtain ⟨memo2, hm2, hs2⟩:=hsG true (1 + qd) day
          rw [hx] at hs2
          obtain ⟨x0, x1, x2, x3, x4, x5⟩:=x
          obtain ⟨m0, m1, m2, m3, m4, m5⟩:=m
          cases hsome : s.someAt day with
          | true =>
            rw [hsome] at hs2 H
            simp only [if_true] at H
            conv=>whnf
            repeat (any_goals (first|exact falseI|((first|refine bd ?_ ?_|refine bn ?_ ?_)<;>intro _<;>first|(exfalso;omega)|conv=>whnf)|((first|refine dI ?_|refine okI ?_|refine bt ?_|refine bi (fun _=>?_) (fun _=>?_)|refine bndI ?_|intro _)<;>conv=>whnf)))
            refine ⟨[kSb true, kMb true], ?_⟩
            conv=>whnf
            refine ⟨_, _, hlk, ?_⟩
            conv=>whnf
            repeat (any_goals (first|exact falseI|((first|refine bd ?_ ?_|refine bn ?_ ?_)<;>intro _<;>first|(exfalso;omega)|conv=>whnf)|((first|refine brP_false hE ?_|refine dI ?_|refine okI ?_|refine bt ?_|refine bi (fun _=>?_) (fun _=>?_)|refine bndI ?_|intro _)<;>conv=>whnf)))
            refine ⟨[kSb true, kMb true], ?_⟩
            conv=>whnf
            refine ⟨_, _, hs2, ?_⟩
            conv=>whnf
            repeat (any_goals (first|exact falseI|((first|refine bd ?_ ?_|refine bn ?_ ?_)<;>intro _<;>first|(exfalso;omega)|conv=>whnf)|((first|refine dI ?_|refine okI ?_|refine bt ?_|refine bi (fun _=>?_) (fun _=>?_)|refine bndI ?_|intro _)<;>conv=>whnf)))
            (refine ⟨⟨day + 1, true, 1 + qd, ⟨x0, x1, x2, x3, x4, x5⟩, memo2, some (d, ⟨m0, m1, m2, m3, m4, m5⟩, memo)⟩, ⟨by simp only;omega, day, hx.symm, by simp only;rw [show 365 - (day + 1) = f by omega];exact H⟩, (by simp only;omega), ?_⟩;(conv=>whnf);refine ⟨?_, ?_, ?_⟩<;>repeat (first|exact trivial|refine sc rfl ?_|refine kn ?_|refine kc rfl ?_|refine sc (by rfl) ?_|refine kc (by rfl) ?_))
          | false =>
            rw [hsome] at hs2 H
            simp only [Bool.false_eq_true, if_false] at H
            subst H
            conv=>whnf
            repeat (any_goals (first|exact falseI|((first|refine bd ?_ ?_|refine bn ?_ ?_)<;>intro _<;>first|(exfalso;omega)|conv=>whnf)|((first|refine dI ?_|refine okI ?_|refine bt ?_|refine bi (fun _=>?_) (fun _=>?_)|refine bndI ?_|intro _)<;>conv=>whnf)))
            refine ⟨[kSb true, kMb true], ?_⟩
            conv=>whnf
            refine ⟨_, _, hlk, ?_⟩
            conv=>whnf
            repeat (any_goals (first|exact falseI|((first|refine bd ?_ ?_|refine bn ?_ ?_)<;>intro _<;>first|(exfalso;omega)|conv=>whnf)|((first|refine brP_false hE ?_|refine dI ?_|refine okI ?_|refine bt ?_|refine bi (fun _=>?_) (fun _=>?_)|refine bndI ?_|intro _)<;>conv=>whnf)))
            refine ⟨[kSb true, kMb true], ?_⟩
            conv=>whnf
            refine ⟨_, _, hs2, ?_⟩
            conv=>whnf
            repeat (any_goals (first|exact falseI|((first|refine bd ?_ ?_|refine bn ?_ ?_)<;>intro _<;>first|(exfalso;omega)|conv=>whnf)|((first|refine dI ?_|refine okI ?_|refine bt ?_|refine bi (fun _=>?_) (fun _=>?_)|refine bndI ?_|intro _)<;>conv=>whnf)))
            (refine ⟨⟨?_⟩, trivial⟩;rfl)
      | true =>
        have hlk:=hlD false qd day ⟨y0, y1, y2, y3, y4, y5⟩ qmemo hd4
        rw [hx] at hlk
        by_cases hq : x = m
        · subst hq
          have hE:=amts_eqL x.l x.l
          simp only [decide_true] at hE
          rw [if_pos (by rw [hx, hm])] at H
          obtain ⟨x0, x1, x2, x3, x4, x5⟩:=x
          conv=>whnf
          repeat (any_goals (first|exact falseI|((first|refine bd ?_ ?_|refine bn ?_ ?_)<;>intro _<;>first|(exfalso;omega)|conv=>whnf)|((first|refine dI ?_|refine okI ?_|refine bt ?_|refine bi (fun _=>?_) (fun _=>?_)|refine bndI ?_|intro _)<;>conv=>whnf)))
          refine ⟨[kSb false, kMb false], ?_⟩
          conv=>whnf
          refine ⟨_, _, hlk, ?_⟩
          conv=>whnf
          repeat (any_goals (first|exact falseI|((first|refine bd ?_ ?_|refine bn ?_ ?_)<;>intro _<;>first|(exfalso;omega)|conv=>whnf)|((first|refine brP_true hE ?_|refine dI ?_|refine okI ?_|refine bt ?_|refine bi (fun _=>?_) (fun _=>?_)|refine bndI ?_|intro _)<;>conv=>whnf)))
          (refine ⟨⟨day + 1, true, d, ⟨x0, x1, x2, x3, x4, x5⟩, memo, some (1 + qd, ⟨x0, x1, x2, x3, x4, x5⟩, (0, []))⟩, ⟨by simp only;omega, dm, hm, by simp only;rw [show 365 - (day + 1) = f by omega];exact H⟩, (by simp only;omega), ?_⟩;(conv=>whnf);refine ⟨?_, ?_, ?_⟩<;>repeat (first|exact trivial|refine sc rfl ?_|refine kn ?_|refine kc rfl ?_|refine sc (by rfl) ?_|refine kc (by rfl) ?_))
        · have hE:=amts_eqL x.l m.l
          have hne : x.l ≠ m.l:=fun h=>hq (by
            obtain ⟨x0, x1, x2, x3, x4, x5⟩:=x
            obtain ⟨m0, m1, m2, m3, m4, m5⟩:=m
            unfold A6.l at h
            simp only [List.cons.injEq] at h
            obtain ⟨rfl, rfl, rfl, rfl, rfl, rfl, _⟩:=h
            rfl)
          rw [decide_eq_false hne] at hE
          rw [if_neg (by rw [hx, ← hm];exact hne)] at H
          obtain ⟨memo2, hm2, hs2⟩:=hsG false (1 + qd) day
          rw [hx] at hs2
          obtain ⟨x0, x1, x2, x3, x4, x5⟩:=x
          obtain ⟨m0, m1, m2, m3, m4, m5⟩:=m
          cases hsome : s.someAt day with
          | true =>
            rw [hsome] at hs2 H
            simp only [if_true] at H
            conv=>whnf
            repeat (any_goals (first|exact falseI|((first|refine bd ?_ ?_|refine bn ?_ ?_)<;>intro _<;>first|(exfalso;omega)|conv=>whnf)|((first|refine dI ?_|refine okI ?_|refine bt ?_|refine bi (fun _=>?_) (fun _=>?_)|refine bndI ?_|intro _)<;>conv=>whnf)))
            refine ⟨[kSb false, kMb false], ?_⟩
            conv=>whnf
            refine ⟨_, _, hlk, ?_⟩
            conv=>whnf
            repeat (any_goals (first|exact falseI|((first|refine bd ?_ ?_|refine bn ?_ ?_)<;>intro _<;>first|(exfalso;omega)|conv=>whnf)|((first|refine brP_false hE ?_|refine dI ?_|refine okI ?_|refine bt ?_|refine bi (fun _=>?_) (fun _=>?_)|refine bndI ?_|intro _)<;>conv=>whnf)))
            refine ⟨[kSb false, kMb false], ?_⟩
            conv=>whnf
            refine ⟨_, _, hs2, ?_⟩
            conv=>whnf
            repeat (any_goals (first|exact falseI|((first|refine bd ?_ ?_|refine bn ?_ ?_)<;>intro _<;>first|(exfalso;omega)|conv=>whnf)|((first|refine dI ?_|refine okI ?_|refine bt ?_|refine bi (fun _=>?_) (fun _=>?_)|refine bndI ?_|intro _)<;>conv=>whnf)))
            (refine ⟨⟨day + 1, false, 1 + qd, ⟨x0, x1, x2, x3, x4, x5⟩, memo2, some (d, ⟨m0, m1, m2, m3, m4, m5⟩, memo)⟩, ⟨by simp only;omega, day, hx.symm, by simp only;rw [show 365 - (day + 1) = f by omega];exact H⟩, (by simp only;omega), ?_⟩;(conv=>whnf);refine ⟨?_, ?_, ?_⟩<;>repeat (first|exact trivial|refine sc rfl ?_|refine kn ?_|refine kc rfl ?_|refine sc (by rfl) ?_|refine kc (by rfl) ?_))
          | false =>
            rw [hsome] at hs2 H
            simp only [Bool.false_eq_true, if_false] at H
            subst H
            conv=>whnf
            repeat (any_goals (first|exact falseI|((first|refine bd ?_ ?_|refine bn ?_ ?_)<;>intro _<;>first|(exfalso;omega)|conv=>whnf)|((first|refine dI ?_|refine okI ?_|refine bt ?_|refine bi (fun _=>?_) (fun _=>?_)|refine bndI ?_|intro _)<;>conv=>whnf)))
            refine ⟨[kSb false, kMb false], ?_⟩
            conv=>whnf
            refine ⟨_, _, hlk, ?_⟩
            conv=>whnf
            repeat (any_goals (first|exact falseI|((first|refine bd ?_ ?_|refine bn ?_ ?_)<;>intro _<;>first|(exfalso;omega)|conv=>whnf)|((first|refine brP_false hE ?_|refine dI ?_|refine okI ?_|refine bt ?_|refine bi (fun _=>?_) (fun _=>?_)|refine bndI ?_|intro _)<;>conv=>whnf)))
            refine ⟨[kSb false, kMb false], ?_⟩
            conv=>whnf
            refine ⟨_, _, hs2, ?_⟩
            conv=>whnf
            repeat (any_goals (first|exact falseI|((first|refine bd ?_ ?_|refine bn ?_ ?_)<;>intro _<;>first|(exfalso;omega)|conv=>whnf)|((first|refine dI ?_|refine okI ?_|refine bt ?_|refine bi (fun _=>?_) (fun _=>?_)|refine bndI ?_|intro _)<;>conv=>whnf)))
            (refine ⟨⟨?_⟩, trivial⟩;rfl)
  · have h1 : ¬ (day : Int) ≤ 364:=h1
    have : day = 365:=by omega
    subst this
    simp only [Nat.sub_self, hF0] at H
    subst H
    cases oth with
    | none =>
      conv=>whnf
      repeat (any_goals (first|exact falseI|((first|refine bd ?_ ?_|refine bn ?_ ?_)<;>intro _<;>first|(exfalso;omega)|conv=>whnf)|((first|refine dI ?_|refine okI ?_|refine bt ?_|refine bi (fun _=>?_) (fun _=>?_)|refine bndI ?_|intro _)<;>conv=>whnf)))
      (refine ⟨⟨?_⟩, trivial⟩;rfl)
    | some q =>
      conv=>whnf
      repeat (any_goals (first|exact falseI|((first|refine bd ?_ ?_|refine bn ?_ ?_)<;>intro _<;>first|(exfalso;omega)|conv=>whnf)|((first|refine dI ?_|refine okI ?_|refine bt ?_|refine bi (fun _=>?_) (fun _=>?_)|refine bndI ?_|intro _)<;>conv=>whnf)))
      (refine ⟨⟨?_⟩, trivial⟩;rfl)
theorem untilTop_c (s : Store) (hr : s.small) : PureA Tryz.prog 17 [storeA s] (duoA s.untilR):=by
  unfold Store.untilR
  by_cases hc : s.check.2.2 = 0
  · rw [if_neg (fun h=>h hc)]
    by_cases hs : s.someAt 0 = true
    · rw [if_pos hs];exact untilT_c s hr hc hs
    · rw [if_neg hs];exact untilN_c s hr hc (Bool.eq_false_iff.2 hs)
  · rw [if_pos hc]
    exact untilE_c s hr hc
end Go.Proofs.YtbpiibdcncfphaaGreatDoor
namespace Go.Proofs.YtbpiibdcncfphaaGreatDoor
open Go.Am Go.Proofs Go
theorem ounces_c (a b c : Int) : PureA Tryz.prog 36 [intA a, intA b, intA c] (amtA ⟨a, b, c⟩):=by
  refine pureA_codeB tabOk { l:=0, f:=36 } mixed call_36 Tryz.func36 (by kernel_rfl) ?_
  conv=>whnf
  repeat (any_goals (first|exact falseI|((first|refine bd ?_ ?_|refine bn ?_ ?_)<;>intro _<;>first|(exfalso;omega)|conv=>whnf)|((first|refine dI ?_|refine okI ?_|refine bt ?_|refine bi (fun _=>?_) (fun _=>?_)|refine bndI ?_|intro _)<;>conv=>whnf)))
  (refine ⟨⟨?_⟩, trivial⟩;rfl)
theorem spanL_c (a b : Int) : PureA Tryz.prog 67 [intA a, intA b] (spanA a b):=by
  refine pureA_codeB tabOk { l:=0, f:=67 } mixed call_67 Tryz.func67 (by kernel_rfl) ?_
  conv=>whnf
  repeat (any_goals (first|exact falseI|((first|refine bd ?_ ?_|refine bn ?_ ?_)<;>intro _<;>first|(exfalso;omega)|conv=>whnf)|((first|refine dI ?_|refine okI ?_|refine bt ?_|refine bi (fun _=>?_) (fun _=>?_)|refine bndI ?_|intro _)<;>conv=>whnf)))
  (refine ⟨⟨?_⟩, trivial⟩;rfl)
def storeD (pale : Bool) : Store:=⟨match pale with|true=>⟨10, 4, 0⟩|false=>⟨10, 4, 2⟩, 30,
  [⟨⟨#[100, 117, 107, 101]⟩, ⟨6, 2, 2⟩, 45, false⟩, ⟨⟨#[116, 104, 105, 101, 102]⟩, ⟨8, 4, 0⟩, 0, false⟩, ⟨⟨#[113, 117, 101, 101, 110]⟩, ⟨9, 1, 2⟩, 0, true⟩],
  [⟨⟨#[98, 105, 115, 104, 111, 112]⟩, 12, 100, 300, 50, 150⟩, ⟨⟨#[99, 108, 111, 119, 110]⟩, 6, 150, 250, 50, 200⟩]⟩
theorem storeD_small (b : Bool) : (storeD b).small:=by
  unfold Store.small storeD
  refine ⟨by simp, by simp, ?_, ?_⟩
  · intro h hh
    simp only [List.mem_cons, List.not_mem_nil, or_false] at hh
    rcases hh with rfl|rfl|rfl<;>decide
  · intro h hh
    simp only [List.mem_cons, List.not_mem_nil, or_false] at hh
    rcases hh with rfl|rfl<;>decide
theorem storeD_c (b : Bool) : PureA Tryz.prog 33 [boolA b] (storeA (storeD b)):=by
  cases b
  · refine pureA_codeB tabOk { l:=0, f:=33 } mixed call_33 Tryz.func33 (by kernel_rfl) ?_
    conv=>whnf
    repeat (any_goals (first|exact falseI|((first|refine bd ?_ ?_|refine bn ?_ ?_)<;>intro _<;>first|(exfalso;omega)|conv=>whnf)|((first|refine callP_a (ounces_c _ _ _) ?_|refine callP_a (spanL_c _ _) ?_|refine dI ?_|refine okI ?_|refine bt ?_|refine bi (fun _=>?_) (fun _=>?_)|refine bndI ?_|intro _)<;>conv=>whnf)))
    (refine ⟨⟨?_⟩, trivial⟩;rfl)
  · refine pureA_codeB tabOk { l:=0, f:=33 } mixed call_33 Tryz.func33 (by kernel_rfl) ?_
    conv=>whnf
    repeat (any_goals (first|exact falseI|((first|refine bd ?_ ?_|refine bn ?_ ?_)<;>intro _<;>first|(exfalso;omega)|conv=>whnf)|((first|refine callP_a (ounces_c _ _ _) ?_|refine callP_a (spanL_c _ _) ?_|refine dI ?_|refine okI ?_|refine bt ?_|refine bi (fun _=>?_) (fun _=>?_)|refine bndI ?_|intro _)<;>conv=>whnf)))
    (refine ⟨⟨?_⟩, trivial⟩;rfl)
theorem ev_pour : (storeD false).pourR = ([0], ⟨5, 2, 1⟩, 0):=by decide +kernel
theorem ev_lists : (storeD false).listsR = ([[0], [1], [0, 1]], 0):=by decide +kernel
theorem ev_doubt : (storeD false).doubtR = ([], [0, 1], 0):=by decide +kernel
theorem ev_lack : (storeD false).lackR = (0, 2, 0):=by decide +kernel
theorem ev_until : (storeD true).untilR = (15, 0):=by decide +kernel
theorem ev_melt : (storeD false).meltedA 0 = .tuple [amtA ⟨7, 2, 1⟩, intA 0]:=by
  have h : (storeD false).check.2.2 = 0:=by decide +kernel
  unfold Store.meltedA
  rfl
theorem ev_kettle : (storeD false).kettle [0] ⟨5, 2, 1⟩ = (⟨12, 4, 2⟩, 0):=by decide +kernel
theorem ev_suits1 : (storeD false).suits [0] ⟨5, 2, 1⟩ = (0, 4):=by decide +kernel
theorem ev_suits2 : (storeD false).suits [] ⟨10, 4, 2⟩ = (0, 9):=by decide +kernel
theorem ev_suits3 : (storeD false).suits [0] ⟨10, 0, 0⟩ = (1, 0):=by decide +kernel
theorem suitsN_c (s : Store) (add : Amt) (hr : s.small) : PureA Tryz.prog 37 [storeA s, nilS, amtA add] (pairI (s.suits [] add)) :=
  (suits_c s [] add hr (by simp)).args (.cons (Wk.refl _) (.cons (Wk.nil 1) (.cons (Wk.refl _) trivial)))
end Go.Proofs.YtbpiibdcncfphaaGreatDoor
namespace Go.Proofs.YtbpiibdcncfphaaGreatDoor
open Go.Am Go.Proofs Go
set_option maxHeartbeats 4000000 in
set_option maxRecDepth 100000 in
theorem Awake_c : PureA Tryz.prog 14 [] (boolA true):=by
  have s1:=storeD_c false
  have s2:=storeD_c true
  have hs:=storeD_small false
  have m:=melted_c (storeD false) 0 hs
  rw [ev_melt] at m
  have k:=kettle_c (storeD false) [0] ⟨5, 2, 1⟩ hs (by simp)
  rw [ev_kettle] at k
  have t1:=suits_c (storeD false) [0] ⟨5, 2, 1⟩ hs (by simp)
  rw [ev_suits1] at t1
  have t2:=suitsN_c (storeD false) ⟨10, 4, 2⟩ hs
  rw [ev_suits2] at t2
  have t3:=suits_c (storeD false) [0] ⟨10, 0, 0⟩ hs (by simp)
  rw [ev_suits3] at t3
  have p:=pourTop_c (storeD false) hs
  rw [ev_pour] at p
  have l:=listsTop_c (storeD false) hs
  rw [ev_lists] at l
  have d : PureA Tryz.prog 12 [storeA (storeD false)] (doubtA (storeD false).doubtR):=doubtTop_c (storeD false) hs
  rw [ev_doubt] at d
  have a:=lackTop_c (storeD false) hs
  rw [ev_lack] at a
  have u:=untilTop_c (storeD true) (storeD_small true)
  rw [ev_until] at u
  have i1:=ints_c [0] [0] (by simp) (by simp)
  have i2:=ints_c [0, 1] [0, 1] (by simp) (by simp)
  have i3:=lists_c [[0], [1], [0, 1]] [[0], [1], [0, 1]] (by simp) (by simp) (by simp) (by simp)
  clear hs
  refine pureA_codeB tabOk { l:=0, f:=14 } mixed call_14 Tryz.func14 (by kernel_rfl) ?_
  conv=>whnf
  repeat (any_goals (first|exact falseI|((first|refine bd ?_ ?_|refine bn ?_ ?_)<;>intro _<;>first|(exfalso;omega)|conv=>whnf)|((first|refine callP_a s1 ?_|refine callP_a s2 ?_|refine callP_a (ounces_c _ _ _) ?_|refine callP_a m ?_|refine callP_a k ?_|refine callP_a t1 ?_|refine callP_a t2 ?_|refine callP_a t3 ?_|refine callP_a p ?_|refine callP_a l ?_|refine callP_a d ?_|refine callP_a a ?_|refine callP_a u ?_|refine callP_a i1 ?_|refine callP_a i2 ?_|refine callP_a i3 ?_|refine dI ?_|refine okI ?_|refine bt ?_|refine bi (fun _=>?_) (fun _=>?_)|refine bndI ?_|intro _)<;>conv=>whnf)))
  (refine ⟨⟨?_⟩, trivial⟩;rfl)
end Go.Proofs.YtbpiibdcncfphaaGreatDoor
namespace Go.Proofs.YtbpiibdcncfphaaGreatDoor
open Go.Am Go.Proofs Go
theorem eqL3 (a b c : Int) : eqL [.int .i64 a, .int .i64 b, .int .i64 c] [.int .i64 a, .int .i64 b, .int .i64 c] = true:=by simp [eqL, eqC]
end Go.Proofs.YtbpiibdcncfphaaGreatDoor
namespace Go.Proofs.YtbpiibdcncfphaaGreatDoor
open Go.Am Go.Proofs Go
theorem valid_c (s : Store) (hr : s.small) : PureA Tryz.prog 19 [storeA s] (boolA (decide (s.check.2.2 = 0))):=by
  have hk:=refCheck_c s hr
  unfold triA at hk
  generalize s.check = c at *
  obtain ⟨c1, c2, c3⟩:=c
  refine pureA_codeB tabOk { l:=0, f:=19 } mixed call_19 Tryz.func19 (by kernel_rfl) ?_
  conv=>whnf
  repeat (any_goals (first|exact falseI|((first|refine bd ?_ ?_|refine bn ?_ ?_)<;>intro _<;>first|(exfalso;omega)|conv=>whnf)|((first|refine callP_a hk ?_|refine dI ?_|refine okI ?_|refine bt ?_|refine bi (fun _=>?_) (fun _=>?_)|refine bndI ?_|intro _)<;>conv=>whnf)))
  (refine ⟨⟨?_⟩, trivial⟩;rfl)
def bitU (h : Int) (i : Nat) : Prop:=(h.fdiv (2 ^ min ((i : Int)).toNat IntKind.u8.bits)).tmod 2 = 1
instance (h : Int) (i : Nat) : Decidable (bitU h i):=inferInstanceAs (Decidable (_ = _))
end Go.Proofs.YtbpiibdcncfphaaGreatDoor
namespace Go.Proofs.YtbpiibdcncfphaaGreatDoor
open Go.Am Go.Proofs Go
theorem find_mem {s : Store} {p : Nat→Bool} {n : Nat} (h : s.sorted.find? p = some n) : n ∈ s.sorted∧p n = true:=⟨List.mem_of_find?_eq_some h, List.find?_some h⟩
def pickOk (h : Nat) : Bool:=(List.range (2 ^ h)).all fun n=>decide (setL n = pickTo (fun x=>n.testBit x.toNat) h) && decide ((setL n).Pairwise (· < ·))
theorem pick_ok : ∀ h, h < 7→pickOk h = true:=by decide +kernel
theorem setL_pick {h n : Nat} (hh : h ≤ 6) (hn : n < 2 ^ h) : setL n = pickTo (fun x=>n.testBit x.toNat) h∧(setL n).Pairwise (· < ·):=by
  have:=pick_ok h (by omega)
  unfold pickOk at this
  rw [List.all_eq_true] at this
  have:=this n (List.mem_range.2 hn)
  rw [Bool.and_eq_true, decide_eq_true_eq, decide_eq_true_eq] at this
  exact this
theorem pickTo_congr {p q : Int→Bool} : ∀ (h : Nat), (∀ i : Nat, i < h→p i = q i)→pickTo p h = pickTo q h
  | 0, _=>rfl
  | h + 1, e=>by rw [pickTo_succ, pickTo_succ, pickTo_congr h fun i hi=>e i (by omega), e h (by omega)]
structure Store.Free (s : Store) (l : List Int) : Prop where
  at_ : ∀ x ∈ l, 0 ≤ x∧x < s.heads.length
  len : l.length ≤ 6
  bad : s.badL none l = false
theorem badL_free {s : Store} : ∀ {l : List Int} {p : Option Int}, l.Pairwise (· < ·)→(∀ x ∈ l, s.keptAt x = false)→(∀ q, p = some q→∀ x ∈ l, q < x)→s.badL p l = false
  | [], _, _, _, _=>rfl
  | x :: l, p, h, hk, hp=>by
    have h1:=List.pairwise_cons.1 h
    unfold Store.badL
    rw [badL_free (p:=some x) h1.2 (fun y hy=>hk y (List.mem_cons_of_mem _ hy)) (fun q hq y hy=>by cases hq;exact h1.1 y hy)]
    have h3:=hk x (List.mem_cons_self ..)
    have h4 : ∀ b : Bool, b = false→((b || s.keptAt x) || false) = false:=by intro b hb;rw [h3, hb];rfl
    refine h4 _ ?_
    cases p with
    | none=>rfl
    | some q =>
      have:=hp q rfl x (List.mem_cons_self ..)
      simp
      omega
theorem sorted_free {s : Store} (h6 : s.heads.length ≤ 6) {n : Nat} (hn : n ∈ s.sorted) : s.Free (setL n):=by
  obtain ⟨h1, h2⟩:=sorted_mem hn
  refine ⟨(bits_all h6 h1).1, setL_len n, badL_free (setL_pick h6 h1).2 ?_ (fun q hq=>by cases hq)⟩
  have:=kept_any h6 h1
  rw [h2] at this
  simp only [Bool.not_true] at this
  intro x hx
  exact Bool.eq_false_iff.2 fun h=>(List.any_eq_false.1 this x hx) h
end Go.Proofs.YtbpiibdcncfphaaGreatDoor
namespace Go.Proofs.YtbpiibdcncfphaaGreatDoor
open Go.Am Go.Proofs Go
def lastI (l : List Int) : Int:=match l.getLast? with|none=>-1|some x=>x
def nextsI (below : Int) (l : List Int) : List (List Int):=((List.range (below - (lastI l + 1)).toNat).map fun j : Nat=>l++[lastI l + 1 + (j : Int)])
def picksI (below : Int) : Nat→List (List Int)
  | 0=>[[]]
  | n + 1=>(picksI below n).flatMap (nextsI below)
def Store.freeI (s : Store) : List Int:=pickTo (fun n=>!s.keptAt n) s.heads.length
def Store.listsI (s : Store) (many : Nat) : List (List Int):=(picksI s.freeI.length many).map fun l=>l.map fun i=>s.freeI.getD i.toNat 0
def listsAll (s : Store) : Nat→List (List Int)
  | 0=>[]
  | n + 1=>listsAll s n++s.listsI n
def Store.allI (s : Store) : List (List Int):=listsAll s (s.heads.length + 1)
def freeOf (h K : Nat) : List Int:=pickTo (fun n=>!K.testBit n.toNat) h
def allOf (h K : Nat) : List (List Int):=(List.range (h + 1)).flatMap fun m=>(picksI (freeOf h K).length m).map fun l=>l.map fun i=>(freeOf h K).getD i.toNat 0
def allSame (h K : Nat) : Bool:=decide (allOf h K = (insN 0 (setsOf h K).length (setsOf h K)).map setL)
theorem all_small : ∀ h, h < 5→∀ K, K < 2 ^ h→allSame h K = true:=by decide +kernel
theorem all_five : ∀ K, K < 2 ^ 5→allSame 5 K = true:=by decide +kernel
theorem all_sixth : ∀ K, K < 2 ^ 6→allSame 6 K = true:=by decide +kernel
theorem listsAll_eq (s : Store) : ∀ n, listsAll s n = (List.range n).flatMap s.listsI
  | 0=>rfl
  | n + 1=>by
    rw [listsAll, List.range_succ, List.flatMap_append, listsAll_eq s n]
    simp
theorem freeOf_eq (s : Store) : freeOf s.heads.length (maskOf s.heads) = s.freeI:=by
  unfold freeOf Store.freeI
  refine pickTo_congr _ fun i hi=>?_
  rw [Int.toNat_natCast, maskOf_bit]
  unfold Store.keptAt
  rw [Int.toNat_natCast]
  all_goals (cases s.heads[i]?<;>rfl)
theorem allI_eq {s : Store} (h6 : s.heads.length ≤ 6) : s.allI = s.sorted.map setL:=by
  have hK:=maskOf_lt s.heads
  have : allSame s.heads.length (maskOf s.heads) = true:=by
    rcases (by omega : s.heads.length < 5∨s.heads.length = 5∨s.heads.length = 6) with h|h|h
    · exact all_small _ h _ hK
    · rw [h] at hK ⊢;exact all_five _ hK
    · rw [h] at hK ⊢;exact all_sixth _ hK
  unfold allSame allOf at this
  have this:=of_decide_eq_true this
  rw [freeOf_eq] at this
  unfold Store.allI
  rw [listsAll_eq]
  exact this
end Go.Proofs.YtbpiibdcncfphaaGreatDoor
namespace Go.Proofs.YtbpiibdcncfphaaGreatDoor
open Go.Am Go.Proofs Go
theorem free_c (s : Store) (h6 : s.heads.length ≤ 6) : PureA Tryz.prog 58 [storeA s] (intsA s.freeI):=by
  unfold Store.freeI
  have hM:=pickTo_succ (fun n=>!s.keptAt n)
  have hMl:=pickTo_len (fun n=>!s.keptAt n)
  have hM0 : pickTo (fun n=>!s.keptAt n) 0 = []:=rfl
  have hpk : ∀ (i : Nat) y, s.heads[i]? = some y→s.keptAt i = y.kept:=by
    intro i y hy
    unfold Store.keptAt
    simp only [Int.toNat_natCast, hy]
  generalize pickTo (fun n=>!s.keptAt n) = M at *
  refine pureA_codeB tabOk { l:=0, f:=58 } mixed call_58 Tryz.func58 (by kernel_rfl) ?_
  conv=>whnf
  refine loopTok 3 1 ⟨0, 58, 22⟩ ?_
  conv=>whnf
  refine loopK tabOk { l:=0, f:=58 } mixed (fun i : Nat=>[(4, intA i), (3, .slice 1 ((M i).map intA) (.own ⟨0, 58, 22⟩ 1))]) (fun _=>[]) (fun i=>[(⟨0, 58, 22⟩, some (1, (M i).length))]) (fun i=>i ≤ s.heads.length) (fun i=>s.heads.length - i) 0 (by kernel_rfl)
    (Nat.zero_le _) ?_
  conv=>whnf
  refine ⟨⟨slotsLe_cons rfl (slotsLe_cons (by rw [hM0];rfl) trivial), trivial, keysLe_cons (by rw [hM0];rfl) trivial⟩, ?_⟩
  intro i hi
  have hMi:=hM i
  have hMli:=hMl i
  by_cases hlt : i < s.heads.length
  · obtain ⟨y, hy, _⟩:=drop_cons (l:=s.heads) (i:=i) hlt
    rw [hpk i y hy] at hMi
    clear hpk hM hMl
    have hlm : i < (s.heads.map headA).length:=by simpa using hlt
    obtain ⟨yn, yw, yd, yk⟩:=y
    cases yk with
    | true =>
      simp only [Bool.not_true, Bool.false_eq_true, if_false, List.append_nil] at hMi
      conv=>whnf
      repeat (any_goals (first|exact falseI|((first|refine bd ?_ ?_|refine bn ?_ ?_)<;>intro _<;>first|(exfalso;omega)|conv=>whnf)|((first|refine optP_map hy rfl ?_|refine dI ?_|refine okI ?_|refine bt ?_|refine bi (fun _=>?_) (fun _=>?_)|refine bndI ?_|intro _)<;>conv=>whnf)))
      (refine ⟨i + 1, (by omega), (by omega), ?_⟩;(conv=>whnf);refine ⟨?_, ?_, ?_⟩<;>repeat (first|exact trivial|refine sc rfl ?_|refine kn ?_|refine kc rfl ?_|refine sc (by first|rfl|(rw [hMi];rfl)) ?_|refine kc (by first|rfl|(rw [hMi];rfl)) ?_))
    | false =>
      simp only [Bool.not_false, if_true] at hMi
      conv=>whnf
      repeat (any_goals (first|exact falseI|((first|refine bd ?_ ?_|refine bn ?_ ?_)<;>intro _<;>first|(exfalso;omega)|conv=>whnf)|((first|refine optP_map hy rfl ?_|refine dI ?_|refine okI ?_|refine bt ?_|refine bi (fun _=>?_) (fun _=>?_)|refine bndI ?_|intro _)<;>conv=>whnf)))
      (refine ⟨i + 1, (by omega), (by omega), ?_⟩;(conv=>whnf);refine ⟨?_, ?_, ?_⟩<;>repeat (first|exact trivial|refine sc rfl ?_|refine kn ?_|refine kc rfl ?_|refine sc (by first|rfl|(rw [hMi, List.map_append];rfl)|(rw [hMi, List.length_append, ← List.length_map (f:=intA)];rfl)) ?_|refine kc (by first|rfl|(rw [hMi, List.map_append];rfl)|(rw [hMi, List.length_append, ← List.length_map (f:=intA)];rfl)) ?_))
  · have : i = s.heads.length:=by omega
    subst this
    have hnl : ¬ ((s.heads.length : Nat) : Int) < ((s.heads.map headA).length : Nat):=by simp
    clear hM hpk hMl hMi
    generalize M s.heads.length = L at *
    conv=>whnf
    repeat (any_goals (first|exact falseI|((first|refine bd ?_ ?_|refine bn ?_ ?_)<;>intro _<;>first|(exfalso;omega)|conv=>whnf)|((first|refine dI ?_|refine okI ?_|refine bt ?_|refine bi (fun _=>?_) (fun _=>?_)|refine bndI ?_|intro _)<;>conv=>whnf)))
    (refine ⟨⟨?_⟩, trivial⟩;rfl)
def picksTo (b : Int) (l : List (List Int)) (i : Nat) : List (List Int):=(l.take i).flatMap (nextsI b)
def nextsTo (l : List Int) (j : Nat) : List (List Int):=(List.range j).map fun j : Nat=>l++[lastI l + 1 + (j : Int)]
theorem picksTo_succ {b : Int} {l : List (List Int)} {i : Nat} {x : List Int} (h : l[i]? = some x) : picksTo b l (i + 1) = picksTo b l i++nextsI b x:=by
  unfold picksTo
  rw [List.take_add_one, h, List.flatMap_append]
  simp
theorem picksTo_all (b : Int) (l : List (List Int)) : picksTo b l l.length = l.flatMap (nextsI b):=by unfold picksTo;rw [List.take_length]
theorem nextsTo_succ (l : List Int) (j : Nat) : nextsTo l (j + 1) = nextsTo l j++[l++[lastI l + 1 + (j : Int)]]:=by
  unfold nextsTo
  rw [List.range_succ, List.map_append]
  rfl
def picksOk (b : Nat) : Bool:=(List.range 8).all fun n=>(picksI b n).all fun l=>decide (l.length ≤ 7) && decide (-1 ≤ lastI l) && decide (lastI l < (b : Int)) && decide (lastI l = if l.length = 0 then -1 else l.getD (l.length - 1) 0)
def picksCount (b : Nat) : Bool:=(List.range 8).all fun n=>decide ((picksI b n).length ≤ 64)
theorem picks_ok : ∀ b, b < 7→picksOk b = true:=by decide +kernel
theorem picks_count : ∀ b, b < 7→picksCount b = true:=by decide +kernel
theorem picks_len {b n : Nat} (hb : b ≤ 6) (hn : n ≤ 7) : (picksI b n).length ≤ 64:=by
  have:=picks_count b (by omega)
  unfold picksCount at this
  rw [List.all_eq_true] at this
  exact of_decide_eq_true (this n (List.mem_range.2 (by omega)))
theorem picks_at {b n : Nat} (hb : b ≤ 6) (hn : n ≤ 7) {l : List Int} (hl : l ∈ picksI b n) : l.length ≤ 7∧-1 ≤ lastI l∧lastI l < b∧lastI l = if l.length = 0 then -1 else l.getD (l.length - 1) 0:=by
  have:=picks_ok b (by omega)
  unfold picksOk at this
  rw [List.all_eq_true] at this
  have:=this n (List.mem_range.2 (by omega))
  rw [List.all_eq_true] at this
  have:=this l hl
  simp only [Bool.and_eq_true, decide_eq_true_eq] at this
  exact ⟨this.1.1.1, this.1.1.2, this.1.2, this.2⟩
end Go.Proofs.YtbpiibdcncfphaaGreatDoor
namespace Go.Am
open Go
theorem Wk.slice1 {l l' : List AV} {tok : Tok} (h : WkL l l') (h1 : ∀ x ∈ l, x.cells = [x]) (h2 : ∀ x ∈ l', x.cells = [x]) : Wk (.slice 1 l tok) (.slice 1 l' tok):=fun w imm y hy=>by
  obtain ⟨hl, hg⟩:=h.get
  have one : ∀ {e x : AV} {c : Nat}, e ∈ l'→e.cells[c]? = some x→c = 0∧e = x:=by
    intro e x c he hx
    rw [h2 e he] at hx
    match c with
    | 0=>exact ⟨rfl, by simpa using hx⟩
    | c + 1=>simp at hx
  cases hy with
  | nil _ _ ht =>
    cases l' with
    | nil=>exact .nil 1 _ ht
    | cons x l'=>simp at hl
  | slice ys hcap ht hm hsz hc hp =>
    rw [hl]
    refine .slice ys (by omega) (by rw [← hl];exact ht) hm (fun i e he=>by rw [h2 e (List.mem_of_getElem? he)];rfl) ?_ ?_
    · intro i e c x he hx
      obtain ⟨u, hu, hw⟩:=hg i e he
      obtain ⟨rfl, rfl⟩:=one (List.mem_of_getElem? he) hx
      exact hc i u 0 u hu (by rw [h1 u (List.mem_of_getElem? hu)];rfl)
    · intro i e c x he hx
      obtain ⟨u, hu, hw⟩:=hg i e he
      obtain ⟨rfl, rfl⟩:=one (List.mem_of_getElem? he) hx
      exact hw _ _ _ (hp i u 0 u hu (by rw [h1 u (List.mem_of_getElem? hu)];rfl))
end Go.Am
namespace Go.Proofs.YtbpiibdcncfphaaGreatDoor
open Go.Am Go.Proofs Go
theorem picks0_c (b : Int) : PureA Tryz.prog 59 [intA b, intA 0] (intssA (picksI b 0)):=by
  have h : PureA Tryz.prog 59 [intA b, intA 0] (.slice 1 [nilS] .no):=by
    refine pureA_codeB tabOk { l:=0, f:=59 } mixed call_59 Tryz.func59 (by kernel_rfl) ?_
    conv=>whnf
    repeat (any_goals (first|exact falseI|((first|refine bd ?_ ?_|refine bn ?_ ?_)<;>intro _<;>first|(exfalso;omega)|conv=>whnf)|((first|refine dI ?_|refine okI ?_|refine bt ?_|refine bi (fun _=>?_) (fun _=>?_)|refine bndI ?_|intro _)<;>conv=>whnf)))
    (refine ⟨⟨?_⟩, trivial⟩;rfl)
  exact h.wk (Wk.slice1 (.cons (Wk.nil 1) trivial) (by intro x hx;rcases List.mem_singleton.1 hx with rfl;rfl) (by intro x hx;rcases List.mem_singleton.1 hx with rfl;rfl))
set_option maxHeartbeats 2000000 in
theorem picksS_c (b n : Nat) (S : List (List Int)) (hb : b ≤ 6) (hn : n ≤ 6) (hS : S.length ≤ 64) (hat : ∀ l ∈ S, l.length ≤ 7∧-1 ≤ lastI l∧lastI l < (b : Int)∧lastI l = if l.length = 0 then -1 else l.getD (l.length - 1) 0)
    (hlen : ∀ i, (picksTo b S i).length ≤ 448) (h : PureA Tryz.prog 59 [intA b, intA n] (intssA S)) : PureA Tryz.prog 59 [intA b, intA ((n : Int) + 1)] (intssA (S.flatMap (nextsI b))):=by
  rw [← picksTo_all]
  have hn1 : ((n : Int) + 1) - 1 = n:=by omega
  have h : PureA Tryz.prog 59 [intA b, intA ((n : Int) + 1 - 1)] (intssA S):=by rw [hn1];exact h
  have hSl : (S.map intsA).length = S.length:=List.length_map ..
  have hM0 : picksTo b S 0 = []:=rfl
  have hMs:=fun i x (hx : S[i]? = some x)=>picksTo_succ (b:=(b : Int)) hx
  generalize picksTo b S = M at *
  refine pureA_codeB tabOk { l:=0, f:=59 } mixed call_59 Tryz.func59 (by kernel_rfl) ?_
  conv=>whnf
  repeat (any_goals (first|exact falseI|((first|refine bd ?_ ?_|refine bn ?_ ?_)<;>intro _<;>first|(exfalso;omega)|conv=>whnf)|((first|refine callP_a h ?_|refine dI ?_|refine okI ?_|refine bt ?_|refine bi (fun _=>?_) (fun _=>?_)|refine bndI ?_|intro _)<;>conv=>whnf)))
  refine loopTok 5 1 ⟨0, 59, 59⟩ ?_
  conv=>whnf
  refine loopK tabOk { l:=0, f:=59 } mixed (fun i : Nat=>[(7, intA i), (5, .slice 1 ((M i).map intsA) (.own ⟨0, 59, 59⟩ 1))]) (fun _=>[]) (fun i=>[(⟨0, 59, 59⟩, some (1, (M i).length))]) (fun i=>i ≤ S.length) (fun i=>S.length - i) 0 (by kernel_rfl)
    (Nat.zero_le _) ?_
  conv=>whnf
  refine ⟨⟨slotsLe_cons rfl (slotsLe_cons (by rw [hM0];rfl) trivial), trivial, keysLe_cons (by rw [hM0];rfl) trivial⟩, ?_⟩
  intro i hi
  by_cases hlt : i < S.length
  · obtain ⟨x, hx, _⟩:=drop_cons (l:=S) (i:=i) hlt
    have hMi:=hMs i x hx
    obtain ⟨x1, x2, x3, x4⟩:=hat x (List.mem_of_getElem? hx)
    have hl1:=hlen i
    have hl2:=hlen (i + 1)
    have hxl : (x.map intA).length = x.length:=List.length_map ..
    have hnx : nextsI b x = nextsTo x ((b : Int) - (lastI x + 1)).toNat:=rfl
    have hns:=nextsTo_succ x
    have hnl : ∀ j, (nextsTo x j).length = j:=by intro j;unfold nextsTo;simp
    by_cases hx0 : x.length = 0
    · have : x = []:=List.length_eq_zero_iff.1 hx0
      subst this
      conv=>whnf
      repeat (any_goals (first|exact falseI|((first|refine bd ?_ ?_|refine bn ?_ ?_)<;>intro _<;>first|(exfalso;omega)|conv=>whnf)|((first|refine optP_map hx rfl ?_|refine dI ?_|refine okI ?_|refine bt ?_|refine bi (fun _=>?_) (fun _=>?_)|refine bndI ?_|intro _)<;>conv=>whnf)))
      refine loopK tabOk { l:=0, f:=59 } mixed (fun j : Nat=>[(9, intA (lastI [] + 1 + (j : Int))), (5, .slice 1 ((M i++nextsTo [] j).map intsA) (.own ⟨0, 59, 59⟩ 1))]) (fun _=>[]) (fun j=>[(⟨0, 59, 59⟩, some (1, (M i++nextsTo [] j).length))]) (fun j=>j ≤ ((b : Int) - (lastI [] + 1)).toNat) (fun j=>((b : Int) - (lastI [] + 1)).toNat - j) 0 (by kernel_rfl)
        (Nat.zero_le _) ?_
      conv=>whnf
      refine ⟨⟨slotsLe_cons (by rfl) (slotsLe_cons (by show _ = some (AV.slice 1 ((M i++[]).map intsA) _);rw [List.append_nil];rfl) trivial), trivial, keysLe_cons (by show _ = some (some (1, (M i++[]).length));rw [show M i++[] = M i from List.append_nil _];rfl) trivial⟩, ?_⟩
      intro j hj
      have hnj:=hns j
      by_cases hlt2 : j < ((b : Int) - (lastI [] + 1)).toNat
      · have hE : (M i++nextsTo [] (j + 1)).map intsA = (M i++nextsTo [] j).map intsA++[.slice 1 ([]++([] : List Int).map intA++[intA (lastI [] + 1 + (j : Int))]) .no]:=by rw [hnj, ← List.append_assoc, List.map_append];simp [intsA]
        have hJ : lastI [] + 1 + (j : Int) + 1 = lastI [] + 1 + ((j + 1 : Nat) : Int):=by omega
        have hml : (List.map intsA (M i++nextsTo [] j)).length = (M i).length + j:=by rw [List.length_map, List.length_append, hnl]
        have hT : (M i++nextsTo [] (j + 1)).length = (List.map intsA (M i++nextsTo [] j)).length + 1:=by rw [hml, List.length_append, hnl];omega
        conv=>whnf
        repeat (any_goals (first|exact falseI|((first|refine bd ?_ ?_|refine bn ?_ ?_)<;>intro _<;>first|(exfalso;omega)|conv=>whnf)|((first|refine optP_map hx rfl ?_|refine dI ?_|refine okI ?_|refine bt ?_|refine bi (fun _=>?_) (fun _=>?_)|refine bndI ?_|intro _)<;>conv=>whnf)))
        (refine ⟨j + 1, (by omega), (by omega), ?_⟩;(conv=>whnf);refine ⟨?_, ?_, ?_⟩<;>repeat (first|exact trivial|refine sc rfl ?_|refine kn ?_|refine kc rfl ?_|refine sc (by first|rfl|(show some (intA (lastI [] + 1 + (j : Int) + 1)) = some (intA (lastI [] + 1 + ((j + 1 : Nat) : Int)));rw [hJ])|(rw [hE];rfl)|(rw [hT];rfl)) ?_|refine kc (by first|rfl|(show some (intA (lastI [] + 1 + (j : Int) + 1)) = some (intA (lastI [] + 1 + ((j + 1 : Nat) : Int)));rw [hJ])|(rw [hE];rfl)|(rw [hT];rfl)) ?_))
      · have : j = ((b : Int) - (lastI [] + 1)).toNat:=by omega
        have hfin : M (i + 1) = M i++nextsTo [] j:=by rw [hMi, hnx, this]
        conv=>whnf
        repeat (any_goals (first|exact falseI|((first|refine bd ?_ ?_|refine bn ?_ ?_)<;>intro _<;>first|(exfalso;omega)|conv=>whnf)|((first|refine dI ?_|refine okI ?_|refine bt ?_|refine bi (fun _=>?_) (fun _=>?_)|refine bndI ?_|intro _)<;>conv=>whnf)))
        (refine ⟨i + 1, (by omega), (by omega), ?_⟩;(conv=>whnf);refine ⟨?_, ?_, ?_⟩<;>repeat (first|exact trivial|refine sc rfl ?_|refine kn ?_|refine kc rfl ?_|refine sc (by first|rfl|(rw [hfin];rfl)) ?_|refine kc (by first|rfl|(rw [hfin];rfl)) ?_))
    · obtain ⟨z, hz, _⟩:=drop_cons (l:=x) (i:=x.length - 1) (by omega)
      rw [if_neg hx0, List.getD_eq_getElem?_getD, hz, Option.getD_some] at x4
      conv=>whnf
      repeat (any_goals (first|exact falseI|((first|refine bd ?_ ?_|refine bn ?_ ?_)<;>intro _<;>first|(exfalso;omega)|conv=>whnf)|((first|refine optP_map hx rfl ?_|refine optP_map hz (by omega) ?_|refine dI ?_|refine okI ?_|refine bt ?_|refine bi (fun _=>?_) (fun _=>?_)|refine bndI ?_|intro _)<;>conv=>whnf)))
      refine loopK tabOk { l:=0, f:=59 } mixed (fun j : Nat=>[(9, intA (lastI x + 1 + (j : Int))), (5, .slice 1 ((M i++nextsTo x j).map intsA) (.own ⟨0, 59, 59⟩ 1))]) (fun _=>[]) (fun j=>[(⟨0, 59, 59⟩, some (1, (M i++nextsTo x j).length))]) (fun j=>j ≤ ((b : Int) - (lastI x + 1)).toNat) (fun j=>((b : Int) - (lastI x + 1)).toNat - j) 0 (by kernel_rfl)
        (Nat.zero_le _) ?_
      conv=>whnf
      refine ⟨⟨slotsLe_cons (by rw [x4, Int.natCast_zero, Int.add_zero];rfl) (slotsLe_cons (by show _ = some (AV.slice 1 ((M i++[]).map intsA) _);rw [List.append_nil];rfl) trivial), trivial, keysLe_cons (by show _ = some (some (1, (M i++[]).length));rw [show M i++[] = M i from List.append_nil _];rfl) trivial⟩, ?_⟩
      intro j hj
      have hnj:=hns j
      by_cases hlt2 : j < ((b : Int) - (lastI x + 1)).toNat
      · have hE : (M i++nextsTo x (j + 1)).map intsA = (M i++nextsTo x j).map intsA++[.slice 1 ([]++(x : List Int).map intA++[intA (lastI x + 1 + (j : Int))]) .no]:=by rw [hnj, ← List.append_assoc, List.map_append];simp [intsA]
        have hJ : lastI x + 1 + (j : Int) + 1 = lastI x + 1 + ((j + 1 : Nat) : Int):=by omega
        have hml : (List.map intsA (M i++nextsTo x j)).length = (M i).length + j:=by rw [List.length_map, List.length_append, hnl]
        have hT : (M i++nextsTo x (j + 1)).length = (List.map intsA (M i++nextsTo x j)).length + 1:=by rw [hml, List.length_append, hnl];omega
        conv=>whnf
        repeat (any_goals (first|exact falseI|((first|refine bd ?_ ?_|refine bn ?_ ?_)<;>intro _<;>first|(exfalso;omega)|conv=>whnf)|((first|refine optP_map hx rfl ?_|refine dI ?_|refine okI ?_|refine bt ?_|refine bi (fun _=>?_) (fun _=>?_)|refine bndI ?_|intro _)<;>conv=>whnf)))
        (refine ⟨j + 1, (by omega), (by omega), ?_⟩;(conv=>whnf);refine ⟨?_, ?_, ?_⟩<;>repeat (first|exact trivial|refine sc rfl ?_|refine kn ?_|refine kc rfl ?_|refine sc (by first|rfl|(show some (intA (lastI x + 1 + (j : Int) + 1)) = some (intA (lastI x + 1 + ((j + 1 : Nat) : Int)));rw [hJ])|(rw [hE];rfl)|(rw [hT];rfl)) ?_|refine kc (by first|rfl|(show some (intA (lastI x + 1 + (j : Int) + 1)) = some (intA (lastI x + 1 + ((j + 1 : Nat) : Int)));rw [hJ])|(rw [hE];rfl)|(rw [hT];rfl)) ?_))
      · have : j = ((b : Int) - (lastI x + 1)).toNat:=by omega
        have hfin : M (i + 1) = M i++nextsTo x j:=by rw [hMi, hnx, this]
        conv=>whnf
        repeat (any_goals (first|exact falseI|((first|refine bd ?_ ?_|refine bn ?_ ?_)<;>intro _<;>first|(exfalso;omega)|conv=>whnf)|((first|refine dI ?_|refine okI ?_|refine bt ?_|refine bi (fun _=>?_) (fun _=>?_)|refine bndI ?_|intro _)<;>conv=>whnf)))
        (refine ⟨i + 1, (by omega), (by omega), ?_⟩;(conv=>whnf);refine ⟨?_, ?_, ?_⟩<;>repeat (first|exact trivial|refine sc rfl ?_|refine kn ?_|refine kc rfl ?_|refine sc (by first|rfl|(rw [hfin];rfl)) ?_|refine kc (by first|rfl|(rw [hfin];rfl)) ?_))
  · have : i = S.length:=by omega
    subst this
    conv=>whnf
    repeat (any_goals (first|exact falseI|((first|refine bd ?_ ?_|refine bn ?_ ?_)<;>intro _<;>first|(exfalso;omega)|conv=>whnf)|((first|refine dI ?_|refine okI ?_|refine bt ?_|refine bi (fun _=>?_) (fun _=>?_)|refine bndI ?_|intro _)<;>conv=>whnf)))
    (refine ⟨⟨?_⟩, trivial⟩;rfl)
theorem nexts_len {b : Nat} (hb : b ≤ 6) {x : List Int} (hx : -1 ≤ lastI x) : (nextsI (b : Int) x).length ≤ 7:=by
  unfold nextsI
  rw [List.length_map, List.length_range]
  omega
theorem picksTo_len {b : Nat} (hb : b ≤ 6) {S : List (List Int)} (hS : S.length ≤ 64) (hat : ∀ l ∈ S, -1 ≤ lastI l) (i : Nat) : (picksTo b S i).length ≤ 448:=by
  have key : ∀ l : List (List Int), (∀ x ∈ l, -1 ≤ lastI x)→(l.flatMap (nextsI b)).length ≤ 7 * l.length:=by
    intro l
    induction l with
    | nil=>intro _;simp
    | cons x l ih =>
      intro h
      have h1:=nexts_len hb (h x (List.mem_cons_self ..))
      have h2:=ih fun y hy=>h y (List.mem_cons_of_mem _ hy)
      rw [List.flatMap_cons, List.length_append, List.length_cons]
      omega
  unfold picksTo
  have:=key (S.take i) fun x hx=>hat x (List.mem_of_mem_take hx)
  have h2 : (S.take i).length ≤ 64:=by rw [List.length_take];omega
  omega
theorem picks_c (b : Nat) (hb : b ≤ 6) : ∀ n : Nat, n ≤ 7→PureA Tryz.prog 59 [intA b, intA n] (intssA (picksI b n))
  | 0, _=>picks0_c b
  | n + 1, hn=>by
    have h:=picks_c b hb n (by omega)
    have hat:=fun l (hl : l ∈ picksI b n)=>picks_at hb (by omega) hl
    have:=picksS_c b n (picksI b n) hb (by omega) (picks_len hb (by omega)) hat (picksTo_len hb (picks_len hb (by omega)) fun l hl=>(hat l hl).2.1) h
    rw [show ((n + 1 : Nat) : Int) = (n : Int) + 1 by omega]
    exact this
end Go.Proofs.YtbpiibdcncfphaaGreatDoor
namespace Go.Proofs.YtbpiibdcncfphaaGreatDoor
open Go.Am Go.Proofs Go
def picksIn (b : Nat) : Bool:=(List.range 8).all fun n=>(picksI b n).all fun l=>l.all fun x=>decide (0 ≤ x) && decide (x < (b : Int))
theorem picks_in : ∀ b, b < 7→picksIn b = true:=by decide +kernel
theorem picks_mem {b n : Nat} (hb : b ≤ 6) (hn : n ≤ 7) {l : List Int} (hl : l ∈ picksI b n) {x : Int} (hx : x ∈ l) : 0 ≤ x∧x < b:=by
  have:=picks_in b (by omega)
  unfold picksIn at this
  rw [List.all_eq_true] at this
  have:=this n (List.mem_range.2 (by omega))
  rw [List.all_eq_true] at this
  have:=this l hl
  rw [List.all_eq_true] at this
  have:=this x hx
  simpa using this
def ofFree (fr l : List Int) : List Int:=l.map fun i=>fr.getD i.toNat 0
def listsTo (fr : List Int) (Pk : List (List Int)) (i : Nat) : List (List Int):=(Pk.take i).map (ofFree fr)
def oneTo (fr l : List Int) (j : Nat) : List Int:=ofFree fr (l.take j)
theorem listsTo_succ {fr : List Int} {Pk : List (List Int)} {i : Nat} {x : List Int} (h : Pk[i]? = some x) : listsTo fr Pk (i + 1) = listsTo fr Pk i++[ofFree fr x]:=by
  unfold listsTo
  rw [List.take_add_one, h, List.map_append]
  rfl
theorem oneTo_succ {fr l : List Int} {j : Nat} {x : Int} (h : l[j]? = some x) : oneTo fr l (j + 1) = oneTo fr l j++[fr.getD x.toNat 0]:=by
  unfold oneTo ofFree
  rw [List.take_add_one, h, List.map_append]
  rfl
set_option maxHeartbeats 2000000 in
theorem rlistsP_c (s : Store) (many : Nat) (fr : List Int) (Pk : List (List Int)) (hf : PureA Tryz.prog 58 [storeA s] (intsA fr)) (hp : PureA Tryz.prog 59 [intA ((fr.map intA).length : Int), intA many] (intssA Pk))
    (hl : Pk.length ≤ 64) (h7 : ∀ l ∈ Pk, l.length ≤ 7) (hin : ∀ l ∈ Pk, ∀ x ∈ l, 0 ≤ x∧x < fr.length) : PureA Tryz.prog 27 [storeA s, intA many] (intssA (Pk.map (ofFree fr))):=by
  have hPl : (Pk.map intsA).length = Pk.length:=List.length_map ..
  have hMe : Pk.map (ofFree fr) = listsTo fr Pk Pk.length:=by unfold listsTo;rw [List.take_length]
  rw [hMe]
  have hMs:=fun i x (hx : Pk[i]? = some x)=>listsTo_succ (fr:=fr) hx
  have hM0 : listsTo fr Pk 0 = []:=rfl
  have hMl : ∀ i, (listsTo fr Pk i).length ≤ 64:=by intro i;unfold listsTo;rw [List.length_map, List.length_take];omega
  generalize listsTo fr Pk = M at *
  refine pureA_codeB tabOk { l:=0, f:=27 } mixed call_27 Tryz.func27 (by kernel_rfl) ?_
  conv=>whnf
  repeat (any_goals (first|exact falseI|((first|refine bd ?_ ?_|refine bn ?_ ?_)<;>intro _<;>first|(exfalso;omega)|conv=>whnf)|((first|refine callP_a hf ?_|refine callP_a hp ?_|refine dI ?_|refine okI ?_|refine bt ?_|refine bi (fun _=>?_) (fun _=>?_)|refine bndI ?_|intro _)<;>conv=>whnf)))
  refine loopTok 7 1 ⟨0, 27, 48⟩ ?_
  conv=>whnf
  refine loopK tabOk { l:=0, f:=27 } mixed (fun i : Nat=>[(8, intA i), (7, .slice 1 ((M i).map intsA) (.own ⟨0, 27, 48⟩ 1))]) (fun _=>[]) (fun i=>[(⟨0, 27, 48⟩, some (1, (M i).length))]) (fun i=>i ≤ Pk.length) (fun i=>Pk.length - i) 0 (by kernel_rfl)
    (Nat.zero_le _) ?_
  conv=>whnf
  refine ⟨⟨slotsLe_cons rfl (slotsLe_cons (by rw [hM0];rfl) trivial), trivial, keysLe_cons (by rw [hM0];rfl) trivial⟩, ?_⟩
  intro i hi
  have hml1:=hMl i
  by_cases hlt : i < Pk.length
  · obtain ⟨x, hx, _⟩:=drop_cons (l:=Pk) (i:=i) hlt
    have hMi:=hMs i x hx
    have hx7:=h7 x (List.mem_of_getElem? hx)
    have hxi:=hin x (List.mem_of_getElem? hx)
    have hxl : (x.map intA).length = x.length:=List.length_map ..
    have hml2 : (List.map intsA (M i)).length = (M i).length:=List.length_map ..
    have hOs:=fun j y (hy : x[j]? = some y)=>oneTo_succ (fr:=fr) hy
    have hO0 : oneTo fr x 0 = []:=rfl
    have hOl : ∀ j, (oneTo fr x j).length ≤ 7:=by intro j;unfold oneTo ofFree;rw [List.length_map, List.length_take];omega
    have hOe : oneTo fr x x.length = ofFree fr x:=by unfold oneTo;rw [List.take_length]
    rw [← hOe] at hMi
    generalize oneTo fr x = O at *
    conv=>whnf
    repeat (any_goals (first|exact falseI|((first|refine bd ?_ ?_|refine bn ?_ ?_)<;>intro _<;>first|(exfalso;omega)|conv=>whnf)|((first|refine dI ?_|refine okI ?_|refine bt ?_|refine bi (fun _=>?_) (fun _=>?_)|refine bndI ?_|intro _)<;>conv=>whnf)))
    refine loopTok 9 1 ⟨0, 27, 44⟩ ?_
    conv=>whnf
    intro gg _
    conv=>whnf
    refine loopK tabOk { l:=0, f:=27 } mixed (fun j : Nat=>[(10, intA j), (9, .slice 1 ((O j).map intA) (.own ⟨0, 27, 44⟩ (gg + 1)))]) (fun _=>[]) (fun j=>[(⟨0, 27, 44⟩, some (gg + 1, (O j).length))]) (fun j=>j ≤ x.length) (fun j=>x.length - j) 0 (by kernel_rfl)
      (Nat.zero_le _) ?_
    conv=>whnf
    refine ⟨⟨slotsLe_cons rfl (slotsLe_cons (by rw [hO0];rfl) trivial), trivial, keysLe_cons (by rw [hO0];rfl) trivial⟩, ?_⟩
    intro j hj
    have hol1:=hOl j
    have hol2 : (List.map intA (O j)).length = (O j).length:=List.length_map ..
    by_cases hlt2 : j < x.length
    · obtain ⟨y, hy, _⟩:=drop_cons (l:=x) (i:=j) hlt2
      have hyb:=hxi y (List.mem_of_getElem? hy)
      obtain ⟨z, hz, _⟩:=drop_cons (l:=fr) (i:=y.toNat) (by omega)
      have hOj:=hOs j y hy
      have hzd : fr.getD y.toNat 0 = z:=by rw [List.getD_eq_getElem?_getD, hz];rfl
      rw [hzd] at hOj
      conv=>whnf
      repeat (any_goals (first|exact falseI|((first|refine bd ?_ ?_|refine bn ?_ ?_)<;>intro _<;>first|(exfalso;omega)|conv=>whnf)|((first|refine optP_map hx rfl ?_|refine optP_map hy rfl ?_|refine optP_map hz (by omega) ?_|refine dI ?_|refine okI ?_|refine bt ?_|refine bi (fun _=>?_) (fun _=>?_)|refine bndI ?_|intro _)<;>conv=>whnf)))
      (refine ⟨j + 1, (by omega), (by omega), ?_⟩;(conv=>whnf);refine ⟨?_, ?_, ?_⟩<;>repeat (first|exact trivial|refine sc rfl ?_|refine kn ?_|refine kc rfl ?_|refine sc (by first|rfl|(rw [hOj, List.map_append];rfl)|(rw [hOj, List.length_append, ← hol2];rfl)) ?_|refine kc (by first|rfl|(rw [hOj, List.map_append];rfl)|(rw [hOj, List.length_append, ← hol2];rfl)) ?_))
    · have : j = x.length:=by omega
      subst this
      conv=>whnf
      repeat (any_goals (first|exact falseI|((first|refine bd ?_ ?_|refine bn ?_ ?_)<;>intro _<;>first|(exfalso;omega)|conv=>whnf)|((first|refine optP_map hx rfl ?_|refine dI ?_|refine okI ?_|refine bt ?_|refine bi (fun _=>?_) (fun _=>?_)|refine bndI ?_|intro _)<;>conv=>whnf)))
      (refine ⟨i + 1, (by omega), (by omega), ?_⟩;(conv=>whnf);refine ⟨?_, ?_, ?_⟩<;>repeat (first|exact trivial|refine sc rfl ?_|refine kn ?_|refine kc rfl ?_|refine sc (by first|rfl|(rw [hMi, List.map_append];rfl)|(rw [hMi, List.length_append, ← hml2];rfl)) ?_|refine kc (by first|rfl|(rw [hMi, List.map_append];rfl)|(rw [hMi, List.length_append, ← hml2];rfl)) ?_))
  · have : i = Pk.length:=by omega
    subst this
    conv=>whnf
    repeat (any_goals (first|exact falseI|((first|refine bd ?_ ?_|refine bn ?_ ?_)<;>intro _<;>first|(exfalso;omega)|conv=>whnf)|((first|refine dI ?_|refine okI ?_|refine bt ?_|refine bi (fun _=>?_) (fun _=>?_)|refine bndI ?_|intro _)<;>conv=>whnf)))
    (refine ⟨⟨?_⟩, trivial⟩;rfl)
end Go.Proofs.YtbpiibdcncfphaaGreatDoor
namespace Go.Proofs.YtbpiibdcncfphaaGreatDoor
open Go.Am Go.Proofs Go
theorem freeI_len (s : Store) : s.freeI.length ≤ s.heads.length:=pickTo_len ..
theorem rlists_c (s : Store) (h6 : s.heads.length ≤ 6) (many : Nat) (hm : many ≤ 7) : PureA Tryz.prog 27 [storeA s, intA many] (intssA (s.listsI many)):=by
  have hf:=freeI_len s
  have hb : s.freeI.length ≤ 6:=by omega
  have hp:=picks_c s.freeI.length hb many hm
  have e : (s.freeI.map intA).length = s.freeI.length:=List.length_map ..
  rw [← e] at hp
  rw [e] at hp
  have hp' : PureA Tryz.prog 59 [intA ((s.freeI.map intA).length : Int), intA many] (intssA (picksI s.freeI.length many)):=by rw [e];exact hp
  exact rlistsP_c s many s.freeI _ (free_c s h6) hp' (picks_len hb hm) (fun l hl=>(picks_at hb hm hl).1) fun l hl x hx=>picks_mem hb hm hl hx
def listsFrom (s : Store) (i : Nat) : Nat→List (List Int)
  | 0=>[]
  | f + 1=>s.listsI i++listsFrom s (i + 1) f
theorem listsFrom_eq (s : Store) : ∀ f i, listsFrom s i f = (List.range' i f).flatMap s.listsI
  | 0, i=>rfl
  | f + 1, i=>by rw [listsFrom, listsFrom_eq s f (i + 1), List.range'_succ, List.flatMap_cons]
theorem allI_from (s : Store) : s.allI = listsFrom s 0 (s.heads.length + 1):=by
  unfold Store.allI
  rw [listsAll_eq, listsFrom_eq, List.range_eq_range']
theorem listsI_sub {s : Store} {i : Nat} (hi : i ≤ s.heads.length) {l : List Int} (hl : l ∈ s.listsI i) : l ∈ s.allI:=by
  unfold Store.allI
  rw [listsAll_eq, List.mem_flatMap]
  exact ⟨i, List.mem_range.2 (by omega), hl⟩
theorem allI_at {s : Store} (h6 : s.heads.length ≤ 6) {l : List Int} (hl : l ∈ s.allI) : (∀ x ∈ l, 0 ≤ x∧x < s.heads.length)∧l.length ≤ 6:=by
  rw [allI_eq h6] at hl
  obtain ⟨n, hn, rfl⟩:=List.mem_map.1 hl
  have:=sorted_free h6 hn
  exact ⟨this.at_, this.len⟩
theorem listsI_len {s : Store} (h6 : s.heads.length ≤ 6) {i : Nat} (hi : i ≤ 7) : (s.listsI i).length ≤ 64:=by
  unfold Store.listsI
  rw [List.length_map]
  exact picks_len (by have:=freeI_len s;omega) hi
def Store.lok (s : Store) (l : List Int) : Bool:=(s.pour (s.baseOf l 0)).ok
def Store.rpour (s : Store) (L : List (List Int)) : List Int × Amt × Int:=match L.find? s.lok with
  | none=>([], zeroT, 9)
  | some l=>(l, (s.pour (s.baseOf l 0)).amt, 0)
theorem rpour_all {s : Store} (hc : s.check.2.2 = 0) : s.rpour s.allI = s.pourR:=by
  have h6:=(Store.good hc).len
  unfold Store.rpour Store.pourR
  rw [if_neg (fun h=>h hc), allI_eq h6, List.find?_map]
  have : s.lok ∘ setL = s.okAt 0:=rfl
  rw [this]
  cases s.sorted.find? (s.okAt 0)<;>rfl
theorem leastOk_c {s : Store} (hg : s.Good) {l : List Int} (hl : l ∈ s.allI) : PureA Tryz.prog 28 [storeA s, intsA l] (.tuple [amtA (s.pour (s.baseOf l 0)).amt, boolA (s.lok l)]):=by
  obtain ⟨h1, h2⟩:=allI_at hg.len hl
  have h:=least_c s l hg h2 h1
  rw [least_pour hg h2] at h
  exact h
end Go.Proofs.YtbpiibdcncfphaaGreatDoor
namespace Go.Proofs.YtbpiibdcncfphaaGreatDoor
open Go.Am Go.Proofs Go
def foundA (s : Store) : Option (List Int)→AV
  | none=>.tuple [nilS, amtA zeroT, intA 9]
  | some l=>.tuple [intsA l, amtA (s.pour (s.baseOf l 0)).amt, intA 0]
theorem find_cons {p : List Int→Bool} {x : List Int} {l : List (List Int)} {F : Option (List Int)} (h : F = (x :: l).find? p) : (p x = true∧F = some x)∨(p x = false∧F = l.find? p):=by
  rw [List.find?_cons] at h
  cases hp : p x with
  | true=>rw [hp] at h;exact .inl ⟨rfl, h⟩
  | false=>rw [hp] at h;exact .inr ⟨rfl, h⟩
set_option maxHeartbeats 2000000 in
theorem rpourT_c (s : Store) (hr : s.small) (hc : s.check.2.2 = 0) : PureA Tryz.prog 7 [storeA s] (foundA s (s.allI.find? s.lok)):=by
  have hk:=refCheck_c s hr
  have hg:=Store.good hc
  have h6:=hg.len
  unfold triA at hk
  rw [hc] at hk
  generalize s.check.1 = k1 at *
  generalize s.check.2.1 = k2 at *
  have hls:=fun (i : Nat) (hi : i ≤ s.heads.length)=>rlists_c s h6 i (by omega)
  have hle:=fun l (hl : l ∈ s.allI)=>leastOk_c hg hl
  have hsub:=fun (i : Nat) (hi : i ≤ s.heads.length) l (hl : l ∈ s.listsI i)=>listsI_sub hi hl
  have hll:=fun (i : Nat) (hi : i ≤ s.heads.length)=>listsI_len (s:=s) h6 (show i ≤ 7 by omega)
  have hF:=allI_from s
  obtain ⟨F, hFe⟩ : ∃ F, F = s.allI.find? s.lok:=⟨_, rfl⟩
  have hF0 : F = (listsFrom s 0 (s.heads.length + 1 - 0)).find? s.lok:=by rw [hFe, hF];rfl
  rw [← hFe]
  clear hFe hF hc
  have hhl : (s.heads.map headA).length = s.heads.length:=List.length_map ..
  refine pureA_codeB tabOk { l:=0, f:=7 } mixed call_7 Tryz.func7 (by kernel_rfl) ?_
  conv=>whnf
  repeat (any_goals (first|exact falseI|((first|refine bd ?_ ?_|refine bn ?_ ?_)<;>intro _<;>first|(exfalso;omega)|conv=>whnf)|((first|refine callP_a hk ?_|refine dI ?_|refine okI ?_|refine bt ?_|refine bi (fun _=>?_) (fun _=>?_)|refine bndI ?_|intro _)<;>conv=>whnf)))
  refine loopK tabOk { l:=0, f:=7 } mixed (fun i : Nat=>[(8, intA i)]) (fun _=>[]) (fun _=>[]) (fun i=>i ≤ s.heads.length + 1∧F = (listsFrom s i (s.heads.length + 1 - i)).find? s.lok) (fun i=>s.heads.length + 1 - i) 0 (by kernel_rfl)
    ⟨Nat.zero_le _, hF0⟩ ?_
  conv=>whnf
  refine ⟨⟨slotsLe_cons rfl trivial, trivial, trivial⟩, ?_⟩
  intro i ⟨hi, hFi⟩
  by_cases hlt : i ≤ s.heads.length
  · have hli:=hls i hlt
    have hsi:=hsub i hlt
    have hlli:=hll i hlt
    rw [show s.heads.length + 1 - i = (s.heads.length - i) + 1 by omega, listsFrom] at hFi
    have hnx : s.heads.length + 1 - (i + 1) = s.heads.length - i:=by omega
    have hLl : ((s.listsI i).map intsA).length = (s.listsI i).length:=List.length_map ..
    generalize s.listsI i = L at *
    generalize hRe : listsFrom s (i + 1) (s.heads.length - i) = R at *
    conv=>whnf
    repeat (any_goals (first|exact falseI|((first|refine bd ?_ ?_|refine bn ?_ ?_)<;>intro _<;>first|(exfalso;omega)|conv=>whnf)|((first|refine callP_a hli ?_|refine dI ?_|refine okI ?_|refine bt ?_|refine bi (fun _=>?_) (fun _=>?_)|refine bndI ?_|intro _)<;>conv=>whnf)))
    refine loopK tabOk { l:=0, f:=7 } mixed (fun j : Nat=>[(10, intA j)]) (fun _=>[]) (fun _=>[]) (fun j=>j ≤ L.length∧F = (L.drop j++R).find? s.lok) (fun j=>L.length - j) 0 (by kernel_rfl)
      ⟨Nat.zero_le _, hFi⟩ ?_
    conv=>whnf
    refine ⟨⟨slotsLe_cons rfl trivial, trivial, trivial⟩, ?_⟩
    intro j ⟨hj, hFj⟩
    by_cases hlt2 : j < L.length
    · obtain ⟨x, hx, hd⟩:=drop_cons (l:=L) (i:=j) hlt2
      have hlx:=hle x (hsi x (List.mem_of_getElem? hx))
      rw [hd, List.cons_append] at hFj
      rcases find_cons hFj with ⟨h1, h2⟩|⟨h1, h2⟩
      · rw [h1] at hlx
        rw [h2]
        unfold foundA
        simp only
        generalize (s.pour (s.baseOf x 0)).amt = P at *
        obtain ⟨P1, P2, P3⟩:=P
        conv=>whnf
        repeat (any_goals (first|exact falseI|((first|refine bd ?_ ?_|refine bn ?_ ?_)<;>intro _<;>first|(exfalso;omega)|conv=>whnf)|((first|refine optP_map hx rfl ?_|refine callP_a hlx ?_|refine dI ?_|refine okI ?_|refine bt ?_|refine bi (fun _=>?_) (fun _=>?_)|refine bndI ?_|intro _)<;>conv=>whnf)))
        (refine ⟨⟨?_⟩, trivial⟩;rfl)
      · rw [h1] at hlx
        generalize (s.pour (s.baseOf x 0)).amt = P at *
        obtain ⟨P1, P2, P3⟩:=P
        conv=>whnf
        repeat (any_goals (first|exact falseI|((first|refine bd ?_ ?_|refine bn ?_ ?_)<;>intro _<;>first|(exfalso;omega)|conv=>whnf)|((first|refine optP_map hx rfl ?_|refine callP_a hlx ?_|refine dI ?_|refine okI ?_|refine bt ?_|refine bi (fun _=>?_) (fun _=>?_)|refine bndI ?_|intro _)<;>conv=>whnf)))
        (refine ⟨j + 1, ⟨by omega, h2⟩, (by omega), ?_⟩;(conv=>whnf);refine ⟨?_, ?_, ?_⟩<;>repeat (first|exact trivial|refine sc rfl ?_|refine kn ?_|refine kc rfl ?_|refine sc (by rfl) ?_|refine kc (by rfl) ?_))
    · have : j = L.length:=by omega
      subst this
      rw [List.drop_length, List.nil_append] at hFj
      conv=>whnf
      repeat (any_goals (first|exact falseI|((first|refine bd ?_ ?_|refine bn ?_ ?_)<;>intro _<;>first|(exfalso;omega)|conv=>whnf)|((first|refine dI ?_|refine okI ?_|refine bt ?_|refine bi (fun _=>?_) (fun _=>?_)|refine bndI ?_|intro _)<;>conv=>whnf)))
      (refine ⟨i + 1, ⟨by omega, by rw [hnx, hRe];exact hFj⟩, (by omega), ?_⟩;(conv=>whnf);refine ⟨?_, ?_, ?_⟩<;>repeat (first|exact trivial|refine sc rfl ?_|refine kn ?_|refine kc rfl ?_|refine sc (by rfl) ?_|refine kc (by rfl) ?_))
  · have : i = s.heads.length + 1:=by omega
    subst this
    have hFn : F = none:=by rw [hFi, Nat.sub_self];rfl
    subst hFn
    conv=>whnf
    repeat (any_goals (first|exact falseI|((first|refine bd ?_ ?_|refine bn ?_ ?_)<;>intro _<;>first|(exfalso;omega)|conv=>whnf)|((first|refine dI ?_|refine okI ?_|refine bt ?_|refine bi (fun _=>?_) (fun _=>?_)|refine bndI ?_|intro _)<;>conv=>whnf)))
    (refine ⟨⟨?_⟩, trivial⟩;rfl)
end Go.Proofs.YtbpiibdcncfphaaGreatDoor
namespace Go.Proofs.YtbpiibdcncfphaaGreatDoor
open Go.Am Go.Proofs Go
theorem any_cons {p : List Int→Bool} {x : List Int} {l : List (List Int)} {F : Bool} (h : F = (x :: l).any p) : (p x = true∧F = true)∨(p x = false∧F = l.any p):=by
  rw [List.any_cons] at h
  cases hp : p x with
  | true=>rw [hp] at h;exact .inl ⟨rfl, h⟩
  | false=>rw [hp] at h;exact .inr ⟨rfl, by simpa using h⟩
set_option maxHeartbeats 2000000 in
theorem rsome_c (s : Store) (hg : s.Good) : PureA Tryz.prog 20 [storeA s] (boolA (s.allI.any s.lok)):=by
  have h6:=hg.len
  have hls:=fun (i : Nat) (hi : i ≤ s.heads.length)=>rlists_c s h6 i (by omega)
  have hle:=fun l (hl : l ∈ s.allI)=>leastOk_c hg hl
  have hsub:=fun (i : Nat) (hi : i ≤ s.heads.length) l (hl : l ∈ s.listsI i)=>listsI_sub hi hl
  have hll:=fun (i : Nat) (hi : i ≤ s.heads.length)=>listsI_len (s:=s) h6 (show i ≤ 7 by omega)
  have hF:=allI_from s
  obtain ⟨F, hFe⟩ : ∃ F : Bool, F = s.allI.any s.lok:=⟨_, rfl⟩
  have hF0 : F = (listsFrom s 0 (s.heads.length + 1 - 0)).any s.lok:=by rw [hFe, hF];rfl
  rw [← hFe]
  clear hFe hF
  have hhl : (s.heads.map headA).length = s.heads.length:=List.length_map ..
  refine pureA_codeB tabOk { l:=0, f:=20 } mixed call_20 Tryz.func20 (by kernel_rfl) ?_
  conv=>whnf
  refine loopK tabOk { l:=0, f:=20 } mixed (fun i : Nat=>[(3, intA i)]) (fun _=>[]) (fun _=>[]) (fun i=>i ≤ s.heads.length + 1∧F = (listsFrom s i (s.heads.length + 1 - i)).any s.lok) (fun i=>s.heads.length + 1 - i) 0 (by kernel_rfl)
    ⟨Nat.zero_le _, hF0⟩ ?_
  conv=>whnf
  refine ⟨⟨slotsLe_cons rfl trivial, trivial, trivial⟩, ?_⟩
  intro i ⟨hi, hFi⟩
  by_cases hlt : i ≤ s.heads.length
  · have hli:=hls i hlt
    have hsi:=hsub i hlt
    have hlli:=hll i hlt
    rw [show s.heads.length + 1 - i = (s.heads.length - i) + 1 by omega, listsFrom] at hFi
    have hnx : s.heads.length + 1 - (i + 1) = s.heads.length - i:=by omega
    have hLl : ((s.listsI i).map intsA).length = (s.listsI i).length:=List.length_map ..
    generalize s.listsI i = L at *
    generalize hRe : listsFrom s (i + 1) (s.heads.length - i) = R at *
    conv=>whnf
    repeat (any_goals (first|exact falseI|((first|refine bd ?_ ?_|refine bn ?_ ?_)<;>intro _<;>first|(exfalso;omega)|conv=>whnf)|((first|refine callP_a hli ?_|refine dI ?_|refine okI ?_|refine bt ?_|refine bi (fun _=>?_) (fun _=>?_)|refine bndI ?_|intro _)<;>conv=>whnf)))
    refine loopK tabOk { l:=0, f:=20 } mixed (fun j : Nat=>[(5, intA j)]) (fun _=>[]) (fun _=>[]) (fun j=>j ≤ L.length∧F = (L.drop j++R).any s.lok) (fun j=>L.length - j) 0 (by kernel_rfl)
      ⟨Nat.zero_le _, hFi⟩ ?_
    conv=>whnf
    refine ⟨⟨slotsLe_cons rfl trivial, trivial, trivial⟩, ?_⟩
    intro j ⟨hj, hFj⟩
    by_cases hlt2 : j < L.length
    · obtain ⟨x, hx, hd⟩:=drop_cons (l:=L) (i:=j) hlt2
      have hlx:=hle x (hsi x (List.mem_of_getElem? hx))
      rw [hd, List.cons_append] at hFj
      rcases any_cons hFj with ⟨h1, h2⟩|⟨h1, h2⟩
      · rw [h1] at hlx
        rw [h2]
        generalize (s.pour (s.baseOf x 0)).amt = P at *
        obtain ⟨P1, P2, P3⟩:=P
        conv=>whnf
        repeat (any_goals (first|exact falseI|((first|refine bd ?_ ?_|refine bn ?_ ?_)<;>intro _<;>first|(exfalso;omega)|conv=>whnf)|((first|refine optP_map hx rfl ?_|refine callP_a hlx ?_|refine dI ?_|refine okI ?_|refine bt ?_|refine bi (fun _=>?_) (fun _=>?_)|refine bndI ?_|intro _)<;>conv=>whnf)))
        (refine ⟨⟨?_⟩, trivial⟩;rfl)
      · rw [h1] at hlx
        generalize (s.pour (s.baseOf x 0)).amt = P at *
        obtain ⟨P1, P2, P3⟩:=P
        conv=>whnf
        repeat (any_goals (first|exact falseI|((first|refine bd ?_ ?_|refine bn ?_ ?_)<;>intro _<;>first|(exfalso;omega)|conv=>whnf)|((first|refine optP_map hx rfl ?_|refine callP_a hlx ?_|refine dI ?_|refine okI ?_|refine bt ?_|refine bi (fun _=>?_) (fun _=>?_)|refine bndI ?_|intro _)<;>conv=>whnf)))
        (refine ⟨j + 1, ⟨by omega, h2⟩, (by omega), ?_⟩;(conv=>whnf);refine ⟨?_, ?_, ?_⟩<;>repeat (first|exact trivial|refine sc rfl ?_|refine kn ?_|refine kc rfl ?_|refine sc (by rfl) ?_|refine kc (by rfl) ?_))
    · have : j = L.length:=by omega
      subst this
      rw [List.drop_length, List.nil_append] at hFj
      conv=>whnf
      repeat (any_goals (first|exact falseI|((first|refine bd ?_ ?_|refine bn ?_ ?_)<;>intro _<;>first|(exfalso;omega)|conv=>whnf)|((first|refine dI ?_|refine okI ?_|refine bt ?_|refine bi (fun _=>?_) (fun _=>?_)|refine bndI ?_|intro _)<;>conv=>whnf)))
      (refine ⟨i + 1, ⟨by omega, by rw [hnx, hRe];exact hFj⟩, (by omega), ?_⟩;(conv=>whnf);refine ⟨?_, ?_, ?_⟩<;>repeat (first|exact trivial|refine sc rfl ?_|refine kn ?_|refine kc rfl ?_|refine sc (by rfl) ?_|refine kc (by rfl) ?_))
  · have : i = s.heads.length + 1:=by omega
    subst this
    have hFn : F = false:=by rw [hFi, Nat.sub_self];rfl
    subst hFn
    conv=>whnf
    repeat (any_goals (first|exact falseI|((first|refine bd ?_ ?_|refine bn ?_ ?_)<;>intro _<;>first|(exfalso;omega)|conv=>whnf)|((first|refine dI ?_|refine okI ?_|refine bt ?_|refine bi (fun _=>?_) (fun _=>?_)|refine bndI ?_|intro _)<;>conv=>whnf)))
    (refine ⟨⟨?_⟩, trivial⟩;rfl)
end Go.Proofs.YtbpiibdcncfphaaGreatDoor
namespace Go.Proofs.YtbpiibdcncfphaaGreatDoor
open Go.Am Go.Proofs Go
def doTo (s : Store) (i : Nat) (L : List (List Int)) (j : Nat) : List (List Int):=(listsAll s i++L.take j).filter s.lok
theorem doTo_zero (s : Store) (i : Nat) (L : List (List Int)) : doTo s i L 0 = (listsAll s i).filter s.lok:=by unfold doTo;rw [List.take_zero, List.append_nil]
theorem doTo_all (s : Store) (i : Nat) : doTo s i (s.listsI i) (s.listsI i).length = (listsAll s (i + 1)).filter s.lok:=by unfold doTo;rw [List.take_length];rfl
theorem doTo_succ {s : Store} {i : Nat} {L : List (List Int)} {j : Nat} {x : List Int} (h : L[j]? = some x) : doTo s i L (j + 1) = doTo s i L j++(if s.lok x = true then [x] else []):=by
  unfold doTo
  rw [List.take_add_one, h, ← List.append_assoc, List.filter_append]
  congr 1
  simp only [Option.toList_some, List.filter_cons, List.filter_nil]
theorem listsAll_len {s : Store} (h6 : s.heads.length ≤ 6) : ∀ i, i ≤ 8→(listsAll s i).length ≤ 64 * i
  | 0, _=>by simp [listsAll]
  | i + 1, hi=>by
    have:=listsAll_len h6 i (by omega)
    have:=listsI_len (s:=s) h6 (i:=i) (by omega)
    rw [listsAll, List.length_append]
    omega
theorem doTo_len {s : Store} (h6 : s.heads.length ≤ 6) {i : Nat} (hi : i ≤ 8) {L : List (List Int)} (hL : L.length ≤ 64) (j : Nat) : (doTo s i L j).length ≤ 1000:=by
  have:=listsAll_len h6 i hi
  unfold doTo
  refine Nat.le_trans (List.length_filter_le ..) ?_
  rw [List.length_append, List.length_take]
  omega
set_option maxHeartbeats 2000000 in
theorem rall_c (s : Store) (hg : s.Good) : PureA Tryz.prog 30 [storeA s] (intssA (s.allI.filter s.lok)):=by
  have h6:=hg.len
  have hls:=fun (i : Nat) (hi : i ≤ s.heads.length)=>rlists_c s h6 i (by omega)
  have hle:=fun l (hl : l ∈ s.allI)=>leastOk_c hg hl
  have hsub:=fun (i : Nat) (hi : i ≤ s.heads.length) l (hl : l ∈ s.listsI i)=>listsI_sub hi hl
  have hll:=fun (i : Nat) (hi : i ≤ s.heads.length)=>listsI_len (s:=s) h6 (show i ≤ 7 by omega)
  have hhl : (s.heads.map headA).length = s.heads.length:=List.length_map ..
  have hda:=doTo_all s
  have hdz:=doTo_zero s
  have hds:=fun i L j x (hx : L[j]? = some x)=>doTo_succ (s:=s) (i:=i) hx
  have hdl:=fun i (hi : i ≤ 8) L hL j=>doTo_len (s:=s) h6 hi (L:=L) hL j
  show PureA _ _ _ (intssA ((listsAll s (s.heads.length + 1)).filter s.lok))
  have hN0 : (listsAll s 0).filter s.lok = []:=rfl
  obtain ⟨N, hNe⟩ : ∃ N : Nat→List (List Int), N = fun i=>(listsAll s i).filter s.lok:=⟨_, rfl⟩
  have hNj : ∀ i, (listsAll s i).filter s.lok = N i:=fun i=>by rw [hNe]
  simp only [hNj] at hN0 hda hdz ⊢
  clear hNj hNe
  generalize doTo s = D at *
  refine pureA_codeB tabOk { l:=0, f:=30 } mixed call_30 Tryz.func30 (by kernel_rfl) ?_
  conv=>whnf
  refine loopTok 3 1 ⟨0, 30, 41⟩ ?_
  conv=>whnf
  refine loopK tabOk { l:=0, f:=30 } mixed (fun i : Nat=>[(4, intA i), (3, .slice 1 ((N i).map intsA) (.own ⟨0, 30, 41⟩ 1))]) (fun _=>[]) (fun i=>[(⟨0, 30, 41⟩, some (1, (N i).length))]) (fun i=>i ≤ s.heads.length + 1) (fun i=>s.heads.length + 1 - i) 0 (by kernel_rfl)
    (Nat.zero_le _) ?_
  conv=>whnf
  refine ⟨⟨slotsLe_cons rfl (slotsLe_cons (by rw [hN0];rfl) trivial), trivial, keysLe_cons (by rw [hN0];rfl) trivial⟩, ?_⟩
  intro i hi
  by_cases hlt : i ≤ s.heads.length
  · have hli:=hls i hlt
    have hsi:=hsub i hlt
    have hlli:=hll i hlt
    have hdi:=hda i
    have hdl:=hdl i (by omega) (s.listsI i) hlli
    have hds:=hds i (s.listsI i)
    have hdz:=hdz i (s.listsI i)
    have hLl : ((s.listsI i).map intsA).length = (s.listsI i).length:=List.length_map ..
    generalize s.listsI i = L at *
    generalize D i L = E at *
    clear hda hls hsub hll
    rw [← hdz]
    conv=>whnf
    repeat (any_goals (first|exact falseI|((first|refine bd ?_ ?_|refine bn ?_ ?_)<;>intro _<;>first|(exfalso;omega)|conv=>whnf)|((first|refine callP_a hli ?_|refine dI ?_|refine okI ?_|refine bt ?_|refine bi (fun _=>?_) (fun _=>?_)|refine bndI ?_|intro _)<;>conv=>whnf)))
    refine loopK tabOk { l:=0, f:=30 } mixed (fun j : Nat=>[(6, intA j), (3, .slice 1 ((E j).map intsA) (.own ⟨0, 30, 41⟩ 1))]) (fun _=>[]) (fun j=>[(⟨0, 30, 41⟩, some (1, (E j).length))]) (fun j=>j ≤ L.length) (fun j=>L.length - j) 0 (by kernel_rfl)
      (Nat.zero_le _) ?_
    conv=>whnf
    refine ⟨⟨slotsLe_cons rfl (slotsLe_cons rfl trivial), trivial, keysLe_cons rfl trivial⟩, ?_⟩
    intro j hj
    have hel:=hdl j
    have hel2 : (List.map intsA (E j)).length = (E j).length:=List.length_map ..
    by_cases hlt2 : j < L.length
    · obtain ⟨x, hx, _⟩:=drop_cons (l:=L) (i:=j) hlt2
      have hlx:=hle x (hsi x (List.mem_of_getElem? hx))
      have hEj:=hds j x hx
      generalize (s.pour (s.baseOf x 0)).amt = P at *
      obtain ⟨P1, P2, P3⟩:=P
      generalize s.lok x = b at *
      cases b with
      | true =>
        simp only [if_true] at hEj
        conv=>whnf
        repeat (any_goals (first|exact falseI|((first|refine bd ?_ ?_|refine bn ?_ ?_)<;>intro _<;>first|(exfalso;omega)|conv=>whnf)|((first|refine optP_map hx rfl ?_|refine callP_a hlx ?_|refine dI ?_|refine okI ?_|refine bt ?_|refine bi (fun _=>?_) (fun _=>?_)|refine bndI ?_|intro _)<;>conv=>whnf)))
        (refine ⟨j + 1, (by omega), (by omega), ?_⟩;(conv=>whnf);refine ⟨?_, ?_, ?_⟩<;>repeat (first|exact trivial|refine sc rfl ?_|refine kn ?_|refine kc rfl ?_|refine sc (by first|rfl|(rw [hEj, List.map_append];rfl)|(rw [hEj, List.length_append, ← hel2];rfl)) ?_|refine kc (by first|rfl|(rw [hEj, List.map_append];rfl)|(rw [hEj, List.length_append, ← hel2];rfl)) ?_))
      | false =>
        simp only [Bool.false_eq_true, if_false, List.append_nil] at hEj
        conv=>whnf
        repeat (any_goals (first|exact falseI|((first|refine bd ?_ ?_|refine bn ?_ ?_)<;>intro _<;>first|(exfalso;omega)|conv=>whnf)|((first|refine optP_map hx rfl ?_|refine callP_a hlx ?_|refine dI ?_|refine okI ?_|refine bt ?_|refine bi (fun _=>?_) (fun _=>?_)|refine bndI ?_|intro _)<;>conv=>whnf)))
        (refine ⟨j + 1, (by omega), (by omega), ?_⟩;(conv=>whnf);refine ⟨?_, ?_, ?_⟩<;>repeat (first|exact trivial|refine sc rfl ?_|refine kn ?_|refine kc rfl ?_|refine sc (by first|rfl|(rw [hEj];rfl)) ?_|refine kc (by first|rfl|(rw [hEj];rfl)) ?_))
    · have : j = L.length:=by omega
      subst this
      conv=>whnf
      repeat (any_goals (first|exact falseI|((first|refine bd ?_ ?_|refine bn ?_ ?_)<;>intro _<;>first|(exfalso;omega)|conv=>whnf)|((first|refine dI ?_|refine okI ?_|refine bt ?_|refine bi (fun _=>?_) (fun _=>?_)|refine bndI ?_|intro _)<;>conv=>whnf)))
      (refine ⟨i + 1, (by omega), (by omega), ?_⟩;(conv=>whnf);refine ⟨?_, ?_, ?_⟩<;>repeat (first|exact trivial|refine sc rfl ?_|refine kn ?_|refine kc rfl ?_|refine sc (by first|rfl|(rw [← hdi];rfl)) ?_|refine kc (by first|rfl|(rw [← hdi];rfl)) ?_))
  · have : i = s.heads.length + 1:=by omega
    subst this
    conv=>whnf
    repeat (any_goals (first|exact falseI|((first|refine bd ?_ ?_|refine bn ?_ ?_)<;>intro _<;>first|(exfalso;omega)|conv=>whnf)|((first|refine dI ?_|refine okI ?_|refine bt ?_|refine bi (fun _=>?_) (fun _=>?_)|refine bndI ?_|intro _)<;>conv=>whnf)))
    (refine ⟨⟨?_⟩, trivial⟩;rfl)
end Go.Proofs.YtbpiibdcncfphaaGreatDoor
