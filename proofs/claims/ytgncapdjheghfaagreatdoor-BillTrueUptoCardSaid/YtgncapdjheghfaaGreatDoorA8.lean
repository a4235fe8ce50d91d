/- Part 8 of the texts that the last one stands on. -/
import Derived.Shelf.Strings.Builder1
import Derived.Laws.Slices
import Derived.Test.YtgncapdjheghfaaGreatDoorA7
set_option linter.unusedVariables false
set_option linter.unusedSimpArgs false
namespace Go.Am
open Go.Shelf Go.RowKit Go.Proofs
variable {P:Program} {ρ:Ren}
def JP(r:Nat)(w w':World):Prop:=(∀b',b'≠r→w'.heap[b']?=w.heap[b']?)∧w'.heap.size=w.heap.size∧w'.os=w.os∧w'.tape=w.tape∧w'.output=w.output
theorem zi(r:Nat)(n:Nat)(w:World):JP r w (w.drew.freeze ⟨r,0,none⟩ n):=by
 unfold World.freeze
 split
 ·exact⟨fun _ _=>rfl,rfl,rfl,rfl,rfl⟩
 ·refine⟨fun b' hb=>?_,by simp,rfl,rfl,rfl⟩
  simp only[Array.getElem?_modify]
  rw[if_neg (by simpa using fun e=>hb e.symm)]
  rfl
set_option maxHeartbeats 2000000 in
set_option maxRecDepth 100000 in
theorem zU(L:Lays.n169 P ρ)(X:Builder.Extra P ρ){b g cap:Nat}{p:Value}{cur:Array Value}{w:World}{s:ByteArray}(h0:s.size≠0)(hbk:w.heap[b]?=some (.cells #[p,.slice (some ⟨g,0,none⟩) s.size cap] (ρ.t 72) (0,0)))(hbg:w.heap[g]?=some (.cells cur (ρ.t 5) (0,0)))
  (hnc:s.size≤cap) (hcm:cap≤maxLen) (hcs:cap≤cur.size) (hcells:∀(j:Nat) (x:UInt8),s.data.toList[j]?=some x→cur[j]?=some (.int .u8 x.toNat)) :
  Calls P (ρ.f 169) #[.pointer (some ⟨b,0,none⟩)] w fun e w'=>e = .returned (.string s)∧JP g w w':=by
 obtain⟨⟨l⟩⟩:=s
 change l.length≠0 at h0
 change l.length≤cap at hnc
 change w.heap[b]?=some (.cells #[p,.slice (some ⟨g,0,none⟩) l.length cap] (ρ.t 72) (0,0))at hbk
 change ∀(j:Nat) (x:UInt8),l[j]?=some x→cur[j]?=some (.int .u8 x.toNat)at hcells
 have hne:l≠[]:=fun e=>h0 (by rw[e];rfl)
 have c1:w.drew.cell? ⟨b,1,none⟩=some (.slice (some ⟨g,0,none⟩) l.length cap):=by
  have:w.drew.heap[b]?=some (.cells #[p,.slice (some ⟨g,0,none⟩) l.length cap] (ρ.t 72) (0,0)):=hbk
  rw[Lib.cell_of_heap this];rfl
 have hSD:(Builtin.unsafeSliceData_ #[(ρ.t 37)] (ρ.t 127) #[.slice (some ⟨g,0,none⟩) l.length cap]).run P w.drew = .ok (.pointer (some ⟨g,0,none⟩)) w.drew :=
  Lib.run_unsafeSliceData_row _ _ _ _ _ _ (by omega)
 have hUS:(Builtin.unsafeString_ #[(ρ.t 127),(ρ.t 3)] (ρ.t 9) #[.pointer (some ⟨g,0,none⟩),.int .i64 l.length]).run P w.drew = .ok (.string ⟨l.toArray⟩) (w.drew.freeze ⟨g,0,none⟩ l.length):=by
  refine Lib.run_unsafeString_row w.drew (ρ.t 127) (ρ.t 3) (ρ.t 9) (ρ.t 5) L.t127 X.cellsByte g cur.size (by have hg':w.drew.heap[g]?=some (.cells cur (ρ.t 5) (0,0)):=hbg;simp[World.shape?,hg']) l hne (by omega) (by unfold maxLen at hcm;omega) ?_
  intro j x hx
  have:=hcells j x hx
  have hg':w.drew.heap[g]?=some (.cells cur (ρ.t 5) (0,0)):=hbg
  rw[show(⟨g,0,none⟩:Addr).add j=⟨g,j,none⟩ by cases j<;>simp[Addr.add],Lib.cell_of_heap hg']
  exact this
 have mixed:=L.mixed
 have t72:=L.t72;have a72:=L.a72;have z72:=L.z72;have v72:=L.v72;have u72:=run_underlying L.t72
 have t70:=L.t70;have a70:=L.a70;have z70:=L.z70;have v70:=L.v70;have u70:=run_underlying L.t70
 have t37:=L.t37;have a37:=L.a37;have z37:=L.z37;have v37:=L.v37;have u37:=run_underlying L.t37
 have t127:=L.t127;have a127:=L.a127;have z127:=L.z127;have v127:=L.v127;have u127:=run_underlying L.t127
 have t3:=L.t3;have a3:=L.a3;have z3:=L.z3;have v3:=L.v3;have u3:=run_underlying L.t3
 have t9:=L.t9;have a9:=L.a9;have z9:=L.z9;have v9:=L.v9;have u9:=run_underlying L.t9
 have t5:=X.t5;have a5:=X.a5;have z5:=X.z5;have v5:=X.v5;have u5:=run_underlying X.t5
 clear hcells hcs hne hbg
 go_enter L.f169,Body.n169_ntmps ρ
 go_wp2
 go_region_o
 all_goals(go_wp2;go_ret;exact⟨rfl,zi ..⟩)
set_option maxHeartbeats 2000000 in
set_option maxRecDepth 100000 in
theorem re(L:Lays.n169 P ρ)(X:Builder.Extra P ρ){b:Nat}{p:Value}{w:World}(hbk:w.heap[b]?=some (.cells #[p,.slice none 0 0] (ρ.t 72) (0,0))) :
  Calls P (ρ.f 169) #[.pointer (some ⟨b,0,none⟩)] w fun e w'=>e = .returned (.string ⟨#[]⟩)∧w'.heap=w.heap∧w'.os=w.os∧w'.tape=w.tape∧w'.output=w.output:=by
 have hUS:=Any.unsafeString_none L X
 have c1:w.drew.cell? ⟨b,1,none⟩=some (.slice none 0 0):=by
  have:w.drew.heap[b]?=some (.cells #[p,.slice none 0 0] (ρ.t 72) (0,0)):=hbk
  rw[Lib.cell_of_heap this];rfl
 have hSD:(Builtin.unsafeSliceData_ #[(ρ.t 37)] (ρ.t 127) #[.slice none 0 0]).run P w.drew = .ok (.pointer none) w.drew:=rfl
 have mixed:=L.mixed
 have t72:=L.t72;have a72:=L.a72;have z72:=L.z72;have v72:=L.v72;have u72:=run_underlying L.t72
 have t70:=L.t70;have a70:=L.a70;have z70:=L.z70;have v70:=L.v70;have u70:=run_underlying L.t70
 have t37:=L.t37;have a37:=L.a37;have z37:=L.z37;have v37:=L.v37;have u37:=run_underlying L.t37
 have t127:=L.t127;have a127:=L.a127;have z127:=L.z127;have v127:=L.v127;have u127:=run_underlying L.t127
 have t3:=L.t3;have a3:=L.a3;have z3:=L.z3;have v3:=L.v3;have u3:=run_underlying L.t3
 have t9:=L.t9;have a9:=L.a9;have z9:=L.z9;have v9:=L.v9;have u9:=run_underlying L.t9
 have t5:=X.t5;have a5:=X.a5;have z5:=X.z5;have v5:=X.v5;have u5:=run_underlying X.t5
 go_enter L.f169,Body.n169_ntmps ρ
 go_wp2
 go_region_o
 all_goals(go_wp2;go_ret;exact⟨rfl,rfl,rfl,rfl,rfl⟩)
theorem r8{f:FuncId}{T:TypeId}{k:Key}{g:Nat}{p:AV}(hl:k.l=1000+2 * T)(hc:ak P f)
  (hrun:∀(b:Nat) (y0:Value) (w:World),w.heap[b]?=some (.cells #[y0,.slice none 0 0] T (0,0))→Calls P f #[.pointer (some ⟨b,0,none⟩)] w fun e w'=>e = .returned (.string ⟨#[]⟩)∧w'.heap=w.heap∧w'.os=w.os∧w'.tape=w.tape∧w'.output=w.output) :
  BoxA P (.fn f) [(k,g,2,[.agg [p,.v (.slice none 0 0)]])] [.ptr k g 2 0 0] (.v (.string ⟨#[]⟩)) [(k,g,2,[.agg [p,.v (.slice none 0 0)]])]:=by
 refine⟨hc,fun C w cargs hR hown hk=>?_⟩
 obtain⟨y,rfl,hy⟩:=ka hk
 obtain⟨hgb,o,y0,y1,hh,⟨h0,_⟩,h1,h2⟩:=qT (k:=k) hl hR (g:=g) (p:=p) (x:= .v (.slice none 0 0)) (by simp[cA])
 obtain rfl:=oe hR hgb hy
 obtain rfl:y1 = .slice none 0 0:=h1.val (z:= .slice none 0 0) rfl
 refine Calls.mono (hrun _ _ w hh) fun e w' ⟨he,hheap,hos,ht,hout⟩=>?_
 obtain⟨hle,hR2⟩:=hR.world (w':=w') hheap hos ht hout
 refine⟨_,_,_,he,hle,hR2,.pure (.v _),fun p hp=>?_⟩
 rcases List.mem_singleton.1 hp with rfl
 simp[fM,cA]
theorem jf{f:FuncId}{T:TypeId}{k kr:Key}{g gr sz:Nat}{x:AV}{es:List AV}(hl:k.l=1000+2 * T)(hkk:¬kr=k)(hc:ak P f)
  (hrun:∀(b:Nat) (y:Value) (w:World),w.heap[b]?=some (.cells #[.pointer (some ⟨b,0,none⟩),y] T (0,0))→Calls P f #[.pointer (some ⟨b,0,none⟩)] w fun e w'=>e = .returned (.tuple #[])∧w'=w) :
  BoxA P (.fn f) [(k,g,2,[.agg [.ptr k g 2 0 0,x]]),(kr,gr,sz,es)] [.ptr k g 2 0 0] (.tuple []) [(k,g,2,[.agg [.ptr k g 2 0 0,x]]),(kr,gr,sz,es)]:=by
 refine⟨hc,fun C w cargs hR hown hk=>?_⟩
 obtain⟨y,rfl,hy⟩:=ka hk
 obtain⟨hgb,o,y0,y1,hh,⟨h0,_⟩,h1,h2⟩:=qT (k:=k) hl hR (g:=g) (p:= .ptr k g 2 0 0) (x:=x) (by simp[cA])
 obtain rfl:=oe hR hgb hy
 obtain rfl:=oe hR hgb h0
 refine Calls.mono (hrun _ _ w hh) fun e w' ⟨he,hw'⟩=>?_
 subst hw'
 refine⟨_,_,C,he,Ctx.le.refl C,hR,.tuple (by rfl) (fun i x y hx=>by simp at hx),fun p hp=>?_⟩
 simp only[List.mem_cons,List.not_mem_nil,or_false]at hp
 rcases hp with rfl|rfl
 ·simp[fM,cA]
 ·simp[fM,cA,hkk]
end Go.Am
namespace Go.Proofs.YtgncapdjheghfaaGreatDoor
open Go.Am Go.Proofs Go Go.RowKit
theorem uC{w:World}{imm:Nat→Nat→Prop}{x y:Value}(h:PRel w imm (.v x) y):y=x:=by cases h;rfl
theorem A5{w:World}{imm:Nat→Nat→Prop}{x:AV}{ys:Array Value}(h:m6 w imm [x] ys):∃y,ys=#[y]∧PRel w imm x y:=by
 obtain⟨h1,h2⟩:=h
 obtain⟨l⟩:=ys
 obtain⟨y,rfl⟩:=List.length_eq_one_iff.1 (by simpa using h1)
 exact⟨y,rfl,h2 0 x y rfl rfl⟩
theorem t8{w:World}{imm:Nat→Nat→Prop}{x z:AV}{ys:Array Value}(h:m6 w imm [x,z] ys):∃y u,ys=#[y,u]∧PRel w imm x y∧PRel w imm z u:=by
 obtain⟨h1,h2⟩:=h
 obtain⟨l⟩:=ys
 match l,h1 with
 | [y,u],_=>exact⟨y,u,rfl,h2 0 x y rfl rfl,h2 1 z u rfl rfl⟩
 | [],h1=>simp at h1
 | [_],h1=>simp at h1
 | _::_::_::_,h1=>simp at h1
theorem Eu{P:Program}{f:FuncId}{x r:Value}(hc:ak P f)(h:∀w,Calls P f #[x] w fun e w'=>e = .returned r∧w'=w):PureA P f [.v x] (.v r):=by
 refine⟨hc,fun w imm cargs hi hp=>?_⟩
 obtain⟨y,rfl,hy⟩:=A5 hp
 obtain rfl:=uC hy
 refine(h w).mono ?_
 rintro e w' ⟨rfl,rfl⟩
 exact⟨_,imm,rfl,fun b i hb=>⟨hi.lt b i hb,fun _=>hb⟩,.v _,Below.refl _ _⟩
theorem xO{P:Program}{f:FuncId}{x z r:Value}(hc:ak P f)(h:∀w,Calls P f #[x,z] w fun e w'=>e = .returned r∧w'=w):PureA P f [.v x,.v z] (.v r):=by
 refine⟨hc,fun w imm cargs hi hp=>?_⟩
 obtain⟨y,u,rfl,hy,hu⟩:=t8 hp
 obtain rfl:=uC hy
 obtain rfl:=uC hu
 refine(h w).mono ?_
 rintro e w' ⟨rfl,rfl⟩
 exact⟨_,imm,rfl,fun b i hb=>⟨hi.lt b i hb,fun _=>hb⟩,.v _,Below.refl _ _⟩
def aK(l:Bs):ByteArray:=⟨l.toArray⟩
theorem eK(l:Bs):bytes (aK l)=l:=rfl
theorem zx(s:ByteArray):aK (bytes s)=s:=rfl
theorem yd:∀n:Nat,n<10→Lib.decDigits n=num n:=by
 intro n hn
 unfold Lib.decDigits
 rw[dif_pos hn]
 unfold num
 rw[Int.toNat_natCast]
theorem dh(n:Int)(h:0≤n∧n≤9):PureA Tryz.prog 111 [aj n] (aO (aK (num n))):=by
 obtain⟨k,rfl⟩:∃k:Nat,n=k:=⟨n.toNat,by omega⟩
 refine Eu FF fun w=>?_
 rw[←yd k (by omega)]
 exact Any.strconv_Itoa_small G4 k (by omega) w
theorem uH(s:ByteArray)(c:Nat):PureA Tryz.prog 135 [aO s,.v (.int .u8 c)] (aj (Lib.indexByte s.data.toList (c:Int).toNat.toUInt8)) :=
 xO FT fun w=>Any.stringslite_IndexByte It s c w
theorem Kf(s p:ByteArray)(hs:s.size≤1048576):PureA Tryz.prog 83 [aO s,aO p] (aO (aK (Lib.trimSuffix s.data.toList p.data.toList))) :=
 xO I6 fun w=>Any.strings_TrimSuffix I5 s p w (by omega)
set_option maxRecDepth 100000 in
theorem Kd(xs:List ByteArray)(sep:ByteArray)(hne:xs≠[])(hn:xs.length≤1000)(hl:(Lib.join (xs.map (·.data.toList)) sep.data.toList).length≤100000000) :
  PureA Tryz.prog 133 [FX xs,aO sep] (aO (aK (Lib.join (xs.map (·.data.toList)) sep.data.toList))):=by
 refine⟨Fo,fun w imm cargs hi hp=>?_⟩
 obtain⟨y,u,rfl,hy,hu⟩:=t8 hp
 obtain rfl:=uC hu
 cases xs with
 | nil=>exact absurd rfl hne
 | cons x xs =>
  cases hy with
  | @slice sz es tok b off cap ys hcap ht hm hsz hc hq =>
   have hcell:∀(j:Nat) z,(x::xs)[j]?=some z→w.cell? ⟨b,off+j,none⟩=some (.string z)∧imm b (off+j):=by
    intro j z hz
    have e:((x::xs).map aO)[j]?=some (aO z):=by rw[List.getElem?_map,hz];rfl
    obtain⟨h1,h2,_⟩:=hc j (aO z) 0 (aO z) e rfl
    have:=uC (hq j (aO z) 0 (aO z) e rfl)
    rw[this]at h1
    simp only[Nat.mul_one,Nat.add_zero]at h1 h2
    exact⟨h1,h2⟩
   have hb:=hi.lt _ _ (hcell 0 x rfl).2
   have hlen:((x::xs).map aO).length=(x::xs).length:=List.length_map ..
   have hN:(x::xs).length≤140737488355328:=Nat.le_trans hn (by decide)
   have hC:(x::xs).length≤cap:=hlen▸hcap
   have hL:(Lib.join ((x::xs).map (·.data.toList)) sep.data.toList).length≤140737488355328:=Nat.le_trans hl (by decide)
   have hz:∀(j:Nat) z,(x::xs)[j]?=some z→w.cell? ⟨b,off+j,none⟩=some (.string z):=fun j z hz=>(hcell j z hz).1
   rw[hlen]
   clear hcell hc hq hm hcap hsz hlen hn hl
   generalize x::xs=l at *
   have:=Any.strings_Join pn kM b off cap l sep w hz hb hN hC hL
   refine this.mono ?_
   rintro e w' ⟨rfl,hbel⟩
   refine⟨_,fun b i=>b<w.heap.size∧imm b i,rfl,fun b i hb=>⟨?_,fun _=>hb.2⟩,.v _,hbel⟩
   have:=hbel.size
   omega
theorem ww{k:Key}{g:Nat}{x:AV}(hl:k.l=1000+2 * 149) :
  BoxA Tryz.prog (.fn 132) [(k,g,2,[.agg [.v (.pointer none),x]])] [.ptr k g 2 0 0] (.tuple []) [(k,g,2,[.agg [.ptr k g 2 0 0,x]])] :=
 ji hl w9 fun b y w h =>
  Any.Builder_copyCheck_fresh { pn with} kM.toX72 b w (by rw[Lib.cell_of_heap h];rfl) (by simp[World.shape?,h];rfl) (Lib.frozen_of_heap h 0)
theorem ve{k kr:Key}{g gr sz:Nat}{x:AV}{es:List AV}(hl:k.l=1000+2 * 149)(hkk:¬kr=k) :
  BoxA Tryz.prog (.fn 132) [(k,g,2,[.agg [.ptr k g 2 0 0,x]]),(kr,gr,sz,es)] [.ptr k g 2 0 0] (.tuple []) [(k,g,2,[.agg [.ptr k g 2 0 0,x]]),(kr,gr,sz,es)] :=
 jf hl hkk w9 fun b y w h =>
  Any.Builder_copyCheck_used { pn with} kM.toX72 b w (by rw[Lib.cell_of_heap h];rfl)
theorem Ed{k kr:Key}{g gr c0:Nat}{p:AV}{s:ByteArray}(hl:k.l=1000+2 * 149)(hlr:kr.l=1001+2 * 5)(hne:s.size≠0) :
  BoxA Tryz.prog (.fn 113) [(k,g,2,[.agg [p,.own kr gr 1 s.size c0]]),(kr,gr,1,cg s)] [.ptr k g 2 0 0] (.v (.string s)) [(k,g,2,[.agg [p,.own kr gr 1 s.size c0]]),(kr,gr+1,1000,[])] :=
 wz hl hlr hne xM fun b r cap y0 cur w h1 h2 h3 h4 h5 h6=>zU { pn with} kM hne h1 h2 h3 h4 h5 h6
theorem vq{k:Key}{g:Nat}{p:AV}(hl:k.l=1000+2 * 149) :
  BoxA Tryz.prog (.fn 113) [(k,g,2,[.agg [p,.v (.slice none 0 0)]])] [.ptr k g 2 0 0] (.v (.string ⟨#[]⟩)) [(k,g,2,[.agg [p,.v (.slice none 0 0)]])] :=
 r8 hl xM fun b y0 w h=>re { pn with} kM h
end Go.Proofs.YtgncapdjheghfaaGreatDoor
namespace Go.Proofs.YtgncapdjheghfaaGreatDoor
open Go.Am Go.Proofs Go
theorem iD(a b:ByteArray):bytes (a++b)=bytes a++bytes b:=by
 unfold bytes
 rw[ByteArray.data_append,Array.toList_append]
theorem od(a b:Bs):aK a++aK b=aK (a++b):=fN (by rw[iD];rfl)
theorem qc:∀(ws:List Bs) (w:Bs),aL (w::ws)=w++Lib.joinTail [32] ws
 | [],w=>by simp[aL,Lib.joinTail]
 | v::vs,w=>by
  show w++32::aL (v::vs)=_
  rw[qc vs v]
  simp[Lib.joinTail]
theorem CQ(ws:List Bs):Lib.join ws [32]=aL ws:=by
 cases ws with
 | nil=>rfl
 | cons w ws=>rw[Lib.join_cons,qc]
theorem kf:∀(a b:List Bs),a≠[]→b≠[]→aL (a++b)=aL a++32::aL b
 | [w],b,_,hb=>by
  cases b with
  | nil=>exact absurd rfl hb
  | cons v vs=>rfl
 | w::u::a,b,_,hb=>by
  show w++32::aL ((u::a)++b)=(w++32::aL (u::a))++32::aL b
  rw[kf (u::a) b (by simp) hb]
  simp
theorem cB(ws:List Bs)(hne:ws≠[])(hn:ws.length≤1000)(hl:(aL ws).length≤1000000):PureA Tryz.prog 110 [FX (ws.map aK)] (aO (aK (bH ws))):=by
 have h:=Kd (ws.map aK) ⟨#[32]⟩ (by simpa using hne) (by rw[List.length_map];exact hn) (by
  rw[show(ws.map aK).map (·.data.toList)=ws by rw[List.map_map];exact List.map_id _,CQ]
  omega)
 rw[show(ws.map aK).map (·.data.toList)=ws by rw[List.map_map];exact List.map_id _,CQ]at h
 have e:aK (aL ws)++(⟨#[10]⟩:ByteArray)=aK (bH ws):=od (aL ws) [10]
 have hsz:(aK (aL ws)).size=(aL ws).length:=rfl
 rw[←e]
 generalize aK (aL ws)=J at *
 generalize ws.map aK=W at *
 have h10:(⟨#[10]⟩:ByteArray).size=1:=rfl
 refine ae ar { l:=0,f:=110} mixed DQ Tryz.func110 (by kernel_rfl) ?_
 conv=>whnf
 repeat(any_goals(first|exact ab|(refine aq ?_ ?_<;>intro _<;>first|exact ap|conv=>whnf)|((first|refine aa h ?_|refine ac ?_|refine bi ?_ ?_|intro _)<;>conv=>whnf)))
 (refine⟨⟨?_⟩,trivial⟩;rfl)
def kB:Key:=⟨1000+2 * 149,79,5⟩
def kBr:Key:=⟨1001+2 * 5,109,14⟩
inductive BSt where
 | fresh
 | used (g:Nat) (t:Bs)
def BSt.av:BSt→AV
 | .fresh=> .agg [.v (.pointer none),.v (.slice none 0 0)]
 | .used g t=> .agg [.ptr kB 1 2 0 0,.own kBr g 1 t.length 0]
def BSt.row:BSt→jF
 | .fresh=>(0,none)
 | .used g t=>(g,some (1,cg (aK t)))
theorem yJ(t l:Bs):(cg (aK t)).take t.length++cg (aK l)=cg (aK (t++l)):=by
 have e:∀x:Bs,cg (aK x)=x.map fun b=> .v (.int .u8 b.toNat):=fun _=>rfl
 rw[e,e,e,List.map_append,List.take_of_length_le (by rw[List.length_map];omega)]
theorem vB(t:Bs):(cg (aK t)).length=t.length:=by
 rw[lF];rfl
theorem az(ks:List Key)(s:ByteArray):tkL (tk2 ks) (cg s)=some (cg s):=by
 unfold cg
 induction s.data.toList with
 | nil=>rfl
 | cons b l ih=>simp only[List.map_cons,tkL,ih];rfl
theorem rF(l:Bs)(hl:l≠[])(hn:l.length≤1000000) :
  BoxA Tryz.prog (.fn 109) [(kB,1,2,[BSt.fresh.av])] [.ptr kB 1 2 0 0,aO (aK l)] (.tuple [aj l.length,.v .nilIface]) [(kB,1,2,[(BSt.used 1 l).av]),(kBr,1,1,cg (aK l))]:=by
 have hc:=ww (k:=kB) (g:=1) (x:= .v (.slice none 0 0)) rfl
 have hsz:(aK l).size=l.length:=rfl
 have h0:0<l.length:=by cases l with|nil=>exact absurd rfl hl|cons=>simp
 unfold BSt.av
 refine aM ar { l:=0,f:=109,mat:=[132],ow:=[14],ty:=[14]} mixed xH Tryz.func109 (by kernel_rfl) ?_
 conv=>whnf
 refine⟨[kB],?_⟩
 conv=>whnf
 refine⟨_,_,hc,?_⟩
 conv=>whnf
 repeat(any_goals(first|exact ab|(refine aq ?_ ?_<;>intro _<;>first|exact ap|conv=>whnf)|((first|refine ac ?_|refine bi ?_ ?_|intro _)<;>conv=>whnf)))
 refine And.intro ?_ ?_
 ·conv=>whnf
  refine⟨⟨?_⟩,trivial⟩
  rfl
 ·repeat(first|exact trivial|refine And.intro rfl ?_|refine And.intro (by first|rfl|skip) ?_)
theorem aP(g:Nat)(t l:Bs)(ht:t.length≤1000000)(hn:l.length≤1000000) :
  BoxA Tryz.prog (.fn 109) [(kB,1,2,[(BSt.used g t).av]),(kBr,g,1,cg (aK t))] [.ptr kB 1 2 0 0,aO (aK l)] (.tuple [aj l.length,.v .nilIface]) [(kB,1,2,[(BSt.used (g+1) (t++l)).av]),(kBr,g+1,1,cg (aK (t++l)))]:=by
 have hc:=ve (k:=kB) (kr:=kBr) (g:=1) (gr:=g) (sz:=1) (x:= .own kBr g 1 t.length 0) (es:=cg (aK t)) rfl (by decide)
 have hsz:(aK l).size=l.length:=rfl
 have hbl:=vB t
 have hrow:=yJ t l
 have hlen:(t++l).length=t.length+(aK l).size:=by rw[List.length_append];rfl
 show BoxA _ _ [(kB,1,2,[.agg [.ptr kB 1 2 0 0,.own kBr g 1 t.length 0]]),(kBr,g,1,cg (aK t))] _ _ [(kB,1,2,[.agg [.ptr kB 1 2 0 0,.own kBr (g+1) 1 (t++l).length 0]]),(kBr,g+1,1,cg (aK (t++l)))]
 rw[hlen, ←hrow]
 have htk:=fun ks=>az ks (aK t)
 generalize hB:cg (aK t)=B at *
 refine aM ar { l:=0,f:=109,mat:=[132],ow:=[14],ty:=[14]} mixed xH Tryz.func109 (by kernel_rfl) ?_
 conv=>whnf
 refine⟨[kB,kBr],?_⟩
 conv=>whnf
 refine af (htk _) ?_
 conv=>whnf
 refine⟨_,_,hc,?_⟩
 conv=>whnf
 refine af (htk _) ?_
 conv=>whnf
 repeat(any_goals(first|exact ab|(refine aq ?_ ?_<;>intro _<;>first|exact ap|conv=>whnf)|((first|refine ac ?_|refine bi ?_ ?_|intro _)<;>conv=>whnf)))
 refine And.intro ?_ ?_
 ·conv=>whnf
  refine⟨⟨?_⟩,trivial⟩
  rfl
 ·repeat(first|exact trivial|refine And.intro rfl ?_|refine And.intro (by rfl) ?_)
end Go.Proofs.YtgncapdjheghfaaGreatDoor
namespace Go.Proofs.YtgncapdjheghfaaGreatDoor
open Go.Am Go.Proofs Go
theorem m7(s:Bill)(a:Int)(f:Fig)(h0:0≤a)(h:s.figs[a.toNat]?=some f)(hn:f.name.size≤16∧f.role.size≤16):PureA Tryz.prog 112 [dk s,aj a] (aO (aK (aL (s.whoW a)))):=by
 have e:f.name++(⟨#[32,97,115,32]⟩:ByteArray)++f.role=aK (aL (s.whoW a)):=by
  rw[ri h]
  refine fN ?_
  rw[iD,iD]
  show _=bytes f.name++32::(wAs++32::bytes f.role)
  simp[wAs,bytes]
 rw[←e]
 have hlt:=(List.getElem?_eq_some_iff.1 h).1
 have hfl:(s.figs.map cD).length=s.figs.length:=List.length_map ..
 have hz:(⟨#[32,97,115,32]⟩:ByteArray).size=4:=rfl
 have hz1:(f.name++(⟨#[32,97,115,32]⟩:ByteArray)).size=f.name.size+4:=by rw[ByteArray.size_append,hz]
 refine ae ar { l:=0,f:=112} mixed E6 Tryz.func112 (by kernel_rfl) ?_
 conv=>whnf
 repeat(any_goals(first|exact ab|(refine aq ?_ ?_<;>intro _<;>first|exact ap|conv=>whnf)|((first|refine ag h (by omega) ?_|refine ac ?_|refine bi ?_ ?_|intro _)<;>conv=>whnf)))
 (refine⟨⟨?_⟩,trivial⟩;rfl)
def kTx:Key:=⟨0,79,16⟩
theorem HH(s:Bill)(c:List Ent)(h6:c.length≤6)(i:Nat)(hi:i≤c.length)(m:ci)(hm:dA s c m)(hmet:(m.any fun e=>decide(e.1=(i:Int)))=true) :
  BoxA Tryz.prog (.fn 76) [(kTx,1,0,lB m)] [dk s,aG c,aj i,.mp kTx 1] (ed s c i) [(kTx,1,0,lB m)]:=by
 obtain⟨n,hn⟩:=pc m i (s.press c i) 0 (qf hm) hmet
 have hlt:i<c.length:=by
  rw[List.any_eq_true]at hmet
  obtain⟨e,he,h1⟩:=hmet
  obtain⟨j,h2,h3,_⟩:=hm e he
  have h1:=of_decide_eq_true h1
  omega
 rw[ef s hlt]
 generalize s.press c i=R at *
 unfold gI uh
 refine aM ar { l:=0,f:=76} mixed mt Tryz.func76 (by kernel_rfl) ?_
 conv=>whnf
 repeat(any_goals(first|exact ab|(refine aq ?_ ?_<;>intro _<;>first|exact ap|conv=>whnf)|((first|rw[hn]|refine ac ?_|refine bi ?_ ?_|intro _)<;>conv=>whnf)))
 refine And.intro ?_ ?_
 ·conv=>whnf
  refine⟨⟨?_⟩,trivial⟩
  rfl
 ·repeat(first|exact trivial|refine And.intro rfl ?_|refine And.intro (by skip) ?_)
theorem Ce(s:Bill)(c:List Ent)(h6:c.length≤6)(m:ci)(hm:dA s c m) :
  BoxA Tryz.prog (.fn 76) [(kTx,1,0,lB m)] [dk s,aG c,aj c.length,.mp kTx 1] (ed s c c.length) [(kTx,1,0,lB m)]:=by
 have hcl:(c.map bC).length=c.length:=List.length_map ..
 have hn:=eT m c.length 0 (by
  rw[List.any_eq_false]
  intro e he
  obtain⟨j,h2,h3,_⟩:=hm e he
  simp only[decide_eq_true_eq]
  omega)
 rw[eM]
 refine aM ar { l:=0,f:=76} mixed mt Tryz.func76 (by kernel_rfl) ?_
 conv=>whnf
 repeat(any_goals(first|exact ab|(refine aq ?_ ?_<;>intro _<;>first|exact ap|conv=>whnf)|((first|rw[hn]|refine ac ?_|refine bi ?_ ?_|intro _)<;>conv=>whnf)))
 refine And.intro ?_ ?_
 ·conv=>whnf
  refine⟨⟨?_⟩,trivial⟩
  rfl
 ·repeat(first|exact trivial|refine And.intro rfl ?_|refine And.intro (by skip) ?_)
set_option maxHeartbeats 8000000 in
theorem Ht(s:Bill)(hg:s.Good)(c:List Ent)(hc:∀x∈c,s.OkE x)(h6:c.length≤6)(f i:Nat)(hi:i<c.length)(m:ci)(hm:dA s c m)(hmet:(m.any fun e=>decide(e.1=(i:Int)))=false)
  (ih:∀(j:Nat) (m':ci),i<j→j≤c.length→dA s c m'→BoxA Tryz.prog (.fn 76) [(kTx,1,0,lB m')] [dk s,aG c,aj j,.mp kTx 1] (ed s c j) [(kTx,1,0,lB (s.memoN c f j m'))]) :
  BoxA Tryz.prog (.fn 76) [(kTx,1,0,lB m)] [dk s,aG c,aj i,.mp kTx 1] (ed s c i) [(kTx,1,0,lB (s.memoTo c (s.memoN c f) i (c.length-i) (i+1) m++[((i:Int),s.press c i)]))]:=by
 rw[ef s hi]
 have hn0:=eT m i 0 hmet
 have hnot:=x7 (s:=s) (c:=c) (f:=f) (g:=c.length-i) hmet
 have hR:=qp hg hc hi
 have hlf:=fun j hij hj=>xr s hg c hc h6 i j hij hj
 have hfit:=fun j (hj:j≤c.length)=>oA hg hc h6 hj
 have hle:=fun j (h1:i≤j) (h2:j≤c.length)=>rT hg hc h1 h2
 have hmok:=fun j m' (hj:j≤c.length) hm'=>q8 (s:=s) (c:=c) f j m' hj hm'
 have hcl:(c.map bC).length=c.length:=List.length_map ..
 have hpt:∀n j b,s.pressTo c (s.press c) i (n+1) j b=if s.left c i j<0 then b else s.pressTo c (s.press c) i n (j+1) (some (ez b (ln s c (s.press c) i j))):=fun _ _ _=>rfl
 have hpt0:∀j b,s.pressTo c (s.press c) i 0 j b=b:=fun _ _=>rfl
 have hmt:=gD s c (s.memoN c f) i
 have hmt0:∀j m',s.memoTo c (s.memoN c f) i 0 j m'=m':=fun _ _=>rfl
 obtain⟨M,hM⟩:∃M,s.memoTo c (s.memoN c f) i (c.length-i) (i+1) m=M:=⟨_,rfl⟩
 rw[hM]at hnot ⊢
 have hn1:=eT M i 0 hnot
 generalize s.memoN c f=N at *
 generalize s.memoTo c N i=MT at *
 generalize s.pressTo c (s.press c) i=PT at *
 unfold ln at hpt
 have hend:s.press c c.length=⟨[],0⟩:=lc s c
 generalize hP:s.press c=P at *
 generalize s.left c i=L at *
 clear hg hc
 refine aM ar { l:=0,f:=76,mat:=[76]} mixed mt Tryz.func76 (by kernel_rfl) ?_
 conv=>whnf
 repeat(any_goals(first|exact ab|(refine aq ?_ ?_<;>intro _<;>first|exact ap|conv=>whnf)|((first|rw[hn0]|refine ac ?_|refine bi ?_ ?_|intro _)<;>conv=>whnf)))
 refine aX ar { l:=0,f:=76,mat:=[76]} mixed (fun u:PrSt=>[(11,aj u.j),(10,aB u.best.isSome)]) (fun u=>[(⟨0,76,8⟩,some (1,some (2,[J8 u.best]))),(kTx,some (1,some (0,lB u.m)))]) (fun _=>[]) (fun u=>(i<u.j∧u.j≤c.length+1)∧(dA s c u.m∧∀p,u.best=some p→DB p)∧some (P i)=PT (c.length+1-u.j) u.j u.best∧M=MT (c.length+1-u.j) u.j u.m) (fun u=>c.length+1-u.j) (⟨i+1,none,m⟩:PrSt) (by kernel_rfl)
  ⟨⟨Nat.lt_succ_self _,by show i+1≤_;omega⟩,⟨hm,fun p h=>by cases h⟩,by rw[show c.length+1-(i+1)=c.length-i by omega];exact hR.symm,by rw[show c.length+1-(i+1)=c.length-i by omega];exact hM.symm⟩ ?_
 conv=>whnf
 refine⟨⟨ai rfl (ai rfl trivial),aH rfl (aH rfl trivial),trivial⟩,?_⟩
 clear hR hM hm hmet hn0 hnot
 rintro u ⟨⟨hij,hj⟩,⟨hm,hbf⟩,HR,HM⟩
 generalize u.j=j at *
 generalize u.best=best at *
 generalize u.m=m at *
 clear u
 by_cases hjl:j≤c.length
 ·obtain⟨n,hn⟩:∃n,c.length+1-j=n+1:=⟨c.length-j,by omega⟩
  have hn2:c.length+1-(j+1)=n:=by omega
  rw[hn,hpt]at HR
  rw[hn,hmt]at HM
  have hlj:=hlf j (by omega) hjl
  have hL:=hle j (by omega) hjl
  by_cases q:L j<0
  ·rw[if_pos q]at HR HM
   subst HM
   subst HR
   clear hlf hle hpt hmt hpt0 hmt0 ih hmok hfit
   generalize L j=y at *
   conv=>whnf
   repeat(any_goals(first|exact ab|(refine aq ?_ ?_<;>intro _<;>first|exact ap|conv=>whnf)|((first|refine ah hlj rfl ?_|refine aa hlj ?_|rw[hn1]|refine ac ?_|refine bi ?_ ?_|intro _)<;>conv=>whnf)))
   refine And.intro ?_ ?_
   ·conv=>whnf
    refine⟨⟨?_⟩,trivial⟩
    rfl
   ·repeat(first|exact trivial|refine And.intro rfl ?_|refine And.intro (by(simp only[lB,List.map_append];rfl)) ?_)
  ·rw[if_neg q]at HR HM
   have hih:=ih j m hij hjl hm
   have hmk:=hmok j m hjl hm
   have hf:=hfit j hjl
   clear hlf hle hpt hmt hpt0 hmt0 ih hmok hfit hn1 hm
   generalize N j m=m2 at *
   by_cases hjc:j<c.length
   ·rw[ef s hjc,hP]at hih
    rw[if_pos hjc]at HR
    generalize P j=pj at *
    obtain⟨ps,w⟩:=pj
    simp only at hf HR
    have hcat:=xv (i:Int) ps (by omega)
    have hsq:0≤L j * L j∧L j * L j≤900:=sqP (by omega) hL
    generalize L j=y at *
    cases best with
    | none =>
     rw[show ez none ⟨(i:Int)::ps,w+y * y⟩=⟨(i:Int)::ps,w+y * y⟩from rfl]at HR
     have hbn:∀p,some (⟨(i:Int)::ps,w+y * y⟩:Press)=some p→DB p:=fun p hp=>by cases hp;exact⟨by simp only[List.length_cons];omega,by simp only;omega⟩
     conv=>whnf
     repeat(any_goals(first|exact ab|(refine aq ?_ ?_<;>intro _<;>first|exact ap|conv=>whnf)|((first|refine ah hlj rfl ?_|refine aa hlj ?_|refine ac ?_|refine bi ?_ ?_|intro _)<;>conv=>whnf)))
     refine⟨[kTx],?_⟩
     conv=>whnf
     refine⟨_,_,hih,?_⟩
     conv=>whnf
     repeat(any_goals(first|exact ab|(refine aq ?_ ?_<;>intro _<;>first|exact ap|conv=>whnf)|((first|refine aa hcat ?_|fail|refine ac ?_|refine bi ?_ ?_|intro _)<;>conv=>whnf)))
     (refine⟨⟨j+1,some ⟨(i:Int)::ps,w+y * y⟩,m2⟩,⟨⟨by show i<j+1;omega,by show j+1≤_;omega⟩,⟨hmk,hbn⟩,by show some (P i)=PT (c.length+1-(j+1)) (j+1) _;rw[hn2];exact HR,by show M=MT (c.length+1-(j+1)) (j+1) _;rw[hn2];exact HM⟩,(by show _-(j+1)<_-j;omega),?_⟩;(conv=>whnf);refine⟨?_,?_,?_⟩<;>repeat(first|exact trivial|refine sc rfl ?_|refine kn ?_|refine kc rfl ?_|refine sc (by rfl) ?_|refine kc (by rfl) ?_))
    | some b =>
     have hb:=hbf b rfl
     have hbt:=nx ⟨(i:Int)::ps,w+y * y⟩ b (by simp only[List.length_cons];omega) (by have:=hb.1;omega) (by simp only;omega) (by have:=hb.2;omega)
     by_cases hbb:bK ⟨(i:Int)::ps,w+y * y⟩ b=true
     ·rw[show ez (some b) ⟨(i:Int)::ps,w+y * y⟩=⟨(i:Int)::ps,w+y * y⟩from if_pos hbb]at HR
      rw[hbb]at hbt
      have hbn:∀p,some (⟨(i:Int)::ps,w+y * y⟩:Press)=some p→DB p:=fun p hp=>by cases hp;exact⟨by simp only[List.length_cons];omega,by simp only;omega⟩
      conv=>whnf
      repeat(any_goals(first|exact ab|(refine aq ?_ ?_<;>intro _<;>first|exact ap|conv=>whnf)|((first|refine ah hlj rfl ?_|refine aa hlj ?_|refine ac ?_|refine bi ?_ ?_|intro _)<;>conv=>whnf)))
      refine⟨[kTx],?_⟩
      conv=>whnf
      refine⟨_,_,hih,?_⟩
      conv=>whnf
      repeat(any_goals(first|exact ab|(refine aq ?_ ?_<;>intro _<;>first|exact ap|conv=>whnf)|((first|refine aa hcat ?_|refine aa hbt ?_|refine ac ?_|refine bi ?_ ?_|intro _)<;>conv=>whnf)))
      (refine⟨⟨j+1,some ⟨(i:Int)::ps,w+y * y⟩,m2⟩,⟨⟨by show i<j+1;omega,by show j+1≤_;omega⟩,⟨hmk,hbn⟩,by show some (P i)=PT (c.length+1-(j+1)) (j+1) _;rw[hn2];exact HR,by show M=MT (c.length+1-(j+1)) (j+1) _;rw[hn2];exact HM⟩,(by show _-(j+1)<_-j;omega),?_⟩;(conv=>whnf);refine⟨?_,?_,?_⟩<;>repeat(first|exact trivial|refine sc rfl ?_|refine kn ?_|refine kc rfl ?_|refine sc (by rfl) ?_|refine kc (by rfl) ?_))
     ·rw[show ez (some b) ⟨(i:Int)::ps,w+y * y⟩=b from if_neg hbb]at HR
      rw[Bool.eq_false_iff.2 hbb]at hbt
      have hbn:=hbf
      conv=>whnf
      repeat(any_goals(first|exact ab|(refine aq ?_ ?_<;>intro _<;>first|exact ap|conv=>whnf)|((first|refine ah hlj rfl ?_|refine aa hlj ?_|refine ac ?_|refine bi ?_ ?_|intro _)<;>conv=>whnf)))
      refine⟨[kTx],?_⟩
      conv=>whnf
      refine⟨_,_,hih,?_⟩
      conv=>whnf
      repeat(any_goals(first|exact ab|(refine aq ?_ ?_<;>intro _<;>first|exact ap|conv=>whnf)|((first|refine aa hcat ?_|refine aa hbt ?_|refine ac ?_|refine bi ?_ ?_|intro _)<;>conv=>whnf)))
      (refine⟨⟨j+1,some b,m2⟩,⟨⟨by show i<j+1;omega,by show j+1≤_;omega⟩,⟨hmk,hbn⟩,by show some (P i)=PT (c.length+1-(j+1)) (j+1) _;rw[hn2];exact HR,by show M=MT (c.length+1-(j+1)) (j+1) _;rw[hn2];exact HM⟩,(by show _-(j+1)<_-j;omega),?_⟩;(conv=>whnf);refine⟨?_,?_,?_⟩<;>repeat(first|exact trivial|refine sc rfl ?_|refine kn ?_|refine kc rfl ?_|refine sc (by rfl) ?_|refine kc (by rfl) ?_))
   ·have hjc:j=c.length:=by omega
    rw[show ed s c j = .agg [.slice 0 [] .tight,aj 0] by rw[hjc];exact eM s c]at hih
    rw[if_neg (by omega),show P j=⟨[],0⟩ by rw[hjc];exact hend]at HR
    simp only[Int.add_zero]at HR
    have hcat:=tb (i:Int)
    generalize L j=y at *
    cases best with
    | none =>
     rw[show ez none ⟨[(i:Int)],0⟩=⟨[(i:Int)],0⟩from rfl]at HR
     have hbn:∀p,some (⟨[(i:Int)],0⟩:Press)=some p→DB p:=fun p hp=>by cases hp;exact⟨by simp,by simp⟩
     conv=>whnf
     repeat(any_goals(first|exact ab|(refine aq ?_ ?_<;>intro _<;>first|exact ap|conv=>whnf)|((first|refine ah hlj rfl ?_|refine aa hlj ?_|refine ac ?_|refine bi ?_ ?_|intro _)<;>conv=>whnf)))
     refine⟨[kTx],?_⟩
     conv=>whnf
     refine⟨_,_,hih,?_⟩
     conv=>whnf
     repeat(any_goals(first|exact ab|(refine aq ?_ ?_<;>intro _<;>first|exact ap|conv=>whnf)|((first|refine aa hcat ?_|fail|refine ac ?_|refine bi ?_ ?_|intro _)<;>conv=>whnf)))
     (refine⟨⟨j+1,some ⟨[(i:Int)],0⟩,m2⟩,⟨⟨by show i<j+1;omega,by show j+1≤_;omega⟩,⟨hmk,hbn⟩,by show some (P i)=PT (c.length+1-(j+1)) (j+1) _;rw[hn2];exact HR,by show M=MT (c.length+1-(j+1)) (j+1) _;rw[hn2];exact HM⟩,(by show _-(j+1)<_-j;omega),?_⟩;(conv=>whnf);refine⟨?_,?_,?_⟩<;>repeat(first|exact trivial|refine sc rfl ?_|refine kn ?_|refine kc rfl ?_|refine sc (by rfl) ?_|refine kc (by rfl) ?_))
    | some b =>
     have hb:=hbf b rfl
     have hbt:=nx ⟨[(i:Int)],0⟩ b (by simp) (by have:=hb.1;omega) (by simp) (by have:=hb.2;omega)
     by_cases hbb:bK ⟨[(i:Int)],0⟩ b=true
     ·rw[show ez (some b) ⟨[(i:Int)],0⟩=⟨[(i:Int)],0⟩from if_pos hbb]at HR
      rw[hbb]at hbt
      have hbn:∀p,some (⟨[(i:Int)],0⟩:Press)=some p→DB p:=fun p hp=>by cases hp;exact⟨by simp,by simp⟩
      conv=>whnf
      repeat(any_goals(first|exact ab|(refine aq ?_ ?_<;>intro _<;>first|exact ap|conv=>whnf)|((first|refine ah hlj rfl ?_|refine aa hlj ?_|refine ac ?_|refine bi ?_ ?_|intro _)<;>conv=>whnf)))
      refine⟨[kTx],?_⟩
      conv=>whnf
      refine⟨_,_,hih,?_⟩
      conv=>whnf
      repeat(any_goals(first|exact ab|(refine aq ?_ ?_<;>intro _<;>first|exact ap|conv=>whnf)|((first|refine aa hcat ?_|refine aa hbt ?_|refine ac ?_|refine bi ?_ ?_|intro _)<;>conv=>whnf)))
      (refine⟨⟨j+1,some ⟨[(i:Int)],0⟩,m2⟩,⟨⟨by show i<j+1;omega,by show j+1≤_;omega⟩,⟨hmk,hbn⟩,by show some (P i)=PT (c.length+1-(j+1)) (j+1) _;rw[hn2];exact HR,by show M=MT (c.length+1-(j+1)) (j+1) _;rw[hn2];exact HM⟩,(by show _-(j+1)<_-j;omega),?_⟩;(conv=>whnf);refine⟨?_,?_,?_⟩<;>repeat(first|exact trivial|refine sc rfl ?_|refine kn ?_|refine kc rfl ?_|refine sc (by rfl) ?_|refine kc (by rfl) ?_))
     ·rw[show ez (some b) ⟨[(i:Int)],0⟩=b from if_neg hbb]at HR
      rw[Bool.eq_false_iff.2 hbb]at hbt
      have hbn:=hbf
      conv=>whnf
      repeat(any_goals(first|exact ab|(refine aq ?_ ?_<;>intro _<;>first|exact ap|conv=>whnf)|((first|refine ah hlj rfl ?_|refine aa hlj ?_|refine ac ?_|refine bi ?_ ?_|intro _)<;>conv=>whnf)))
      refine⟨[kTx],?_⟩
      conv=>whnf
      refine⟨_,_,hih,?_⟩
      conv=>whnf
      repeat(any_goals(first|exact ab|(refine aq ?_ ?_<;>intro _<;>first|exact ap|conv=>whnf)|((first|refine aa hcat ?_|refine aa hbt ?_|refine ac ?_|refine bi ?_ ?_|intro _)<;>conv=>whnf)))
      (refine⟨⟨j+1,some b,m2⟩,⟨⟨by show i<j+1;omega,by show j+1≤_;omega⟩,⟨hmk,hbn⟩,by show some (P i)=PT (c.length+1-(j+1)) (j+1) _;rw[hn2];exact HR,by show M=MT (c.length+1-(j+1)) (j+1) _;rw[hn2];exact HM⟩,(by show _-(j+1)<_-j;omega),?_⟩;(conv=>whnf);refine⟨?_,?_,?_⟩<;>repeat(first|exact trivial|refine sc rfl ?_|refine kn ?_|refine kc rfl ?_|refine sc (by rfl) ?_|refine kc (by rfl) ?_))
 ·obtain rfl:j=c.length+1:=by omega
  rw[Nat.sub_self,hpt0]at HR
  rw[Nat.sub_self,hmt0]at HM
  subst HM
  subst HR
  clear hlf hle hpt hmt hpt0 hmt0 ih hmok hfit
  conv=>whnf
  repeat(any_goals(first|exact ab|(refine aq ?_ ?_<;>intro _<;>first|exact ap|conv=>whnf)|((first|rw[hn1]|refine ac ?_|refine bi ?_ ?_|intro _)<;>conv=>whnf)))
  refine And.intro ?_ ?_
  ·conv=>whnf
   refine⟨⟨?_⟩,trivial⟩
   rfl
  ·repeat(first|exact trivial|refine And.intro rfl ?_|refine And.intro (by(simp only[lB,List.map_append];rfl)) ?_)
theorem Gp(s:Bill)(hg:s.Good)(c:List Ent)(hc:∀x∈c,s.OkE x)(h6:c.length≤6):∀(f i:Nat) (m:ci),i≤c.length→c.length-i≤f→dA s c m →
  BoxA Tryz.prog (.fn 76) [(kTx,1,0,lB m)] [dk s,aG c,aj i,.mp kTx 1] (ed s c i) [(kTx,1,0,lB (s.memoN c f i m))]:=by
 intro f
 induction f with
 | zero =>
  intro i m hi hf hm
  obtain rfl:i=c.length:=by omega
  rw[show s.memoN c 0 c.length m=m from rfl]
  exact Ce s c h6 m hm
 | succ f ih =>
  intro i m hi hf hm
  rw[iQ]
  by_cases hmet:(m.any fun e=>decide(e.1=(i:Int)))=true
  ·rw[if_pos hmet]
   exact HH s c h6 i hi m hm hmet
  ·rw[if_neg hmet]
   by_cases hie:i=c.length
   ·rw[if_pos hie]
    subst hie
    exact Ce s c h6 m hm
   ·rw[if_neg hie]
    exact Ht s hg c hc h6 f i (by omega) m hm (Bool.eq_false_iff.2 hmet) fun j m' h1 h2 h3=>ih j m' h2 (by omega) h3
end Go.Proofs.YtgncapdjheghfaaGreatDoor
namespace Go.Proofs.YtgncapdjheghfaaGreatDoor
open Go.Am Go.Proofs Go
def Bill.lineW(s:Bill)(c:List Ent)(pages:List Nat)(i:Nat):Bs:=(s.rowW c pages i).flatMap bH
def Bill.textTo(s:Bill)(c:List Ent)(pages:List Nat)(i:Nat):Bs:=((List.range i).flatMap (s.rowW c pages)).flatMap bH
theorem nS(s:Bill)(c:List Ent)(pages:List Nat):s.textTo c pages 0=[]:=rfl
theorem cG(s:Bill)(c:List Ent)(pages:List Nat)(i:Nat):s.textTo c pages (i+1)=s.textTo c pages i++s.lineW c pages i:=by
 unfold Bill.textTo Bill.lineW
 rw[List.range_succ,List.flatMap_append,List.flatMap_append]
 simp
theorem qD(s:Bill)(c:List Ent):s.textTo c (uD (s.press c 0)) c.length=s.textL c:=rfl
theorem mR(i:Nat):∀(l:List Nat) (k:Nat),b9 (fun x=>decide((i:Int)=x)) k (gQ l)=match l.findIdx? (· ==i)with
  | none=> -1
  | some p=>(k:Int)+p
 | [],k=>rfl
 | x::l,k=>by
  have ih:=mR i l (k+1)
  show(if decide((i:Int)=(x:Int))=true then(k:Int)else b9 _ (k+1) (gQ l))=_
  rw[List.findIdx?_cons,ih]
  by_cases h:x=i
  ·subst h;simp
  ·rw[if_neg (by simp only[decide_eq_true_eq];omega),if_neg (by simpa using h)]
   cases l.findIdx? (· ==i)with
   | none=>rfl
   | some p=>show((k+1:Nat):Int)+(p:Int)=(k:Int)+((p+1:Nat):Int);omega
theorem iJ(i:Nat)(l:List Nat):idx (fun x=>decide((i:Int)=x)) (gQ l)=match l.findIdx? (· ==i)with
  | none=> -1
  | some p=>(p:Int):=by
 have:=mR i l 0
 unfold idx
 rw[this]
 cases l.findIdx? (· ==i)with
 | none=>rfl
 | some p=>simp
theorem A7{s:ByteArray}(h:cn s=true):s.size≤16:=by
 unfold cn at h
 simp only[Bool.and_eq_true,decide_eq_true_eq]at h
 exact h.1.2
theorem kx{s:Bill}(hg:s.Good){a:Int}(h:0≤a∧a<s.figs.length):∃f,s.figs[a.toNat]?=some f∧(f.name.size≤16∧f.role.size≤16)∧s.roomAt a=f.room∧0≤f.room∧f.room≤9:=by
 have hlt:a.toNat<s.figs.length:=by omega
 refine⟨_,List.getElem?_eq_getElem hlt,?_⟩
 have hf:=hg.figs _ (List.getElem_mem hlt)
 refine⟨⟨A7 hf.1.1,A7 hf.1.2⟩,?_,hf.2.1⟩
 unfold Bill.roomAt
 rw[List.getElem?_eq_getElem hlt]
theorem dO{s:Bill}{a:Int}{f:Fig}(h:s.figs[a.toNat]?=some f)(hn:f.name.size≤16∧f.role.size≤16):(aL (s.whoW a)).length≤36∧s.whoW a≠[]:=by
 rw[ri h]
 refine⟨?_,by simp⟩
 show(bytes f.name++32::(wAs++32::bytes f.role)).length≤36
 have h1:(bytes f.name).length=f.name.size:=rfl
 have h2:(bytes f.role).length=f.role.size:=rfl
 simp only[List.length_append,List.length_cons,wAs,List.length_nil,h1,h2]
 omega
def KI(n:Int):Bs:=aL (if n=2 then [yG,wBe]else [wIs])
theorem gu{s:Bill}{i:Nat}{x:Ent}(ha:s.whoW x.a≠[])(hb:s.whoW x.b≠[]):aL (s.entW i x)=aL (num ((i:Int)+1)::KI x.says::aL (s.whoW x.a)::if x.says=1 then [wOr,aL (s.whoW x.b)]else []):=by
 have one:∀(w:Bs) (l:List Bs),l≠[]→aL (w::l)=w++32::aL l:=fun w l h=>by cases l with|nil=>exact absurd rfl h|cons=>rfl
 unfold Bill.entW KI
 by_cases h1:x.says=1
 ·have h2:¬x.says=2:=by omega
  simp only[if_pos h1,if_neg h2]
  rw[List.append_assoc,one _ _ (by simp),kf _ _ (by simp) (by simp[ha]),kf _ _ ha (by simp),one wOr _ hb]
  simp[aL]
 ·simp only[if_neg h1,List.append_nil]
  rw[one _ _ (by simp[ha]),kf _ _ (by split<;>simp) ha]
  simp[aL]
def a6(p:Nat):Bs:=bH (wu p)
def bO(r:Int):Bs:=bH [bN,num r]
def ff(r:Int):Bs:=bH [bN,num r,jC]
def ec:Option Nat→Bs
 | none=>[]
 | some p=>a6 p
theorem de(ws:List Bs):bH ws≠[]:=by unfold bH;simp
theorem cY(p:Nat):(a6 p).length=7:=by simp[a6,bH,wu,aL,cP,num]
theorem cT(r:Int):(bO r).length=7:=by simp[bO,bH,aL,bN,num]
theorem gY(r:Int):(ff r).length=17:=by simp[ff,bH,aL,bN,num,jC]
theorem ey{s:Bill}{c:List Ent}{pages:List Nat}{i:Nat}{x:Ent}(hx:c[i]?=some x){o:Option Nat}(ho:pages.findIdx? (· ==i)=o){h:Int}(hh:s.heading c i o.isSome=h) :
  s.lineW c pages i=ec o++((if h=2 then bO (s.roomAt x.a)else if h=1 then ff (s.roomAt x.a)else [])++bH (s.entW i x)):=by
 unfold Bill.lineW Bill.rowW
 rw[hx]
 simp only[ho]
 unfold Bill.headW
 rw[hh]
 cases o with
 | none =>
  by_cases h2:h=2
  ·simp[h2,bO,ec]
  ·by_cases h1:h=1
   ·simp[h1,ff,ec]
   ·simp[h2,h1,ec]
 | some p =>
  by_cases h2:h=2
  ·simp[h2,bO,a6,ec]
  ·by_cases h1:h=1
   ·simp[h1,ff,a6,ec]
   ·simp[h2,h1,a6,ec]
theorem g8{s:Bill}(hg:s.Good){x:Ent}(hx:s.OkE x)(i:Nat):(bH (s.entW i x)).length≤100:=by
 obtain⟨f,hf,hn,_⟩:=kx hg hx.a
 obtain⟨g,hg',hm,_⟩:=kx hg hx.b
 obtain⟨h1,h2⟩:=dO hf hn
 obtain⟨h3,h4⟩:=dO hg' hm
 unfold bH
 rw[gu h2 h4,List.length_append]
 have hs:(KI x.says).length≤6:=by unfold KI;split<;>simp[aL,yG,wBe,wIs]
 have hn:(num ((i:Int)+1)).length=1:=rfl
 have one:∀(w:Bs) (l:List Bs),l≠[]→aL (w::l)=w++32::aL l:=fun w l h=>by cases l with|nil=>exact absurd rfl h|cons=>rfl
 rw[one _ _ (by simp),one _ _ (by simp)]
 by_cases e:x.says=1
 ·rw[if_pos e,one _ _ (by simp),one _ _ (by simp)]
  simp only[List.length_append,List.length_cons,List.length_nil,aL,wOr,hn]
  omega
 ·rw[if_neg e]
  simp only[List.length_append,List.length_cons,List.length_nil,aL,hn]
  omega
theorem Dh{s:Bill}(hg:s.Good){c:List Ent}(hc:∀x∈c,s.OkE x)(pages:List Nat)(i:Nat):(s.lineW c pages i).length≤200:=by
 cases hx:c[i]? with
 | none=>unfold Bill.lineW Bill.rowW;rw[hx];simp
 | some x =>
  rw[ey hx rfl rfl]
  have h1:=g8 hg (hc x (List.mem_of_getElem? hx)) i
  have h2:=cT (s.roomAt x.a)
  have h3:=gY (s.roomAt x.a)
  simp only[List.length_append]
  have hp:(ec (pages.findIdx? (· ==i))).length≤7:=by
   cases pages.findIdx? (· ==i)with
   | none=>simp[ec]
   | some p=>show(a6 p).length≤7;rw[cY];omega
  have hr:∀h:Int,(if h=2 then bO (s.roomAt x.a)else if h=1 then ff (s.roomAt x.a)else []).length≤17:=fun h=>by
   split
   ·omega
   ·split
    ·omega
    ·simp
  have:=hr (s.heading c i (pages.findIdx? (· ==i)).isSome)
  omega
theorem dn{s:Bill}(hg:s.Good){c:List Ent}(hc:∀x∈c,s.OkE x)(pages:List Nat):∀i:Nat,(s.textTo c pages i).length≤200 * i
 | 0=>by rw[nS];simp
 | i+1=>by
  rw[cG,List.length_append]
  have:=dn hg hc pages i
  have:=Dh hg hc pages i
  omega
end Go.Proofs.YtgncapdjheghfaaGreatDoor
namespace Go.Proofs.YtgncapdjheghfaaGreatDoor
open Go.Am Go.Proofs Go
end Go.Proofs.YtgncapdjheghfaaGreatDoor
namespace Go.Proofs.YtgncapdjheghfaaGreatDoor
open Go.Am Go.Proofs Go
end Go.Proofs.YtgncapdjheghfaaGreatDoor
namespace Go.Proofs.YtgncapdjheghfaaGreatDoor
open Go.Am Go.Proofs Go
noncomputable def KZ:Code:=((Tryz.f79.body.bind sa)).getD .skip
def cxX:Cx:={ l:=0,f:=79,mat:=[76,109,113],ty:=[5]}
def JE(s:Bill)(c:List Ent)(R:Press)(M:ci)(u:Nat×BSt):SS :=
 Iz [(21,aj u.1)] [(kB,some (1,some (2,[u.2.av]))),(kBr,some u.2.row)] [] [cxX.key 9,cxX.key 88] [cxX.key 88]
  [(20,.v (.int .i64 ((c.map bC).length:Nat))),(19,aG c),(7,aD R.pages),(18,aD R.pages),(17,gI R),(16,.mp kTx 1),(15,aG c),(14,dk s),(6,.ptr (cxX.key 6) 1 6 0 0),(13,.agg gj),
   (5,.ptr kB 1 2 0 0),(4,ofValue (.string ⟨#[]⟩)),(0,dk s),(1,aG c)]
  [(kTx,some (1,some (0,lB M))),(cxX.key 6,some (1,some (6,[.agg gj])))] []
def Hb(s:Bill)(c:List Ent)(l:List Nat)(u:Nat×BSt):Prop:=u.1≤c.length∧(u.1=0→u.2 = .fresh)∧(0<u.1→∃g,u.2 = .used g (s.textTo c l u.1))
def vj(s:Bill)(c:List Ent)(l:List Nat)(R:Press)(M:ci)(k:Nat)(st:BSt):Prop :=
 ∀Q:Exit→SS→Prop,eY Tryz.prog tab cxX Tryz.f79.ntmps KZ
  (tV (fun ss'=>∃a':Nat×BSt,Hb s c l a'∧c.length-a'.1<c.length-k∧tm ss' (JE s c R M a')) Q) (JE s c R M (k,st))
theorem Cq{o:Option (Option jF)}{K:Prop}(h:o=some (some (0,none)))(k:K):yC o K:=by subst h;exact k
theorem jE{s:Bill}{c:List Ent}{i:Nat}{x:Ent}(hx:c[i]?=some x):(s.heading c i true=2∨s.heading c i true=1)∧(s.heading c i false=2∨s.heading c i false=0):=by
 unfold Bill.heading
 rw[hx]
 simp only
 split
 ·exact⟨.inl rfl,.inl rfl⟩
 ·split
  ·exact⟨.inl rfl,.inl rfl⟩
  ·exact⟨.inr rfl,.inr rfl⟩
theorem ge{s:Bill}{c:List Ent}{x:Ent}(hx:c[0]?=some x)(t:Bool):s.heading c 0 t=2:=by
 unfold Bill.heading
 rw[hx]
 rfl
end Go.Proofs.YtgncapdjheghfaaGreatDoor
namespace Go.Proofs.YtgncapdjheghfaaGreatDoor
open Go.Am Go.Proofs Go
set_option maxHeartbeats 8000000 in
theorem H2(s:Bill)(hg:s.Good)(c:List Ent)(hc:∀x∈c,s.OkE x)(h6:c.length≤6)(l:List Nat)(hll:l.length≤6)(i:Nat)(R:Press)(hR:R.pages=gQ l)(M:ci)(xa xb:Int)(hx:c[i]?=some ⟨0,xa,xb⟩)(g:Nat) :
  vj s c l R M i (.used g (s.textTo c l i)):=by
 have hi:i<c.length:=(List.getElem?_eq_some_iff.1 hx).1
 have hok:=hc _ (List.mem_of_getElem? hx)
 obtain⟨f,hf,hn,hroom,hr0⟩:=kx hg hok.a
 obtain⟨f2,hf2,hn2,_⟩:=kx hg hok.b
 have hlt:=dn hg hc l i
 have hsu:=cG s c l i
 have hwa:=m7 s xa f hok.a.1 hf hn
 have hwb:=m7 s xb f2 hok.b.1 hf2 hn2
 obtain⟨wl,wn⟩:=dO hf hn
 obtain⟨wl2,wn2⟩:=dO hf2 hn2
 have hej:=gu (s:=s) (i:=i) (x:=⟨0,xa,xb⟩) wn wn2
 have hel:=g8 hg hok i
 have hidx:=gC R.pages i (by rw[hR];unfold gQ;rw[List.length_map];omega)
 rw[hR,iJ, ←hR]at hidx
 have hhd:=fun t=>e5 s c (fun x hx=>(hc x hx).inn) h6 i hi t
 have hlw:=fun {o} ho {h} hh=>ey (s:=s) (pages:=l) hx (o:=o) ho (h:=h) hh
 have hitr:=dh f.room hr0
 have hite:=dh ((i:Int)+1) (by omega)
 have hax:=hok.a
 have hbx:=hok.b
 have hfl:(s.figs.map cD).length=s.figs.length:=List.length_map ..
 have hcl:(c.map bC).length=c.length:=List.length_map ..
 simp only at hroom hlw hax hbx hwa hwb wl wl2 wn wn2 hej hf
 rw[hroom]at hlw
 generalize aL (s.whoW xa)=W at *
 generalize aL (s.whoW xb)=W2 at *
 have hE:bH (s.entW i ⟨0,xa,xb⟩)=bH [num ((i:Int)+1),wIs,W]:=by unfold bH;rw[hej];rfl
 have hle:PureA Tryz.prog 110 [.slice 1 [aO (aK (num ((i:Int)+1))),aO isB,aO (aK W)] .no] (aO (aK (bH (s.entW i ⟨0,xa,xb⟩)))):=by
  rw[hE]
  refine cB [num ((i:Int)+1),wIs,W] (by simp) (by simp) ?_
  rw[hE]at hel
  unfold bH at hel
  rw[List.length_append]at hel
  omega
 have hEn:=de (s.entW i ⟨0,xa,xb⟩)
 clear hej hE hn hn2 wl wl2 wn wn2 hf2
 generalize bH (s.entW i ⟨0,xa,xb⟩)=E at *
 have hht:=jE (s:=s) hx
 generalize s.textTo c l i=t at *
 intro Q
 cases ho:l.findIdx? (· ==i)with
 | none =>
  simp only[ho]at hidx
  have hhd:=hhd false
  rcases hht.2 with h2|h2
  ·rw[h2]at hhd
   have hlr:PureA Tryz.prog 110 [.slice 1 [aO (aK bN),aO (aK (num f.room))] .no] (aO (aK (bO f.room))):=cB [bN,num f.room] (by simp) (by simp) (by simp[aL,bN,num])
   have hrl:=cT f.room
   have hlw:=hlw (o:=none) ho (h:=2) h2
   have hT:s.textTo c l (i+1)=t++bO f.room++E:=by rw[hsu,hlw];simp[ec]
   have hw1:=aP g (t) (bO f.room) (by(try simp only[List.length_append]);omega) (by omega)
   have hw2:=aP (g+1) (t++bO f.room) (E) (by(try simp only[List.length_append]);omega) (by omega)
   clear hsu hlw h2
   generalize bO f.room=B at *
   conv=>whnf
   repeat(any_goals(first|exact ab|(refine aq ?_ ?_<;>intro _<;>first|exact ap|conv=>whnf)|((first|refine ag hx rfl ?_|refine ag hf (by show xa=_;omega) ?_|refine aa hidx ?_|refine aa hitp ?_|refine aa hlp ?_|refine aa hitr ?_|refine aa hhd ?_|refine aa hlr ?_|refine aa hite ?_|refine aa hwa ?_|refine aa hwb ?_|refine aa hle ?_|refine ac ?_|refine bi ?_ ?_|intro _)<;>conv=>whnf)))
   refine⟨[kB,kBr],?_⟩
   conv=>whnf
   repeat(refine af (az _ _) ?_<;>(conv=>whnf))
   refine⟨_,_,hw1,?_⟩
   conv=>whnf
   repeat(refine af (az _ _) ?_<;>(conv=>whnf))
   repeat(any_goals(first|exact ab|(refine aq ?_ ?_<;>intro _<;>first|exact ap|conv=>whnf)|((first|refine ag hx rfl ?_|refine ag hf (by show xa=_;omega) ?_|refine aa hidx ?_|refine aa hitp ?_|refine aa hlp ?_|refine aa hitr ?_|refine aa hhd ?_|refine aa hlr ?_|refine aa hite ?_|refine aa hwa ?_|refine aa hwb ?_|refine aa hle ?_|refine ac ?_|refine bi ?_ ?_|intro _)<;>conv=>whnf)))
   refine⟨[kB,kBr],?_⟩
   conv=>whnf
   repeat(refine af (az _ _) ?_<;>(conv=>whnf))
   refine⟨_,_,hw2,?_⟩
   conv=>whnf
   repeat(refine af (az _ _) ?_<;>(conv=>whnf))
   repeat(any_goals(first|exact ab|(refine aq ?_ ?_<;>intro _<;>first|exact ap|conv=>whnf)|((first|refine ag hx rfl ?_|refine ag hf (by show xa=_;omega) ?_|refine aa hidx ?_|refine aa hitp ?_|refine aa hlp ?_|refine aa hitr ?_|refine aa hhd ?_|refine aa hlr ?_|refine aa hite ?_|refine aa hwa ?_|refine aa hwb ?_|refine aa hle ?_|refine ac ?_|refine bi ?_ ?_|intro _)<;>conv=>whnf)))
   (refine⟨⟨i+1,.used (g+1+1) (t++B++E)⟩,⟨by show i+1≤_;omega,(fun h=>by cases h),fun _=>⟨_,congrArg (BSt.used _) hT.symm⟩⟩,(by show _-(i+1)<_-i;omega),?_⟩;(conv=>whnf);refine⟨?_,?_,?_⟩<;>repeat(first|exact trivial|refine sc rfl ?_|refine kn ?_|refine kc rfl ?_|refine sc (by rfl) ?_|refine kc (by rfl) ?_))
  ·rw[h2]at hhd
   have hlw:=hlw (o:=none) ho (h:=0) h2
   have hT:s.textTo c l (i+1)=t++E:=by rw[hsu,hlw];simp[ec]
   have hw1:=aP g (t) (E) (by(try simp only[List.length_append]);omega) (by omega)
   clear hsu hlw h2
   conv=>whnf
   repeat(any_goals(first|exact ab|(refine aq ?_ ?_<;>intro _<;>first|exact ap|conv=>whnf)|((first|refine ag hx rfl ?_|refine ag hf (by show xa=_;omega) ?_|refine aa hidx ?_|refine aa hitp ?_|refine aa hlp ?_|refine aa hitr ?_|refine aa hhd ?_|refine aa hlr ?_|refine aa hite ?_|refine aa hwa ?_|refine aa hwb ?_|refine aa hle ?_|refine ac ?_|refine bi ?_ ?_|intro _)<;>conv=>whnf)))
   refine⟨[kB,kBr],?_⟩
   conv=>whnf
   repeat(refine af (az _ _) ?_<;>(conv=>whnf))
   refine⟨_,_,hw1,?_⟩
   conv=>whnf
   repeat(refine af (az _ _) ?_<;>(conv=>whnf))
   repeat(any_goals(first|exact ab|(refine aq ?_ ?_<;>intro _<;>first|exact ap|conv=>whnf)|((first|refine ag hx rfl ?_|refine ag hf (by show xa=_;omega) ?_|refine aa hidx ?_|refine aa hitp ?_|refine aa hlp ?_|refine aa hitr ?_|refine aa hhd ?_|refine aa hlr ?_|refine aa hite ?_|refine aa hwa ?_|refine aa hwb ?_|refine aa hle ?_|refine ac ?_|refine bi ?_ ?_|intro _)<;>conv=>whnf)))
   (refine⟨⟨i+1,.used (g+1) (t++E)⟩,⟨by show i+1≤_;omega,(fun h=>by cases h),fun _=>⟨_,congrArg (BSt.used _) hT.symm⟩⟩,(by show _-(i+1)<_-i;omega),?_⟩;(conv=>whnf);refine⟨?_,?_,?_⟩<;>repeat(first|exact trivial|refine sc rfl ?_|refine kn ?_|refine kc rfl ?_|refine sc (by rfl) ?_|refine kc (by rfl) ?_))
 | some p =>
  simp only[ho]at hidx
  have hp6:=iL ho
  have hhd:=hhd true
  rcases hht.1 with h2|h2
  ·rw[h2]at hhd
   have hitp:=dh ((p:Int)+1) (by omega)
   have hlp:PureA Tryz.prog 110 [.slice 1 [aO (aK cP),aO (aK (num ((p:Int)+1)))] .no] (aO (aK (a6 p))):=cB [cP,num ((p:Int)+1)] (by simp) (by simp) (by simp[aL,cP,num])
   have hpl:=cY p
   have hpn:a6 p≠[]:=de _
   have hlr:PureA Tryz.prog 110 [.slice 1 [aO (aK bN),aO (aK (num f.room))] .no] (aO (aK (bO f.room))):=cB [bN,num f.room] (by simp) (by simp) (by simp[aL,bN,num])
   have hrl:=cT f.room
   have hlw:=hlw (o:=(some p)) ho (h:=2) h2
   have hT:s.textTo c l (i+1)=t++a6 p++bO f.room++E:=by rw[hsu,hlw];simp[ec]
   have hw1:=aP g (t) (a6 p) (by(try simp only[List.length_append]);omega) (by omega)
   have hw2:=aP (g+1) (t++a6 p) (bO f.room) (by(try simp only[List.length_append]);omega) (by omega)
   have hw3:=aP (g+2) (t++a6 p++bO f.room) (E) (by(try simp only[List.length_append]);omega) (by omega)
   clear hsu hlw h2
   generalize a6 p=A at *
   generalize bO f.room=B at *
   conv=>whnf
   repeat(any_goals(first|exact ab|(refine aq ?_ ?_<;>intro _<;>first|exact ap|conv=>whnf)|((first|refine ag hx rfl ?_|refine ag hf (by show xa=_;omega) ?_|refine aa hidx ?_|refine aa hitp ?_|refine aa hlp ?_|refine aa hitr ?_|refine aa hhd ?_|refine aa hlr ?_|refine aa hite ?_|refine aa hwa ?_|refine aa hwb ?_|refine aa hle ?_|refine ac ?_|refine bi ?_ ?_|intro _)<;>conv=>whnf)))
   refine⟨[kB,kBr],?_⟩
   conv=>whnf
   repeat(refine af (az _ _) ?_<;>(conv=>whnf))
   refine⟨_,_,hw1,?_⟩
   conv=>whnf
   repeat(refine af (az _ _) ?_<;>(conv=>whnf))
   repeat(any_goals(first|exact ab|(refine aq ?_ ?_<;>intro _<;>first|exact ap|conv=>whnf)|((first|refine ag hx rfl ?_|refine ag hf (by show xa=_;omega) ?_|refine aa hidx ?_|refine aa hitp ?_|refine aa hlp ?_|refine aa hitr ?_|refine aa hhd ?_|refine aa hlr ?_|refine aa hite ?_|refine aa hwa ?_|refine aa hwb ?_|refine aa hle ?_|refine ac ?_|refine bi ?_ ?_|intro _)<;>conv=>whnf)))
   refine⟨[kB,kBr],?_⟩
   conv=>whnf
   repeat(refine af (az _ _) ?_<;>(conv=>whnf))
   refine⟨_,_,hw2,?_⟩
   conv=>whnf
   repeat(refine af (az _ _) ?_<;>(conv=>whnf))
   repeat(any_goals(first|exact ab|(refine aq ?_ ?_<;>intro _<;>first|exact ap|conv=>whnf)|((first|refine ag hx rfl ?_|refine ag hf (by show xa=_;omega) ?_|refine aa hidx ?_|refine aa hitp ?_|refine aa hlp ?_|refine aa hitr ?_|refine aa hhd ?_|refine aa hlr ?_|refine aa hite ?_|refine aa hwa ?_|refine aa hwb ?_|refine aa hle ?_|refine ac ?_|refine bi ?_ ?_|intro _)<;>conv=>whnf)))
   refine⟨[kB,kBr],?_⟩
   conv=>whnf
   repeat(refine af (az _ _) ?_<;>(conv=>whnf))
   refine⟨_,_,hw3,?_⟩
   conv=>whnf
   repeat(refine af (az _ _) ?_<;>(conv=>whnf))
   repeat(any_goals(first|exact ab|(refine aq ?_ ?_<;>intro _<;>first|exact ap|conv=>whnf)|((first|refine ag hx rfl ?_|refine ag hf (by show xa=_;omega) ?_|refine aa hidx ?_|refine aa hitp ?_|refine aa hlp ?_|refine aa hitr ?_|refine aa hhd ?_|refine aa hlr ?_|refine aa hite ?_|refine aa hwa ?_|refine aa hwb ?_|refine aa hle ?_|refine ac ?_|refine bi ?_ ?_|intro _)<;>conv=>whnf)))
   (refine⟨⟨i+1,.used (g+1+1+1) (t++A++B++E)⟩,⟨by show i+1≤_;omega,(fun h=>by cases h),fun _=>⟨_,congrArg (BSt.used _) hT.symm⟩⟩,(by show _-(i+1)<_-i;omega),?_⟩;(conv=>whnf);refine⟨?_,?_,?_⟩<;>repeat(first|exact trivial|refine sc rfl ?_|refine kn ?_|refine kc rfl ?_|refine sc (by rfl) ?_|refine kc (by rfl) ?_))
  ·rw[h2]at hhd
   have hitp:=dh ((p:Int)+1) (by omega)
   have hlp:PureA Tryz.prog 110 [.slice 1 [aO (aK cP),aO (aK (num ((p:Int)+1)))] .no] (aO (aK (a6 p))):=cB [cP,num ((p:Int)+1)] (by simp) (by simp) (by simp[aL,cP,num])
   have hpl:=cY p
   have hpn:a6 p≠[]:=de _
   have hlr:PureA Tryz.prog 110 [.slice 1 [aO (aK bN),aO (aK (num f.room)),aO (aK jC)] .no] (aO (aK (ff f.room))):=cB [bN,num f.room,jC] (by simp) (by simp) (by simp[aL,bN,num,jC])
   have hrl:=gY f.room
   have hlw:=hlw (o:=(some p)) ho (h:=1) h2
   have hT:s.textTo c l (i+1)=t++a6 p++ff f.room++E:=by rw[hsu,hlw];simp[ec]
   have hw1:=aP g (t) (a6 p) (by(try simp only[List.length_append]);omega) (by omega)
   have hw2:=aP (g+1) (t++a6 p) (ff f.room) (by(try simp only[List.length_append]);omega) (by omega)
   have hw3:=aP (g+2) (t++a6 p++ff f.room) (E) (by(try simp only[List.length_append]);omega) (by omega)
   clear hsu hlw h2
   generalize a6 p=A at *
   generalize ff f.room=B at *
   conv=>whnf
   repeat(any_goals(first|exact ab|(refine aq ?_ ?_<;>intro _<;>first|exact ap|conv=>whnf)|((first|refine ag hx rfl ?_|refine ag hf (by show xa=_;omega) ?_|refine aa hidx ?_|refine aa hitp ?_|refine aa hlp ?_|refine aa hitr ?_|refine aa hhd ?_|refine aa hlr ?_|refine aa hite ?_|refine aa hwa ?_|refine aa hwb ?_|refine aa hle ?_|refine ac ?_|refine bi ?_ ?_|intro _)<;>conv=>whnf)))
   refine⟨[kB,kBr],?_⟩
   conv=>whnf
   repeat(refine af (az _ _) ?_<;>(conv=>whnf))
   refine⟨_,_,hw1,?_⟩
   conv=>whnf
   repeat(refine af (az _ _) ?_<;>(conv=>whnf))
   repeat(any_goals(first|exact ab|(refine aq ?_ ?_<;>intro _<;>first|exact ap|conv=>whnf)|((first|refine ag hx rfl ?_|refine ag hf (by show xa=_;omega) ?_|refine aa hidx ?_|refine aa hitp ?_|refine aa hlp ?_|refine aa hitr ?_|refine aa hhd ?_|refine aa hlr ?_|refine aa hite ?_|refine aa hwa ?_|refine aa hwb ?_|refine aa hle ?_|refine ac ?_|refine bi ?_ ?_|intro _)<;>conv=>whnf)))
   refine⟨[kB,kBr],?_⟩
   conv=>whnf
   repeat(refine af (az _ _) ?_<;>(conv=>whnf))
   refine⟨_,_,hw2,?_⟩
   conv=>whnf
   repeat(refine af (az _ _) ?_<;>(conv=>whnf))
   repeat(any_goals(first|exact ab|(refine aq ?_ ?_<;>intro _<;>first|exact ap|conv=>whnf)|((first|refine ag hx rfl ?_|refine ag hf (by show xa=_;omega) ?_|refine aa hidx ?_|refine aa hitp ?_|refine aa hlp ?_|refine aa hitr ?_|refine aa hhd ?_|refine aa hlr ?_|refine aa hite ?_|refine aa hwa ?_|refine aa hwb ?_|refine aa hle ?_|refine ac ?_|refine bi ?_ ?_|intro _)<;>conv=>whnf)))
   refine⟨[kB,kBr],?_⟩
   conv=>whnf
   repeat(refine af (az _ _) ?_<;>(conv=>whnf))
   refine⟨_,_,hw3,?_⟩
   conv=>whnf
   repeat(refine af (az _ _) ?_<;>(conv=>whnf))
   repeat(any_goals(first|exact ab|(refine aq ?_ ?_<;>intro _<;>first|exact ap|conv=>whnf)|((first|refine ag hx rfl ?_|refine ag hf (by show xa=_;omega) ?_|refine aa hidx ?_|refine aa hitp ?_|refine aa hlp ?_|refine aa hitr ?_|refine aa hhd ?_|refine aa hlr ?_|refine aa hite ?_|refine aa hwa ?_|refine aa hwb ?_|refine aa hle ?_|refine ac ?_|refine bi ?_ ?_|intro _)<;>conv=>whnf)))
   (refine⟨⟨i+1,.used (g+1+1+1) (t++A++B++E)⟩,⟨by show i+1≤_;omega,(fun h=>by cases h),fun _=>⟨_,congrArg (BSt.used _) hT.symm⟩⟩,(by show _-(i+1)<_-i;omega),?_⟩;(conv=>whnf);refine⟨?_,?_,?_⟩<;>repeat(first|exact trivial|refine sc rfl ?_|refine kn ?_|refine kc rfl ?_|refine sc (by rfl) ?_|refine kc (by rfl) ?_))
end Go.Proofs.YtgncapdjheghfaaGreatDoor
namespace Go.Proofs.YtgncapdjheghfaaGreatDoor
open Go.Am Go.Proofs Go
set_option maxHeartbeats 8000000 in
theorem HP(s:Bill)(hg:s.Good)(c:List Ent)(hc:∀x∈c,s.OkE x)(h6:c.length≤6)(l:List Nat)(hll:l.length≤6)(i:Nat)(R:Press)(hR:R.pages=gQ l)(M:ci)(xa xb:Int)(hx:c[i]?=some ⟨1,xa,xb⟩)(g:Nat) :
  vj s c l R M i (.used g (s.textTo c l i)):=by
 have hi:i<c.length:=(List.getElem?_eq_some_iff.1 hx).1
 have hok:=hc _ (List.mem_of_getElem? hx)
 obtain⟨f,hf,hn,hroom,hr0⟩:=kx hg hok.a
 obtain⟨f2,hf2,hn2,_⟩:=kx hg hok.b
 have hlt:=dn hg hc l i
 have hsu:=cG s c l i
 have hwa:=m7 s xa f hok.a.1 hf hn
 have hwb:=m7 s xb f2 hok.b.1 hf2 hn2
 obtain⟨wl,wn⟩:=dO hf hn
 obtain⟨wl2,wn2⟩:=dO hf2 hn2
 have hej:=gu (s:=s) (i:=i) (x:=⟨1,xa,xb⟩) wn wn2
 have hel:=g8 hg hok i
 have hidx:=gC R.pages i (by rw[hR];unfold gQ;rw[List.length_map];omega)
 rw[hR,iJ, ←hR]at hidx
 have hhd:=fun t=>e5 s c (fun x hx=>(hc x hx).inn) h6 i hi t
 have hlw:=fun {o} ho {h} hh=>ey (s:=s) (pages:=l) hx (o:=o) ho (h:=h) hh
 have hitr:=dh f.room hr0
 have hite:=dh ((i:Int)+1) (by omega)
 have hax:=hok.a
 have hbx:=hok.b
 have hfl:(s.figs.map cD).length=s.figs.length:=List.length_map ..
 have hcl:(c.map bC).length=c.length:=List.length_map ..
 simp only at hroom hlw hax hbx hwa hwb wl wl2 wn wn2 hej hf
 rw[hroom]at hlw
 generalize aL (s.whoW xa)=W at *
 generalize aL (s.whoW xb)=W2 at *
 have hE:bH (s.entW i ⟨1,xa,xb⟩)=bH [num ((i:Int)+1),wIs,W,wOr,W2]:=by unfold bH;rw[hej];rfl
 have hle:PureA Tryz.prog 110 [.slice 1 [aO (aK (num ((i:Int)+1))),aO isB,aO (aK W),aO (aK wOr),aO (aK W2)] .no] (aO (aK (bH (s.entW i ⟨1,xa,xb⟩)))):=by
  rw[hE]
  refine cB [num ((i:Int)+1),wIs,W,wOr,W2] (by simp) (by simp) ?_
  rw[hE]at hel
  unfold bH at hel
  rw[List.length_append]at hel
  omega
 have hEn:=de (s.entW i ⟨1,xa,xb⟩)
 clear hej hE hn hn2 wl wl2 wn wn2 hf2
 generalize bH (s.entW i ⟨1,xa,xb⟩)=E at *
 have hht:=jE (s:=s) hx
 generalize s.textTo c l i=t at *
 intro Q
 cases ho:l.findIdx? (· ==i)with
 | none =>
  simp only[ho]at hidx
  have hhd:=hhd false
  rcases hht.2 with h2|h2
  ·rw[h2]at hhd
   have hlr:PureA Tryz.prog 110 [.slice 1 [aO (aK bN),aO (aK (num f.room))] .no] (aO (aK (bO f.room))):=cB [bN,num f.room] (by simp) (by simp) (by simp[aL,bN,num])
   have hrl:=cT f.room
   have hlw:=hlw (o:=none) ho (h:=2) h2
   have hT:s.textTo c l (i+1)=t++bO f.room++E:=by rw[hsu,hlw];simp[ec]
   have hw1:=aP g (t) (bO f.room) (by(try simp only[List.length_append]);omega) (by omega)
   have hw2:=aP (g+1) (t++bO f.room) (E) (by(try simp only[List.length_append]);omega) (by omega)
   clear hsu hlw h2
   generalize bO f.room=B at *
   conv=>whnf
   repeat(any_goals(first|exact ab|(refine aq ?_ ?_<;>intro _<;>first|exact ap|conv=>whnf)|((first|refine ag hx rfl ?_|refine ag hf (by show xa=_;omega) ?_|refine aa hidx ?_|refine aa hitp ?_|refine aa hlp ?_|refine aa hitr ?_|refine aa hhd ?_|refine aa hlr ?_|refine aa hite ?_|refine aa hwa ?_|refine aa hwb ?_|refine aa hle ?_|refine ac ?_|refine bi ?_ ?_|intro _)<;>conv=>whnf)))
   refine⟨[kB,kBr],?_⟩
   conv=>whnf
   repeat(refine af (az _ _) ?_<;>(conv=>whnf))
   refine⟨_,_,hw1,?_⟩
   conv=>whnf
   repeat(refine af (az _ _) ?_<;>(conv=>whnf))
   repeat(any_goals(first|exact ab|(refine aq ?_ ?_<;>intro _<;>first|exact ap|conv=>whnf)|((first|refine ag hx rfl ?_|refine ag hf (by show xa=_;omega) ?_|refine aa hidx ?_|refine aa hitp ?_|refine aa hlp ?_|refine aa hitr ?_|refine aa hhd ?_|refine aa hlr ?_|refine aa hite ?_|refine aa hwa ?_|refine aa hwb ?_|refine aa hle ?_|refine ac ?_|refine bi ?_ ?_|intro _)<;>conv=>whnf)))
   refine⟨[kB,kBr],?_⟩
   conv=>whnf
   repeat(refine af (az _ _) ?_<;>(conv=>whnf))
   refine⟨_,_,hw2,?_⟩
   conv=>whnf
   repeat(refine af (az _ _) ?_<;>(conv=>whnf))
   repeat(any_goals(first|exact ab|(refine aq ?_ ?_<;>intro _<;>first|exact ap|conv=>whnf)|((first|refine ag hx rfl ?_|refine ag hf (by show xa=_;omega) ?_|refine aa hidx ?_|refine aa hitp ?_|refine aa hlp ?_|refine aa hitr ?_|refine aa hhd ?_|refine aa hlr ?_|refine aa hite ?_|refine aa hwa ?_|refine aa hwb ?_|refine aa hle ?_|refine ac ?_|refine bi ?_ ?_|intro _)<;>conv=>whnf)))
   (refine⟨⟨i+1,.used (g+1+1) (t++B++E)⟩,⟨by show i+1≤_;omega,(fun h=>by cases h),fun _=>⟨_,congrArg (BSt.used _) hT.symm⟩⟩,(by show _-(i+1)<_-i;omega),?_⟩;(conv=>whnf);refine⟨?_,?_,?_⟩<;>repeat(first|exact trivial|refine sc rfl ?_|refine kn ?_|refine kc rfl ?_|refine sc (by rfl) ?_|refine kc (by rfl) ?_))
  ·rw[h2]at hhd
   have hlw:=hlw (o:=none) ho (h:=0) h2
   have hT:s.textTo c l (i+1)=t++E:=by rw[hsu,hlw];simp[ec]
   have hw1:=aP g (t) (E) (by(try simp only[List.length_append]);omega) (by omega)
   clear hsu hlw h2
   conv=>whnf
   repeat(any_goals(first|exact ab|(refine aq ?_ ?_<;>intro _<;>first|exact ap|conv=>whnf)|((first|refine ag hx rfl ?_|refine ag hf (by show xa=_;omega) ?_|refine aa hidx ?_|refine aa hitp ?_|refine aa hlp ?_|refine aa hitr ?_|refine aa hhd ?_|refine aa hlr ?_|refine aa hite ?_|refine aa hwa ?_|refine aa hwb ?_|refine aa hle ?_|refine ac ?_|refine bi ?_ ?_|intro _)<;>conv=>whnf)))
   refine⟨[kB,kBr],?_⟩
   conv=>whnf
   repeat(refine af (az _ _) ?_<;>(conv=>whnf))
   refine⟨_,_,hw1,?_⟩
   conv=>whnf
   repeat(refine af (az _ _) ?_<;>(conv=>whnf))
   repeat(any_goals(first|exact ab|(refine aq ?_ ?_<;>intro _<;>first|exact ap|conv=>whnf)|((first|refine ag hx rfl ?_|refine ag hf (by show xa=_;omega) ?_|refine aa hidx ?_|refine aa hitp ?_|refine aa hlp ?_|refine aa hitr ?_|refine aa hhd ?_|refine aa hlr ?_|refine aa hite ?_|refine aa hwa ?_|refine aa hwb ?_|refine aa hle ?_|refine ac ?_|refine bi ?_ ?_|intro _)<;>conv=>whnf)))
   (refine⟨⟨i+1,.used (g+1) (t++E)⟩,⟨by show i+1≤_;omega,(fun h=>by cases h),fun _=>⟨_,congrArg (BSt.used _) hT.symm⟩⟩,(by show _-(i+1)<_-i;omega),?_⟩;(conv=>whnf);refine⟨?_,?_,?_⟩<;>repeat(first|exact trivial|refine sc rfl ?_|refine kn ?_|refine kc rfl ?_|refine sc (by rfl) ?_|refine kc (by rfl) ?_))
 | some p =>
  simp only[ho]at hidx
  have hp6:=iL ho
  have hhd:=hhd true
  rcases hht.1 with h2|h2
  ·rw[h2]at hhd
   have hitp:=dh ((p:Int)+1) (by omega)
   have hlp:PureA Tryz.prog 110 [.slice 1 [aO (aK cP),aO (aK (num ((p:Int)+1)))] .no] (aO (aK (a6 p))):=cB [cP,num ((p:Int)+1)] (by simp) (by simp) (by simp[aL,cP,num])
   have hpl:=cY p
   have hpn:a6 p≠[]:=de _
   have hlr:PureA Tryz.prog 110 [.slice 1 [aO (aK bN),aO (aK (num f.room))] .no] (aO (aK (bO f.room))):=cB [bN,num f.room] (by simp) (by simp) (by simp[aL,bN,num])
   have hrl:=cT f.room
   have hlw:=hlw (o:=(some p)) ho (h:=2) h2
   have hT:s.textTo c l (i+1)=t++a6 p++bO f.room++E:=by rw[hsu,hlw];simp[ec]
   have hw1:=aP g (t) (a6 p) (by(try simp only[List.length_append]);omega) (by omega)
   have hw2:=aP (g+1) (t++a6 p) (bO f.room) (by(try simp only[List.length_append]);omega) (by omega)
   have hw3:=aP (g+2) (t++a6 p++bO f.room) (E) (by(try simp only[List.length_append]);omega) (by omega)
   clear hsu hlw h2
   generalize a6 p=A at *
   generalize bO f.room=B at *
   conv=>whnf
   repeat(any_goals(first|exact ab|(refine aq ?_ ?_<;>intro _<;>first|exact ap|conv=>whnf)|((first|refine ag hx rfl ?_|refine ag hf (by show xa=_;omega) ?_|refine aa hidx ?_|refine aa hitp ?_|refine aa hlp ?_|refine aa hitr ?_|refine aa hhd ?_|refine aa hlr ?_|refine aa hite ?_|refine aa hwa ?_|refine aa hwb ?_|refine aa hle ?_|refine ac ?_|refine bi ?_ ?_|intro _)<;>conv=>whnf)))
   refine⟨[kB,kBr],?_⟩
   conv=>whnf
   repeat(refine af (az _ _) ?_<;>(conv=>whnf))
   refine⟨_,_,hw1,?_⟩
   conv=>whnf
   repeat(refine af (az _ _) ?_<;>(conv=>whnf))
   repeat(any_goals(first|exact ab|(refine aq ?_ ?_<;>intro _<;>first|exact ap|conv=>whnf)|((first|refine ag hx rfl ?_|refine ag hf (by show xa=_;omega) ?_|refine aa hidx ?_|refine aa hitp ?_|refine aa hlp ?_|refine aa hitr ?_|refine aa hhd ?_|refine aa hlr ?_|refine aa hite ?_|refine aa hwa ?_|refine aa hwb ?_|refine aa hle ?_|refine ac ?_|refine bi ?_ ?_|intro _)<;>conv=>whnf)))
   refine⟨[kB,kBr],?_⟩
   conv=>whnf
   repeat(refine af (az _ _) ?_<;>(conv=>whnf))
   refine⟨_,_,hw2,?_⟩
   conv=>whnf
   repeat(refine af (az _ _) ?_<;>(conv=>whnf))
   repeat(any_goals(first|exact ab|(refine aq ?_ ?_<;>intro _<;>first|exact ap|conv=>whnf)|((first|refine ag hx rfl ?_|refine ag hf (by show xa=_;omega) ?_|refine aa hidx ?_|refine aa hitp ?_|refine aa hlp ?_|refine aa hitr ?_|refine aa hhd ?_|refine aa hlr ?_|refine aa hite ?_|refine aa hwa ?_|refine aa hwb ?_|refine aa hle ?_|refine ac ?_|refine bi ?_ ?_|intro _)<;>conv=>whnf)))
   refine⟨[kB,kBr],?_⟩
   conv=>whnf
   repeat(refine af (az _ _) ?_<;>(conv=>whnf))
   refine⟨_,_,hw3,?_⟩
   conv=>whnf
   repeat(refine af (az _ _) ?_<;>(conv=>whnf))
   repeat(any_goals(first|exact ab|(refine aq ?_ ?_<;>intro _<;>first|exact ap|conv=>whnf)|((first|refine ag hx rfl ?_|refine ag hf (by show xa=_;omega) ?_|refine aa hidx ?_|refine aa hitp ?_|refine aa hlp ?_|refine aa hitr ?_|refine aa hhd ?_|refine aa hlr ?_|refine aa hite ?_|refine aa hwa ?_|refine aa hwb ?_|refine aa hle ?_|refine ac ?_|refine bi ?_ ?_|intro _)<;>conv=>whnf)))
   (refine⟨⟨i+1,.used (g+1+1+1) (t++A++B++E)⟩,⟨by show i+1≤_;omega,(fun h=>by cases h),fun _=>⟨_,congrArg (BSt.used _) hT.symm⟩⟩,(by show _-(i+1)<_-i;omega),?_⟩;(conv=>whnf);refine⟨?_,?_,?_⟩<;>repeat(first|exact trivial|refine sc rfl ?_|refine kn ?_|refine kc rfl ?_|refine sc (by rfl) ?_|refine kc (by rfl) ?_))
  ·rw[h2]at hhd
   have hitp:=dh ((p:Int)+1) (by omega)
   have hlp:PureA Tryz.prog 110 [.slice 1 [aO (aK cP),aO (aK (num ((p:Int)+1)))] .no] (aO (aK (a6 p))):=cB [cP,num ((p:Int)+1)] (by simp) (by simp) (by simp[aL,cP,num])
   have hpl:=cY p
   have hpn:a6 p≠[]:=de _
   have hlr:PureA Tryz.prog 110 [.slice 1 [aO (aK bN),aO (aK (num f.room)),aO (aK jC)] .no] (aO (aK (ff f.room))):=cB [bN,num f.room,jC] (by simp) (by simp) (by simp[aL,bN,num,jC])
   have hrl:=gY f.room
   have hlw:=hlw (o:=(some p)) ho (h:=1) h2
   have hT:s.textTo c l (i+1)=t++a6 p++ff f.room++E:=by rw[hsu,hlw];simp[ec]
   have hw1:=aP g (t) (a6 p) (by(try simp only[List.length_append]);omega) (by omega)
   have hw2:=aP (g+1) (t++a6 p) (ff f.room) (by(try simp only[List.length_append]);omega) (by omega)
   have hw3:=aP (g+2) (t++a6 p++ff f.room) (E) (by(try simp only[List.length_append]);omega) (by omega)
   clear hsu hlw h2
   generalize a6 p=A at *
   generalize ff f.room=B at *
   conv=>whnf
   repeat(any_goals(first|exact ab|(refine aq ?_ ?_<;>intro _<;>first|exact ap|conv=>whnf)|((first|refine ag hx rfl ?_|refine ag hf (by show xa=_;omega) ?_|refine aa hidx ?_|refine aa hitp ?_|refine aa hlp ?_|refine aa hitr ?_|refine aa hhd ?_|refine aa hlr ?_|refine aa hite ?_|refine aa hwa ?_|refine aa hwb ?_|refine aa hle ?_|refine ac ?_|refine bi ?_ ?_|intro _)<;>conv=>whnf)))
   refine⟨[kB,kBr],?_⟩
   conv=>whnf
   repeat(refine af (az _ _) ?_<;>(conv=>whnf))
   refine⟨_,_,hw1,?_⟩
   conv=>whnf
   repeat(refine af (az _ _) ?_<;>(conv=>whnf))
   repeat(any_goals(first|exact ab|(refine aq ?_ ?_<;>intro _<;>first|exact ap|conv=>whnf)|((first|refine ag hx rfl ?_|refine ag hf (by show xa=_;omega) ?_|refine aa hidx ?_|refine aa hitp ?_|refine aa hlp ?_|refine aa hitr ?_|refine aa hhd ?_|refine aa hlr ?_|refine aa hite ?_|refine aa hwa ?_|refine aa hwb ?_|refine aa hle ?_|refine ac ?_|refine bi ?_ ?_|intro _)<;>conv=>whnf)))
   refine⟨[kB,kBr],?_⟩
   conv=>whnf
   repeat(refine af (az _ _) ?_<;>(conv=>whnf))
   refine⟨_,_,hw2,?_⟩
   conv=>whnf
   repeat(refine af (az _ _) ?_<;>(conv=>whnf))
   repeat(any_goals(first|exact ab|(refine aq ?_ ?_<;>intro _<;>first|exact ap|conv=>whnf)|((first|refine ag hx rfl ?_|refine ag hf (by show xa=_;omega) ?_|refine aa hidx ?_|refine aa hitp ?_|refine aa hlp ?_|refine aa hitr ?_|refine aa hhd ?_|refine aa hlr ?_|refine aa hite ?_|refine aa hwa ?_|refine aa hwb ?_|refine aa hle ?_|refine ac ?_|refine bi ?_ ?_|intro _)<;>conv=>whnf)))
   refine⟨[kB,kBr],?_⟩
   conv=>whnf
   repeat(refine af (az _ _) ?_<;>(conv=>whnf))
   refine⟨_,_,hw3,?_⟩
   conv=>whnf
   repeat(refine af (az _ _) ?_<;>(conv=>whnf))
   repeat(any_goals(first|exact ab|(refine aq ?_ ?_<;>intro _<;>first|exact ap|conv=>whnf)|((first|refine ag hx rfl ?_|refine ag hf (by show xa=_;omega) ?_|refine aa hidx ?_|refine aa hitp ?_|refine aa hlp ?_|refine aa hitr ?_|refine aa hhd ?_|refine aa hlr ?_|refine aa hite ?_|refine aa hwa ?_|refine aa hwb ?_|refine aa hle ?_|refine ac ?_|refine bi ?_ ?_|intro _)<;>conv=>whnf)))
   (refine⟨⟨i+1,.used (g+1+1+1) (t++A++B++E)⟩,⟨by show i+1≤_;omega,(fun h=>by cases h),fun _=>⟨_,congrArg (BSt.used _) hT.symm⟩⟩,(by show _-(i+1)<_-i;omega),?_⟩;(conv=>whnf);refine⟨?_,?_,?_⟩<;>repeat(first|exact trivial|refine sc rfl ?_|refine kn ?_|refine kc rfl ?_|refine sc (by rfl) ?_|refine kc (by rfl) ?_))
end Go.Proofs.YtgncapdjheghfaaGreatDoor
namespace Go.Proofs.YtgncapdjheghfaaGreatDoor
open Go.Am Go.Proofs Go
set_option maxHeartbeats 8000000 in
theorem GU(s:Bill)(hg:s.Good)(c:List Ent)(hc:∀x∈c,s.OkE x)(h6:c.length≤6)(l:List Nat)(hll:l.length≤6)(i:Nat)(R:Press)(hR:R.pages=gQ l)(M:ci)(xa xb:Int)(hx:c[i]?=some ⟨2,xa,xb⟩)(g:Nat) :
  vj s c l R M i (.used g (s.textTo c l i)):=by
 have hi:i<c.length:=(List.getElem?_eq_some_iff.1 hx).1
 have hok:=hc _ (List.mem_of_getElem? hx)
 obtain⟨f,hf,hn,hroom,hr0⟩:=kx hg hok.a
 obtain⟨f2,hf2,hn2,_⟩:=kx hg hok.b
 have hlt:=dn hg hc l i
 have hsu:=cG s c l i
 have hwa:=m7 s xa f hok.a.1 hf hn
 have hwb:=m7 s xb f2 hok.b.1 hf2 hn2
 obtain⟨wl,wn⟩:=dO hf hn
 obtain⟨wl2,wn2⟩:=dO hf2 hn2
 have hej:=gu (s:=s) (i:=i) (x:=⟨2,xa,xb⟩) wn wn2
 have hel:=g8 hg hok i
 have hidx:=gC R.pages i (by rw[hR];unfold gQ;rw[List.length_map];omega)
 rw[hR,iJ, ←hR]at hidx
 have hhd:=fun t=>e5 s c (fun x hx=>(hc x hx).inn) h6 i hi t
 have hlw:=fun {o} ho {h} hh=>ey (s:=s) (pages:=l) hx (o:=o) ho (h:=h) hh
 have hitr:=dh f.room hr0
 have hite:=dh ((i:Int)+1) (by omega)
 have hax:=hok.a
 have hbx:=hok.b
 have hfl:(s.figs.map cD).length=s.figs.length:=List.length_map ..
 have hcl:(c.map bC).length=c.length:=List.length_map ..
 simp only at hroom hlw hax hbx hwa hwb wl wl2 wn wn2 hej hf
 rw[hroom]at hlw
 generalize aL (s.whoW xa)=W at *
 generalize aL (s.whoW xb)=W2 at *
 have hE:bH (s.entW i ⟨2,xa,xb⟩)=bH [num ((i:Int)+1),aL [yG,wBe],W]:=by unfold bH;rw[hej];rfl
 have hle:PureA Tryz.prog 110 [.slice 1 [aO (aK (num ((i:Int)+1))),aO KS,aO (aK W)] .no] (aO (aK (bH (s.entW i ⟨2,xa,xb⟩)))):=by
  rw[hE]
  refine cB [num ((i:Int)+1),aL [yG,wBe],W] (by simp) (by simp) ?_
  rw[hE]at hel
  unfold bH at hel
  rw[List.length_append]at hel
  omega
 have hEn:=de (s.entW i ⟨2,xa,xb⟩)
 clear hej hE hn hn2 wl wl2 wn wn2 hf2
 generalize bH (s.entW i ⟨2,xa,xb⟩)=E at *
 have hht:=jE (s:=s) hx
 generalize s.textTo c l i=t at *
 intro Q
 cases ho:l.findIdx? (· ==i)with
 | none =>
  simp only[ho]at hidx
  have hhd:=hhd false
  rcases hht.2 with h2|h2
  ·rw[h2]at hhd
   have hlr:PureA Tryz.prog 110 [.slice 1 [aO (aK bN),aO (aK (num f.room))] .no] (aO (aK (bO f.room))):=cB [bN,num f.room] (by simp) (by simp) (by simp[aL,bN,num])
   have hrl:=cT f.room
   have hlw:=hlw (o:=none) ho (h:=2) h2
   have hT:s.textTo c l (i+1)=t++bO f.room++E:=by rw[hsu,hlw];simp[ec]
   have hw1:=aP g (t) (bO f.room) (by(try simp only[List.length_append]);omega) (by omega)
   have hw2:=aP (g+1) (t++bO f.room) (E) (by(try simp only[List.length_append]);omega) (by omega)
   clear hsu hlw h2
   generalize bO f.room=B at *
   conv=>whnf
   repeat(any_goals(first|exact ab|(refine aq ?_ ?_<;>intro _<;>first|exact ap|conv=>whnf)|((first|refine ag hx rfl ?_|refine ag hf (by show xa=_;omega) ?_|refine aa hidx ?_|refine aa hitp ?_|refine aa hlp ?_|refine aa hitr ?_|refine aa hhd ?_|refine aa hlr ?_|refine aa hite ?_|refine aa hwa ?_|refine aa hwb ?_|refine aa hle ?_|refine ac ?_|refine bi ?_ ?_|intro _)<;>conv=>whnf)))
   refine⟨[kB,kBr],?_⟩
   conv=>whnf
   repeat(refine af (az _ _) ?_<;>(conv=>whnf))
   refine⟨_,_,hw1,?_⟩
   conv=>whnf
   repeat(refine af (az _ _) ?_<;>(conv=>whnf))
   repeat(any_goals(first|exact ab|(refine aq ?_ ?_<;>intro _<;>first|exact ap|conv=>whnf)|((first|refine ag hx rfl ?_|refine ag hf (by show xa=_;omega) ?_|refine aa hidx ?_|refine aa hitp ?_|refine aa hlp ?_|refine aa hitr ?_|refine aa hhd ?_|refine aa hlr ?_|refine aa hite ?_|refine aa hwa ?_|refine aa hwb ?_|refine aa hle ?_|refine ac ?_|refine bi ?_ ?_|intro _)<;>conv=>whnf)))
   refine⟨[kB,kBr],?_⟩
   conv=>whnf
   repeat(refine af (az _ _) ?_<;>(conv=>whnf))
   refine⟨_,_,hw2,?_⟩
   conv=>whnf
   repeat(refine af (az _ _) ?_<;>(conv=>whnf))
   repeat(any_goals(first|exact ab|(refine aq ?_ ?_<;>intro _<;>first|exact ap|conv=>whnf)|((first|refine ag hx rfl ?_|refine ag hf (by show xa=_;omega) ?_|refine aa hidx ?_|refine aa hitp ?_|refine aa hlp ?_|refine aa hitr ?_|refine aa hhd ?_|refine aa hlr ?_|refine aa hite ?_|refine aa hwa ?_|refine aa hwb ?_|refine aa hle ?_|refine ac ?_|refine bi ?_ ?_|intro _)<;>conv=>whnf)))
   (refine⟨⟨i+1,.used (g+1+1) (t++B++E)⟩,⟨by show i+1≤_;omega,(fun h=>by cases h),fun _=>⟨_,congrArg (BSt.used _) hT.symm⟩⟩,(by show _-(i+1)<_-i;omega),?_⟩;(conv=>whnf);refine⟨?_,?_,?_⟩<;>repeat(first|exact trivial|refine sc rfl ?_|refine kn ?_|refine kc rfl ?_|refine sc (by rfl) ?_|refine kc (by rfl) ?_))
  ·rw[h2]at hhd
   have hlw:=hlw (o:=none) ho (h:=0) h2
   have hT:s.textTo c l (i+1)=t++E:=by rw[hsu,hlw];simp[ec]
   have hw1:=aP g (t) (E) (by(try simp only[List.length_append]);omega) (by omega)
   clear hsu hlw h2
   conv=>whnf
   repeat(any_goals(first|exact ab|(refine aq ?_ ?_<;>intro _<;>first|exact ap|conv=>whnf)|((first|refine ag hx rfl ?_|refine ag hf (by show xa=_;omega) ?_|refine aa hidx ?_|refine aa hitp ?_|refine aa hlp ?_|refine aa hitr ?_|refine aa hhd ?_|refine aa hlr ?_|refine aa hite ?_|refine aa hwa ?_|refine aa hwb ?_|refine aa hle ?_|refine ac ?_|refine bi ?_ ?_|intro _)<;>conv=>whnf)))
   refine⟨[kB,kBr],?_⟩
   conv=>whnf
   repeat(refine af (az _ _) ?_<;>(conv=>whnf))
   refine⟨_,_,hw1,?_⟩
   conv=>whnf
   repeat(refine af (az _ _) ?_<;>(conv=>whnf))
   repeat(any_goals(first|exact ab|(refine aq ?_ ?_<;>intro _<;>first|exact ap|conv=>whnf)|((first|refine ag hx rfl ?_|refine ag hf (by show xa=_;omega) ?_|refine aa hidx ?_|refine aa hitp ?_|refine aa hlp ?_|refine aa hitr ?_|refine aa hhd ?_|refine aa hlr ?_|refine aa hite ?_|refine aa hwa ?_|refine aa hwb ?_|refine aa hle ?_|refine ac ?_|refine bi ?_ ?_|intro _)<;>conv=>whnf)))
   (refine⟨⟨i+1,.used (g+1) (t++E)⟩,⟨by show i+1≤_;omega,(fun h=>by cases h),fun _=>⟨_,congrArg (BSt.used _) hT.symm⟩⟩,(by show _-(i+1)<_-i;omega),?_⟩;(conv=>whnf);refine⟨?_,?_,?_⟩<;>repeat(first|exact trivial|refine sc rfl ?_|refine kn ?_|refine kc rfl ?_|refine sc (by rfl) ?_|refine kc (by rfl) ?_))
 | some p =>
  simp only[ho]at hidx
  have hp6:=iL ho
  have hhd:=hhd true
  rcases hht.1 with h2|h2
  ·rw[h2]at hhd
   have hitp:=dh ((p:Int)+1) (by omega)
   have hlp:PureA Tryz.prog 110 [.slice 1 [aO (aK cP),aO (aK (num ((p:Int)+1)))] .no] (aO (aK (a6 p))):=cB [cP,num ((p:Int)+1)] (by simp) (by simp) (by simp[aL,cP,num])
   have hpl:=cY p
   have hpn:a6 p≠[]:=de _
   have hlr:PureA Tryz.prog 110 [.slice 1 [aO (aK bN),aO (aK (num f.room))] .no] (aO (aK (bO f.room))):=cB [bN,num f.room] (by simp) (by simp) (by simp[aL,bN,num])
   have hrl:=cT f.room
   have hlw:=hlw (o:=(some p)) ho (h:=2) h2
   have hT:s.textTo c l (i+1)=t++a6 p++bO f.room++E:=by rw[hsu,hlw];simp[ec]
   have hw1:=aP g (t) (a6 p) (by(try simp only[List.length_append]);omega) (by omega)
   have hw2:=aP (g+1) (t++a6 p) (bO f.room) (by(try simp only[List.length_append]);omega) (by omega)
   have hw3:=aP (g+2) (t++a6 p++bO f.room) (E) (by(try simp only[List.length_append]);omega) (by omega)
   clear hsu hlw h2
   generalize a6 p=A at *
   generalize bO f.room=B at *
   conv=>whnf
   repeat(any_goals(first|exact ab|(refine aq ?_ ?_<;>intro _<;>first|exact ap|conv=>whnf)|((first|refine ag hx rfl ?_|refine ag hf (by show xa=_;omega) ?_|refine aa hidx ?_|refine aa hitp ?_|refine aa hlp ?_|refine aa hitr ?_|refine aa hhd ?_|refine aa hlr ?_|refine aa hite ?_|refine aa hwa ?_|refine aa hwb ?_|refine aa hle ?_|refine ac ?_|refine bi ?_ ?_|intro _)<;>conv=>whnf)))
   refine⟨[kB,kBr],?_⟩
   conv=>whnf
   repeat(refine af (az _ _) ?_<;>(conv=>whnf))
   refine⟨_,_,hw1,?_⟩
   conv=>whnf
   repeat(refine af (az _ _) ?_<;>(conv=>whnf))
   repeat(any_goals(first|exact ab|(refine aq ?_ ?_<;>intro _<;>first|exact ap|conv=>whnf)|((first|refine ag hx rfl ?_|refine ag hf (by show xa=_;omega) ?_|refine aa hidx ?_|refine aa hitp ?_|refine aa hlp ?_|refine aa hitr ?_|refine aa hhd ?_|refine aa hlr ?_|refine aa hite ?_|refine aa hwa ?_|refine aa hwb ?_|refine aa hle ?_|refine ac ?_|refine bi ?_ ?_|intro _)<;>conv=>whnf)))
   refine⟨[kB,kBr],?_⟩
   conv=>whnf
   repeat(refine af (az _ _) ?_<;>(conv=>whnf))
   refine⟨_,_,hw2,?_⟩
   conv=>whnf
   repeat(refine af (az _ _) ?_<;>(conv=>whnf))
   repeat(any_goals(first|exact ab|(refine aq ?_ ?_<;>intro _<;>first|exact ap|conv=>whnf)|((first|refine ag hx rfl ?_|refine ag hf (by show xa=_;omega) ?_|refine aa hidx ?_|refine aa hitp ?_|refine aa hlp ?_|refine aa hitr ?_|refine aa hhd ?_|refine aa hlr ?_|refine aa hite ?_|refine aa hwa ?_|refine aa hwb ?_|refine aa hle ?_|refine ac ?_|refine bi ?_ ?_|intro _)<;>conv=>whnf)))
   refine⟨[kB,kBr],?_⟩
   conv=>whnf
   repeat(refine af (az _ _) ?_<;>(conv=>whnf))
   refine⟨_,_,hw3,?_⟩
   conv=>whnf
   repeat(refine af (az _ _) ?_<;>(conv=>whnf))
   repeat(any_goals(first|exact ab|(refine aq ?_ ?_<;>intro _<;>first|exact ap|conv=>whnf)|((first|refine ag hx rfl ?_|refine ag hf (by show xa=_;omega) ?_|refine aa hidx ?_|refine aa hitp ?_|refine aa hlp ?_|refine aa hitr ?_|refine aa hhd ?_|refine aa hlr ?_|refine aa hite ?_|refine aa hwa ?_|refine aa hwb ?_|refine aa hle ?_|refine ac ?_|refine bi ?_ ?_|intro _)<;>conv=>whnf)))
   (refine⟨⟨i+1,.used (g+1+1+1) (t++A++B++E)⟩,⟨by show i+1≤_;omega,(fun h=>by cases h),fun _=>⟨_,congrArg (BSt.used _) hT.symm⟩⟩,(by show _-(i+1)<_-i;omega),?_⟩;(conv=>whnf);refine⟨?_,?_,?_⟩<;>repeat(first|exact trivial|refine sc rfl ?_|refine kn ?_|refine kc rfl ?_|refine sc (by rfl) ?_|refine kc (by rfl) ?_))
  ·rw[h2]at hhd
   have hitp:=dh ((p:Int)+1) (by omega)
   have hlp:PureA Tryz.prog 110 [.slice 1 [aO (aK cP),aO (aK (num ((p:Int)+1)))] .no] (aO (aK (a6 p))):=cB [cP,num ((p:Int)+1)] (by simp) (by simp) (by simp[aL,cP,num])
   have hpl:=cY p
   have hpn:a6 p≠[]:=de _
   have hlr:PureA Tryz.prog 110 [.slice 1 [aO (aK bN),aO (aK (num f.room)),aO (aK jC)] .no] (aO (aK (ff f.room))):=cB [bN,num f.room,jC] (by simp) (by simp) (by simp[aL,bN,num,jC])
   have hrl:=gY f.room
   have hlw:=hlw (o:=(some p)) ho (h:=1) h2
   have hT:s.textTo c l (i+1)=t++a6 p++ff f.room++E:=by rw[hsu,hlw];simp[ec]
   have hw1:=aP g (t) (a6 p) (by(try simp only[List.length_append]);omega) (by omega)
   have hw2:=aP (g+1) (t++a6 p) (ff f.room) (by(try simp only[List.length_append]);omega) (by omega)
   have hw3:=aP (g+2) (t++a6 p++ff f.room) (E) (by(try simp only[List.length_append]);omega) (by omega)
   clear hsu hlw h2
   generalize a6 p=A at *
   generalize ff f.room=B at *
   conv=>whnf
   repeat(any_goals(first|exact ab|(refine aq ?_ ?_<;>intro _<;>first|exact ap|conv=>whnf)|((first|refine ag hx rfl ?_|refine ag hf (by show xa=_;omega) ?_|refine aa hidx ?_|refine aa hitp ?_|refine aa hlp ?_|refine aa hitr ?_|refine aa hhd ?_|refine aa hlr ?_|refine aa hite ?_|refine aa hwa ?_|refine aa hwb ?_|refine aa hle ?_|refine ac ?_|refine bi ?_ ?_|intro _)<;>conv=>whnf)))
   refine⟨[kB,kBr],?_⟩
   conv=>whnf
   repeat(refine af (az _ _) ?_<;>(conv=>whnf))
   refine⟨_,_,hw1,?_⟩
   conv=>whnf
   repeat(refine af (az _ _) ?_<;>(conv=>whnf))
   repeat(any_goals(first|exact ab|(refine aq ?_ ?_<;>intro _<;>first|exact ap|conv=>whnf)|((first|refine ag hx rfl ?_|refine ag hf (by show xa=_;omega) ?_|refine aa hidx ?_|refine aa hitp ?_|refine aa hlp ?_|refine aa hitr ?_|refine aa hhd ?_|refine aa hlr ?_|refine aa hite ?_|refine aa hwa ?_|refine aa hwb ?_|refine aa hle ?_|refine ac ?_|refine bi ?_ ?_|intro _)<;>conv=>whnf)))
   refine⟨[kB,kBr],?_⟩
   conv=>whnf
   repeat(refine af (az _ _) ?_<;>(conv=>whnf))
   refine⟨_,_,hw2,?_⟩
   conv=>whnf
   repeat(refine af (az _ _) ?_<;>(conv=>whnf))
   repeat(any_goals(first|exact ab|(refine aq ?_ ?_<;>intro _<;>first|exact ap|conv=>whnf)|((first|refine ag hx rfl ?_|refine ag hf (by show xa=_;omega) ?_|refine aa hidx ?_|refine aa hitp ?_|refine aa hlp ?_|refine aa hitr ?_|refine aa hhd ?_|refine aa hlr ?_|refine aa hite ?_|refine aa hwa ?_|refine aa hwb ?_|refine aa hle ?_|refine ac ?_|refine bi ?_ ?_|intro _)<;>conv=>whnf)))
   refine⟨[kB,kBr],?_⟩
   conv=>whnf
   repeat(refine af (az _ _) ?_<;>(conv=>whnf))
   refine⟨_,_,hw3,?_⟩
   conv=>whnf
   repeat(refine af (az _ _) ?_<;>(conv=>whnf))
   repeat(any_goals(first|exact ab|(refine aq ?_ ?_<;>intro _<;>first|exact ap|conv=>whnf)|((first|refine ag hx rfl ?_|refine ag hf (by show xa=_;omega) ?_|refine aa hidx ?_|refine aa hitp ?_|refine aa hlp ?_|refine aa hitr ?_|refine aa hhd ?_|refine aa hlr ?_|refine aa hite ?_|refine aa hwa ?_|refine aa hwb ?_|refine aa hle ?_|refine ac ?_|refine bi ?_ ?_|intro _)<;>conv=>whnf)))
   (refine⟨⟨i+1,.used (g+1+1+1) (t++A++B++E)⟩,⟨by show i+1≤_;omega,(fun h=>by cases h),fun _=>⟨_,congrArg (BSt.used _) hT.symm⟩⟩,(by show _-(i+1)<_-i;omega),?_⟩;(conv=>whnf);refine⟨?_,?_,?_⟩<;>repeat(first|exact trivial|refine sc rfl ?_|refine kn ?_|refine kc rfl ?_|refine sc (by rfl) ?_|refine kc (by rfl) ?_))
end Go.Proofs.YtgncapdjheghfaaGreatDoor
namespace Go.Proofs.YtgncapdjheghfaaGreatDoor
open Go.Am Go.Proofs Go
set_option maxHeartbeats 8000000 in
theorem Io(s:Bill)(hg:s.Good)(c:List Ent)(hc:∀x∈c,s.OkE x)(h6:c.length≤6)(l:List Nat)(hll:l.length≤6)(i:Nat)(hi0:i=0)(hl0:l.findIdx? (· ==i)=some 0)(R:Press)(hR:R.pages=gQ l)(M:ci)(xa xb:Int)(hx:c[i]?=some ⟨0,xa,xb⟩) :
  vj s c l R M i .fresh:=by
 have hi:i<c.length:=(List.getElem?_eq_some_iff.1 hx).1
 have hok:=hc _ (List.mem_of_getElem? hx)
 obtain⟨f,hf,hn,hroom,hr0⟩:=kx hg hok.a
 obtain⟨f2,hf2,hn2,_⟩:=kx hg hok.b
 have hlt:=dn hg hc l i
 have hsu:=cG s c l i
 have hwa:=m7 s xa f hok.a.1 hf hn
 have hwb:=m7 s xb f2 hok.b.1 hf2 hn2
 obtain⟨wl,wn⟩:=dO hf hn
 obtain⟨wl2,wn2⟩:=dO hf2 hn2
 have hej:=gu (s:=s) (i:=i) (x:=⟨0,xa,xb⟩) wn wn2
 have hel:=g8 hg hok i
 have hidx:=gC R.pages i (by rw[hR];unfold gQ;rw[List.length_map];omega)
 rw[hR,iJ, ←hR]at hidx
 have hhd:=fun t=>e5 s c (fun x hx=>(hc x hx).inn) h6 i hi t
 have hlw:=fun {o} ho {h} hh=>ey (s:=s) (pages:=l) hx (o:=o) ho (h:=h) hh
 have hitr:=dh f.room hr0
 have hite:=dh ((i:Int)+1) (by omega)
 have hax:=hok.a
 have hbx:=hok.b
 have hfl:(s.figs.map cD).length=s.figs.length:=List.length_map ..
 have hcl:(c.map bC).length=c.length:=List.length_map ..
 simp only at hroom hlw hax hbx hwa hwb wl wl2 wn wn2 hej hf
 rw[hroom]at hlw
 generalize aL (s.whoW xa)=W at *
 generalize aL (s.whoW xb)=W2 at *
 have hE:bH (s.entW i ⟨0,xa,xb⟩)=bH [num ((i:Int)+1),wIs,W]:=by unfold bH;rw[hej];rfl
 have hle:PureA Tryz.prog 110 [.slice 1 [aO (aK (num ((i:Int)+1))),aO isB,aO (aK W)] .no] (aO (aK (bH (s.entW i ⟨0,xa,xb⟩)))):=by
  rw[hE]
  refine cB [num ((i:Int)+1),wIs,W] (by simp) (by simp) ?_
  rw[hE]at hel
  unfold bH at hel
  rw[List.length_append]at hel
  omega
 have hEn:=de (s.entW i ⟨0,xa,xb⟩)
 clear hej hE hn hn2 wl wl2 wn wn2 hf2
 generalize bH (s.entW i ⟨0,xa,xb⟩)=E at *
 obtain⟨p,hp⟩:∃p:Nat,p=0:=⟨_,rfl⟩
 have ho:l.findIdx? (· ==i)=some p:=by rw[hp];exact hl0
 simp only[ho]at hidx
 have hhd:=hhd true
 have h2:s.heading c i true=2:=by subst hi0;exact ge hx true
 rw[h2]at hhd
 have ht0:s.textTo c l i=[]:=by rw[hi0];rfl
 rw[ht0,List.nil_append]at hsu
 intro Q
 have hitp:=dh ((p:Int)+1) (by omega)
 have hlp:PureA Tryz.prog 110 [.slice 1 [aO (aK cP),aO (aK (num ((p:Int)+1)))] .no] (aO (aK (a6 p))):=cB [cP,num ((p:Int)+1)] (by simp) (by simp) (by simp[aL,cP,num])
 have hpl:=cY p
 have hpn:a6 p≠[]:=de _
 have hlr:PureA Tryz.prog 110 [.slice 1 [aO (aK bN),aO (aK (num f.room))] .no] (aO (aK (bO f.room))):=cB [bN,num f.room] (by simp) (by simp) (by simp[aL,bN,num])
 have hrl:=cT f.room
 have hlw:=hlw (o:=(some p)) ho (h:=2) h2
 have hT:s.textTo c l (i+1)=a6 p++bO f.room++E:=by rw[hsu,hlw];simp[ec]
 have hw1:=rF (a6 p) hpn (by omega)
 have hw2:=aP 1 (a6 p) (bO f.room) (by(try simp only[List.length_append]);omega) (by omega)
 have hw3:=aP 2 (a6 p++bO f.room) (E) (by(try simp only[List.length_append]);omega) (by omega)
 clear hsu hlw h2
 generalize a6 p=A at *
 generalize bO f.room=B at *
 conv=>whnf
 repeat(any_goals(first|exact ab|(refine aq ?_ ?_<;>intro _<;>first|exact ap|conv=>whnf)|((first|refine ag hx rfl ?_|refine ag hf (by show xa=_;omega) ?_|refine aa hidx ?_|refine aa hitp ?_|refine aa hlp ?_|refine aa hitr ?_|refine aa hhd ?_|refine aa hlr ?_|refine aa hite ?_|refine aa hwa ?_|refine aa hwb ?_|refine aa hle ?_|refine ac ?_|refine bi ?_ ?_|intro _)<;>conv=>whnf)))
 refine⟨[kB],?_⟩
 conv=>whnf
 refine⟨_,_,hw1,?_⟩
 refine(?_:yC _ _)
 refine Cq rfl ?_
 refine(?_:okP _ _)
 refine kU rfl ?_
 refine(?_:j0 _ _)
 refine af rfl ?_
 refine(?_:j0 _ _)
 refine af rfl ?_
 refine(?_:j0 _ _)
 refine af (az _ _) ?_
 conv=>whnf
 repeat(any_goals(first|exact ab|(refine aq ?_ ?_<;>intro _<;>first|exact ap|conv=>whnf)|((first|refine ag hx rfl ?_|refine ag hf (by show xa=_;omega) ?_|refine aa hidx ?_|refine aa hitp ?_|refine aa hlp ?_|refine aa hitr ?_|refine aa hhd ?_|refine aa hlr ?_|refine aa hite ?_|refine aa hwa ?_|refine aa hwb ?_|refine aa hle ?_|refine ac ?_|refine bi ?_ ?_|intro _)<;>conv=>whnf)))
 refine⟨[kB,kBr],?_⟩
 conv=>whnf
 repeat(refine af (az _ _) ?_<;>(conv=>whnf))
 refine⟨_,_,hw2,?_⟩
 conv=>whnf
 repeat(refine af (az _ _) ?_<;>(conv=>whnf))
 repeat(any_goals(first|exact ab|(refine aq ?_ ?_<;>intro _<;>first|exact ap|conv=>whnf)|((first|refine ag hx rfl ?_|refine ag hf (by show xa=_;omega) ?_|refine aa hidx ?_|refine aa hitp ?_|refine aa hlp ?_|refine aa hitr ?_|refine aa hhd ?_|refine aa hlr ?_|refine aa hite ?_|refine aa hwa ?_|refine aa hwb ?_|refine aa hle ?_|refine ac ?_|refine bi ?_ ?_|intro _)<;>conv=>whnf)))
 refine⟨[kB,kBr],?_⟩
 conv=>whnf
 repeat(refine af (az _ _) ?_<;>(conv=>whnf))
 refine⟨_,_,hw3,?_⟩
 conv=>whnf
 repeat(refine af (az _ _) ?_<;>(conv=>whnf))
 repeat(any_goals(first|exact ab|(refine aq ?_ ?_<;>intro _<;>first|exact ap|conv=>whnf)|((first|refine ag hx rfl ?_|refine ag hf (by show xa=_;omega) ?_|refine aa hidx ?_|refine aa hitp ?_|refine aa hlp ?_|refine aa hitr ?_|refine aa hhd ?_|refine aa hlr ?_|refine aa hite ?_|refine aa hwa ?_|refine aa hwb ?_|refine aa hle ?_|refine ac ?_|refine bi ?_ ?_|intro _)<;>conv=>whnf)))
 (refine⟨⟨i+1,.used 3 (A++B++E)⟩,⟨by show i+1≤_;omega,(fun h=>by cases h),fun _=>⟨_,congrArg (BSt.used _) hT.symm⟩⟩,(by show _-(i+1)<_-i;omega),?_⟩;(conv=>whnf);refine⟨?_,?_,?_⟩<;>repeat(first|exact trivial|refine sc rfl ?_|refine kn ?_|refine kc rfl ?_|refine sc (by rfl) ?_|refine kc (by rfl) ?_))
end Go.Proofs.YtgncapdjheghfaaGreatDoor
namespace Go.Proofs.YtgncapdjheghfaaGreatDoor
open Go.Am Go.Proofs Go
set_option maxHeartbeats 8000000 in
theorem Im(s:Bill)(hg:s.Good)(c:List Ent)(hc:∀x∈c,s.OkE x)(h6:c.length≤6)(l:List Nat)(hll:l.length≤6)(i:Nat)(hi0:i=0)(hl0:l.findIdx? (· ==i)=some 0)(R:Press)(hR:R.pages=gQ l)(M:ci)(xa xb:Int)(hx:c[i]?=some ⟨1,xa,xb⟩) :
  vj s c l R M i .fresh:=by
 have hi:i<c.length:=(List.getElem?_eq_some_iff.1 hx).1
 have hok:=hc _ (List.mem_of_getElem? hx)
 obtain⟨f,hf,hn,hroom,hr0⟩:=kx hg hok.a
 obtain⟨f2,hf2,hn2,_⟩:=kx hg hok.b
 have hlt:=dn hg hc l i
 have hsu:=cG s c l i
 have hwa:=m7 s xa f hok.a.1 hf hn
 have hwb:=m7 s xb f2 hok.b.1 hf2 hn2
 obtain⟨wl,wn⟩:=dO hf hn
 obtain⟨wl2,wn2⟩:=dO hf2 hn2
 have hej:=gu (s:=s) (i:=i) (x:=⟨1,xa,xb⟩) wn wn2
 have hel:=g8 hg hok i
 have hidx:=gC R.pages i (by rw[hR];unfold gQ;rw[List.length_map];omega)
 rw[hR,iJ, ←hR]at hidx
 have hhd:=fun t=>e5 s c (fun x hx=>(hc x hx).inn) h6 i hi t
 have hlw:=fun {o} ho {h} hh=>ey (s:=s) (pages:=l) hx (o:=o) ho (h:=h) hh
 have hitr:=dh f.room hr0
 have hite:=dh ((i:Int)+1) (by omega)
 have hax:=hok.a
 have hbx:=hok.b
 have hfl:(s.figs.map cD).length=s.figs.length:=List.length_map ..
 have hcl:(c.map bC).length=c.length:=List.length_map ..
 simp only at hroom hlw hax hbx hwa hwb wl wl2 wn wn2 hej hf
 rw[hroom]at hlw
 generalize aL (s.whoW xa)=W at *
 generalize aL (s.whoW xb)=W2 at *
 have hE:bH (s.entW i ⟨1,xa,xb⟩)=bH [num ((i:Int)+1),wIs,W,wOr,W2]:=by unfold bH;rw[hej];rfl
 have hle:PureA Tryz.prog 110 [.slice 1 [aO (aK (num ((i:Int)+1))),aO isB,aO (aK W),aO (aK wOr),aO (aK W2)] .no] (aO (aK (bH (s.entW i ⟨1,xa,xb⟩)))):=by
  rw[hE]
  refine cB [num ((i:Int)+1),wIs,W,wOr,W2] (by simp) (by simp) ?_
  rw[hE]at hel
  unfold bH at hel
  rw[List.length_append]at hel
  omega
 have hEn:=de (s.entW i ⟨1,xa,xb⟩)
 clear hej hE hn hn2 wl wl2 wn wn2 hf2
 generalize bH (s.entW i ⟨1,xa,xb⟩)=E at *
 obtain⟨p,hp⟩:∃p:Nat,p=0:=⟨_,rfl⟩
 have ho:l.findIdx? (· ==i)=some p:=by rw[hp];exact hl0
 simp only[ho]at hidx
 have hhd:=hhd true
 have h2:s.heading c i true=2:=by subst hi0;exact ge hx true
 rw[h2]at hhd
 have ht0:s.textTo c l i=[]:=by rw[hi0];rfl
 rw[ht0,List.nil_append]at hsu
 intro Q
 have hitp:=dh ((p:Int)+1) (by omega)
 have hlp:PureA Tryz.prog 110 [.slice 1 [aO (aK cP),aO (aK (num ((p:Int)+1)))] .no] (aO (aK (a6 p))):=cB [cP,num ((p:Int)+1)] (by simp) (by simp) (by simp[aL,cP,num])
 have hpl:=cY p
 have hpn:a6 p≠[]:=de _
 have hlr:PureA Tryz.prog 110 [.slice 1 [aO (aK bN),aO (aK (num f.room))] .no] (aO (aK (bO f.room))):=cB [bN,num f.room] (by simp) (by simp) (by simp[aL,bN,num])
 have hrl:=cT f.room
 have hlw:=hlw (o:=(some p)) ho (h:=2) h2
 have hT:s.textTo c l (i+1)=a6 p++bO f.room++E:=by rw[hsu,hlw];simp[ec]
 have hw1:=rF (a6 p) hpn (by omega)
 have hw2:=aP 1 (a6 p) (bO f.room) (by(try simp only[List.length_append]);omega) (by omega)
 have hw3:=aP 2 (a6 p++bO f.room) (E) (by(try simp only[List.length_append]);omega) (by omega)
 clear hsu hlw h2
 generalize a6 p=A at *
 generalize bO f.room=B at *
 conv=>whnf
 repeat(any_goals(first|exact ab|(refine aq ?_ ?_<;>intro _<;>first|exact ap|conv=>whnf)|((first|refine ag hx rfl ?_|refine ag hf (by show xa=_;omega) ?_|refine aa hidx ?_|refine aa hitp ?_|refine aa hlp ?_|refine aa hitr ?_|refine aa hhd ?_|refine aa hlr ?_|refine aa hite ?_|refine aa hwa ?_|refine aa hwb ?_|refine aa hle ?_|refine ac ?_|refine bi ?_ ?_|intro _)<;>conv=>whnf)))
 refine⟨[kB],?_⟩
 conv=>whnf
 refine⟨_,_,hw1,?_⟩
 refine(?_:yC _ _)
 refine Cq rfl ?_
 refine(?_:okP _ _)
 refine kU rfl ?_
 refine(?_:j0 _ _)
 refine af rfl ?_
 refine(?_:j0 _ _)
 refine af rfl ?_
 refine(?_:j0 _ _)
 refine af (az _ _) ?_
 conv=>whnf
 repeat(any_goals(first|exact ab|(refine aq ?_ ?_<;>intro _<;>first|exact ap|conv=>whnf)|((first|refine ag hx rfl ?_|refine ag hf (by show xa=_;omega) ?_|refine aa hidx ?_|refine aa hitp ?_|refine aa hlp ?_|refine aa hitr ?_|refine aa hhd ?_|refine aa hlr ?_|refine aa hite ?_|refine aa hwa ?_|refine aa hwb ?_|refine aa hle ?_|refine ac ?_|refine bi ?_ ?_|intro _)<;>conv=>whnf)))
 refine⟨[kB,kBr],?_⟩
 conv=>whnf
 repeat(refine af (az _ _) ?_<;>(conv=>whnf))
 refine⟨_,_,hw2,?_⟩
 conv=>whnf
 repeat(refine af (az _ _) ?_<;>(conv=>whnf))
 repeat(any_goals(first|exact ab|(refine aq ?_ ?_<;>intro _<;>first|exact ap|conv=>whnf)|((first|refine ag hx rfl ?_|refine ag hf (by show xa=_;omega) ?_|refine aa hidx ?_|refine aa hitp ?_|refine aa hlp ?_|refine aa hitr ?_|refine aa hhd ?_|refine aa hlr ?_|refine aa hite ?_|refine aa hwa ?_|refine aa hwb ?_|refine aa hle ?_|refine ac ?_|refine bi ?_ ?_|intro _)<;>conv=>whnf)))
 refine⟨[kB,kBr],?_⟩
 conv=>whnf
 repeat(refine af (az _ _) ?_<;>(conv=>whnf))
 refine⟨_,_,hw3,?_⟩
 conv=>whnf
 repeat(refine af (az _ _) ?_<;>(conv=>whnf))
 repeat(any_goals(first|exact ab|(refine aq ?_ ?_<;>intro _<;>first|exact ap|conv=>whnf)|((first|refine ag hx rfl ?_|refine ag hf (by show xa=_;omega) ?_|refine aa hidx ?_|refine aa hitp ?_|refine aa hlp ?_|refine aa hitr ?_|refine aa hhd ?_|refine aa hlr ?_|refine aa hite ?_|refine aa hwa ?_|refine aa hwb ?_|refine aa hle ?_|refine ac ?_|refine bi ?_ ?_|intro _)<;>conv=>whnf)))
 (refine⟨⟨i+1,.used 3 (A++B++E)⟩,⟨by show i+1≤_;omega,(fun h=>by cases h),fun _=>⟨_,congrArg (BSt.used _) hT.symm⟩⟩,(by show _-(i+1)<_-i;omega),?_⟩;(conv=>whnf);refine⟨?_,?_,?_⟩<;>repeat(first|exact trivial|refine sc rfl ?_|refine kn ?_|refine kc rfl ?_|refine sc (by rfl) ?_|refine kc (by rfl) ?_))
end Go.Proofs.YtgncapdjheghfaaGreatDoor
namespace Go.Proofs.YtgncapdjheghfaaGreatDoor
open Go.Am Go.Proofs Go
set_option maxHeartbeats 8000000 in
theorem GV(s:Bill)(hg:s.Good)(c:List Ent)(hc:∀x∈c,s.OkE x)(h6:c.length≤6)(l:List Nat)(hll:l.length≤6)(i:Nat)(hi0:i=0)(hl0:l.findIdx? (· ==i)=some 0)(R:Press)(hR:R.pages=gQ l)(M:ci)(xa xb:Int)(hx:c[i]?=some ⟨2,xa,xb⟩) :
  vj s c l R M i .fresh:=by
 have hi:i<c.length:=(List.getElem?_eq_some_iff.1 hx).1
 have hok:=hc _ (List.mem_of_getElem? hx)
 obtain⟨f,hf,hn,hroom,hr0⟩:=kx hg hok.a
 obtain⟨f2,hf2,hn2,_⟩:=kx hg hok.b
 have hlt:=dn hg hc l i
 have hsu:=cG s c l i
 have hwa:=m7 s xa f hok.a.1 hf hn
 have hwb:=m7 s xb f2 hok.b.1 hf2 hn2
 obtain⟨wl,wn⟩:=dO hf hn
 obtain⟨wl2,wn2⟩:=dO hf2 hn2
 have hej:=gu (s:=s) (i:=i) (x:=⟨2,xa,xb⟩) wn wn2
 have hel:=g8 hg hok i
 have hidx:=gC R.pages i (by rw[hR];unfold gQ;rw[List.length_map];omega)
 rw[hR,iJ, ←hR]at hidx
 have hhd:=fun t=>e5 s c (fun x hx=>(hc x hx).inn) h6 i hi t
 have hlw:=fun {o} ho {h} hh=>ey (s:=s) (pages:=l) hx (o:=o) ho (h:=h) hh
 have hitr:=dh f.room hr0
 have hite:=dh ((i:Int)+1) (by omega)
 have hax:=hok.a
 have hbx:=hok.b
 have hfl:(s.figs.map cD).length=s.figs.length:=List.length_map ..
 have hcl:(c.map bC).length=c.length:=List.length_map ..
 simp only at hroom hlw hax hbx hwa hwb wl wl2 wn wn2 hej hf
 rw[hroom]at hlw
 generalize aL (s.whoW xa)=W at *
 generalize aL (s.whoW xb)=W2 at *
 have hE:bH (s.entW i ⟨2,xa,xb⟩)=bH [num ((i:Int)+1),aL [yG,wBe],W]:=by unfold bH;rw[hej];rfl
 have hle:PureA Tryz.prog 110 [.slice 1 [aO (aK (num ((i:Int)+1))),aO KS,aO (aK W)] .no] (aO (aK (bH (s.entW i ⟨2,xa,xb⟩)))):=by
  rw[hE]
  refine cB [num ((i:Int)+1),aL [yG,wBe],W] (by simp) (by simp) ?_
  rw[hE]at hel
  unfold bH at hel
  rw[List.length_append]at hel
  omega
 have hEn:=de (s.entW i ⟨2,xa,xb⟩)
 clear hej hE hn hn2 wl wl2 wn wn2 hf2
 generalize bH (s.entW i ⟨2,xa,xb⟩)=E at *
 obtain⟨p,hp⟩:∃p:Nat,p=0:=⟨_,rfl⟩
 have ho:l.findIdx? (· ==i)=some p:=by rw[hp];exact hl0
 simp only[ho]at hidx
 have hhd:=hhd true
 have h2:s.heading c i true=2:=by subst hi0;exact ge hx true
 rw[h2]at hhd
 have ht0:s.textTo c l i=[]:=by rw[hi0];rfl
 rw[ht0,List.nil_append]at hsu
 intro Q
 have hitp:=dh ((p:Int)+1) (by omega)
 have hlp:PureA Tryz.prog 110 [.slice 1 [aO (aK cP),aO (aK (num ((p:Int)+1)))] .no] (aO (aK (a6 p))):=cB [cP,num ((p:Int)+1)] (by simp) (by simp) (by simp[aL,cP,num])
 have hpl:=cY p
 have hpn:a6 p≠[]:=de _
 have hlr:PureA Tryz.prog 110 [.slice 1 [aO (aK bN),aO (aK (num f.room))] .no] (aO (aK (bO f.room))):=cB [bN,num f.room] (by simp) (by simp) (by simp[aL,bN,num])
 have hrl:=cT f.room
 have hlw:=hlw (o:=(some p)) ho (h:=2) h2
 have hT:s.textTo c l (i+1)=a6 p++bO f.room++E:=by rw[hsu,hlw];simp[ec]
 have hw1:=rF (a6 p) hpn (by omega)
 have hw2:=aP 1 (a6 p) (bO f.room) (by(try simp only[List.length_append]);omega) (by omega)
 have hw3:=aP 2 (a6 p++bO f.room) (E) (by(try simp only[List.length_append]);omega) (by omega)
 clear hsu hlw h2
 generalize a6 p=A at *
 generalize bO f.room=B at *
 conv=>whnf
 repeat(any_goals(first|exact ab|(refine aq ?_ ?_<;>intro _<;>first|exact ap|conv=>whnf)|((first|refine ag hx rfl ?_|refine ag hf (by show xa=_;omega) ?_|refine aa hidx ?_|refine aa hitp ?_|refine aa hlp ?_|refine aa hitr ?_|refine aa hhd ?_|refine aa hlr ?_|refine aa hite ?_|refine aa hwa ?_|refine aa hwb ?_|refine aa hle ?_|refine ac ?_|refine bi ?_ ?_|intro _)<;>conv=>whnf)))
 refine⟨[kB],?_⟩
 conv=>whnf
 refine⟨_,_,hw1,?_⟩
 refine(?_:yC _ _)
 refine Cq rfl ?_
 refine(?_:okP _ _)
 refine kU rfl ?_
 refine(?_:j0 _ _)
 refine af rfl ?_
 refine(?_:j0 _ _)
 refine af rfl ?_
 refine(?_:j0 _ _)
 refine af (az _ _) ?_
 conv=>whnf
 repeat(any_goals(first|exact ab|(refine aq ?_ ?_<;>intro _<;>first|exact ap|conv=>whnf)|((first|refine ag hx rfl ?_|refine ag hf (by show xa=_;omega) ?_|refine aa hidx ?_|refine aa hitp ?_|refine aa hlp ?_|refine aa hitr ?_|refine aa hhd ?_|refine aa hlr ?_|refine aa hite ?_|refine aa hwa ?_|refine aa hwb ?_|refine aa hle ?_|refine ac ?_|refine bi ?_ ?_|intro _)<;>conv=>whnf)))
 refine⟨[kB,kBr],?_⟩
 conv=>whnf
 repeat(refine af (az _ _) ?_<;>(conv=>whnf))
 refine⟨_,_,hw2,?_⟩
 conv=>whnf
 repeat(refine af (az _ _) ?_<;>(conv=>whnf))
 repeat(any_goals(first|exact ab|(refine aq ?_ ?_<;>intro _<;>first|exact ap|conv=>whnf)|((first|refine ag hx rfl ?_|refine ag hf (by show xa=_;omega) ?_|refine aa hidx ?_|refine aa hitp ?_|refine aa hlp ?_|refine aa hitr ?_|refine aa hhd ?_|refine aa hlr ?_|refine aa hite ?_|refine aa hwa ?_|refine aa hwb ?_|refine aa hle ?_|refine ac ?_|refine bi ?_ ?_|intro _)<;>conv=>whnf)))
 refine⟨[kB,kBr],?_⟩
 conv=>whnf
 repeat(refine af (az _ _) ?_<;>(conv=>whnf))
 refine⟨_,_,hw3,?_⟩
 conv=>whnf
 repeat(refine af (az _ _) ?_<;>(conv=>whnf))
 repeat(any_goals(first|exact ab|(refine aq ?_ ?_<;>intro _<;>first|exact ap|conv=>whnf)|((first|refine ag hx rfl ?_|refine ag hf (by show xa=_;omega) ?_|refine aa hidx ?_|refine aa hitp ?_|refine aa hlp ?_|refine aa hitr ?_|refine aa hhd ?_|refine aa hlr ?_|refine aa hite ?_|refine aa hwa ?_|refine aa hwb ?_|refine aa hle ?_|refine ac ?_|refine bi ?_ ?_|intro _)<;>conv=>whnf)))
 (refine⟨⟨i+1,.used 3 (A++B++E)⟩,⟨by show i+1≤_;omega,(fun h=>by cases h),fun _=>⟨_,congrArg (BSt.used _) hT.symm⟩⟩,(by show _-(i+1)<_-i;omega),?_⟩;(conv=>whnf);refine⟨?_,?_,?_⟩<;>repeat(first|exact trivial|refine sc rfl ?_|refine kn ?_|refine kc rfl ?_|refine sc (by rfl) ?_|refine kc (by rfl) ?_))
end Go.Proofs.YtgncapdjheghfaaGreatDoor
namespace Go.Proofs.YtgncapdjheghfaaGreatDoor
open Go.Am Go.Proofs Go
theorem KO(s:Bill)(hg:s.Good)(c:List Ent)(hc:∀x∈c,s.OkE x)(h6:c.length≤6)(l:List Nat)(hll:l.length≤6)(hl0:l.findIdx? (· ==0)=some 0)(R:Press)(hR:R.pages=gQ l)(M:ci)(i:Nat)(hi:i<c.length)(st:BSt)(hI:Hb s c l (i,st)) :
  vj s c l R M i st:=by
 obtain⟨x,hx⟩:∃x,c[i]?=some x:=⟨_,List.getElem?_eq_getElem hi⟩
 obtain⟨h1,h2,h3⟩:=hI
 simp only at h1 h2 h3
 have hok:=hc _ (List.mem_of_getElem? hx)
 obtain⟨says,xa,xb⟩:=x
 have hs:=hok.says
 simp only at hs
 by_cases h0:i=0
 ·have e:=h2 h0
  subst e
  have hl0':l.findIdx? (· ==i)=some 0:=by rw[h0];exact hl0
  rcases hs with rfl|rfl|rfl
  ·exact Io s hg c hc h6 l hll i h0 hl0' R hR M xa xb hx
  ·exact Im s hg c hc h6 l hll i h0 hl0' R hR M xa xb hx
  ·exact GV s hg c hc h6 l hll i h0 hl0' R hR M xa xb hx
 ·obtain⟨g,e⟩:=h3 (by omega)
  subst e
  rcases hs with rfl|rfl|rfl
  ·exact H2 s hg c hc h6 l hll i R hR M xa xb hx g
  ·exact HP s hg c hc h6 l hll i R hR M xa xb hx g
  ·exact GU s hg c hc h6 l hll i R hR M xa xb hx g
theorem Ax{c:List Ent}{l:List Nat}(h:en c 0 l)(h0:0<c.length):l.findIdx? (· ==0)=some 0:=by
 cases l with
 | nil=>have:0=c.length:=h;omega
 | cons j l =>
  have e:=h.1
  subst e
  rfl
set_option maxHeartbeats 4000000 in
theorem H9(s:Bill)(hg:s.Good)(c:List Ent)(hc:∀x∈c,s.OkE x)(h6:c.length≤6)(h0:0<c.length):PureA Tryz.prog 79 [dk s,aG c] (aO (aK (s.textL c))):=by
 have hp:=Gp s hg c hc h6 c.length 0 [] (Nat.zero_le _) (by omega) (fun e h=>by cases h)
 rw[ef s h0]at hp
 obtain⟨l,w,hpr,hpn,hpg,_⟩:=pe hg hc
 have hll:l.length≤6:=by have:=gd hpg;omega
 have hend:=qD s c
 rw[hpn]at hend
 have hlen:=dn hg hc l c.length
 have hne:(s.textTo c l c.length).length≠0:=by
  obtain⟨n,hn⟩:∃n,c.length=n+1:=⟨c.length-1,by omega⟩
  rw[hn,cG]
  obtain⟨x,hx⟩:∃x,c[n]?=some x:=⟨_,List.getElem?_eq_getElem (by omega)⟩
  rw[ey hx rfl rfl]
  have:=de (s.entW n x)
  simp[this]
 have hrow:=fun M i hi st hI=>KO s hg c hc h6 l hll (Ax hpg h0) (s.press c 0) (by rw[hpr];rfl) M i hi st hI
 rw[←hend]
 have hcl:(c.map bC).length=c.length:=List.length_map ..
 generalize s.memoN c c.length 0 []=M at *
 have hrow:=hrow M
 generalize s.press c 0=R at *
 unfold gI uh at hp
 refine ae ar { l:=0,f:=79,mat:=[76,109,113],ty:=[5]} mixed BN Tryz.func79 (by kernel_rfl) ?_
 conv=>whnf
 repeat(any_goals(first|exact ab|(refine aq ?_ ?_<;>intro _<;>first|exact ap|conv=>whnf)|((first|refine aa fX ?_|refine ah fX rfl ?_|refine ac ?_|refine bi ?_ ?_|intro _)<;>conv=>whnf)))
 refine⟨[kTx],?_⟩
 conv=>whnf
 refine⟨_,_,hp,?_⟩
 conv=>whnf
 repeat(any_goals(first|exact ab|(refine aq ?_ ?_<;>intro _<;>first|exact ap|conv=>whnf)|((first|refine ac ?_|refine bi ?_ ?_|intro _)<;>conv=>whnf)))
 refine aX ar { l:=0,f:=79,mat:=[76,109,113],ty:=[5]} mixed (fun u:Nat×BSt=>[(21,aj u.1)]) (fun u=>[(kB,some (1,some (2,[u.2.av]))),(kBr,some u.2.row)]) (fun _=>[]) (Hb s c l) (fun u=>c.length-u.1) ((0,.fresh):Nat×BSt) (by kernel_rfl)
  ⟨Nat.zero_le _,fun _=>rfl,fun h=>absurd h (Nat.lt_irrefl _)⟩ ?_
 conv=>whnf
 refine⟨⟨ai rfl trivial,?_,trivial⟩,?_⟩
 ·repeat(first|exact trivial|refine kc rfl ?_|refine bV rfl ?_)
 rintro⟨i,st⟩ hI
 by_cases hi:i<c.length
 ·exact hrow i hi st hI _
 ·obtain⟨h1,_,h3⟩:=hI
  simp only at h1 h3
  have hic:i=c.length:=by omega
  obtain⟨g,e⟩:=h3 (by omega)
  subst e
  rw[←hic]at hne ⊢
  have hst:=Ed (k:=kB) (kr:=kBr) (g:=1) (gr:=g) (c0:=0) (p:= .ptr kB 1 2 0 0) (s:=aK (s.textTo c l i)) rfl rfl hne
  clear hrow hp hlen hpg hpn hpr
  generalize s.textTo c l i=t at *
  conv=>whnf
  repeat(any_goals(first|exact ab|(refine aq ?_ ?_<;>intro _<;>first|exact ap|conv=>whnf)|((first|refine ac ?_|refine bi ?_ ?_|intro _)<;>conv=>whnf)))
  refine⟨[kB,kBr],?_⟩
  conv=>whnf
  repeat(refine af (az _ _) ?_<;>(conv=>whnf))
  refine⟨_,_,hst,?_⟩
  conv=>whnf
  repeat(any_goals(first|exact ab|(refine aq ?_ ?_<;>intro _<;>first|exact ap|conv=>whnf)|((first|refine ac ?_|refine bi ?_ ?_|intro _)<;>conv=>whnf)))
  (refine⟨⟨?_⟩,trivial⟩;rfl)
theorem He(s:Bill)(hg:s.Good)(c:List Ent)(hc:∀x∈c,s.OkE x)(h6:c.length≤6)(h0:c.length=0):PureA Tryz.prog 79 [dk s,aG c] (aO (aK (s.textL c))):=by
 have e:c=[]:=List.length_eq_zero_iff.1 h0
 subst e
 have hp:=Gp s hg [] hc h6 0 0 [] (Nat.zero_le _) (by simp) (fun e h=>by cases h)
 rw[show ed s [] 0 = .agg [.slice 0 [] .tight,aj 0]from eM s []]at hp
 have ht:aK (s.textL [])=⟨#[]⟩:=rfl
 rw[ht]
 have hst:=vq (k:=kB) (g:=1) (p:= .v (.pointer none)) rfl
 generalize s.memoN [] 0 0 []=M at *
 refine ae ar { l:=0,f:=79,mat:=[76,109,113],ty:=[5]} mixed BN Tryz.func79 (by kernel_rfl) ?_
 conv=>whnf
 repeat(any_goals(first|exact ab|(refine aq ?_ ?_<;>intro _<;>first|exact ap|conv=>whnf)|((first|refine aa fX ?_|refine ah fX rfl ?_|refine ac ?_|refine bi ?_ ?_|intro _)<;>conv=>whnf)))
 refine⟨[kTx],?_⟩
 conv=>whnf
 refine⟨_,_,hp,?_⟩
 conv=>whnf
 repeat(any_goals(first|exact ab|(refine aq ?_ ?_<;>intro _<;>first|exact ap|conv=>whnf)|((first|refine ac ?_|refine bi ?_ ?_|intro _)<;>conv=>whnf)))
 refine aX ar { l:=0,f:=79,mat:=[76,109,113],ty:=[5]} mixed (fun i:Nat=>[(21,aj i)]) (fun _=>[(kB,some (1,some (2,[BSt.fresh.av])))]) (fun _=>[]) (fun i=>i=0) (fun i=>i) 0 (by kernel_rfl)
  rfl ?_
 conv=>whnf
 refine⟨⟨ai rfl trivial,?_,trivial⟩,?_⟩
 ·repeat(first|exact trivial|refine kc rfl ?_|refine bV rfl ?_)
 rintro i rfl
 conv=>whnf
 repeat(any_goals(first|exact ab|(refine aq ?_ ?_<;>intro _<;>first|exact ap|conv=>whnf)|((first|refine ac ?_|refine bi ?_ ?_|intro _)<;>conv=>whnf)))
 refine⟨[kB],?_⟩
 conv=>whnf
 refine⟨_,_,hst,?_⟩
 conv=>whnf
 repeat(any_goals(first|exact ab|(refine aq ?_ ?_<;>intro _<;>first|exact ap|conv=>whnf)|((first|refine ac ?_|refine bi ?_ ?_|intro _)<;>conv=>whnf)))
 (refine⟨⟨?_⟩,trivial⟩;rfl)
theorem C8(s:Bill)(hg:s.Good)(c:List Ent)(hc:∀x∈c,s.OkE x)(h6:c.length≤6):PureA Tryz.prog 79 [dk s,aG c] (aO (aK (s.textL c))):=by
 by_cases h0:c.length=0
 ·exact He s hg c hc h6 h0
 ·exact H9 s hg c hc h6 (by omega)
end Go.Proofs.YtgncapdjheghfaaGreatDoor
namespace Go.Proofs.YtgncapdjheghfaaGreatDoor
open Go.Am Go.Proofs Go
def Bill.writeR(s:Bill)(c:List Ent):Bs×Int:=if cd s c≠0 then([],cd s c)else(s.textL c,0)
theorem lV(s:Bill)(hr:s.small)(c:List Ent)(hl:c.length≤1048576):PureA Tryz.prog 32 [aF s,aG c] (.tuple [aO (aK (s.writeR c).1),aj (s.writeR c).2]):=by
 unfold Bill.writeR
 by_cases hk:cd s c=0
 ·rw[if_neg (fun h=>h hk)]
  have he:=d9 s hr c hl hk
  obtain⟨hg,hok,h6⟩:=cz hk
  have ht:=C8 s hg c hok h6
  unfold cV at he
  generalize s.textL c=T at *
  refine ae ar { l:=0,f:=32,mat:=[71]} mixed Ds Tryz.func32 (by kernel_rfl) ?_
  conv=>whnf
  repeat(any_goals(first|exact ab|(refine aq ?_ ?_<;>intro _<;>first|exact ap|conv=>whnf)|((first|refine ac ?_|refine bi ?_ ?_|intro _)<;>conv=>whnf)))
  refine⟨[],?_⟩
  conv=>whnf
  refine⟨_,_,he,?_⟩
  conv=>whnf
  repeat(any_goals(first|exact ab|(refine aq ?_ ?_<;>intro _<;>first|exact ap|conv=>whnf)|((first|refine ah ht rfl ?_|refine aa ht ?_|refine ac ?_|refine bi ?_ ?_|intro _)<;>conv=>whnf)))
  (refine⟨⟨?_⟩,trivial⟩;rfl)
 ·rw[if_pos hk]
  have he:=j2 s hr c hl _ rfl hk
  generalize cd s c=e at *
  have hn:(aK [])=⟨#[]⟩:=rfl
  simp only[hn]
  refine ae ar { l:=0,f:=32,mat:=[71]} mixed Ds Tryz.func32 (by kernel_rfl) ?_
  conv=>whnf
  repeat(any_goals(first|exact ab|(refine aq ?_ ?_<;>intro _<;>first|exact ap|conv=>whnf)|((first|refine ac ?_|refine bi ?_ ?_|intro _)<;>conv=>whnf)))
  refine⟨[],?_⟩
  conv=>whnf
  refine⟨_,_,he,?_⟩
  conv=>whnf
  repeat(any_goals(first|exact ab|(refine aq ?_ ?_<;>intro _<;>first|exact ap|conv=>whnf)|((first|refine ac ?_|refine bi ?_ ?_|intro _)<;>conv=>whnf)))
  (refine⟨⟨?_⟩,trivial⟩;rfl)
end Go.Proofs.YtgncapdjheghfaaGreatDoor
namespace Go.Proofs.YtgncapdjheghfaaGreatDoor
open Go.Am Go.Proofs Go
theorem Fh(b:UInt8)(hb:b.toNat<128):Utf8.encode (b.toNat:Int)=⟨#[b]⟩:=by
 have hv:Utf8.valid (b.toNat:Int)=true:=by unfold Utf8.valid;simp;left;omega
 unfold Utf8.encode
 simp only[hv,if_true,Int.toNat_natCast]
 rw[if_pos (by omega)]
 simp
structure SpSt where
 i:Nat
 ws:List Bs
 w:Bs
def fo(ws:List Bs):List AV:=ws.map fun w=>aO (aK w)
theorem lP(ws:List Bs)(w:Bs):fo ws++[aO (aK w)]=fo (ws++[w]):=by unfold fo;rw[List.map_append];rfl
def Ch:Option (List Bs)→AV
 | none=> .tuple [n6,aB false]
 | some ws=> .tuple [.slice 1 (fo ws) .no,aB true]
theorem jL(w:Bs)(b:UInt8)(l:Bs):bJ w (b::l)=if b=32 then(bJ [] l).map (w:: ·)else if okB b=true then bJ (w++[b]) l else none:=rfl
set_option maxRecDepth 100000 in
theorem Hu(s:ByteArray)(hl:s.size≤1048576):PureA Tryz.prog 82 [aO s] (Ch (bJ [] (bytes s))):=by
 have hsz:=rc s
 obtain⟨R,hR⟩:∃R,R=bJ [] (bytes s):=⟨_,rfl⟩
 rw[←hR]
 have hlen:∀ws:List Bs,(fo ws).length=ws.length:=fun ws=>List.length_map ..
 refine ae ar { l:=0,f:=82} mixed IZ Tryz.func82 (by kernel_rfl) ?_
 conv=>whnf
 refine d7 2 1 ⟨0,82,18⟩ ?_
 conv=>whnf
 refine aX ar { l:=0,f:=82} mixed (fun u:SpSt=>[(4,aO (aK u.w)),(2,.slice 1 (fo u.ws) (.own ⟨0,82,18⟩ 1))]) (fun u=>[(⟨0,82,8⟩,(1,some (0,[aO s,aj u.i])))]) (fun u=>[(⟨0,82,18⟩,some (1,u.ws.length))]) (fun u=>(u.i≤s.size∧u.ws.length≤u.i∧u.w.length≤u.i)∧R=(bJ u.w (s.data.toList.drop u.i)).map (u.ws++ ·)) (fun u=>s.size-u.i) (⟨0,[],[]⟩:SpSt) (by kernel_rfl)
  ⟨⟨Nat.zero_le _,Nat.zero_le _,Nat.zero_le _⟩,by rw[hR];show _=(bJ [] (bytes s)).map ([]++ ·);cases bJ [] (bytes s)<;>rfl⟩ ?_
 conv=>whnf
 refine⟨⟨ai rfl (ai rfl trivial),aH rfl trivial,aH rfl trivial⟩,?_⟩
 clear hR
 rintro u ⟨⟨hi,hws,hw⟩,H⟩
 generalize u.i=i at *
 generalize u.ws=ws at *
 generalize u.w=w at *
 clear u
 have hwl:=hlen ws
 have hsw:(aK w).size=w.length:=rfl
 conv=>whnf
 refine bM (fun h1=>?_) (fun h1=>?_)
 ·obtain⟨b,hb,hd⟩:=ay (l:=s.data.toList) (i:=i) (by omega)
  rw[hd,jL]at H
  have hlt:=b.toNat_lt
  by_cases h128:b.toNat<128
  ·have hdec:Utf8.decode s (i:Int).toNat=(b.toNat,1):=by rw[Int.toNat_natCast];exact qe hb h128
   have hc:((Utf8.decode s (i:Int).toNat).1:Int)=b.toNat:=by rw[hdec]
   have hcv:=Fh b h128
   rw[←hc]at hcv
   have hes:(Utf8.encode ((Utf8.decode s (i:Int).toNat).1:Int)).size=1:=by rw[hcv];rfl
   by_cases h32:b=32
   ·rw[if_pos h32]at H
    have hb32:b.toNat=32:=by rw[h32];rfl
    have hH:R=(bJ [] (s.data.toList.drop (i+1))).map ((ws++[w])++ ·):=by rw[H];cases bJ [] (s.data.toList.drop (i+1))<;>simp
    conv=>whnf
    repeat(any_goals(first|exact ab|(refine aq ?_ ?_<;>intro _<;>first|exact ap|conv=>whnf)|((first|refine ac ?_|refine bi ?_ ?_|intro _)<;>conv=>whnf)))
    (refine⟨⟨i+1,ws++[w],[]⟩,⟨⟨by show i+1≤_;omega,by show(ws++[w]).length≤i+1;simp;omega,Nat.zero_le _⟩,hH⟩,(by show _-(i+1)<_-i;omega),?_⟩;(conv=>whnf);refine⟨?_,?_,?_⟩<;>repeat(first|exact trivial|refine sc rfl ?_|refine kn ?_|refine kc rfl ?_|refine sc (by first|(simp only[hdec];rfl)|(show some (AV.slice 1 (fo ws++[aO (aK w)]) _)=some (AV.slice 1 (fo (ws++[w])) _);rw[lP])|(show some (some (1,(fo ws).length+1))=some (some (1,(ws++[w]).length));rw[hwl,List.length_append];rfl)) ?_|refine kc (by first|(simp only[hdec];rfl)|(show some (AV.slice 1 (fo ws++[aO (aK w)]) _)=some (AV.slice 1 (fo (ws++[w])) _);rw[lP])|(show some (some (1,(fo ws).length+1))=some (some (1,(ws++[w]).length));rw[hwl,List.length_append];rfl)) ?_))
   ·rw[if_neg h32]at H
    have hb32:¬b.toNat=32:=fun e=>h32 (UInt8.toNat_inj.1 e)
    by_cases hok:okB b=true
    ·rw[if_pos hok]at H
     have hcond:b.toNat=46∨(48≤b.toNat∧b.toNat≤57)∨(97≤b.toNat∧b.toNat≤122):=by
      unfold okB dH fJ at hok
      simp at hok
      omega
     have hcat:=od w [b]
     conv=>whnf
     repeat(any_goals(first|exact ab|(refine aq ?_ ?_<;>intro _<;>first|exact ap|conv=>whnf)|((first|refine ac ?_|refine bi ?_ ?_|intro _)<;>conv=>whnf)))
     all_goals(try(exfalso;omega))
     all_goals
      refine⟨⟨i+1,ws,w++[b]⟩,⟨⟨by show i+1≤_;omega,by show ws.length≤i+1;omega,by show(w++[b]).length≤i+1;simp;omega⟩,H⟩,(by show _-(i+1)<_-i;omega),?_⟩
      conv=>whnf
      refine⟨ai (by show some (aO (aK w++Utf8.encode ((Utf8.decode s (i:Int).toNat).1:Int)))=some (aO (aK (w++[b])));rw[hcv, ←hcat];rfl) ?_,?_,?_⟩
      all_goals repeat(first|exact trivial|refine kn ?_|refine kc (by simp only[hdec];rfl) ?_|refine sc rfl ?_|refine kc rfl ?_)
    ·rw[if_neg hok]at H
     simp only[Option.map_none]at H
     have hcond:¬b.toNat=46∧¬(48≤b.toNat∧b.toNat≤57)∧¬(97≤b.toNat∧b.toNat≤122):=by
      unfold okB dH fJ at hok
      simp at hok
      omega
     subst H
     conv=>whnf
     repeat(any_goals(first|exact ab|(refine aq ?_ ?_<;>intro _<;>first|exact ap|conv=>whnf)|((first|refine ac ?_|refine bi ?_ ?_|intro _)<;>conv=>whnf)))
     all_goals(try(exfalso;omega))
     all_goals(refine⟨⟨?_⟩,trivial⟩;rfl)
  ·have hdec:128≤(Utf8.decode s (i:Int).toNat).1:=by rw[Int.toNat_natCast];exact oT hb h128
   have hno:¬okB b=true:=by
    unfold okB dH fJ
    simp
    omega
   rw[if_neg (fun e=>by subst e;exact h128 (by decide)),if_neg hno]at H
   simp only[Option.map_none]at H
   subst H
   conv=>whnf
   repeat(any_goals(first|exact ab|(refine aq ?_ ?_<;>intro _<;>first|exact ap|conv=>whnf)|((first|refine ac ?_|refine bi ?_ ?_|intro _)<;>conv=>whnf)))
   all_goals(try(exfalso;omega))
   all_goals(refine⟨⟨?_⟩,trivial⟩;rfl)
 ·have hdr:s.data.toList.drop i=[]:=List.drop_eq_nil_of_le (by omega)
  rw[hdr]at H
  simp only[bJ,Option.map_some]at H
  subst H
  conv=>whnf
  repeat(any_goals(first|exact ab|(refine aq ?_ ?_<;>intro _<;>first|exact ap|conv=>whnf)|((first|refine ac ?_|refine bi ?_ ?_|intro _)<;>conv=>whnf)))
  (refine⟨⟨?_⟩,trivial⟩;exact congrArg (fun z=>AV.tuple [.slice 1 z .no,aB true]) (lP ws w).symm)
end Go.Proofs.YtgncapdjheghfaaGreatDoor
namespace Go.Proofs.YtgncapdjheghfaaGreatDoor
open Go.Am Go.Proofs Go
theorem If(x:Fig)(w:ByteArray):PureA Tryz.prog 122 [cD x,.cptr [aO w]] (aB (decide(x.name=w))):=by
 refine ae ar { l:=0,f:=122} mixed FN Tryz.func122 (by kernel_rfl) ?_
 conv=>whnf
 (refine⟨⟨?_⟩,trivial⟩;rfl)
theorem JW(l:List Fig)(w:ByteArray)(hl:l.length≤1048576):PureA Tryz.prog 89 [bv l,.func (.func 122) [] [.cptr [aO w]]] (aj (idx (fun x=>decide(x.name=w)) l)):=by
 refine ae ar { l:=0,f:=89} mixed BV Tryz.func89 (by kernel_rfl) ?_
 conv=>whnf
 refine aX ar { l:=0,f:=89} mixed (fun i:Nat=>[(8,aj i)]) (fun _=>[]) (fun _=>[]) (fun i=>i≤l.length∧idx (fun x:Fig=>decide(x.name=w)) l=b9 (fun x:Fig=>decide(x.name=w)) i (l.drop i)) (fun i=>l.length-i) 0 (by kernel_rfl)
  ⟨Nat.zero_le _,rfl⟩ ?_
 conv=>whnf
 refine⟨⟨ai rfl trivial,trivial,trivial⟩,?_⟩
 intro i ⟨hi,H⟩
 conv=>whnf
 refine bM (fun h1=>?_) (fun h1=>?_)
 ·simp only[List.length_map]at h1
  obtain⟨x,hx,hd⟩:=ay (l:=l) (i:=i) (by omega)
  have H':=ei hd H
  conv=>whnf
  repeat(any_goals(first|exact ab|(refine aq ?_ ?_<;>intro _<;>first|exact ap|conv=>whnf)|((first|refine ag hx rfl ?_|refine aa (If x w) ?_|refine ac ?_|refine bi ?_ ?_|intro _)<;>conv=>whnf)))
  ·rename_i he
   simp only[he,if_true]at H'
   (refine⟨⟨?_⟩,trivial⟩;simp[oneOf,aj,H'])
  ·rename_i he
   simp only[he,Bool.false_eq_true,if_false]at H'
   (refine⟨i+1,⟨by omega,H'⟩,by omega,?_⟩;(conv=>whnf);refine⟨?_,?_,?_⟩<;>repeat(first|exact trivial|refine sc rfl ?_|refine kn ?_|refine kc rfl ?_))
 ·conv=>whnf
  simp only[List.length_map]at h1
  have:i=l.length:=by omega
  subst this
  (refine⟨⟨?_⟩,trivial⟩;simp[oneOf,aj,H,b9])
theorem HT{w:Bs}{s:ByteArray}:s=aK w↔bytes s=w:=⟨fun e=>by rw[e,eK],fun e=>by rw[←e,zx]⟩
theorem HB(s:Bill)(hl:s.figs.length≤6)(w:Bs):PureA Tryz.prog 121 [aO (aK w),.cptr [dk s]] (aj (s.whoAt w)):=by
 have h:=JW s.figs (aK w) (by omega)
 have e:s.whoAt w=idx (fun x:Fig=>decide(x.name=aK w)) s.figs:=by
  unfold Bill.whoAt
  congr 1
  funext f
  rw[decide_eq_decide]
  exact HT.symm
 rw[e]
 generalize idx (fun x:Fig=>decide(x.name=aK w)) s.figs=n at *
 refine ae ar { l:=0,f:=121} mixed E1 Tryz.func121 (by kernel_rfl) ?_
 conv=>whnf
 repeat(any_goals(first|exact ab|(refine aq ?_ ?_<;>intro _<;>first|exact ap|conv=>whnf)|((first|refine aa h ?_|refine ah h rfl ?_|refine ac ?_|refine bi ?_ ?_|intro _)<;>conv=>whnf)))
 (refine⟨⟨?_⟩,trivial⟩;rfl)
def IY:Option Ent→AV
 | none=> .tuple [bC ⟨0,0,0⟩,aB false]
 | some x=> .tuple [bC x,aB true]
theorem JT{α:Type}:(∀l:List α,l.length=5→∃a b c d e,l=[a,b,c,d,e])∧(∀l:List α,l.length=6→∃a b c d e f,l=[a,b,c,d,e,f])∧(∀l:List α,l.length=9→∃a b c d e f g h i,l=[a,b,c,d,e,f,g,h,i]):=by
 refine⟨fun l h=>?_,fun l h=>?_,fun l h=>?_⟩
 ·match l,h with
  | [a,b,c,d,e],_=>exact⟨_,_,_,_,_,rfl⟩
 ·match l,h with
  | [a,b,c,d,e,f],_=>exact⟨_,_,_,_,_,_,rfl⟩
 ·match l,h with
  | [a,b,c,d,e,f,g,h,i],_=>exact⟨_,_,_,_,_,_,_,_,_,rfl⟩
theorem JU(s:Bill)(hl:s.figs.length≤6)(ws:List Bs)(hn:ws.length≤1048576):PureA Tryz.prog 84 [dk s,.slice 1 (fo ws) .no] (IY (s.readE ws)):=by
 have hw:=HB s hl
 obtain⟨l5,l6,l9⟩:=JT (α:=Bs)
 have his:∀{b:Bs},¬b=wIs→¬aK b=(⟨#[105,115]⟩:ByteArray):=fun {b} h e=>h (by rw[←eK b,e];rfl)
 have hma:∀{b:Bs},¬b=yG→¬aK b=(⟨#[109,97,121]⟩:ByteArray):=fun {b} h e=>h (by rw[←eK b,e];rfl)
 by_cases h5:ws.length=5
 ·obtain⟨a,b,c,d,e,rfl⟩:=l5 ws h5
  by_cases hb:b=wIs
  ·subst hb
   have hwc:=hw c
   rw[show s.readE [a,wIs,c,d,e]=some ⟨0,s.whoAt c,0⟩from rfl]
   generalize s.whoAt c=n at *
   refine ae ar { l:=0,f:=84} mixed jx Tryz.func84 (by kernel_rfl) ?_
   conv=>whnf
   repeat(any_goals(first|exact ab|(refine aq ?_ ?_<;>intro _<;>first|exact ap|conv=>whnf)|((first|refine cj (decide_eq_true rfl) ?_|refine aa hwc ?_|refine ah hwc rfl ?_|refine ac ?_|refine bi ?_ ?_|intro _)<;>conv=>whnf)))
   (refine⟨⟨?_⟩,trivial⟩;rfl)
  ·have hb':=his hb
   rw[show s.readE [a,b,c,d,e]=none by unfold Bill.readE;simp[hb]]
   refine ae ar { l:=0,f:=84} mixed jx Tryz.func84 (by kernel_rfl) ?_
   conv=>whnf
   repeat(any_goals(first|exact ab|(refine aq ?_ ?_<;>intro _<;>first|exact ap|conv=>whnf)|((first|refine ac ?_|refine bi ?_ ?_|intro _)<;>conv=>whnf)))
   all_goals(try(exact absurd (by assumption) hb'))
   all_goals(refine⟨⟨?_⟩,trivial⟩;rfl)
 ·by_cases h9:ws.length=9
  ·obtain⟨a,b,c,d,e,f,g,h,i,rfl⟩:=l9 ws h9
   by_cases hb:b=wIs
   ·subst hb
    have hwc:=hw c
    have hwg:=hw g
    rw[show s.readE [a,wIs,c,d,e,f,g,h,i]=some ⟨1,s.whoAt c,s.whoAt g⟩from rfl]
    generalize s.whoAt c=n at *
    generalize s.whoAt g=m at *
    refine ae ar { l:=0,f:=84} mixed jx Tryz.func84 (by kernel_rfl) ?_
    conv=>whnf
    repeat(any_goals(first|exact ab|(refine aq ?_ ?_<;>intro _<;>first|exact ap|conv=>whnf)|((first|refine cj (decide_eq_true rfl) ?_|refine aa hwc ?_|refine ah hwc rfl ?_|refine aa hwg ?_|refine ah hwg rfl ?_|refine ac ?_|refine bi ?_ ?_|intro _)<;>conv=>whnf)))
    (refine⟨⟨?_⟩,trivial⟩;rfl)
   ·have hb':=his hb
    rw[show s.readE [a,b,c,d,e,f,g,h,i]=none by unfold Bill.readE;simp[hb]]
    refine ae ar { l:=0,f:=84} mixed jx Tryz.func84 (by kernel_rfl) ?_
    conv=>whnf
    repeat(any_goals(first|exact ab|(refine aq ?_ ?_<;>intro _<;>first|exact ap|conv=>whnf)|((first|refine ac ?_|refine bi ?_ ?_|intro _)<;>conv=>whnf)))
    all_goals(try(exact absurd (by assumption) hb'))
    all_goals(refine⟨⟨?_⟩,trivial⟩;rfl)
  ·by_cases h6:ws.length=6
   ·obtain⟨a,b,c,d,e,f,rfl⟩:=l6 ws h6
    by_cases hb:b=yG
    ·subst hb
     have hwd:=hw d
     rw[show s.readE [a,yG,c,d,e,f]=some ⟨2,s.whoAt d,0⟩from rfl]
     generalize s.whoAt d=n at *
     refine ae ar { l:=0,f:=84} mixed jx Tryz.func84 (by kernel_rfl) ?_
     conv=>whnf
     repeat(any_goals(first|exact ab|(refine aq ?_ ?_<;>intro _<;>first|exact ap|conv=>whnf)|((first|refine cj (decide_eq_true rfl) ?_|refine aa hwd ?_|refine ah hwd rfl ?_|refine ac ?_|refine bi ?_ ?_|intro _)<;>conv=>whnf)))
     (refine⟨⟨?_⟩,trivial⟩;rfl)
    ·have hb':=hma hb
     rw[show s.readE [a,b,c,d,e,f]=none by unfold Bill.readE;simp[hb]]
     refine ae ar { l:=0,f:=84} mixed jx Tryz.func84 (by kernel_rfl) ?_
     conv=>whnf
     repeat(any_goals(first|exact ab|(refine aq ?_ ?_<;>intro _<;>first|exact ap|conv=>whnf)|((first|refine ac ?_|refine bi ?_ ?_|intro _)<;>conv=>whnf)))
     all_goals(try(exact absurd (by assumption) hb'))
     all_goals(refine⟨⟨?_⟩,trivial⟩;rfl)
   ·have hlen:(fo ws).length=ws.length:=List.length_map ..
    rw[show s.readE ws=none by unfold Bill.readE;simp[h5,h9,h6]]
    refine ae ar { l:=0,f:=84} mixed jx Tryz.func84 (by kernel_rfl) ?_
    conv=>whnf
    repeat(any_goals(first|exact ab|(refine aq ?_ ?_<;>intro _<;>first|exact ap|conv=>whnf)|((first|refine ac ?_|refine bi ?_ ?_|intro _)<;>conv=>whnf)))
    (refine⟨⟨?_⟩,trivial⟩;rfl)
end Go.Proofs.YtgncapdjheghfaaGreatDoor
namespace Go.Proofs.YtgncapdjheghfaaGreatDoor
open Go.Am Go.Proofs Go
theorem mA(r:Bs)(a b:Nat):(aK r).extract a b=aK ((r.drop a).take (b-a)):=by
 refine fN ?_
 unfold bytes
 rw[ByteArray.data_extract,Array.toList_extract]
 simp[aK,List.extract_eq_take_drop]
theorem D5(r:Bs)(n:Nat)(hn:n≤r.length)(w:World):(Instr.sliceAt 9 (.string (aK r)) none (some (.int .i64 n)) none).run Tryz.prog w = .ok (.string (aK (r.take n))) w:=by
 rw[run_sliceAt_string w 9 _ _ _ _ Tryz.underlying9]
 have hs:(aK r).size=r.length:=rfl
 simp[Instr.slice,run_underlying Tryz.underlying9,Instr.sliceBounds,run_sliceBound,hs,hn]
 rw[mA];simp
theorem Fc(r:Bs)(n:Nat)(hn:n≤r.length)(w:World):(Instr.sliceAt 9 (.string (aK r)) (some (.int .i64 n)) none none).run Tryz.prog w = .ok (.string (aK (r.drop n))) w:=by
 rw[run_sliceAt_string w 9 _ _ _ _ Tryz.underlying9]
 have hs:(aK r).size=r.length:=rfl
 simp[Instr.slice,run_underlying Tryz.underlying9,Instr.sliceBounds,run_sliceBound,hs,hn]
 rw[mA,List.take_of_length_le (by simp)]
inductive RowsOk:List Bs→Prop where
 | nil:RowsOk []
 | row (w:Bs) (rs:List Bs) (h:(10:UInt8)∉w) (k:RowsOk rs):RowsOk ((w++[10])::rs)
 | last (w:Bs) (h:(10:UInt8)∉w) (h0:w≠[]):RowsOk [w]
def fF(r:Bs):Bs:=Lib.trimSuffix r [10]
theorem F1(w:Bs):fF (w++[10])=w:=by
 unfold fF Lib.trimSuffix Lib.hasSuffix
 rw[if_pos (by simp)]
 simp
theorem Cb{w:Bs}(h:(10:UInt8)∉w):fF w=w:=by
 unfold fF Lib.trimSuffix Lib.hasSuffix
 rw[if_neg]
 intro hs
 rw[List.isSuffixOf_iff_suffix]at hs
 obtain⟨a,ha⟩:=hs
 exact h (by rw[←ha];simp)
theorem yz{w:Bs}(h:(10:UInt8)∉w):∀cur:Bs,fL cur w=if cur++w=[]then []else [cur++w]:=by
 induction w with
 | nil=>intro cur;simp[fL]
 | cons b w ih =>
  intro cur
  simp only[List.mem_cons,not_or]at h
  show(if b=10 then cur::fL [] w else fL (cur++[b]) w)=_
  rw[if_neg (fun e=>h.1 e.symm),ih h.2]
  simp
theorem qm:∀{rs:List Bs},RowsOk rs→fL [] rs.flatten=rs.map fF
 | _,.nil=>rfl
 | _,.row w rs h k=>by
  rw[List.flatten_cons,List.append_assoc,List.singleton_append,jT w [] _ h,qm k,List.map_cons,F1,List.nil_append]
 | _,.last w h h0=>by
  simp only[List.flatten_cons,List.flatten_nil,List.append_nil,List.map_cons,List.map_nil]
  rw[yz h,Cb h,if_neg (by simpa using h0),List.nil_append]
theorem Df:∀(n:Nat) (t:Bs),t.length≤n→∃rs,RowsOk rs∧rs.flatten=t
 | 0,t,h=>⟨[],.nil,by rw[List.length_eq_zero_iff.1 (Nat.le_zero.1 h)];rfl⟩
 | n+1,t,h=>by
  by_cases h0:t=[]
  ·exact⟨[],.nil,by rw[h0];rfl⟩
  ·by_cases hm:(10:UInt8)∈t
   ·obtain⟨a,b,hab,ha⟩:∃a b,t=a++10::b∧(10:UInt8)∉a:=by
     clear h h0
     induction t with
     | nil=>simp at hm
     | cons x t ih =>
      by_cases hx:x=10
      ·exact⟨[],t,by rw[hx];rfl,by simp⟩
      ·have hm':(10:UInt8)∈t:=by
        rcases List.mem_cons.1 hm with e|e
        ·exact absurd e.symm hx
        ·exact e
       obtain⟨a,b,e,h1⟩:=ih hm'
       exact⟨x::a,b,by rw[e];rfl,by simp only[List.mem_cons,not_or];exact⟨fun e=>hx e.symm,h1⟩⟩
    obtain⟨rs,h1,h2⟩:=Df n b (by rw[hab,List.length_append,List.length_cons]at h;omega)
    exact⟨(a++[10])::rs,.row a rs ha h1,by rw[List.flatten_cons,h2,hab];simp⟩
   ·exact⟨[t],.last t hm h0,by simp⟩
theorem s6:∀(w rest:Bs),(10:UInt8)∉w→Lib.indexByte (w++10::rest) 10=(w.length:Int)
 | [],rest,_=>rfl
 | b::w,rest,h=>by
  simp only[List.mem_cons,not_or]at h
  have ih:=s6 w rest h.2
  show(if(b==10)=true then(0:Int)else if(Lib.indexByte (w++10::rest) 10== -1)=true then -1 else Lib.indexByte (w++10::rest) 10+1)=_
  rw[if_neg (by simpa using fun e=>h.1 e.symm),ih,if_neg (by simp)]
  simp
theorem pW:∀(w:Bs),(10:UInt8)∉w→Lib.indexByte w 10 = -1
 | [],_=>rfl
 | b::w,h=>by
  simp only[List.mem_cons,not_or]at h
  have ih:=pW w h.2
  show(if(b==10)=true then(0:Int)else if(Lib.indexByte w 10== -1)=true then -1 else Lib.indexByte w 10+1) = -1
  rw[if_neg (by simpa using fun e=>h.1 e.symm),ih]
  rfl
theorem By(s:ByteArray)(c:Nat):PureA Tryz.prog 119 [aO s,.v (.int .u8 c)] (aj (Lib.indexByte s.data.toList (c:Int).toNat.toUInt8)):=by
 have h:=uH s c
 generalize Lib.indexByte s.data.toList (c:Int).toNat.toUInt8=n at *
 refine ae ar { l:=0,f:=119} mixed Fg Tryz.func119 (by kernel_rfl) ?_
 conv=>whnf
 repeat(any_goals(first|exact ab|(refine aq ?_ ?_<;>intro _<;>first|exact ap|conv=>whnf)|((first|refine aa h ?_|refine ac ?_|refine bi ?_ ?_|intro _)<;>conv=>whnf)))
 (refine⟨⟨?_⟩,trivial⟩;rfl)
def Bill.lineE(s:Bill)(w:Bs):Option (Option Ent):=match bJ [] w with
 | none=>none
 | some ws=>if gR ws=true then some none else match s.readE ws with
  | none=>none
  | some x=>some (some x)
theorem vP(s:Bill)(w:Bs)(ls:List Bs):s.parseW (w::ls)=match s.lineE w with
  | none=>none
  | some o=>match s.parseW ls with
   | none=>none
   | some l=>some (o.toList++l):=by
 show(match bJ [] w with
  | none=>none
  | some ws=>if gR ws=true then s.parseW ls else match s.readE ws with
   | none=>none
   | some x=>(s.parseW ls).map (x:: ·))=_
 unfold Bill.lineE
 cases bJ [] w with
 | none=>rfl
 | some ws =>
  simp only
  by_cases hk:gR ws=true
  ·rw[if_pos hk,if_pos hk]
   cases s.parseW ls<;>rfl
  ·rw[if_neg hk,if_neg hk]
   cases s.readE ws with
   | none=>rfl
   | some x=>cases s.parseW ls<;>rfl
theorem tg:∀{l w:Bs} {ws:List Bs},bJ w l=some ws→ws≠[]
 | [],w,ws,h=>by cases h;simp
 | b::l,w,ws,h=>by
  rw[jL]at h
  split at h
  ·cases hs:bJ [] l with
   | none=>rw[hs]at h;cases h
   | some vs=>rw[hs]at h;cases h;simp
  ·split at h
   ·exact tg h
   ·cases h
theorem lS:∀{l w:Bs} {ws:List Bs},bJ w l=some ws→ws.length≤l.length+1
 | [],w,ws,h=>by cases h;simp
 | b::l,w,ws,h=>by
  rw[jL]at h
  split at h
  ·cases hs:bJ [] l with
   | none=>rw[hs]at h;cases h
   | some vs=>rw[hs]at h;cases h;have:=lS hs;simp;omega
  ·split at h
   ·have:=lS h;simp;omega
   ·cases h
end Go.Proofs.YtgncapdjheghfaaGreatDoor
namespace Go.Proofs.YtgncapdjheghfaaGreatDoor
open Go.Am Go.Proofs Go
def kLr:Key:=({ l:=0,f:=34}:Cx).loopKey #[26]
def kRt:Key:=⟨0,34,4⟩
def kRe:Key:=⟨0,34,5⟩
def kRs:Key:=⟨0,34,6⟩
def kRx:Key:=⟨0,34,10⟩
def kRl:Key:=⟨0,34,56⟩
def kLn:Key:=⟨0,81,1⟩
structure RS where
 l:List Ent
 st:Nat
def JX:List Ent→AV
 | []=> .slice 0 [] .tight
 | x::l=> .own kRl (l.length+1) 3 (l.length+1) 0
def lstS:List Ent→jF
 | []=>(0,none)
 | x::l=>(l.length+1,some (3,(x::l).map bC))
def KQ:List Ent→List co
 | []=>[]
 | x::l=>[(kRl,l.length+1,3,(x::l).map bC)]
def zB(x:Ent):List Ent→Ent
 | []=>x
 | y::l=>zB y l
def curS:RS→jF
 | ⟨l,2⟩=>(l.length+1,some (3,[bC ⟨0,0,0⟩]))
 | ⟨[],_⟩=>(0,none)
 | ⟨x::l,_⟩=>(l.length+1,some (3,[bC (zB x l)]))
def K3:RS→List co
 | ⟨l,2⟩=>[(kRx,l.length+1,3,[bC ⟨0,0,0⟩])]
 | ⟨[],_⟩=>[]
 | ⟨x::l,_⟩=>[(kRx,l.length+1,3,[bC (zB x l)])]
def yq(s:Bill)(r:Rec)(done:Bool)(l:AV)(e:Int):List co:=[r.box kLr #[26] done,(kRt,1,1,[l]),(kRe,1,1,[aj e]),(kRs,1,1,[.ptr cy 1 5 0 0]),cV s]
def IH(s:Bill)(r:Rec)(u:RS):List co :=
 (match u.st with
 | 0=>yq s r false (JX u.l) 0
 | _=>yq s r true (.slice 0 [] .tight) 6)++(KQ u.l++K3 u)
def Bill.stepM(s:Bill)(l:List Ent)(r:Bs):RS:=match bJ [] (fF r)with
 | none=>⟨l,1⟩
 | some ws=>if gR ws=true then⟨l,0⟩else match s.readE ws with
  | none=>⟨l,2⟩
  | some x=>⟨l++[x],0⟩
def Bill.readM(s:Bill):List Bs→List Ent→RS×List Bs
 | [],l=>(⟨l,0⟩,[])
 | r::rs,l=>if(s.stepM l r).st=0 then s.readM rs (s.stepM l r).l else(s.stepM l r,rs)
theorem jI(s:Bill):∀(rs:List Bs) (l:List Ent),match s.parseW (rs.map fF)with
  | none=>(s.readM rs l).1.st=1∨(s.readM rs l).1.st=2
  | some m=>s.readM rs l=(⟨l++m,0⟩,[])
 | [],l=>by show(⟨l,0⟩,[])=((⟨l++[],0⟩,[]):RS×List Bs);rw[List.append_nil]
 | r::rs,l=>by
  rw[List.map_cons,vP]
  unfold Bill.lineE
  show match(match(match bJ [] (fF r)with
   | none=>none
   | some ws=>if gR ws=true then some none else match s.readE ws with
    | none=>none
    | some x=>some (some x))with
   | none=>none
   | some o=>match s.parseW (rs.map fF)with
    | none=>none
    | some l=>some (o.toList++l))with
   | none=>((if(s.stepM l r).st=0 then s.readM rs (s.stepM l r).l else(s.stepM l r,rs)):RS×List Bs).1.st=1∨((if(s.stepM l r).st=0 then s.readM rs (s.stepM l r).l else(s.stepM l r,rs)):RS×List Bs).1.st=2
   | some m=>(if(s.stepM l r).st=0 then s.readM rs (s.stepM l r).l else(s.stepM l r,rs))=(⟨l++m,0⟩,[])
  unfold Bill.stepM
  cases bJ [] (fF r)with
  | none=>exact .inl rfl
  | some ws =>
   simp only
   by_cases hk:gR ws=true
   ·rw[if_pos hk]
    simp only[if_pos hk,if_true]
    have:=jI s rs l
    cases hp:s.parseW (rs.map fF)with
    | none=>rw[hp]at this;simpa using this
    | some m=>rw[hp]at this;simpa using this
   ·rw[if_neg hk]
    simp only[if_neg hk]
    cases s.readE ws with
    | none=>exact .inr rfl
    | some x =>
     simp only[if_true]
     have:=jI s rs (l++[x])
     cases hp:s.parseW (rs.map fF)with
     | none=>rw[hp]at this;simpa using this
     | some m=>rw[hp]at this;simpa using this
theorem yx(t:ByteArray):BoxA Tryz.prog (.fn 81) [] [aO t] (.func (.func 118) [] [.ptr kLn 1 1 0 0]) [(kLn,1,1,[aO t])]:=by
 refine aM ar { l:=0,f:=81} mixed GS Tryz.func81 (by kernel_rfl) ?_
 conv=>whnf
 repeat(any_goals(first|exact ab|(refine aq ?_ ?_<;>intro _<;>first|exact ap|conv=>whnf)|((first|refine ac ?_|refine bi ?_ ?_|intro _)<;>conv=>whnf)))
 refine And.intro ?_ ?_
 ·conv=>whnf
  refine⟨⟨?_⟩,trivial⟩
  rfl
 ·repeat(first|exact trivial|refine And.intro rfl ?_|refine And.intro (by skip) ?_)
theorem AP{P:Program}{T:Tab}(hT:T.Ok P)(cx:Cx)(hm:P.follows .mixedOrders=true){f:FuncId}{fn:Func}{pre:List co}{bov:List (Key×Option jF)}{post:List co}{args:List AV}{res:AV}
  (hlook:∀k,cA pre k=match bj bov k with
   | some (some c)=>c
   | _=>(0,none))
  (hc:ak P f) (hf:P.funcs[f]?=some fn) (hok:Gc fn args.length=true)
  (h:zI P T cx fn res post ⟨cI 0 args,bov,[]⟩) (hrd:cx.rd=false:=by rfl):BoxA P (.fn f) pre args res post:=by
 have kn:Knows ⟨cI 0 args,bov,[]⟩ (dW pre args):={
  slot:=fun i v h=>by
   have:=(dg args 0 i v h).2
   simp only[Nat.sub_zero]at this
   simp[dW,List.getD,this]
  box:=fun k=>by
   have:=hlook k
   split
   ·rename_i c hc;simp only[dW,this,hc]
   ·trivial
   ·rename_i hc;simp only[dW,this,hc]
  tk:=fun k=>rfl}
 unfold zI at h
 unfold Gc at hok
 split at h
 ·rename_i c hb
  rw[hb]at hok
  simp only[Bool.and_eq_true,decide_eq_true_eq]at hok
  refine vg hc hf hb (by rw[hok.1.2,decide_eq_true hok.1.1];rfl) (hrd▸bF cx hm c hok.2 (bP cx c (fun e S'=>?_) (bI hT cx c kn h)))
  rintro⟨ss',h1,h2⟩
  have key:((wU T fn.results.toList fun l=> .lst l fun l=> .need (Res res (oneOf l)) (Classical.propDecidable _) (.done [])).ev P ss' (fun _ _=>True)∧vV ss' fun _ bx _=>db (0,none) bx (qZ post)) →
    Ju P fn S' res∧∀p∈post,S'.box p.1=(p.2.1,some (p.2.2.1,p.2.2.2)):=by
   rintro⟨h,hk⟩
   have h:=RB.ev_rm h1 _ h
   have h:=iv (rs:=fn.results.toList) (k':=fun l=> .need (res=oneOf l) (.done [])) hT (fun l=>ax fun hr=>aC hr.eq (au _)) _ _ h
   have h:=RM.wp_wp0 _ h
   exact⟨RM.wp0_mono _ h fun _ _=>trivial,eS h1.box hk⟩
  cases e with
  | normal=>exact⟨.inl rfl,key h2⟩
  | ret=>exact⟨.inr rfl,key h2⟩
  | _=>exact h2.elim
 ·exact h.elim
end Go.Proofs.YtgncapdjheghfaaGreatDoor
namespace Go.Proofs.YtgncapdjheghfaaGreatDoor
open Go.Am Go.Proofs Go
def di(s:Bill)(r:Rec)(t:Bs)(u:RS):List co:=(kLn,1,1,[aO (aK t)])::IH s r u
def KV(s:Bill)(r:Rec)(t:Bs)(l:List Ent):List (Key×Option jF) :=
 qZ ((kLn,1,1,[aO (aK t)])::yq s r false (JX l) 0)++[(kRl,some (lstS l)),(kRx,some (curS ⟨l,0⟩))]
theorem BK(s:Bill)(r:Rec)(t:Bs)(l:List Ent)(k:Key):cA (di s r t ⟨l,0⟩) k=match bj (KV s r t l) k with
  | some (some c)=>c
  | _=>(0,none):=by
 rw[ke]
 cases l with
 | nil=>exact((fE kRx k _).trans (fE kRl k (qZ (di s r t ⟨[],0⟩)))).symm
 | cons x l=>rfl
theorem jU(s:Bill)(l:List Ent)(r:Bs):s.stepM l r=⟨l,1⟩∨s.stepM l r=⟨l,0⟩∨s.stepM l r=⟨l,2⟩∨∃x,s.stepM l r=⟨l++[x],0⟩:=by
 unfold Bill.stepM
 split
 ·exact .inl rfl
 ·split
  ·exact .inr (.inl rfl)
  ·split
   ·exact .inr (.inr (.inl rfl))
   ·exact .inr (.inr (.inr ⟨_,rfl⟩))
theorem lx(s:Bill)(r:Bs)(rs:List Bs)(l:List Ent):s.readM (r::rs) l=if(s.stepM l r).st=0 then s.readM rs (s.stepM l r).l else(s.stepM l r,rs):=rfl
theorem AX(s:Bill)(l:List Ent):s.readM [] l=(⟨l,0⟩,[]):=rfl
structure LnSt where
 rs:List Bs
 l:List Ent
set_option maxHeartbeats 8000000 in
theorem Bo(s:Bill)(r:Rec)(hl:∀(t:Bs) (u:RS),fY (aJ (di s r t u)) r.l=r.l)
  (hy:∀(t:Bs) (l:List Ent) (row:Bs),row.length≤800→l.length≤800→BoxA Tryz.prog (.yld kLr r.g) (di s r t ⟨l,0⟩) [aO (aK row)] (aB (decide((s.stepM l row).st=0))) (di s r t (s.stepM l row)))
  (rs:List Bs) (hok:RowsOk rs) (hsz:rs.flatten.length≤800) :
  BoxA Tryz.prog (.fn 118) (di s r rs.flatten ⟨[],0⟩) [.yld kLr r.g,.ptr kLn 1 1 0 0] (.tuple []) (di s r (s.readM rs []).2.flatten (s.readM rs []).1):=by
 obtain⟨Z,hZ⟩:∃Z,s.readM rs []=Z:=⟨_,rfl⟩
 rw[hZ]
 obtain⟨rg,ra,rb,rl⟩:=r
 simp only at hl hy
 refine AP (bov:=KV s ⟨rg,ra,rb,rl⟩ rs.flatten []) ar { l:=0,f:=118} mixed (BK s _ _ []) Fu Tryz.func118 (by kernel_rfl) ?_
 conv=>whnf
 refine aX ar { l:=0,f:=118} mixed (fun _:LnSt=>[]) (fun u=>KV s ⟨rg,ra,rb,rl⟩ u.rs.flatten u.l) (fun _=>[]) (fun u=>RowsOk u.rs∧u.l.length+u.rs.flatten.length≤800∧s.readM u.rs u.l=Z) (fun u=>u.rs.length) (⟨rs,[]⟩:LnSt) (by kernel_rfl)
  ⟨hok,by show 0+rs.flatten.length≤800;omega,hZ⟩ ?_
 conv=>whnf
 refine⟨⟨trivial,?_,trivial⟩,?_⟩
 ·repeat(first|exact trivial|refine kc rfl ?_|refine bV rfl ?_)
 clear hok hsz hZ
 rintro⟨rs,l⟩ ⟨hok,hsz,HZ⟩
 simp only at hok hsz HZ
 cases hok with
 | nil =>
  rw[AX]at HZ
  subst HZ
  clear hy
  cases l with
  | nil =>
   conv=>whnf
   repeat(any_goals(first|exact ab|(refine aq ?_ ?_<;>intro _<;>first|exact ap|conv=>whnf)|((first|refine ac ?_|refine bi ?_ ?_|intro _)<;>conv=>whnf)))
   refine And.intro ?_ ?_
   ·conv=>whnf
    refine⟨⟨?_⟩,trivial⟩
    rfl
   ·repeat(first|exact trivial|refine And.intro rfl ?_|refine And.intro (by first|exact(congrArg (fun z=>some (some (rg,some (0,[AV.lp .ready none #[26] ra rb z])))) (hl _ _))|rfl) ?_)
  | cons y l =>
   conv=>whnf
   repeat(any_goals(first|exact ab|(refine aq ?_ ?_<;>intro _<;>first|exact ap|conv=>whnf)|((first|refine ac ?_|refine bi ?_ ?_|intro _)<;>conv=>whnf)))
   refine And.intro ?_ ?_
   ·conv=>whnf
    refine⟨⟨?_⟩,trivial⟩
    rfl
   ·repeat(first|exact trivial|refine And.intro rfl ?_|refine And.intro (by first|exact(congrArg (fun z=>some (some (rg,some (0,[AV.lp .ready none #[26] ra rb z])))) (hl _ _))|rfl) ?_)
 | row w rs h10 hrs =>
  obtain⟨T,hT0⟩:∃T,((w++[10])::rs).flatten=T:=⟨_,rfl⟩
  rw[hT0]at hsz ⊢
  have hT:T=w++10::rs.flatten:=by rw[←hT0];simp
  have hTl:T.length=w.length+1+rs.flatten.length:=by rw[hT];simp;omega
  have hidx:=By (aK T) 10
  rw[show Lib.indexByte (aK T).data.toList ((10:Nat):Int).toNat.toUInt8=(w.length:Int) by show Lib.indexByte T 10=_;rw[hT];exact s6 w _ h10]at hidx
  have hs1:=D5 T (w.length+1) (by omega)
  rw[show T.take (w.length+1)=w++[10] by rw[hT,show w++10::rs.flatten=(w++[10])++rs.flatten by simp];exact List.take_left' (by simp)]at hs1
  have hs2:=Fc T (w.length+1) (by omega)
  rw[show T.drop (w.length+1)=rs.flatten by rw[hT,show w++10::rs.flatten=(w++[10])++rs.flatten by simp];exact List.drop_left' (by simp)]at hs2
  rw[show((w.length+1:Nat):Int)=(w.length:Int)+1 by omega]at hs1 hs2
  have hTs:(aK T).size=T.length:=rfl
  have h256:(aK T).size=w.length+1+rs.flatten.length:=hTl
  have hy:=hy (rs.flatten) (l) (w++[10]) (by(try simp only[List.length_append,List.length_cons,List.length_nil]);omega) (by omega)
  have hY:BoxA Tryz.prog (.yld kLr rg) (di s ⟨rg,ra,rb,fY (aJ (di s ⟨rg,ra,rb,rl⟩ (rs.flatten) ⟨l,0⟩)) rl⟩ (rs.flatten) ⟨l,0⟩) [aO (aK (w++[10]))] (aB (decide((s.stepM (l) (w++[10])).st=0))) (di s ⟨rg,ra,rb,rl⟩ (rs.flatten) (s.stepM (l) (w++[10]))):=by
   have e:=hl (rs.flatten) ⟨l,0⟩
   rw[e];exact hy
  clear hy
  rw[lx]at HZ
  obtain⟨R0,hR0⟩:∃R0,w++[10]=R0:=⟨_,rfl⟩
  rw[hR0]at hY HZ hs1
  clear hT hT0 h10
  rcases jU s l R0 with e|e|e|⟨x,e⟩
  ·rw[e]at hY HZ
   rw[if_neg (by simp)]at HZ
   subst HZ
   cases l with
   | nil =>
    conv=>whnf
    repeat(any_goals(first|exact ab|(refine aq ?_ ?_<;>intro _<;>first|exact ap|conv=>whnf)|((first|refine aa hidx ?_|refine ah hidx rfl ?_|refine ac ?_|refine bi ?_ ?_|intro _)<;>conv=>whnf)))
    refine⟨_,hs1,?_⟩
    conv=>whnf
    repeat(any_goals(first|exact ab|(refine aq ?_ ?_<;>intro _<;>first|exact ap|conv=>whnf)|((first|refine aa hidx ?_|refine ah hidx rfl ?_|refine ac ?_|refine bi ?_ ?_|intro _)<;>conv=>whnf)))
    refine⟨_,hs2,?_⟩
    conv=>whnf
    repeat(any_goals(first|exact ab|(refine aq ?_ ?_<;>intro _<;>first|exact ap|conv=>whnf)|((first|refine aa hidx ?_|refine ah hidx rfl ?_|refine ac ?_|refine bi ?_ ?_|intro _)<;>conv=>whnf)))
    refine⟨aJ (di s ⟨rg,ra,rb,rl⟩ (rs.flatten) ⟨[],0⟩),?_⟩
    conv=>whnf
    repeat(refine af (aA _ _) ?_<;>(conv=>whnf))
    refine⟨_,_,hY,?_⟩
    conv=>whnf
    repeat(refine af (aA _ _) ?_<;>(conv=>whnf))
    repeat(any_goals(first|exact ab|(refine aq ?_ ?_<;>intro _<;>first|exact ap|conv=>whnf)|((first|refine aa hidx ?_|refine ah hidx rfl ?_|refine ac ?_|refine bi ?_ ?_|intro _)<;>conv=>whnf)))
    refine And.intro ?_ ?_
    ·conv=>whnf
     exact⟨⟨rfl⟩,trivial⟩
    ·rw[b8]
     repeat(first|exact trivial|refine kc rfl ?_|refine kc (congrArg (fun z=>some (some (rg,some (0,[AV.lp .done (some .ret) #[26] ra rb z])))) (hl _ _)) ?_)
   | cons y l =>
    conv=>whnf
    repeat(any_goals(first|exact ab|(refine aq ?_ ?_<;>intro _<;>first|exact ap|conv=>whnf)|((first|refine aa hidx ?_|refine ah hidx rfl ?_|refine ac ?_|refine bi ?_ ?_|intro _)<;>conv=>whnf)))
    refine⟨_,hs1,?_⟩
    conv=>whnf
    repeat(any_goals(first|exact ab|(refine aq ?_ ?_<;>intro _<;>first|exact ap|conv=>whnf)|((first|refine aa hidx ?_|refine ah hidx rfl ?_|refine ac ?_|refine bi ?_ ?_|intro _)<;>conv=>whnf)))
    refine⟨_,hs2,?_⟩
    conv=>whnf
    repeat(any_goals(first|exact ab|(refine aq ?_ ?_<;>intro _<;>first|exact ap|conv=>whnf)|((first|refine aa hidx ?_|refine ah hidx rfl ?_|refine ac ?_|refine bi ?_ ?_|intro _)<;>conv=>whnf)))
    refine⟨aJ (di s ⟨rg,ra,rb,rl⟩ (rs.flatten) ⟨(y::l),0⟩),?_⟩
    conv=>whnf
    repeat(refine af (aA _ _) ?_<;>(conv=>whnf))
    refine⟨_,_,hY,?_⟩
    conv=>whnf
    repeat(refine af (aA _ _) ?_<;>(conv=>whnf))
    repeat(any_goals(first|exact ab|(refine aq ?_ ?_<;>intro _<;>first|exact ap|conv=>whnf)|((first|refine aa hidx ?_|refine ah hidx rfl ?_|refine ac ?_|refine bi ?_ ?_|intro _)<;>conv=>whnf)))
    refine And.intro ?_ ?_
    ·conv=>whnf
     exact⟨⟨rfl⟩,trivial⟩
    ·rw[b8]
     repeat(first|exact trivial|refine kc rfl ?_|refine kc (congrArg (fun z=>some (some (rg,some (0,[AV.lp .done (some .ret) #[26] ra rb z])))) (hl _ _)) ?_)
  ·rw[e]at hY HZ
   rw[if_pos rfl]at HZ
   cases l with
   | nil =>
    conv=>whnf
    repeat(any_goals(first|exact ab|(refine aq ?_ ?_<;>intro _<;>first|exact ap|conv=>whnf)|((first|refine aa hidx ?_|refine ah hidx rfl ?_|refine ac ?_|refine bi ?_ ?_|intro _)<;>conv=>whnf)))
    refine⟨_,hs1,?_⟩
    conv=>whnf
    repeat(any_goals(first|exact ab|(refine aq ?_ ?_<;>intro _<;>first|exact ap|conv=>whnf)|((first|refine aa hidx ?_|refine ah hidx rfl ?_|refine ac ?_|refine bi ?_ ?_|intro _)<;>conv=>whnf)))
    refine⟨_,hs2,?_⟩
    conv=>whnf
    repeat(any_goals(first|exact ab|(refine aq ?_ ?_<;>intro _<;>first|exact ap|conv=>whnf)|((first|refine aa hidx ?_|refine ah hidx rfl ?_|refine ac ?_|refine bi ?_ ?_|intro _)<;>conv=>whnf)))
    refine⟨aJ (di s ⟨rg,ra,rb,rl⟩ (rs.flatten) ⟨[],0⟩),?_⟩
    conv=>whnf
    repeat(refine af (aA _ _) ?_<;>(conv=>whnf))
    refine⟨_,_,hY,?_⟩
    conv=>whnf
    repeat(refine af (aA _ _) ?_<;>(conv=>whnf))
    repeat(any_goals(first|exact ab|(refine aq ?_ ?_<;>intro _<;>first|exact ap|conv=>whnf)|((first|refine aa hidx ?_|refine ah hidx rfl ?_|refine ac ?_|refine bi ?_ ?_|intro _)<;>conv=>whnf)))
    (refine⟨⟨rs,[]⟩,⟨hrs,by show List.length ([])+(rs).flatten.length≤800;(try simp only[List.length_append,List.length_cons,List.length_nil]at hsz ⊢);omega,HZ⟩,(by show(rs).length<_;simp),?_⟩;(conv=>whnf);refine⟨?_,?_,?_⟩<;>repeat(first|exact trivial|refine sc rfl ?_|refine kn ?_|refine kc rfl ?_|refine sc (by first|exact(congrArg (fun z=>some (some (rg,some (0,[AV.lp .ready none #[26] ra rb z])))) (hl _ _))|rfl) ?_|refine kc (by first|exact(congrArg (fun z=>some (some (rg,some (0,[AV.lp .ready none #[26] ra rb z])))) (hl _ _))|rfl) ?_))
   | cons y l =>
    conv=>whnf
    repeat(any_goals(first|exact ab|(refine aq ?_ ?_<;>intro _<;>first|exact ap|conv=>whnf)|((first|refine aa hidx ?_|refine ah hidx rfl ?_|refine ac ?_|refine bi ?_ ?_|intro _)<;>conv=>whnf)))
    refine⟨_,hs1,?_⟩
    conv=>whnf
    repeat(any_goals(first|exact ab|(refine aq ?_ ?_<;>intro _<;>first|exact ap|conv=>whnf)|((first|refine aa hidx ?_|refine ah hidx rfl ?_|refine ac ?_|refine bi ?_ ?_|intro _)<;>conv=>whnf)))
    refine⟨_,hs2,?_⟩
    conv=>whnf
    repeat(any_goals(first|exact ab|(refine aq ?_ ?_<;>intro _<;>first|exact ap|conv=>whnf)|((first|refine aa hidx ?_|refine ah hidx rfl ?_|refine ac ?_|refine bi ?_ ?_|intro _)<;>conv=>whnf)))
    refine⟨aJ (di s ⟨rg,ra,rb,rl⟩ (rs.flatten) ⟨(y::l),0⟩),?_⟩
    conv=>whnf
    repeat(refine af (aA _ _) ?_<;>(conv=>whnf))
    refine⟨_,_,hY,?_⟩
    conv=>whnf
    repeat(refine af (aA _ _) ?_<;>(conv=>whnf))
    repeat(any_goals(first|exact ab|(refine aq ?_ ?_<;>intro _<;>first|exact ap|conv=>whnf)|((first|refine aa hidx ?_|refine ah hidx rfl ?_|refine ac ?_|refine bi ?_ ?_|intro _)<;>conv=>whnf)))
    (refine⟨⟨rs,(y::l)⟩,⟨hrs,by show List.length ((y::l))+(rs).flatten.length≤800;(try simp only[List.length_append,List.length_cons,List.length_nil]at hsz ⊢);omega,HZ⟩,(by show(rs).length<_;simp),?_⟩;(conv=>whnf);refine⟨?_,?_,?_⟩<;>repeat(first|exact trivial|refine sc rfl ?_|refine kn ?_|refine kc rfl ?_|refine sc (by first|exact(congrArg (fun z=>some (some (rg,some (0,[AV.lp .ready none #[26] ra rb z])))) (hl _ _))|rfl) ?_|refine kc (by first|exact(congrArg (fun z=>some (some (rg,some (0,[AV.lp .ready none #[26] ra rb z])))) (hl _ _))|rfl) ?_))
  ·rw[e]at hY HZ
   rw[if_neg (by simp)]at HZ
   subst HZ
   cases l with
   | nil =>
    conv=>whnf
    repeat(any_goals(first|exact ab|(refine aq ?_ ?_<;>intro _<;>first|exact ap|conv=>whnf)|((first|refine aa hidx ?_|refine ah hidx rfl ?_|refine ac ?_|refine bi ?_ ?_|intro _)<;>conv=>whnf)))
    refine⟨_,hs1,?_⟩
    conv=>whnf
    repeat(any_goals(first|exact ab|(refine aq ?_ ?_<;>intro _<;>first|exact ap|conv=>whnf)|((first|refine aa hidx ?_|refine ah hidx rfl ?_|refine ac ?_|refine bi ?_ ?_|intro _)<;>conv=>whnf)))
    refine⟨_,hs2,?_⟩
    conv=>whnf
    repeat(any_goals(first|exact ab|(refine aq ?_ ?_<;>intro _<;>first|exact ap|conv=>whnf)|((first|refine aa hidx ?_|refine ah hidx rfl ?_|refine ac ?_|refine bi ?_ ?_|intro _)<;>conv=>whnf)))
    refine⟨aJ (di s ⟨rg,ra,rb,rl⟩ (rs.flatten) ⟨[],0⟩),?_⟩
    conv=>whnf
    repeat(refine af (aA _ _) ?_<;>(conv=>whnf))
    refine⟨_,_,hY,?_⟩
    conv=>whnf
    repeat(refine af (aA _ _) ?_<;>(conv=>whnf))
    repeat(any_goals(first|exact ab|(refine aq ?_ ?_<;>intro _<;>first|exact ap|conv=>whnf)|((first|refine aa hidx ?_|refine ah hidx rfl ?_|refine ac ?_|refine bi ?_ ?_|intro _)<;>conv=>whnf)))
    refine And.intro ?_ ?_
    ·conv=>whnf
     exact⟨⟨rfl⟩,trivial⟩
    ·rw[b8]
     repeat(first|exact trivial|refine kc rfl ?_|refine kc (congrArg (fun z=>some (some (rg,some (0,[AV.lp .done (some .ret) #[26] ra rb z])))) (hl _ _)) ?_)
   | cons y l =>
    conv=>whnf
    repeat(any_goals(first|exact ab|(refine aq ?_ ?_<;>intro _<;>first|exact ap|conv=>whnf)|((first|refine aa hidx ?_|refine ah hidx rfl ?_|refine ac ?_|refine bi ?_ ?_|intro _)<;>conv=>whnf)))
    refine⟨_,hs1,?_⟩
    conv=>whnf
    repeat(any_goals(first|exact ab|(refine aq ?_ ?_<;>intro _<;>first|exact ap|conv=>whnf)|((first|refine aa hidx ?_|refine ah hidx rfl ?_|refine ac ?_|refine bi ?_ ?_|intro _)<;>conv=>whnf)))
    refine⟨_,hs2,?_⟩
    conv=>whnf
    repeat(any_goals(first|exact ab|(refine aq ?_ ?_<;>intro _<;>first|exact ap|conv=>whnf)|((first|refine aa hidx ?_|refine ah hidx rfl ?_|refine ac ?_|refine bi ?_ ?_|intro _)<;>conv=>whnf)))
    refine⟨aJ (di s ⟨rg,ra,rb,rl⟩ (rs.flatten) ⟨(y::l),0⟩),?_⟩
    conv=>whnf
    repeat(refine af (aA _ _) ?_<;>(conv=>whnf))
    refine⟨_,_,hY,?_⟩
    conv=>whnf
    repeat(refine af (aA _ _) ?_<;>(conv=>whnf))
    repeat(any_goals(first|exact ab|(refine aq ?_ ?_<;>intro _<;>first|exact ap|conv=>whnf)|((first|refine aa hidx ?_|refine ah hidx rfl ?_|refine ac ?_|refine bi ?_ ?_|intro _)<;>conv=>whnf)))
    refine And.intro ?_ ?_
    ·conv=>whnf
     exact⟨⟨rfl⟩,trivial⟩
    ·rw[b8]
     repeat(first|exact trivial|refine kc rfl ?_|refine kc (congrArg (fun z=>some (some (rg,some (0,[AV.lp .done (some .ret) #[26] ra rb z])))) (hl _ _)) ?_)
  ·rw[e]at hY HZ
   rw[if_pos rfl]at HZ
   cases l with
   | nil =>
    conv=>whnf
    repeat(any_goals(first|exact ab|(refine aq ?_ ?_<;>intro _<;>first|exact ap|conv=>whnf)|((first|refine aa hidx ?_|refine ah hidx rfl ?_|refine ac ?_|refine bi ?_ ?_|intro _)<;>conv=>whnf)))
    refine⟨_,hs1,?_⟩
    conv=>whnf
    repeat(any_goals(first|exact ab|(refine aq ?_ ?_<;>intro _<;>first|exact ap|conv=>whnf)|((first|refine aa hidx ?_|refine ah hidx rfl ?_|refine ac ?_|refine bi ?_ ?_|intro _)<;>conv=>whnf)))
    refine⟨_,hs2,?_⟩
    conv=>whnf
    repeat(any_goals(first|exact ab|(refine aq ?_ ?_<;>intro _<;>first|exact ap|conv=>whnf)|((first|refine aa hidx ?_|refine ah hidx rfl ?_|refine ac ?_|refine bi ?_ ?_|intro _)<;>conv=>whnf)))
    refine⟨aJ (di s ⟨rg,ra,rb,rl⟩ (rs.flatten) ⟨[],0⟩),?_⟩
    conv=>whnf
    repeat(refine af (aA _ _) ?_<;>(conv=>whnf))
    refine⟨_,_,hY,?_⟩
    conv=>whnf
    repeat(refine af (aA _ _) ?_<;>(conv=>whnf))
    repeat(any_goals(first|exact ab|(refine aq ?_ ?_<;>intro _<;>first|exact ap|conv=>whnf)|((first|refine aa hidx ?_|refine ah hidx rfl ?_|refine ac ?_|refine bi ?_ ?_|intro _)<;>conv=>whnf)))
    (refine⟨⟨rs,([]++[x])⟩,⟨hrs,by show List.length (([]++[x]))+(rs).flatten.length≤800;(try simp only[List.length_append,List.length_cons,List.length_nil]at hsz ⊢);omega,HZ⟩,(by show(rs).length<_;simp),?_⟩;(conv=>whnf);refine⟨?_,?_,?_⟩<;>repeat(first|exact trivial|refine sc rfl ?_|refine kn ?_|refine kc rfl ?_|refine sc (by first|exact(congrArg (fun z=>some (some (rg,some (0,[AV.lp .ready none #[26] ra rb z])))) (hl _ _))|rfl) ?_|refine kc (by first|exact(congrArg (fun z=>some (some (rg,some (0,[AV.lp .ready none #[26] ra rb z])))) (hl _ _))|rfl) ?_))
   | cons y l =>
    conv=>whnf
    repeat(any_goals(first|exact ab|(refine aq ?_ ?_<;>intro _<;>first|exact ap|conv=>whnf)|((first|refine aa hidx ?_|refine ah hidx rfl ?_|refine ac ?_|refine bi ?_ ?_|intro _)<;>conv=>whnf)))
    refine⟨_,hs1,?_⟩
    conv=>whnf
    repeat(any_goals(first|exact ab|(refine aq ?_ ?_<;>intro _<;>first|exact ap|conv=>whnf)|((first|refine aa hidx ?_|refine ah hidx rfl ?_|refine ac ?_|refine bi ?_ ?_|intro _)<;>conv=>whnf)))
    refine⟨_,hs2,?_⟩
    conv=>whnf
    repeat(any_goals(first|exact ab|(refine aq ?_ ?_<;>intro _<;>first|exact ap|conv=>whnf)|((first|refine aa hidx ?_|refine ah hidx rfl ?_|refine ac ?_|refine bi ?_ ?_|intro _)<;>conv=>whnf)))
    refine⟨aJ (di s ⟨rg,ra,rb,rl⟩ (rs.flatten) ⟨(y::l),0⟩),?_⟩
    conv=>whnf
    repeat(refine af (aA _ _) ?_<;>(conv=>whnf))
    refine⟨_,_,hY,?_⟩
    conv=>whnf
    repeat(refine af (aA _ _) ?_<;>(conv=>whnf))
    repeat(any_goals(first|exact ab|(refine aq ?_ ?_<;>intro _<;>first|exact ap|conv=>whnf)|((first|refine aa hidx ?_|refine ah hidx rfl ?_|refine ac ?_|refine bi ?_ ?_|intro _)<;>conv=>whnf)))
    (refine⟨⟨rs,((y::l)++[x])⟩,⟨hrs,by show List.length (((y::l)++[x]))+(rs).flatten.length≤800;(try simp only[List.length_append,List.length_cons,List.length_nil]at hsz ⊢);omega,HZ⟩,(by show(rs).length<_;simp),?_⟩;(conv=>whnf);refine⟨?_,?_,?_⟩<;>repeat(first|exact trivial|refine sc rfl ?_|refine kn ?_|refine kc rfl ?_|refine sc (by first|exact(congrArg (fun z=>some (some (rg,some (0,[AV.lp .ready none #[26] ra rb z])))) (hl _ _))|rfl) ?_|refine kc (by first|exact(congrArg (fun z=>some (some (rg,some (0,[AV.lp .ready none #[26] ra rb z])))) (hl _ _))|rfl) ?_))
 | last w h10 h0 =>
  obtain⟨T,hT0⟩:∃T,([w]:List Bs).flatten=T:=⟨_,rfl⟩
  rw[hT0]at hsz ⊢
  have hT:w=T:=by rw[←hT0];simp
  subst hT
  have hidx:=By (aK w) 10
  rw[show Lib.indexByte (aK w).data.toList ((10:Nat):Int).toNat.toUInt8 = -1 from pW w h10]at hidx
  have hTs:(aK w).size=w.length:=rfl
  have hpos:0<w.length:=List.length_pos_iff.2 h0
  have hrs:RowsOk []:= .nil
  have hfl:([]:List Bs).flatten.length=0:=rfl
  have hy:=hy ([]) (l) (w) (by(try simp only[List.length_append,List.length_cons,List.length_nil]);omega) (by omega)
  have hY:BoxA Tryz.prog (.yld kLr rg) (di s ⟨rg,ra,rb,fY (aJ (di s ⟨rg,ra,rb,rl⟩ ([]) ⟨l,0⟩)) rl⟩ ([]) ⟨l,0⟩) [aO (aK (w))] (aB (decide((s.stepM (l) (w)).st=0))) (di s ⟨rg,ra,rb,rl⟩ ([]) (s.stepM (l) (w))):=by
   have e:=hl ([]) ⟨l,0⟩
   rw[e];exact hy
  clear hy
  rw[lx]at HZ
  obtain⟨R0,hR0⟩:∃R0,w=R0:=⟨_,rfl⟩
  subst hR0
  clear hT0 h10
  rcases jU s l w with e|e|e|⟨x,e⟩
  ·rw[e]at hY HZ
   rw[if_neg (by simp)]at HZ
   subst HZ
   cases l with
   | nil =>
    conv=>whnf
    repeat(any_goals(first|exact ab|(refine aq ?_ ?_<;>intro _<;>first|exact ap|conv=>whnf)|((first|refine aa hidx ?_|refine ah hidx rfl ?_|refine ac ?_|refine bi ?_ ?_|intro _)<;>conv=>whnf)))
    refine⟨aJ (di s ⟨rg,ra,rb,rl⟩ ([]) ⟨[],0⟩),?_⟩
    conv=>whnf
    repeat(refine af (aA _ _) ?_<;>(conv=>whnf))
    refine⟨_,_,hY,?_⟩
    conv=>whnf
    repeat(refine af (aA _ _) ?_<;>(conv=>whnf))
    repeat(any_goals(first|exact ab|(refine aq ?_ ?_<;>intro _<;>first|exact ap|conv=>whnf)|((first|refine aa hidx ?_|refine ah hidx rfl ?_|refine ac ?_|refine bi ?_ ?_|intro _)<;>conv=>whnf)))
    refine And.intro ?_ ?_
    ·conv=>whnf
     exact⟨⟨rfl⟩,trivial⟩
    ·rw[b8]
     repeat(first|exact trivial|refine kc rfl ?_|refine kc (congrArg (fun z=>some (some (rg,some (0,[AV.lp .done (some .ret) #[26] ra rb z])))) (hl _ _)) ?_)
   | cons y l =>
    conv=>whnf
    repeat(any_goals(first|exact ab|(refine aq ?_ ?_<;>intro _<;>first|exact ap|conv=>whnf)|((first|refine aa hidx ?_|refine ah hidx rfl ?_|refine ac ?_|refine bi ?_ ?_|intro _)<;>conv=>whnf)))
    refine⟨aJ (di s ⟨rg,ra,rb,rl⟩ ([]) ⟨(y::l),0⟩),?_⟩
    conv=>whnf
    repeat(refine af (aA _ _) ?_<;>(conv=>whnf))
    refine⟨_,_,hY,?_⟩
    conv=>whnf
    repeat(refine af (aA _ _) ?_<;>(conv=>whnf))
    repeat(any_goals(first|exact ab|(refine aq ?_ ?_<;>intro _<;>first|exact ap|conv=>whnf)|((first|refine aa hidx ?_|refine ah hidx rfl ?_|refine ac ?_|refine bi ?_ ?_|intro _)<;>conv=>whnf)))
    refine And.intro ?_ ?_
    ·conv=>whnf
     exact⟨⟨rfl⟩,trivial⟩
    ·rw[b8]
     repeat(first|exact trivial|refine kc rfl ?_|refine kc (congrArg (fun z=>some (some (rg,some (0,[AV.lp .done (some .ret) #[26] ra rb z])))) (hl _ _)) ?_)
  ·rw[e]at hY HZ
   rw[if_pos rfl]at HZ
   cases l with
   | nil =>
    conv=>whnf
    repeat(any_goals(first|exact ab|(refine aq ?_ ?_<;>intro _<;>first|exact ap|conv=>whnf)|((first|refine aa hidx ?_|refine ah hidx rfl ?_|refine ac ?_|refine bi ?_ ?_|intro _)<;>conv=>whnf)))
    refine⟨aJ (di s ⟨rg,ra,rb,rl⟩ ([]) ⟨[],0⟩),?_⟩
    conv=>whnf
    repeat(refine af (aA _ _) ?_<;>(conv=>whnf))
    refine⟨_,_,hY,?_⟩
    conv=>whnf
    repeat(refine af (aA _ _) ?_<;>(conv=>whnf))
    repeat(any_goals(first|exact ab|(refine aq ?_ ?_<;>intro _<;>first|exact ap|conv=>whnf)|((first|refine aa hidx ?_|refine ah hidx rfl ?_|refine ac ?_|refine bi ?_ ?_|intro _)<;>conv=>whnf)))
    (refine⟨⟨[],[]⟩,⟨hrs,by show List.length ([])+([]).flatten.length≤800;(try simp only[List.length_append,List.length_cons,List.length_nil]at hsz ⊢);omega,HZ⟩,(by show([]).length<_;simp),?_⟩;(conv=>whnf);refine⟨?_,?_,?_⟩<;>repeat(first|exact trivial|refine sc rfl ?_|refine kn ?_|refine kc rfl ?_|refine sc (by first|exact(congrArg (fun z=>some (some (rg,some (0,[AV.lp .ready none #[26] ra rb z])))) (hl _ _))|rfl) ?_|refine kc (by first|exact(congrArg (fun z=>some (some (rg,some (0,[AV.lp .ready none #[26] ra rb z])))) (hl _ _))|rfl) ?_))
   | cons y l =>
    conv=>whnf
    repeat(any_goals(first|exact ab|(refine aq ?_ ?_<;>intro _<;>first|exact ap|conv=>whnf)|((first|refine aa hidx ?_|refine ah hidx rfl ?_|refine ac ?_|refine bi ?_ ?_|intro _)<;>conv=>whnf)))
    refine⟨aJ (di s ⟨rg,ra,rb,rl⟩ ([]) ⟨(y::l),0⟩),?_⟩
    conv=>whnf
    repeat(refine af (aA _ _) ?_<;>(conv=>whnf))
    refine⟨_,_,hY,?_⟩
    conv=>whnf
    repeat(refine af (aA _ _) ?_<;>(conv=>whnf))
    repeat(any_goals(first|exact ab|(refine aq ?_ ?_<;>intro _<;>first|exact ap|conv=>whnf)|((first|refine aa hidx ?_|refine ah hidx rfl ?_|refine ac ?_|refine bi ?_ ?_|intro _)<;>conv=>whnf)))
    (refine⟨⟨[],(y::l)⟩,⟨hrs,by show List.length ((y::l))+([]).flatten.length≤800;(try simp only[List.length_append,List.length_cons,List.length_nil]at hsz ⊢);omega,HZ⟩,(by show([]).length<_;simp),?_⟩;(conv=>whnf);refine⟨?_,?_,?_⟩<;>repeat(first|exact trivial|refine sc rfl ?_|refine kn ?_|refine kc rfl ?_|refine sc (by first|exact(congrArg (fun z=>some (some (rg,some (0,[AV.lp .ready none #[26] ra rb z])))) (hl _ _))|rfl) ?_|refine kc (by first|exact(congrArg (fun z=>some (some (rg,some (0,[AV.lp .ready none #[26] ra rb z])))) (hl _ _))|rfl) ?_))
  ·rw[e]at hY HZ
   rw[if_neg (by simp)]at HZ
   subst HZ
   cases l with
   | nil =>
    conv=>whnf
    repeat(any_goals(first|exact ab|(refine aq ?_ ?_<;>intro _<;>first|exact ap|conv=>whnf)|((first|refine aa hidx ?_|refine ah hidx rfl ?_|refine ac ?_|refine bi ?_ ?_|intro _)<;>conv=>whnf)))
    refine⟨aJ (di s ⟨rg,ra,rb,rl⟩ ([]) ⟨[],0⟩),?_⟩
    conv=>whnf
    repeat(refine af (aA _ _) ?_<;>(conv=>whnf))
    refine⟨_,_,hY,?_⟩
    conv=>whnf
    repeat(refine af (aA _ _) ?_<;>(conv=>whnf))
    repeat(any_goals(first|exact ab|(refine aq ?_ ?_<;>intro _<;>first|exact ap|conv=>whnf)|((first|refine aa hidx ?_|refine ah hidx rfl ?_|refine ac ?_|refine bi ?_ ?_|intro _)<;>conv=>whnf)))
    refine And.intro ?_ ?_
    ·conv=>whnf
     exact⟨⟨rfl⟩,trivial⟩
    ·rw[b8]
     repeat(first|exact trivial|refine kc rfl ?_|refine kc (congrArg (fun z=>some (some (rg,some (0,[AV.lp .done (some .ret) #[26] ra rb z])))) (hl _ _)) ?_)
   | cons y l =>
    conv=>whnf
    repeat(any_goals(first|exact ab|(refine aq ?_ ?_<;>intro _<;>first|exact ap|conv=>whnf)|((first|refine aa hidx ?_|refine ah hidx rfl ?_|refine ac ?_|refine bi ?_ ?_|intro _)<;>conv=>whnf)))
    refine⟨aJ (di s ⟨rg,ra,rb,rl⟩ ([]) ⟨(y::l),0⟩),?_⟩
    conv=>whnf
    repeat(refine af (aA _ _) ?_<;>(conv=>whnf))
    refine⟨_,_,hY,?_⟩
    conv=>whnf
    repeat(refine af (aA _ _) ?_<;>(conv=>whnf))
    repeat(any_goals(first|exact ab|(refine aq ?_ ?_<;>intro _<;>first|exact ap|conv=>whnf)|((first|refine aa hidx ?_|refine ah hidx rfl ?_|refine ac ?_|refine bi ?_ ?_|intro _)<;>conv=>whnf)))
    refine And.intro ?_ ?_
    ·conv=>whnf
     exact⟨⟨rfl⟩,trivial⟩
    ·rw[b8]
     repeat(first|exact trivial|refine kc rfl ?_|refine kc (congrArg (fun z=>some (some (rg,some (0,[AV.lp .done (some .ret) #[26] ra rb z])))) (hl _ _)) ?_)
  ·rw[e]at hY HZ
   rw[if_pos rfl]at HZ
   cases l with
   | nil =>
    conv=>whnf
    repeat(any_goals(first|exact ab|(refine aq ?_ ?_<;>intro _<;>first|exact ap|conv=>whnf)|((first|refine aa hidx ?_|refine ah hidx rfl ?_|refine ac ?_|refine bi ?_ ?_|intro _)<;>conv=>whnf)))
    refine⟨aJ (di s ⟨rg,ra,rb,rl⟩ ([]) ⟨[],0⟩),?_⟩
    conv=>whnf
    repeat(refine af (aA _ _) ?_<;>(conv=>whnf))
    refine⟨_,_,hY,?_⟩
    conv=>whnf
    repeat(refine af (aA _ _) ?_<;>(conv=>whnf))
    repeat(any_goals(first|exact ab|(refine aq ?_ ?_<;>intro _<;>first|exact ap|conv=>whnf)|((first|refine aa hidx ?_|refine ah hidx rfl ?_|refine ac ?_|refine bi ?_ ?_|intro _)<;>conv=>whnf)))
    (refine⟨⟨[],([]++[x])⟩,⟨hrs,by show List.length (([]++[x]))+([]).flatten.length≤800;(try simp only[List.length_append,List.length_cons,List.length_nil]at hsz ⊢);omega,HZ⟩,(by show([]).length<_;simp),?_⟩;(conv=>whnf);refine⟨?_,?_,?_⟩<;>repeat(first|exact trivial|refine sc rfl ?_|refine kn ?_|refine kc rfl ?_|refine sc (by first|exact(congrArg (fun z=>some (some (rg,some (0,[AV.lp .ready none #[26] ra rb z])))) (hl _ _))|rfl) ?_|refine kc (by first|exact(congrArg (fun z=>some (some (rg,some (0,[AV.lp .ready none #[26] ra rb z])))) (hl _ _))|rfl) ?_))
   | cons y l =>
    conv=>whnf
    repeat(any_goals(first|exact ab|(refine aq ?_ ?_<;>intro _<;>first|exact ap|conv=>whnf)|((first|refine aa hidx ?_|refine ah hidx rfl ?_|refine ac ?_|refine bi ?_ ?_|intro _)<;>conv=>whnf)))
    refine⟨aJ (di s ⟨rg,ra,rb,rl⟩ ([]) ⟨(y::l),0⟩),?_⟩
    conv=>whnf
    repeat(refine af (aA _ _) ?_<;>(conv=>whnf))
    refine⟨_,_,hY,?_⟩
    conv=>whnf
    repeat(refine af (aA _ _) ?_<;>(conv=>whnf))
    repeat(any_goals(first|exact ab|(refine aq ?_ ?_<;>intro _<;>first|exact ap|conv=>whnf)|((first|refine aa hidx ?_|refine ah hidx rfl ?_|refine ac ?_|refine bi ?_ ?_|intro _)<;>conv=>whnf)))
    (refine⟨⟨[],((y::l)++[x])⟩,⟨hrs,by show List.length (((y::l)++[x]))+([]).flatten.length≤800;(try simp only[List.length_append,List.length_cons,List.length_nil]at hsz ⊢);omega,HZ⟩,(by show([]).length<_;simp),?_⟩;(conv=>whnf);refine⟨?_,?_,?_⟩<;>repeat(first|exact trivial|refine sc rfl ?_|refine kn ?_|refine kc rfl ?_|refine sc (by first|exact(congrArg (fun z=>some (some (rg,some (0,[AV.lp .ready none #[26] ra rb z])))) (hl _ _))|rfl) ?_|refine kc (by first|exact(congrArg (fun z=>some (some (rg,some (0,[AV.lp .ready none #[26] ra rb z])))) (hl _ _))|rfl) ?_))
end Go.Proofs.YtgncapdjheghfaaGreatDoor
namespace Go.Proofs.YtgncapdjheghfaaGreatDoor
open Go.Am Go.Proofs Go
def Fv:List Key:=[kLn,kLr,kRt,kRe,kRs,cy]
theorem Fy{s:Bill}{r:Rec}(h:fY Fv r.l=r.l)(t:Bs)(u:RS):fY (aJ (di s r t u)) r.l=r.l:=by
 rw[←h]
 refine j9 (fun k hk=>?_) _
 unfold di IH yq
 obtain⟨l,st⟩:=u
 cases st with
 | zero=>exact g7 (aJ (KQ l++K3 ⟨l,0⟩)) Fv k hk
 | succ n=>exact g7 (aJ (KQ l++K3 ⟨l,n+1⟩)) Fv k hk
def sk(e:Int):AV:= .tuple [n6,aj e]
theorem Jj(s:Bill)(hr:s.small)(t:ByteArray)(hc:s.check.2.2≠0):PureA Tryz.prog 34 [aF s,aO t] (sk s.check.2.2):=by
 have hlk:=s8 s hr _ rfl hc
 unfold sk
 generalize s.check.2.2=e at *
 refine ae ar { l:=0,f:=34,mat:=[63,81,118],ow:=[56]} mixed wx Tryz.func34 (by kernel_rfl) ?_
 conv=>whnf
 repeat(any_goals(first|exact ab|(refine aq ?_ ?_<;>intro _<;>first|exact ap|conv=>whnf)|((first|refine ac ?_|refine bi ?_ ?_|intro _)<;>conv=>whnf)))
 refine⟨[],?_⟩
 conv=>whnf
 refine⟨_,_,hlk,?_⟩
 conv=>whnf
 repeat(any_goals(first|exact ab|(refine aq ?_ ?_<;>intro _<;>first|exact ap|conv=>whnf)|((first|refine ac ?_|refine bi ?_ ?_|intro _)<;>conv=>whnf)))
 (refine⟨⟨?_⟩,trivial⟩;rfl)
theorem Hz(s:Bill)(hr:s.small)(t:ByteArray)(hc:s.check.2.2=0)(hz:800<t.size):PureA Tryz.prog 34 [aF s,aO t] (sk 3):=by
 have hlk:=jH s hr hc
 unfold sk
 unfold cV at hlk
 refine ae ar { l:=0,f:=34,mat:=[63,81,118],ow:=[56]} mixed wx Tryz.func34 (by kernel_rfl) ?_
 conv=>whnf
 repeat(any_goals(first|exact ab|(refine aq ?_ ?_<;>intro _<;>first|exact ap|conv=>whnf)|((first|refine ac ?_|refine bi ?_ ?_|intro _)<;>conv=>whnf)))
 refine⟨[],?_⟩
 conv=>whnf
 refine⟨_,_,hlk,?_⟩
 conv=>whnf
 repeat(any_goals(first|exact ab|(refine aq ?_ ?_<;>intro _<;>first|exact ap|conv=>whnf)|((first|refine ac ?_|refine bi ?_ ?_|intro _)<;>conv=>whnf)))
 (refine⟨⟨?_⟩,trivial⟩;rfl)
theorem Bc(r:Bs):(fF r).length≤r.length:=by
 unfold fF Lib.trimSuffix
 split
 ·rw[List.length_take];omega
 ·exact Nat.le_refl _
theorem qr:∀(l:List Ent) (y x:Ent),zB y (l++[x])=x
 | [],_,_=>rfl
 | z::l,y,x=>qr l z x
theorem BC(s:Bill)(r:Rec)(y:Ent)(l:List Ent)(x:Ent):IH s r ⟨(y::l)++[x],0⟩ =
  (yq s r false (.own kRl (l.length+1+1) 3 (l.length+1+1) 0) 0++([(kRl,l.length+1+1,3,((y::l).map bC).take (l.length+1)++[bC x])]++[(kRx,l.length+1+1,3,[bC x])])):=by
 have h1:(l++[x]).length=l.length+1:=by simp
 have h2:zB y (l++[x])=x:=qr l y x
 have h3:(y::(l++[x])).map bC=((y::l).map bC).take (l.length+1)++[bC x]:=by rw[List.take_of_length_le (by simp)];simp
 show(yq s r false (.own kRl ((l++[x]).length+1) 3 ((l++[x]).length+1) 0) 0++([(kRl,(l++[x]).length+1,3,(y::(l++[x])).map bC)]++[(kRx,(l++[x]).length+1,3,[bC (zB y (l++[x]))])]))=_
 rw[h1,h2,h3]
def yH(s:Bill)(t:ByteArray)(l:List Ent):AV:=if s.holds l=true∧s.textL l=bytes t then .tuple [(match l with|[]=>n6|_::_=>aG l),aj 0]else sk 6
set_option maxHeartbeats 8000000 in
theorem Dx(s:Bill)(hr:s.small)(t:ByteArray)(hc:s.check.2.2=0)(hz:t.size≤800)(rs:List Bs)(hok:RowsOk rs)(hfl:rs.flatten=bytes t)(l0:List Ent)(st:Nat)(rest:List Bs)(hl0:l0.length≤1048576)(hZ:s.readM rs []=(⟨l0,st⟩,rest))(R:AV)(hR:((st=1∨st=2)∧R=sk 6)∨(st=0∧R=yH s t l0)):PureA Tryz.prog 34 [aF s,aO t] R:=by
 have hg:=Bill.good hc
 have hlk:=jH s hr hc
 have hln:=yx t
 have hit:=fun r hl hy=>Bo s r hl hy rs hok (by rw[hfl];exact hz)
 have ht:aK rs.flatten=t:=by rw[hfl];rfl
 unfold di at hit
 rw[ht,hZ]at hit
 simp only at hit
 unfold cV at hlk
 refine ae ar { l:=0,f:=34,mat:=[63,81,118],ow:=[56]} mixed wx Tryz.func34 (by kernel_rfl) ?_
 conv=>whnf
 repeat(any_goals(first|exact ab|(refine aq ?_ ?_<;>intro _<;>first|exact ap|conv=>whnf)|((first|refine ac ?_|refine bi ?_ ?_|intro _)<;>conv=>whnf)))
 refine⟨[],?_⟩
 conv=>whnf
 refine⟨_,_,hlk,?_⟩
 conv=>whnf
 repeat(any_goals(first|exact ab|(refine aq ?_ ?_<;>intro _<;>first|exact ap|conv=>whnf)|((first|refine ac ?_|refine bi ?_ ?_|intro _)<;>conv=>whnf)))
 refine⟨[],?_⟩
 conv=>whnf
 refine⟨_,_,hln,?_⟩
 conv=>whnf
 repeat(any_goals(first|exact ab|(refine aq ?_ ?_<;>intro _<;>first|exact ap|conv=>whnf)|((first|refine ac ?_|refine bi ?_ ?_|intro _)<;>conv=>whnf)))
 refine⟨Fv,?_⟩
 conv=>whnf
 refine⟨_,_,hit ⟨_,_,_,_⟩ ?_ ?_,?_⟩
 ·exact Fy (by first|exact uj _ _|rfl)
 ·intro t' l row hrow hll
  clear hit
  have htr:PureA Tryz.prog 83 [aO (aK row),aO ⟨#[10]⟩] (aO (aK (fF row))):=Kf (aK row) ⟨#[10]⟩ (by show row.length≤_;omega)
  have htl:=Bc row
  have hsp:=Hu (aK (fF row)) (by show(fF row).length≤_;omega)
  rw[eK]at hsp
  obtain⟨v,hv⟩:∃v,s.stepM l row=v:=⟨_,rfl⟩
  rw[hv]
  unfold Bill.stepM at hv
  generalize fF row=W at *
  cases hS:bJ [] W with
  | none =>
   rw[hS]at hsp hv
   unfold Ch at hsp
   simp only at hv
   subst hv
   cases l with
   | nil =>
    refine bu ar { l:=0,f:=34,rd:=true,ow:=[56]} mixed rfl rfl rfl (by kernel_rfl) ?_
    conv=>whnf
    refine And.intro rfl ?_
    conv=>whnf
    repeat(any_goals(first|exact ab|(refine aq ?_ ?_<;>intro _<;>first|exact ap|conv=>whnf)|((first|refine aa htr ?_|refine ah htr rfl ?_|refine aa hsp ?_|refine ah hsp rfl ?_|refine aa hrd ?_|refine ah hrd rfl ?_|refine ac ?_|refine bi ?_ ?_|intro _)<;>conv=>whnf)))
    repeat(first|exact trivial|refine And.intro rfl ?_|refine kc rfl ?_)
   | cons y l =>
    refine bu ar { l:=0,f:=34,rd:=true,ow:=[56]} mixed rfl rfl rfl (by kernel_rfl) ?_
    conv=>whnf
    refine And.intro rfl ?_
    conv=>whnf
    repeat(any_goals(first|exact ab|(refine aq ?_ ?_<;>intro _<;>first|exact ap|conv=>whnf)|((first|refine aa htr ?_|refine ah htr rfl ?_|refine aa hsp ?_|refine ah hsp rfl ?_|refine aa hrd ?_|refine ah hrd rfl ?_|refine ac ?_|refine bi ?_ ?_|intro _)<;>conv=>whnf)))
    repeat(first|exact trivial|refine And.intro rfl ?_|refine kc rfl ?_)
  | some ws =>
   rw[hS]at hsp hv
   unfold Ch at hsp
   simp only at hv
   have hne:=tg hS
   have hwl:=lS hS
   cases ws with
   | nil=>exact absurd rfl hne
   | cons w0 ws =>
    have hrd:=JU s hg.len (w0::ws) (by omega)
    clear hS hne
    by_cases hp:w0=cP
    ·subst hp
     rw[if_pos (show gR (cP::ws)=true by unfold gR;simp)]at hv
     subst hv
     have hc1:aK cP=(⟨#[112,97,103,101]⟩:ByteArray):=rfl
     clear hrd
     cases l with
     | nil =>
      refine bu ar { l:=0,f:=34,rd:=true,ow:=[56]} mixed rfl rfl rfl (by kernel_rfl) ?_
      conv=>whnf
      refine And.intro rfl ?_
      conv=>whnf
      repeat(any_goals(first|exact ab|(refine aq ?_ ?_<;>intro _<;>first|exact ap|conv=>whnf)|((first|refine aa htr ?_|refine ah htr rfl ?_|refine aa hsp ?_|refine ah hsp rfl ?_|refine aa hrd ?_|refine ah hrd rfl ?_|refine ac ?_|refine bi ?_ ?_|intro _)<;>conv=>whnf)))
      all_goals(try(exact absurd hc1 (by assumption)))
      all_goals repeat(first|exact trivial|refine And.intro rfl ?_|refine kc rfl ?_)
     | cons y l =>
      refine bu ar { l:=0,f:=34,rd:=true,ow:=[56]} mixed rfl rfl rfl (by kernel_rfl) ?_
      conv=>whnf
      refine And.intro rfl ?_
      conv=>whnf
      repeat(any_goals(first|exact ab|(refine aq ?_ ?_<;>intro _<;>first|exact ap|conv=>whnf)|((first|refine aa htr ?_|refine ah htr rfl ?_|refine aa hsp ?_|refine ah hsp rfl ?_|refine aa hrd ?_|refine ah hrd rfl ?_|refine ac ?_|refine bi ?_ ?_|intro _)<;>conv=>whnf)))
      all_goals(try(exact absurd hc1 (by assumption)))
      all_goals repeat(first|exact trivial|refine And.intro rfl ?_|refine kc rfl ?_)
    ·have hp':¬aK w0=(⟨#[112,97,103,101]⟩:ByteArray):=fun e=>hp (by rw[←eK w0,e];rfl)
     by_cases hq:w0=bN
     ·subst hq
      rw[if_pos (show gR (bN::ws)=true by unfold gR;simp)]at hv
      subst hv
      have hc1:aK bN=(⟨#[114,111,111,109]⟩:ByteArray):=rfl
      clear hrd
      cases l with
      | nil =>
       refine bu ar { l:=0,f:=34,rd:=true,ow:=[56]} mixed rfl rfl rfl (by kernel_rfl) ?_
       conv=>whnf
       refine And.intro rfl ?_
       conv=>whnf
       repeat(any_goals(first|exact ab|(refine aq ?_ ?_<;>intro _<;>first|exact ap|conv=>whnf)|((first|refine aa htr ?_|refine ah htr rfl ?_|refine aa hsp ?_|refine ah hsp rfl ?_|refine aa hrd ?_|refine ah hrd rfl ?_|refine ac ?_|refine bi ?_ ?_|intro _)<;>conv=>whnf)))
       all_goals(try(first|exact absurd hc1 (by assumption)|exact absurd (by assumption) hp'))
       all_goals repeat(first|exact trivial|refine And.intro rfl ?_|refine kc rfl ?_)
      | cons y l =>
       refine bu ar { l:=0,f:=34,rd:=true,ow:=[56]} mixed rfl rfl rfl (by kernel_rfl) ?_
       conv=>whnf
       refine And.intro rfl ?_
       conv=>whnf
       repeat(any_goals(first|exact ab|(refine aq ?_ ?_<;>intro _<;>first|exact ap|conv=>whnf)|((first|refine aa htr ?_|refine ah htr rfl ?_|refine aa hsp ?_|refine ah hsp rfl ?_|refine aa hrd ?_|refine ah hrd rfl ?_|refine ac ?_|refine bi ?_ ?_|intro _)<;>conv=>whnf)))
       all_goals(try(first|exact absurd hc1 (by assumption)|exact absurd (by assumption) hp'))
       all_goals repeat(first|exact trivial|refine And.intro rfl ?_|refine kc rfl ?_)
     ·have hq':¬aK w0=(⟨#[114,111,111,109]⟩:ByteArray):=fun e=>hq (by rw[←eK w0,e];rfl)
      rw[if_neg (show¬gR (w0::ws)=true by unfold gR;simp[hp,hq])]at hv
      cases hE:s.readE (w0::ws)with
      | none =>
       rw[hE]at hrd hv
       unfold IY at hrd
       simp only at hv
       subst hv
       cases l with
       | nil =>
        refine bu ar { l:=0,f:=34,rd:=true,ow:=[56]} mixed rfl rfl rfl (by kernel_rfl) ?_
        conv=>whnf
        refine And.intro rfl ?_
        conv=>whnf
        repeat(any_goals(first|exact ab|(refine aq ?_ ?_<;>intro _<;>first|exact ap|conv=>whnf)|((first|refine aa htr ?_|refine ah htr rfl ?_|refine aa hsp ?_|refine ah hsp rfl ?_|refine aa hrd ?_|refine ah hrd rfl ?_|refine ac ?_|refine bi ?_ ?_|intro _)<;>conv=>whnf)))
        all_goals(try(first|exact absurd (by assumption) hp'|exact absurd (by assumption) hq'))
        all_goals repeat(first|exact trivial|refine And.intro rfl ?_|refine kc rfl ?_)
       | cons y l =>
        refine bu ar { l:=0,f:=34,rd:=true,ow:=[56]} mixed rfl rfl rfl (by kernel_rfl) ?_
        conv=>whnf
        refine And.intro rfl ?_
        conv=>whnf
        repeat(any_goals(first|exact ab|(refine aq ?_ ?_<;>intro _<;>first|exact ap|conv=>whnf)|((first|refine aa htr ?_|refine ah htr rfl ?_|refine aa hsp ?_|refine ah hsp rfl ?_|refine aa hrd ?_|refine ah hrd rfl ?_|refine ac ?_|refine bi ?_ ?_|intro _)<;>conv=>whnf)))
        all_goals(try(first|exact absurd (by assumption) hp'|exact absurd (by assumption) hq'))
        all_goals repeat(first|exact trivial|refine And.intro rfl ?_|refine kc rfl ?_)
      | some x =>
       rw[hE]at hrd hv
       unfold IY at hrd
       simp only at hv
       subst hv
       cases l with
       | nil =>
        refine bu ar { l:=0,f:=34,rd:=true,ow:=[56]} mixed rfl rfl rfl (by kernel_rfl) ?_
        conv=>whnf
        refine And.intro rfl ?_
        conv=>whnf
        repeat(any_goals(first|exact ab|(refine aq ?_ ?_<;>intro _<;>first|exact ap|conv=>whnf)|((first|refine aa htr ?_|refine ah htr rfl ?_|refine aa hsp ?_|refine ah hsp rfl ?_|refine aa hrd ?_|refine ah hrd rfl ?_|refine ac ?_|refine bi ?_ ?_|intro _)<;>conv=>whnf)))
        all_goals(try(first|exact absurd (by assumption) hp'|exact absurd (by assumption) hq'))
        all_goals repeat(first|exact trivial|refine And.intro rfl ?_|refine kc rfl ?_)
       | cons y l =>
        rw[BC]
        simp only[List.length_cons]at hll
        have hel:((y::l).map bC).length=l.length+1:=by simp
        refine bu ar { l:=0,f:=34,rd:=true,ow:=[56]} mixed rfl rfl rfl (by kernel_rfl) ?_
        conv=>whnf
        refine And.intro rfl ?_
        conv=>whnf
        repeat(any_goals(first|exact ab|(refine aq ?_ ?_<;>intro _<;>first|exact ap|conv=>whnf)|((first|refine aa htr ?_|refine ah htr rfl ?_|refine aa hsp ?_|refine ah hsp rfl ?_|refine aa hrd ?_|refine ah hrd rfl ?_|refine ac ?_|refine bi ?_ ?_|intro _)<;>conv=>whnf)))
        all_goals(try(first|exact absurd (by assumption) hp'|exact absurd (by assumption) hq'))
        all_goals repeat(first|exact trivial|refine And.intro rfl ?_|refine kc rfl ?_)
 ·clear hit hln hlk
  rcases hR with⟨rfl|rfl,rfl⟩|⟨rfl,rfl⟩
  ·unfold sk
   cases l0 with
   | nil =>
    conv=>whnf
    repeat(refine af (aA _ _) ?_<;>(conv=>whnf))
    repeat(any_goals(first|exact ab|(refine aq ?_ ?_<;>intro _<;>first|exact ap|conv=>whnf)|((first|refine ac ?_|refine bi ?_ ?_|intro _)<;>conv=>whnf)))
    (refine⟨⟨?_⟩,trivial⟩;rfl)
   | cons y l =>
    conv=>whnf
    repeat(refine af (aA _ _) ?_<;>(conv=>whnf))
    repeat(any_goals(first|exact ab|(refine aq ?_ ?_<;>intro _<;>first|exact ap|conv=>whnf)|((first|refine ac ?_|refine bi ?_ ?_|intro _)<;>conv=>whnf)))
    (refine⟨⟨?_⟩,trivial⟩;rfl)
  ·unfold sk
   cases l0 with
   | nil =>
    conv=>whnf
    repeat(refine af (aA _ _) ?_<;>(conv=>whnf))
    repeat(any_goals(first|exact ab|(refine aq ?_ ?_<;>intro _<;>first|exact ap|conv=>whnf)|((first|refine ac ?_|refine bi ?_ ?_|intro _)<;>conv=>whnf)))
    (refine⟨⟨?_⟩,trivial⟩;rfl)
   | cons y l =>
    conv=>whnf
    repeat(refine af (aA _ _) ?_<;>(conv=>whnf))
    repeat(any_goals(first|exact ab|(refine aq ?_ ?_<;>intro _<;>first|exact ap|conv=>whnf)|((first|refine ac ?_|refine bi ?_ ?_|intro _)<;>conv=>whnf)))
    (refine⟨⟨?_⟩,trivial⟩;rfl)
  ·have hho:=rP s hg l0 hl0
   cases l0 with
   | nil =>
    have hho:=hho.args (args:=[dk s,n6]) (WkL.cons (Wk.refl _) (WkL.cons (Wk.nil 3) trivial))
    by_cases hh:s.holds []=true
    ·rw[hh]at hho
     have htx:=C8 s hg [] (iR hh) (Nat.le_trans (fZ hg hh) hg.len)
     have htx:=htx.args (args:=[dk s,n6]) (WkL.cons (Wk.refl _) (WkL.cons (Wk.nil 3) trivial))
     unfold yH
     by_cases ht2:s.textL []=bytes t
     ·rw[if_pos ⟨hh,ht2⟩]
      have hd:aK (s.textL [])=t:=by rw[ht2];rfl
      clear hh ht2
      generalize s.textL []=T at *
      conv=>whnf
      repeat(refine af (aA _ _) ?_<;>(conv=>whnf))
      repeat(first|(refine af (bE (y::l) (l.length+1) (by simp)) ?_<;>(conv=>whnf))|(any_goals(first|exact ab|((first|refine bd ?_ ?_|refine bn ?_ ?_)<;>intro _<;>first|(exfalso;omega)|conv=>whnf)|((first|refine ah hho rfl ?_|refine ah htx rfl ?_|refine af (bE (y::l) (l.length+1) (by simp)) ?_|refine dI ?_|refine okI ?_|refine bt ?_|refine bi (fun _=>?_) (fun _=>?_)|refine GJ ?_|intro _)<;>conv=>whnf))))
      all_goals(try(exact absurd hd (by assumption)))
      all_goals(refine⟨⟨?_⟩,trivial⟩;rfl)
     ·rw[if_neg (fun h=>ht2 h.2)]
      have hd:¬aK (s.textL [])=t:=fun e=>ht2 (by rw[←e];rfl)
      clear hh ht2
      generalize s.textL []=T at *
      unfold sk
      conv=>whnf
      repeat(refine af (aA _ _) ?_<;>(conv=>whnf))
      repeat(first|(refine af (bE (y::l) (l.length+1) (by simp)) ?_<;>(conv=>whnf))|(any_goals(first|exact ab|((first|refine bd ?_ ?_|refine bn ?_ ?_)<;>intro _<;>first|(exfalso;omega)|conv=>whnf)|((first|refine ah hho rfl ?_|refine ah htx rfl ?_|refine af (bE (y::l) (l.length+1) (by simp)) ?_|refine dI ?_|refine okI ?_|refine bt ?_|refine bi (fun _=>?_) (fun _=>?_)|refine GJ ?_|intro _)<;>conv=>whnf))))
      all_goals(try(exact absurd (by assumption) hd))
      all_goals(refine⟨⟨?_⟩,trivial⟩;rfl)
    ·unfold yH
     rw[if_neg (fun h=>hh h.1)]
     rw[Bool.eq_false_iff.2 hh]at hho
     unfold sk
     conv=>whnf
     repeat(refine af (aA _ _) ?_<;>(conv=>whnf))
     repeat(first|(refine af (bE (y::l) (l.length+1) (by simp)) ?_<;>(conv=>whnf))|(any_goals(first|exact ab|((first|refine bd ?_ ?_|refine bn ?_ ?_)<;>intro _<;>first|(exfalso;omega)|conv=>whnf)|((first|refine ah hho rfl ?_|refine ah htx rfl ?_|refine af (bE (y::l) (l.length+1) (by simp)) ?_|refine dI ?_|refine okI ?_|refine bt ?_|refine bi (fun _=>?_) (fun _=>?_)|refine GJ ?_|intro _)<;>conv=>whnf))))
     all_goals(refine⟨⟨?_⟩,trivial⟩;rfl)
   | cons y l =>
    have hel:((y::l).map bC).length=l.length+1:=by simp
    by_cases hh:s.holds (y::l)=true
    ·rw[hh]at hho
     have htx:=C8 s hg (y::l) (iR hh) (Nat.le_trans (fZ hg hh) hg.len)
     unfold yH
     by_cases ht2:s.textL (y::l)=bytes t
     ·rw[if_pos ⟨hh,ht2⟩]
      have hd:aK (s.textL (y::l))=t:=by rw[ht2];rfl
      clear hh ht2
      generalize s.textL (y::l)=T at *
      conv=>whnf
      repeat(refine af (aA _ _) ?_<;>(conv=>whnf))
      repeat(first|(refine af (bE (y::l) (l.length+1) (by simp)) ?_<;>(conv=>whnf))|(any_goals(first|exact ab|((first|refine bd ?_ ?_|refine bn ?_ ?_)<;>intro _<;>first|(exfalso;omega)|conv=>whnf)|((first|refine ah hho rfl ?_|refine ah htx rfl ?_|refine af (bE (y::l) (l.length+1) (by simp)) ?_|refine dI ?_|refine okI ?_|refine bt ?_|refine bi (fun _=>?_) (fun _=>?_)|refine GJ ?_|intro _)<;>conv=>whnf))))
      all_goals(try(exact absurd hd (by assumption)))
      all_goals(refine⟨⟨?_⟩,trivial⟩;rfl)
     ·rw[if_neg (fun h=>ht2 h.2)]
      have hd:¬aK (s.textL (y::l))=t:=fun e=>ht2 (by rw[←e];rfl)
      clear hh ht2
      generalize s.textL (y::l)=T at *
      unfold sk
      conv=>whnf
      repeat(refine af (aA _ _) ?_<;>(conv=>whnf))
      repeat(first|(refine af (bE (y::l) (l.length+1) (by simp)) ?_<;>(conv=>whnf))|(any_goals(first|exact ab|((first|refine bd ?_ ?_|refine bn ?_ ?_)<;>intro _<;>first|(exfalso;omega)|conv=>whnf)|((first|refine ah hho rfl ?_|refine ah htx rfl ?_|refine af (bE (y::l) (l.length+1) (by simp)) ?_|refine dI ?_|refine okI ?_|refine bt ?_|refine bi (fun _=>?_) (fun _=>?_)|refine GJ ?_|intro _)<;>conv=>whnf))))
      all_goals(try(exact absurd (by assumption) hd))
      all_goals(refine⟨⟨?_⟩,trivial⟩;rfl)
    ·unfold yH
     rw[if_neg (fun h=>hh h.1)]
     rw[Bool.eq_false_iff.2 hh]at hho
     unfold sk
     conv=>whnf
     repeat(refine af (aA _ _) ?_<;>(conv=>whnf))
     repeat(first|(refine af (bE (y::l) (l.length+1) (by simp)) ?_<;>(conv=>whnf))|(any_goals(first|exact ab|((first|refine bd ?_ ?_|refine bn ?_ ?_)<;>intro _<;>first|(exfalso;omega)|conv=>whnf)|((first|refine ah hho rfl ?_|refine ah htx rfl ?_|refine af (bE (y::l) (l.length+1) (by simp)) ?_|refine dI ?_|refine okI ?_|refine bt ?_|refine bi (fun _=>?_) (fun _=>?_)|refine GJ ?_|intro _)<;>conv=>whnf))))
     all_goals(refine⟨⟨?_⟩,trivial⟩;rfl)
end Go.Proofs.YtgncapdjheghfaaGreatDoor
namespace Go.Proofs.YtgncapdjheghfaaGreatDoor
open Go.Am Go.Proofs Go
theorem tq(s:Bill):∀(rs:List Bs) (l:List Ent),(s.readM rs l).1.l.length≤l.length+rs.length
 | [],l=>Nat.le_refl _
 | r::rs,l=>by
  rw[lx]
  have h:(s.stepM l r).l.length≤l.length+1:=by
   rcases jU s l r with e|e|e|⟨x,e⟩<;>rw[e]<;>simp
  split
  ·have:=tq s rs (s.stepM l r).l
   simp only[List.length_cons];omega
  ·simp only[List.length_cons];omega
theorem w8:∀{rs:List Bs},RowsOk rs→rs.length≤rs.flatten.length
 | _,.nil=>Nat.le_refl _
 | _,.row w rs _ k=>by have:=w8 k;simp only[List.length_cons,List.flatten_cons,List.length_append,List.length_nil];omega
 | _,.last w _ h0=>by have:=List.length_pos_iff.2 h0;simp only[List.length_cons,List.flatten_cons,List.flatten_nil,List.append_nil,List.length_nil];omega
theorem q7{P:Program}{f:FuncId}{args:List AV}{e:Int}(h:PureA P f args (sk e)):PureA P f args (.tuple [aG [],aj e]) :=
 h.wk (Wk.tuple (.cons (Wk.nil 3) (WkL.refl _)))
theorem om(s:Bill)(hr:s.small)(t:ByteArray):PureA Tryz.prog 34 [aF s,aO t] (.tuple [aG (s.readR t).1,aj (s.readR t).2]):=by
 unfold Bill.readR
 by_cases hc:s.check.2.2=0
 ·rw[if_neg (fun h=>h hc)]
  by_cases hz:800<t.size
  ·rw[if_pos hz]
   exact q7 (Hz s hr t hc hz)
  ·rw[if_neg hz]
   obtain⟨rs,hok,hfl⟩:=Df (bytes t).length (bytes t) (Nat.le_refl _)
   have hp:s.parse (bytes t)=s.parseW (rs.map fF):=by unfold Bill.parse;rw[←hfl,qm hok]
   rw[hp]
   have hm:=jI s rs []
   have hlen:=tq s rs []
   have hrl:=w8 hok
   have hts:rs.flatten.length=t.size:=by rw[hfl];rfl
   have hb:(s.readM rs []).1.l.length≤1048576:=by simp only[List.length_nil]at hlen;omega
   cases hw:s.parseW (rs.map fF)with
   | none =>
    rw[hw]at hm
    simp only at hm ⊢
    exact q7 (Dx s hr t hc (by omega) rs hok hfl _ _ _ hb rfl _ (.inl ⟨hm,rfl⟩))
   | some l =>
    rw[hw]at hm
    simp only[List.nil_append]at hm ⊢
    have h:=Dx s hr t hc (by omega) rs hok hfl l 0 [] (by rw[hm]at hb;exact hb) hm _ (.inr ⟨rfl,rfl⟩)
    unfold yH at h
    by_cases hh:s.holds l=true∧s.textL l=bytes t
    ·rw[if_pos hh]at h ⊢
     cases l with
     | nil=>exact h.wk (Wk.tuple (.cons (Wk.nil 3) (WkL.refl _)))
     | cons y l=>exact h
    ·rw[if_neg hh]at h ⊢
     exact q7 h
 ·rw[if_pos hc]
  exact q7 (Jj s hr t hc)
end Go.Proofs.YtgncapdjheghfaaGreatDoor
namespace Go.Proofs.YtgncapdjheghfaaGreatDoor
open Go.Am Go.Proofs Go
theorem dy{s:Bill}(hg:s.Good){c:List Ent}(h:s.holds c=true):cd s c=0:=by
 unfold cd
 rw[if_neg (by rw[hg.check];simp),if_pos h]
end Go.Proofs.YtgncapdjheghfaaGreatDoor
namespace Go.Proofs.YtgncapdjheghfaaGreatDoor
open Go.Am Go.Proofs Go
structure SlS where
 i:Nat
 K:List Int
 I:List Int
structure SuS where
 i:Nat
 U:List Int
theorem vm(x:Ent)(l:List Ent):cH (x::l)=if x.says=0 then x.a::cH l else cH l:=rfl
theorem lz(s:Bill)(is:List Int)(f i:Nat):fb s is (f+1) i=if(s.inAll i&& !hasL (i:Int) is)=true then(i:Int)::fb s is f (i+1)else fb s is f (i+1):=rfl
set_option maxHeartbeats 4000000 in
theorem Fp(s S:Bill)(c:List Ent)(left:Int)(hl6:c.length≤6)(hf6:s.figs.length≤6)(hk:PureA Tryz.prog 73 [.agg [aj s.lines,bv s.figs,aD s.truths],aG c] (aj 0))
  (hse:PureA Tryz.prog 47 [aj ((s.truths.map aj).length:Int)] (aj (2^s.truths.length))) (hb:(2:Int)^s.truths.length≤64∧0<(2:Int)^s.truths.length)
  (hw:PureA Tryz.prog 60 [aj left,aj 1,aj (2^s.truths.length-1)] (aB true))
  (hle:PureA Tryz.prog 48 [.agg [aj s.lines,bv s.figs,aD s.truths],aj left] (.agg [aj S.lines,bv S.figs,aD S.truths]))
  (hso:∀x∈c,PureA Tryz.prog 49 [.agg [aj S.lines,bv S.figs,aD S.truths],aD [x.a]] (aB (S.inSome x.a.toNat)))
  (hal:∀i:Nat,i<s.figs.length→PureA Tryz.prog 50 [.agg [aj S.lines,bv S.figs,aD S.truths],aD [(i:Int)]] (aB (S.inAll i)))
  (hha:∀(l:List Int) (n:Int),l.length≤1048576→PureA Tryz.prog 41 [aD l,aj n] (aB (jc n l))) :
  PureA Tryz.prog 37 [aF s,aG c,aj left] (.tuple [aD (bG S 0 c),aD (fb S (cH c) s.figs.length 0),aj 0]):=by
 have hcl:(c.map bC).length=c.length:=List.length_map ..
 have hfl:(s.figs.map cD).length=s.figs.length:=List.length_map ..
 have hK:=dq S
 have hI:=vm
 have hU:=lz S (cH c)
 have hU0:∀i,fb S (cH c) 0 i=[]:=fun _=>rfl
 have hI0:cH []=[]:=rfl
 have hK0:∀i,bG S i []=[]:=fun _=>rfl
 obtain⟨KR,hKR⟩:∃KR,bG S 0 c=KR:=⟨_,rfl⟩
 obtain⟨IR,hIR⟩:∃IR,cH c=IR:=⟨_,rfl⟩
 rw[hIR]at hU hU0
 obtain⟨UR,hUR⟩:∃UR,fb S IR s.figs.length 0=UR:=⟨_,rfl⟩
 rw[hKR,hIR,hUR]
 generalize (2:Int)^s.truths.length=P at *
 refine ae ar { l:=0,f:=37} mixed wO Tryz.func37 (by kernel_rfl) ?_
 conv=>whnf
 repeat(any_goals(first|exact ab|(refine aq ?_ ?_<;>intro _<;>first|exact ap|conv=>whnf)|((first|refine aa hk ?_|refine ah hk rfl ?_|refine aa hse ?_|refine ah hse rfl ?_|refine aa hw ?_|refine ah hw rfl ?_|refine aa hle ?_|refine ah hle rfl ?_|refine ac ?_|refine bi ?_ ?_|intro _)<;>conv=>whnf)))
 clear hk hse hw hle hb
 refine d7 11 1 ⟨0,37,63⟩ ?_
 conv=>whnf
 refine d7 13 1 ⟨0,37,77⟩ ?_
 conv=>whnf
 refine aX ar { l:=0,f:=37} mixed (fun u:SlS=>[(14,aj u.i),(11,.slice 1 (u.K.map aj) (.own ⟨0,37,63⟩ 1)),(13,.slice 1 (u.I.map aj) (.own ⟨0,37,77⟩ 1))]) (fun _=>[]) (fun u=>[(⟨0,37,63⟩,some (1,u.K.length)),(⟨0,37,77⟩,some (1,u.I.length))]) (fun u=>u.i≤c.length∧u.K.length≤u.i∧u.I.length≤u.i∧KR=u.K++bG S u.i (c.drop u.i)∧IR=u.I++cH (c.drop u.i)) (fun u=>c.length-u.i) (⟨0,[],[]⟩:SlS) (by kernel_rfl)
  ⟨Nat.zero_le _,Nat.le_refl _,Nat.le_refl _,hKR.symm,hIR.symm⟩ ?_
 conv=>whnf
 refine⟨⟨ai rfl (ai rfl (ai rfl trivial)),trivial,aH rfl (aH rfl trivial)⟩,?_⟩
 clear hKR
 rintro u ⟨hi,hKl,hIl,H,J⟩
 generalize u.i=i at *
 generalize u.K=K at *
 generalize u.I=I at *
 clear u
 by_cases hlt:i<c.length
 ·obtain⟨x,hx,hd⟩:=ay (l:=c) (i:=i) hlt
  rw[hd,hK]at H
  rw[hd,hI]at J
  have hso:=hso x (List.mem_of_getElem? hx)
  have hKm:(K.map aj).length=K.length:=List.length_map ..
  have hIm:(I.map aj).length=I.length:=List.length_map ..
  have hT1:∀y,(I++[y]).length=(I.map aj).length+1:=by intro y;simp
  have hT2:∀y,(K++[y]).length=(K.map aj).length+1:=by intro y;simp
  by_cases q0:x.says=0
  ·rw[if_neg (by omega)]at H
   rw[if_pos q0]at J
   conv=>whnf
   repeat(any_goals(first|exact ab|(refine aq ?_ ?_<;>intro _<;>first|exact ap|conv=>whnf)|((first|refine ag hx rfl ?_|refine ac ?_|refine bi ?_ ?_|intro _)<;>conv=>whnf)))
   (refine⟨⟨i+1,K,I++[x.a]⟩,⟨by show i+1≤_;omega,by simp only[List.length_append,List.length_cons,List.length_nil];omega,by simp only[List.length_append,List.length_cons,List.length_nil];omega,by simpa using H,by simpa using J⟩,(by show _-(i+1)<_-i;omega),?_⟩;(conv=>whnf);refine⟨?_,?_,?_⟩<;>repeat(first|exact trivial|refine sc rfl ?_|refine kn ?_|refine kc rfl ?_|refine sc (by first|rfl|(rw[List.map_append];rfl)|(rw[hT1];rfl)|(rw[hT2];rfl)) ?_|refine kc (by first|rfl|(rw[List.map_append];rfl)|(rw[hT1];rfl)|(rw[hT2];rfl)) ?_))
  ·rw[if_neg q0]at J
   by_cases q2:x.says=2
   ·cases hv:S.inSome x.a.toNat with
    | true =>
     rw[hv]at hso
     rw[if_neg (by rw[hv];simp)]at H
     conv=>whnf
     repeat(any_goals(first|exact ab|(refine aq ?_ ?_<;>intro _<;>first|exact ap|conv=>whnf)|((first|refine ag hx rfl ?_|refine aa hso ?_|refine ah hso rfl ?_|refine ac ?_|refine bi ?_ ?_|intro _)<;>conv=>whnf)))
     (refine⟨⟨i+1,K,I⟩,⟨by show i+1≤_;omega,by simp only[List.length_append,List.length_cons,List.length_nil];omega,by simp only[List.length_append,List.length_cons,List.length_nil];omega,by simpa using H,by simpa using J⟩,(by show _-(i+1)<_-i;omega),?_⟩;(conv=>whnf);refine⟨?_,?_,?_⟩<;>repeat(first|exact trivial|refine sc rfl ?_|refine kn ?_|refine kc rfl ?_|refine sc (by first|rfl|(rw[List.map_append];rfl)|(rw[hT1];rfl)|(rw[hT2];rfl)) ?_|refine kc (by first|rfl|(rw[List.map_append];rfl)|(rw[hT1];rfl)|(rw[hT2];rfl)) ?_))
    | false =>
     rw[hv]at hso
     rw[if_pos ⟨q2,hv⟩]at H
     conv=>whnf
     repeat(any_goals(first|exact ab|(refine aq ?_ ?_<;>intro _<;>first|exact ap|conv=>whnf)|((first|refine ag hx rfl ?_|refine aa hso ?_|refine ah hso rfl ?_|refine ac ?_|refine bi ?_ ?_|intro _)<;>conv=>whnf)))
     (refine⟨⟨i+1,K++[(i:Int)],I⟩,⟨by show i+1≤_;omega,by simp only[List.length_append,List.length_cons,List.length_nil];omega,by simp only[List.length_append,List.length_cons,List.length_nil];omega,by simpa using H,by simpa using J⟩,(by show _-(i+1)<_-i;omega),?_⟩;(conv=>whnf);refine⟨?_,?_,?_⟩<;>repeat(first|exact trivial|refine sc rfl ?_|refine kn ?_|refine kc rfl ?_|refine sc (by first|rfl|(rw[List.map_append];rfl)|(rw[hT1];rfl)|(rw[hT2];rfl)) ?_|refine kc (by first|rfl|(rw[List.map_append];rfl)|(rw[hT1];rfl)|(rw[hT2];rfl)) ?_))
   ·rw[if_neg (fun h=>q2 h.1)]at H
    conv=>whnf
    repeat(any_goals(first|exact ab|(refine aq ?_ ?_<;>intro _<;>first|exact ap|conv=>whnf)|((first|refine ag hx rfl ?_|refine ac ?_|refine bi ?_ ?_|intro _)<;>conv=>whnf)))
    (refine⟨⟨i+1,K,I⟩,⟨by show i+1≤_;omega,by simp only[List.length_append,List.length_cons,List.length_nil];omega,by simp only[List.length_append,List.length_cons,List.length_nil];omega,by simpa using H,by simpa using J⟩,(by show _-(i+1)<_-i;omega),?_⟩;(conv=>whnf);refine⟨?_,?_,?_⟩<;>repeat(first|exact trivial|refine sc rfl ?_|refine kn ?_|refine kc rfl ?_|refine sc (by first|rfl|(rw[List.map_append];rfl)|(rw[hT1];rfl)|(rw[hT2];rfl)) ?_|refine kc (by first|rfl|(rw[List.map_append];rfl)|(rw[hT1];rfl)|(rw[hT2];rfl)) ?_))
 ·have hin:i=c.length:=by omega
  subst hin
  rw[List.drop_length,hK0,List.append_nil]at H
  rw[List.drop_length,hI0,List.append_nil]at J
  subst H J
  have hKm:(KR.map aj).length=KR.length:=List.length_map ..
  have hha:=fun n=>hha IR n (by omega)
  clear hso
  conv=>whnf
  repeat(any_goals(first|exact ab|(refine aq ?_ ?_<;>intro _<;>first|exact ap|conv=>whnf)|((first|refine ac ?_|refine bi ?_ ?_|intro _)<;>conv=>whnf)))
  refine d7 12 1 ⟨0,37,98⟩ ?_
  conv=>whnf
  refine aX ar { l:=0,f:=37} mixed (fun u:SuS=>[(15,aj u.i),(12,.slice 1 (u.U.map aj) (.own ⟨0,37,98⟩ 1))]) (fun _=>[]) (fun u=>[(⟨0,37,98⟩,some (1,u.U.length))]) (fun u=>u.i≤s.figs.length∧u.U.length≤u.i∧UR=u.U++fb S IR (s.figs.length-u.i) u.i) (fun u=>s.figs.length-u.i) (⟨0,[]⟩:SuS) (by kernel_rfl)
   ⟨Nat.zero_le _,Nat.le_refl _,hUR.symm⟩ ?_
  conv=>whnf
  refine⟨⟨ai rfl (ai rfl trivial),trivial,aH rfl trivial⟩,?_⟩
  clear hUR
  rintro u ⟨hi2,hUl,H⟩
  generalize u.i=i at *
  generalize u.U=U at *
  clear u
  by_cases hlt2:i<s.figs.length
  ·obtain⟨f,hf⟩:∃f,s.figs.length-i=f+1:=⟨s.figs.length-i-1,by omega⟩
   have hf2:s.figs.length-(i+1)=f:=by omega
   rw[hf,hU]at H
   have hal:=hal i hlt2
   have hha:=hha (i:Int)
   have hUm:(U.map aj).length=U.length:=List.length_map ..
   have hT1:∀y,(U++[y]).length=(U.map aj).length+1:=by intro y;simp
   rw[←hf2]at H
   cases hv:S.inAll i with
   | false =>
    rw[hv]at hal
    rw[if_neg (by rw[hv];simp)]at H
    conv=>whnf
    repeat(any_goals(first|exact ab|(refine aq ?_ ?_<;>intro _<;>first|exact ap|conv=>whnf)|((first|refine aa hal ?_|refine ah hal rfl ?_|refine ac ?_|refine bi ?_ ?_|intro _)<;>conv=>whnf)))
    (refine⟨⟨i+1,U⟩,⟨by show i+1≤_;omega,by show U.length≤i+1;omega,H⟩,(by show _-(i+1)<_-i;omega),?_⟩;(conv=>whnf);refine⟨?_,?_,?_⟩<;>repeat(first|exact trivial|refine sc rfl ?_|refine kn ?_|refine kc rfl ?_|refine sc (by rfl) ?_|refine kc (by rfl) ?_))
   | true =>
    rw[hv]at hal
    cases hh:jc (i:Int) IR with
    | true =>
     rw[hh]at hha
     rw[if_neg (by rw[hh];simp)]at H
     conv=>whnf
     repeat(any_goals(first|exact ab|(refine aq ?_ ?_<;>intro _<;>first|exact ap|conv=>whnf)|((first|refine aa hal ?_|refine ah hal rfl ?_|refine aa hha ?_|refine ah hha rfl ?_|refine ac ?_|refine bi ?_ ?_|intro _)<;>conv=>whnf)))
     (refine⟨⟨i+1,U⟩,⟨by show i+1≤_;omega,by show U.length≤i+1;omega,H⟩,(by show _-(i+1)<_-i;omega),?_⟩;(conv=>whnf);refine⟨?_,?_,?_⟩<;>repeat(first|exact trivial|refine sc rfl ?_|refine kn ?_|refine kc rfl ?_|refine sc (by rfl) ?_|refine kc (by rfl) ?_))
    | false =>
     rw[hh]at hha
     rw[if_pos (by rw[hv,hh];rfl)]at H
     conv=>whnf
     repeat(any_goals(first|exact ab|(refine aq ?_ ?_<;>intro _<;>first|exact ap|conv=>whnf)|((first|refine aa hal ?_|refine ah hal rfl ?_|refine aa hha ?_|refine ah hha rfl ?_|refine ac ?_|refine bi ?_ ?_|intro _)<;>conv=>whnf)))
     (refine⟨⟨i+1,U++[(i:Int)]⟩,⟨by show i+1≤_;omega,by simp only[List.length_append,List.length_cons,List.length_nil];omega,by simpa using H⟩,(by show _-(i+1)<_-i;omega),?_⟩;(conv=>whnf);refine⟨?_,?_,?_⟩<;>repeat(first|exact trivial|refine sc rfl ?_|refine kn ?_|refine kc rfl ?_|refine sc (by first|rfl|(rw[List.map_append];rfl)|(rw[hT1];rfl)) ?_|refine kc (by first|rfl|(rw[List.map_append];rfl)|(rw[hT1];rfl)) ?_))
  ·have hin:i=s.figs.length:=by omega
   subst hin
   rw[Nat.sub_self,hU0,List.append_nil]at H
   subst H
   conv=>whnf
   repeat(any_goals(first|exact ab|(refine aq ?_ ?_<;>intro _<;>first|exact ap|conv=>whnf)|((first|refine ac ?_|refine bi ?_ ?_|intro _)<;>conv=>whnf)))
   (refine⟨⟨?_⟩,trivial⟩;rfl)
theorem Cw(s:Bill)(hr:s.small)(c:List Ent)(left:Int):PureA Tryz.prog 37 [aF s,aG c,aj left] (tz (s.slipR c left)):=by
 have hk:=yB s hr c
 unfold Bill.slipR
 obtain⟨e,he⟩:∃e,cd s c=e:=⟨_,rfl⟩
 rw[he]at hk ⊢
 unfold aF at hk
 by_cases h0:e=0
 ·rw[if_neg (fun h=>h h0)]
  subst h0
  obtain⟨hg,hok,h6⟩:=cz he
  have hh:s.holds c=true:=by
   unfold cd at he
   rw[if_neg (by rw[hg.check];simp)]at he
   by_cases q:s.holds c=true
   ·exact q
   ·rw[if_neg q]at he;simp at he
  have hT:=hg.lenT
  have h6f:=hg.len
  obtain⟨p1,p2⟩:=bD hT.2
  have htl:(s.truths.map aj).length=s.truths.length:=List.length_map ..
  have hse:=kF s.truths.length (by omega)
  have hw:=dN left 1 (2^s.truths.length-1)
  rw[eQ]at hw
  by_cases ho:aT 1 (2^s.truths.length-1) left=true
  ·rw[if_pos ho]
   rw[ho]at hw
   clear hg hok hh
   rw[←htl]at hse
   rw[htl]at hse
   generalize (2:Int)^s.truths.length=P at *
   rw[←htl]at hse
   refine nl ?_
   refine ae ar { l:=0,f:=37} mixed wO Tryz.func37 (by kernel_rfl) ?_
   conv=>whnf
   repeat(any_goals(first|exact ab|(refine aq ?_ ?_<;>intro _<;>first|exact ap|conv=>whnf)|((first|refine aa hk ?_|refine ah hk rfl ?_|refine aa hse ?_|refine ah hse rfl ?_|refine aa hw ?_|refine ah hw rfl ?_|refine ac ?_|refine bi ?_ ?_|intro _)<;>conv=>whnf)))
   (refine⟨⟨?_⟩,trivial⟩;rfl)
  ·rw[if_neg ho]
   rw[Bool.not_eq_true]at ho
   rw[ho]at hw
   rw[aU]at ho
   have hln:((left.toNat:Nat):Int)=left:=by omega
   have hlt:left.toNat<2^s.truths.length:=by
    have:((2^s.truths.length:Nat):Int)=(2:Int)^s.truths.length:=by norm_cast
    omega
   have hne:=rQ (l:=s.truths) rfl (show left.toNat≠0 by omega) hlt
   have hS:=i7 hg hne
   have hle:=pg s (by omega) left.toNat
   rw[hln]at hle
   have heq:=wy hS (fun t ht=>(cZ left.toNat s.truths 0).subset ht) rfl h6f hh
   have hTS:=hS.lenT
   have htS:∀t∈(s.leftT left.toNat).truths,0≤t:=fun t h=>(hS.lt h).1
   unfold tz
   simp only
   rw[heq]
   refine Fp s (s.leftT left.toNat) c left h6 h6f hk (by rw[htl];exact hse) ⟨by omega,by omega⟩ hw hle (fun x hx=>?_) (fun i hi=>?_) (fun l n hl=>mB l n hl)
   ·have hxa:=(hok x hx).a
    have:=tS (s.leftT left.toNat) (by omega) htS [x.a] (by simp) (by intro y hy;simp at hy;omega)
    rw[iN]at this
    exact this
   ·have:=tj (s.leftT left.toNat) (by omega) htS [(i:Int)] (by simp) (by intro y hy;simp at hy;omega)
    rw[nQ,Int.toNat_natCast]at this
    exact this
 ·rw[if_pos h0]
  refine nl ?_
  refine ae ar { l:=0,f:=37} mixed wO Tryz.func37 (by kernel_rfl) ?_
  conv=>whnf
  repeat(any_goals(first|exact ab|(refine aq ?_ ?_<;>intro _<;>first|exact ap|conv=>whnf)|((first|refine aa hk ?_|refine ah hk rfl ?_|refine ac ?_|refine bi ?_ ?_|intro _)<;>conv=>whnf)))
  (refine⟨⟨?_⟩,trivial⟩;rfl)
end Go.Proofs.YtgncapdjheghfaaGreatDoor
