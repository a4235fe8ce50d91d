/- Part 8 of the texts that the last one stands on. -/
import Derived.Shelf.Strings.Builder1
import Derived.Laws.Slices
import Derived.Test.YtgncapdjheghfaaGreatDoorA7
set_option linter.unusedVariables false
set_option linter.unusedSimpArgs false
namespace Go.Am
open Go.Shelf Go.RowKit Go.Proofs
variable {P:Program} {ρ:Ren}
def Jo(r:Nat)(w w':World):Prop:=(∀b',b'≠r→w'.heap[b']?=w.heap[b']?)∧w'.heap.size=w.heap.size∧w'.os=w.os∧w'.tape=w.tape∧w'.output=w.output
theorem yF(r:Nat)(n:Nat)(w:World):Jo r w (w.drew.freeze ⟨r,0,none⟩ n):=by
 unfold World.freeze
 split
 ·exact⟨fun _ _=>rfl,rfl,rfl,rfl,rfl⟩
 ·refine⟨fun b' hb=>?_,by simp,rfl,rfl,rfl⟩
  simp only[Array.getElem?_modify]
  rw[if_neg (by simpa using fun e=>hb e.symm)]
  rfl
set_option maxHeartbeats 2000000 in
set_option maxRecDepth 100000 in
theorem zG(L:Lays.n169 P ρ)(X:Builder.Extra P ρ){b g cap:Nat}{p:Value}{cur:Array Value}{w:World}{s:ByteArray}(h0:s.size≠0)(hbk:w.heap[b]?=some (.cells #[p,.slice (some ⟨g,0,none⟩) s.size cap] (ρ.t 72) (0,0)))(hbg:w.heap[g]?=some (.cells cur (ρ.t 5) (0,0)))
  (hnc:s.size≤cap) (hcm:cap≤maxLen) (hcs:cap≤cur.size) (hcells:∀(j:Nat) (x:UInt8),s.data.toList[j]?=some x→cur[j]?=some (.int .u8 x.toNat)) :
  Calls P (ρ.f 169) #[.pointer (some ⟨b,0,none⟩)] w fun e w'=>e = .returned (.string s)∧Jo g w w':=by
 obtain⟨⟨l⟩⟩:=s
 change l.length≠0 at h0
 change l.length≤cap at hnc
 change w.heap[b]?=some (.cells #[p,.slice (some ⟨g,0,none⟩) l.length cap] (ρ.t 72) (0,0))at hbk
 change ∀(j:Nat) (x:UInt8),l[j]?=some x→cur[j]?=some (.int .u8 x.toNat)at hcells
 have hne:l≠[]:=fun e=>h0 (by rw[e];rfl)
 have c1:w.drew.cell? ⟨b,1,none⟩=some (.slice (some ⟨g,0,none⟩) l.length cap):=by
  have:w.drew.heap[b]?=some (.cells #[p,.slice (some ⟨g,0,none⟩) l.length cap] (ρ.t 72) (0,0)):=hbk
  rw[Lib.cell_of_heap this];rfl
 have hSD:(Builtin.unsafeSliceData_ #[(ρ.t 37)] (ρ.t 127) #[.slice (some ⟨g,0,none⟩) l.length cap]).run P w.drew = .ok (.pointer (some ⟨g,0,none⟩)) w.drew :=
  Lib.run_unsafeSliceData_row _ _ _ _ _ _ (by omega)
 have hUS:(Builtin.unsafeString_ #[(ρ.t 127),(ρ.t 3)] (ρ.t 9) #[.pointer (some ⟨g,0,none⟩),.int .i64 l.length]).run P w.drew = .ok (.string ⟨l.toArray⟩) (w.drew.freeze ⟨g,0,none⟩ l.length):=by
  refine Lib.run_unsafeString_row w.drew (ρ.t 127) (ρ.t 3) (ρ.t 9) (ρ.t 5) L.t127 X.cellsByte g cur.size (by have hg':w.drew.heap[g]?=some (.cells cur (ρ.t 5) (0,0)):=hbg;simp[World.shape?,hg']) l hne (by omega) (by unfold maxLen at hcm;omega) ?_
  intro j x hx
  have:=hcells j x hx
  have hg':w.drew.heap[g]?=some (.cells cur (ρ.t 5) (0,0)):=hbg
  rw[show(⟨g,0,none⟩:Addr).add j=⟨g,j,none⟩ by cases j<;>simp[Addr.add],Lib.cell_of_heap hg']
  exact this
 have mixed:=L.mixed
 have t72:=L.t72;have a72:=L.a72;have z72:=L.z72;have v72:=L.v72;have u72:=run_underlying L.t72
 have t70:=L.t70;have a70:=L.a70;have z70:=L.z70;have v70:=L.v70;have u70:=run_underlying L.t70
 have t37:=L.t37;have a37:=L.a37;have z37:=L.z37;have v37:=L.v37;have u37:=run_underlying L.t37
 have t127:=L.t127;have a127:=L.a127;have z127:=L.z127;have v127:=L.v127;have u127:=run_underlying L.t127
 have t3:=L.t3;have a3:=L.a3;have z3:=L.z3;have v3:=L.v3;have u3:=run_underlying L.t3
 have t9:=L.t9;have a9:=L.a9;have z9:=L.z9;have v9:=L.v9;have u9:=run_underlying L.t9
 have t5:=X.t5;have a5:=X.a5;have z5:=X.z5;have v5:=X.v5;have u5:=run_underlying X.t5
 clear hcells hcs hne hbg
 go_enter L.f169,Body.n169_ntmps ρ
 go_wp2
 go_region_o
 all_goals(go_wp2;go_ret;exact⟨rfl,yF ..⟩)
set_option maxHeartbeats 2000000 in
set_option maxRecDepth 100000 in
theorem rV(L:Lays.n169 P ρ)(X:Builder.Extra P ρ){b:Nat}{p:Value}{w:World}(hbk:w.heap[b]?=some (.cells #[p,.slice none 0 0] (ρ.t 72) (0,0))) :
  Calls P (ρ.f 169) #[.pointer (some ⟨b,0,none⟩)] w fun e w'=>e = .returned (.string ⟨#[]⟩)∧w'.heap=w.heap∧w'.os=w.os∧w'.tape=w.tape∧w'.output=w.output:=by
 have hUS:=Any.unsafeString_none L X
 have c1:w.drew.cell? ⟨b,1,none⟩=some (.slice none 0 0):=by
  have:w.drew.heap[b]?=some (.cells #[p,.slice none 0 0] (ρ.t 72) (0,0)):=hbk
  rw[Lib.cell_of_heap this];rfl
 have hSD:(Builtin.unsafeSliceData_ #[(ρ.t 37)] (ρ.t 127) #[.slice none 0 0]).run P w.drew = .ok (.pointer none) w.drew:=rfl
 have mixed:=L.mixed
 have t72:=L.t72;have a72:=L.a72;have z72:=L.z72;have v72:=L.v72;have u72:=run_underlying L.t72
 have t70:=L.t70;have a70:=L.a70;have z70:=L.z70;have v70:=L.v70;have u70:=run_underlying L.t70
 have t37:=L.t37;have a37:=L.a37;have z37:=L.z37;have v37:=L.v37;have u37:=run_underlying L.t37
 have t127:=L.t127;have a127:=L.a127;have z127:=L.z127;have v127:=L.v127;have u127:=run_underlying L.t127
 have t3:=L.t3;have a3:=L.a3;have z3:=L.z3;have v3:=L.v3;have u3:=run_underlying L.t3
 have t9:=L.t9;have a9:=L.a9;have z9:=L.z9;have v9:=L.v9;have u9:=run_underlying L.t9
 have t5:=X.t5;have a5:=X.a5;have z5:=X.z5;have v5:=X.v5;have u5:=run_underlying X.t5
 go_enter L.f169,Body.n169_ntmps ρ
 go_wp2
 go_region_o
 all_goals(go_wp2;go_ret;exact⟨rfl,rfl,rfl,rfl,rfl⟩)
theorem sf{f:FuncId}{T:TypeId}{k:Key}{g:Nat}{p:AV}(hl:k.l=1000+2 * T)(hc:ak P f)
  (hrun:∀(b:Nat) (y0:Value) (w:World),w.heap[b]?=some (.cells #[y0,.slice none 0 0] T (0,0))→Calls P f #[.pointer (some ⟨b,0,none⟩)] w fun e w'=>e = .returned (.string ⟨#[]⟩)∧w'.heap=w.heap∧w'.os=w.os∧w'.tape=w.tape∧w'.output=w.output) :
  BoxA P (.fn f) [(k,g,2,[.agg [p,.v (.slice none 0 0)]])] [.ptr k g 2 0 0] (.v (.string ⟨#[]⟩)) [(k,g,2,[.agg [p,.v (.slice none 0 0)]])]:=by
 refine⟨hc,fun C w cargs hR hown hk=>?_⟩
 obtain⟨y,rfl,hy⟩:=ku hk
 obtain⟨hgb,o,y0,y1,hh,⟨h0,_⟩,h1,h2⟩:=qM (k:=k) hl hR (g:=g) (p:=p) (x:= .v (.slice none 0 0)) (by simp[cy])
 obtain rfl:=nE hR hgb hy
 obtain rfl:y1 = .slice none 0 0:=h1.val (z:= .slice none 0 0) rfl
 refine Calls.mono (hrun _ _ w hh) fun e w' ⟨he,hheap,hos,ht,hout⟩=>?_
 obtain⟨hle,hR2⟩:=hR.world (w':=w') hheap hos ht hout
 refine⟨_,_,_,he,hle,hR2,.pure (.v _),fun p hp=>?_⟩
 rcases List.mem_singleton.1 hp with rfl
 simp[fQ,cy]
theorem jf{f:FuncId}{T:TypeId}{k kr:Key}{g gr sz:Nat}{x:AV}{es:List AV}(hl:k.l=1000+2 * T)(hkk:¬kr=k)(hc:ak P f)
  (hrun:∀(b:Nat) (y:Value) (w:World),w.heap[b]?=some (.cells #[.pointer (some ⟨b,0,none⟩),y] T (0,0))→Calls P f #[.pointer (some ⟨b,0,none⟩)] w fun e w'=>e = .returned (.tuple #[])∧w'=w) :
  BoxA P (.fn f) [(k,g,2,[.agg [.ptr k g 2 0 0,x]]),(kr,gr,sz,es)] [.ptr k g 2 0 0] (.tuple []) [(k,g,2,[.agg [.ptr k g 2 0 0,x]]),(kr,gr,sz,es)]:=by
 refine⟨hc,fun C w cargs hR hown hk=>?_⟩
 obtain⟨y,rfl,hy⟩:=ku hk
 obtain⟨hgb,o,y0,y1,hh,⟨h0,_⟩,h1,h2⟩:=qM (k:=k) hl hR (g:=g) (p:= .ptr k g 2 0 0) (x:=x) (by simp[cy])
 obtain rfl:=nE hR hgb hy
 obtain rfl:=nE hR hgb h0
 refine Calls.mono (hrun _ _ w hh) fun e w' ⟨he,hw'⟩=>?_
 subst hw'
 refine⟨_,_,C,he,Ctx.le.refl C,hR,.tuple (by rfl) (fun i x y hx=>by simp at hx),fun p hp=>?_⟩
 simp only[List.mem_cons,List.not_mem_nil,or_false]at hp
 rcases hp with rfl|rfl
 ·simp[fQ,cy]
 ·simp[fQ,cy,hkk]
end Go.Am
namespace Go.Proofs.YtgncapdjheghfaaGreatDoor
open Go.Am Go.Proofs Go Go.RowKit
theorem tP{w:World}{imm:Nat→Nat→Prop}{x y:Value}(h:PRel w imm (.v x) y):y=x:=by cases h;rfl
theorem B2{w:World}{imm:Nat→Nat→Prop}{x:AV}{ys:Array Value}(h:mW w imm [x] ys):∃y,ys=#[y]∧PRel w imm x y:=by
 obtain⟨h1,h2⟩:=h
 obtain⟨l⟩:=ys
 obtain⟨y,rfl⟩:=List.length_eq_one_iff.1 (by simpa using h1)
 exact⟨y,rfl,h2 0 x y rfl rfl⟩
theorem tQ{w:World}{imm:Nat→Nat→Prop}{x z:AV}{ys:Array Value}(h:mW w imm [x,z] ys):∃y u,ys=#[y,u]∧PRel w imm x y∧PRel w imm z u:=by
 obtain⟨h1,h2⟩:=h
 obtain⟨l⟩:=ys
 match l,h1 with
 | [y,u],_=>exact⟨y,u,rfl,h2 0 x y rfl rfl,h2 1 z u rfl rfl⟩
 | [],h1=>simp at h1
 | [_],h1=>simp at h1
 | _::_::_::_,h1=>simp at h1
theorem ES{P:Program}{f:FuncId}{x r:Value}(hc:ak P f)(h:∀w,Calls P f #[x] w fun e w'=>e = .returned r∧w'=w):PureA P f [.v x] (.v r):=by
 refine⟨hc,fun w imm cargs hi hp=>?_⟩
 obtain⟨y,rfl,hy⟩:=B2 hp
 obtain rfl:=tP hy
 refine(h w).mono ?_
 rintro e w' ⟨rfl,rfl⟩
 exact⟨_,imm,rfl,fun b i hb=>⟨hi.lt b i hb,fun _=>hb⟩,.v _,Below.refl _ _⟩
theorem xO{P:Program}{f:FuncId}{x z r:Value}(hc:ak P f)(h:∀w,Calls P f #[x,z] w fun e w'=>e = .returned r∧w'=w):PureA P f [.v x,.v z] (.v r):=by
 refine⟨hc,fun w imm cargs hi hp=>?_⟩
 obtain⟨y,u,rfl,hy,hu⟩:=tQ hp
 obtain rfl:=tP hy
 obtain rfl:=tP hu
 refine(h w).mono ?_
 rintro e w' ⟨rfl,rfl⟩
 exact⟨_,imm,rfl,fun b i hb=>⟨hi.lt b i hb,fun _=>hb⟩,.v _,Below.refl _ _⟩
def aK(l:Bs):ByteArray:=⟨l.toArray⟩
theorem eN(l:Bs):bytes (aK l)=l:=rfl
theorem yq(s:ByteArray):aK (bytes s)=s:=rfl
theorem yt:∀n:Nat,n<10→Lib.decDigits n=num n:=by
 intro n hn
 unfold Lib.decDigits
 rw[dif_pos hn]
 unfold num
 rw[Int.toNat_natCast]
theorem df(n:Int)(h:0≤n∧n≤9):PureA Tryz.prog 111 [aj n] (aN (aK (num n))):=by
 obtain⟨k,rfl⟩:∃k:Nat,n=k:=⟨n.toNat,by omega⟩
 refine ES DW fun w=>?_
 rw[←yt k (by omega)]
 exact Any.strconv_Itoa_small HT k (by omega) w
theorem vF(s:ByteArray)(c:Nat):PureA Tryz.prog 135 [aN s,.v (.int .u8 c)] (aj (Lib.indexByte s.data.toList (c:Int).toNat.toUInt8)) :=
 xO D7 fun w=>Any.stringslite_IndexByte HV s c w
theorem Ko(s p:ByteArray)(hs:s.size≤1048576):PureA Tryz.prog 83 [aN s,aN p] (aN (aK (Lib.trimSuffix s.data.toList p.data.toList))) :=
 xO Hg fun w=>Any.strings_TrimSuffix HS s p w (by omega)
set_option maxRecDepth 100000 in
theorem JU(xs:List ByteArray)(sep:ByteArray)(hne:xs≠[])(hn:xs.length≤1000)(hl:(Lib.join (xs.map (·.data.toList)) sep.data.toList).length≤100000000) :
  PureA Tryz.prog 133 [Fd xs,aN sep] (aN (aK (Lib.join (xs.map (·.data.toList)) sep.data.toList))):=by
 refine⟨D6,fun w imm cargs hi hp=>?_⟩
 obtain⟨y,u,rfl,hy,hu⟩:=tQ hp
 obtain rfl:=tP hu
 cases xs with
 | nil=>exact absurd rfl hne
 | cons x xs =>
  cases hy with
  | @slice sz es tok b off cap ys hcap ht hm hsz hc hq =>
   have hcell:∀(j:Nat) z,(x::xs)[j]?=some z→w.cell? ⟨b,off+j,none⟩=some (.string z)∧imm b (off+j):=by
    intro j z hz
    have e:((x::xs).map aN)[j]?=some (aN z):=by rw[List.getElem?_map,hz];rfl
    obtain⟨h1,h2,_⟩:=hc j (aN z) 0 (aN z) e rfl
    have:=tP (hq j (aN z) 0 (aN z) e rfl)
    rw[this]at h1
    simp only[Nat.mul_one,Nat.add_zero]at h1 h2
    exact⟨h1,h2⟩
   have hb:=hi.lt _ _ (hcell 0 x rfl).2
   have hlen:((x::xs).map aN).length=(x::xs).length:=List.length_map ..
   have hN:(x::xs).length≤140737488355328:=Nat.le_trans hn (by decide)
   have hC:(x::xs).length≤cap:=hlen▸hcap
   have hL:(Lib.join ((x::xs).map (·.data.toList)) sep.data.toList).length≤140737488355328:=Nat.le_trans hl (by decide)
   have hz:∀(j:Nat) z,(x::xs)[j]?=some z→w.cell? ⟨b,off+j,none⟩=some (.string z):=fun j z hz=>(hcell j z hz).1
   rw[hlen]
   clear hcell hc hq hm hcap hsz hlen hn hl
   generalize x::xs=l at *
   have:=Any.strings_Join nW kf b off cap l sep w hz hb hN hC hL
   refine this.mono ?_
   rintro e w' ⟨rfl,hbel⟩
   refine⟨_,fun b i=>b<w.heap.size∧imm b i,rfl,fun b i hb=>⟨?_,fun _=>hb.2⟩,.v _,hbel⟩
   have:=hbel.size
   omega
theorem ve{k:Key}{g:Nat}{x:AV}(hl:k.l=1000+2 * 149) :
  BoxA Tryz.prog (.fn 132) [(k,g,2,[.agg [.v (.pointer none),x]])] [.ptr k g 2 0 0] (.tuple []) [(k,g,2,[.agg [.ptr k g 2 0 0,x]])] :=
 je hl xo fun b y w h =>
  Any.Builder_copyCheck_fresh { nW with} kf.toX72 b w (by rw[Lib.cell_of_heap h];rfl) (by simp[World.shape?,h];rfl) (Lib.frozen_of_heap h 0)
theorem vg{k kr:Key}{g gr sz:Nat}{x:AV}{es:List AV}(hl:k.l=1000+2 * 149)(hkk:¬kr=k) :
  BoxA Tryz.prog (.fn 132) [(k,g,2,[.agg [.ptr k g 2 0 0,x]]),(kr,gr,sz,es)] [.ptr k g 2 0 0] (.tuple []) [(k,g,2,[.agg [.ptr k g 2 0 0,x]]),(kr,gr,sz,es)] :=
 jf hl hkk xo fun b y w h =>
  Any.Builder_copyCheck_used { nW with} kf.toX72 b w (by rw[Lib.cell_of_heap h];rfl)
theorem Fc{k kr:Key}{g gr c0:Nat}{p:AV}{s:ByteArray}(hl:k.l=1000+2 * 149)(hlr:kr.l=1001+2 * 5)(hne:s.size≠0) :
  BoxA Tryz.prog (.fn 113) [(k,g,2,[.agg [p,.own kr gr 1 s.size c0]]),(kr,gr,1,ci s)] [.ptr k g 2 0 0] (.v (.string s)) [(k,g,2,[.agg [p,.own kr gr 1 s.size c0]]),(kr,gr+1,1000,[])] :=
 uP hl hlr hne xl fun b r cap y0 cur w h1 h2 h3 h4 h5 h6=>zG { nW with} kf hne h1 h2 h3 h4 h5 h6
theorem wT{k:Key}{g:Nat}{p:AV}(hl:k.l=1000+2 * 149) :
  BoxA Tryz.prog (.fn 113) [(k,g,2,[.agg [p,.v (.slice none 0 0)]])] [.ptr k g 2 0 0] (.v (.string ⟨#[]⟩)) [(k,g,2,[.agg [p,.v (.slice none 0 0)]])] :=
 sf hl xl fun b y0 w h=>rV { nW with} kf h
end Go.Proofs.YtgncapdjheghfaaGreatDoor
namespace Go.Proofs.YtgncapdjheghfaaGreatDoor
open Go.Am Go.Proofs Go
theorem gU(a b:ByteArray):bytes (a++b)=bytes a++bytes b:=by
 unfold bytes
 rw[ByteArray.data_append,Array.toList_append]
theorem o8(a b:Bs):aK a++aK b=aK (a++b):=fG (by rw[gU];rfl)
theorem pV:∀(ws:List Bs) (w:Bs),aJ (w::ws)=w++Lib.joinTail [32] ws
 | [],w=>by simp[aJ,Lib.joinTail]
 | v::vs,w=>by
  show w++32::aJ (v::vs)=_
  rw[pV vs v]
  simp[Lib.joinTail]
theorem A3(ws:List Bs):Lib.join ws [32]=aJ ws:=by
 cases ws with
 | nil=>rfl
 | cons w ws=>rw[Lib.join_cons,pV]
theorem kq:∀(a b:List Bs),a≠[]→b≠[]→aJ (a++b)=aJ a++32::aJ b
 | [w],b,_,hb=>by
  cases b with
  | nil=>exact absurd rfl hb
  | cons v vs=>rfl
 | w::u::a,b,_,hb=>by
  show w++32::aJ ((u::a)++b)=(w++32::aJ (u::a))++32::aJ b
  rw[kq (u::a) b (by simp) hb]
  simp
theorem ct(ws:List Bs)(hne:ws≠[])(hn:ws.length≤1000)(hl:(aJ ws).length≤1000000):PureA Tryz.prog 110 [Fd (ws.map aK)] (aN (aK (bE ws))):=by
 have h:=JU (ws.map aK) ⟨#[32]⟩ (by simpa using hne) (by rw[List.length_map];exact hn) (by
  rw[show(ws.map aK).map (·.data.toList)=ws by rw[List.map_map];exact List.map_id _,A3]
  omega)
 rw[show(ws.map aK).map (·.data.toList)=ws by rw[List.map_map];exact List.map_id _,A3]at h
 have e:aK (aJ ws)++(⟨#[10]⟩:ByteArray)=aK (bE ws):=o8 (aJ ws) [10]
 have hsz:(aK (aJ ws)).size=(aJ ws).length:=rfl
 rw[←e]
 generalize aK (aJ ws)=J at *
 generalize ws.map aK=W at *
 have h10:(⟨#[10]⟩:ByteArray).size=1:=rfl
 refine ae ar { l:=0,f:=110} mixed DV Tryz.func110 (by kernel_rfl) ?_
 conv=>whnf
 repeat(any_goals(first|exact ab|(refine ap ?_ ?_<;>intro _<;>first|exact aq|conv=>whnf)|((first|refine aa h ?_|refine ac ?_|refine bi ?_ ?_|intro _)<;>conv=>whnf)))
 (refine⟨⟨?_⟩,trivial⟩;rfl)
def kB:Key:=⟨1000+2 * 149,79,5⟩
def kBr:Key:=⟨1001+2 * 5,109,14⟩
inductive BSt where
 | fresh
 | used (g:Nat) (t:Bs)
def BSt.av:BSt→AV
 | .fresh=> .agg [.v (.pointer none),.v (.slice none 0 0)]
 | .used g t=> .agg [.ptr kB 1 2 0 0,.own kBr g 1 t.length 0]
def BSt.row:BSt→jr
 | .fresh=>(0,none)
 | .used g t=>(g,some (1,ci (aK t)))
theorem yo(t l:Bs):(ci (aK t)).take t.length++ci (aK l)=ci (aK (t++l)):=by
 have e:∀x:Bs,ci (aK x)=x.map fun b=> .v (.int .u8 b.toNat):=fun _=>rfl
 rw[e,e,e,List.map_append,List.take_of_length_le (by rw[List.length_map];omega)]
theorem uQ(t:Bs):(ci (aK t)).length=t.length:=by
 rw[lw];rfl
theorem az(ks:List Key)(s:ByteArray):tkL (tk2 ks) (ci s)=some (ci s):=by
 unfold ci
 induction s.data.toList with
 | nil=>rfl
 | cons b l ih=>simp only[List.map_cons,tkL,ih];rfl
theorem r4(l:Bs)(hl:l≠[])(hn:l.length≤1000000) :
  BoxA Tryz.prog (.fn 109) [(kB,1,2,[BSt.fresh.av])] [.ptr kB 1 2 0 0,aN (aK l)] (.tuple [aj l.length,.v .nilIface]) [(kB,1,2,[(BSt.used 1 l).av]),(kBr,1,1,ci (aK l))]:=by
 have hc:=ve (k:=kB) (g:=1) (x:= .v (.slice none 0 0)) rfl
 have hsz:(aK l).size=l.length:=rfl
 have h0:0<l.length:=by cases l with|nil=>exact absurd rfl hl|cons=>simp
 unfold BSt.av
 refine aL ar { l:=0,f:=109,mat:=[132],ow:=[14],ty:=[14]} mixed xk Tryz.func109 (by kernel_rfl) ?_
 conv=>whnf
 refine⟨[kB],?_⟩
 conv=>whnf
 refine⟨_,_,hc,?_⟩
 conv=>whnf
 repeat(any_goals(first|exact ab|(refine ap ?_ ?_<;>intro _<;>first|exact aq|conv=>whnf)|((first|refine ac ?_|refine bi ?_ ?_|intro _)<;>conv=>whnf)))
 refine And.intro ?_ ?_
 ·conv=>whnf
  refine⟨⟨?_⟩,trivial⟩
  rfl
 ·repeat(first|exact trivial|refine And.intro rfl ?_|refine And.intro (by first|rfl|skip) ?_)
theorem aO(g:Nat)(t l:Bs)(ht:t.length≤1000000)(hn:l.length≤1000000) :
  BoxA Tryz.prog (.fn 109) [(kB,1,2,[(BSt.used g t).av]),(kBr,g,1,ci (aK t))] [.ptr kB 1 2 0 0,aN (aK l)] (.tuple [aj l.length,.v .nilIface]) [(kB,1,2,[(BSt.used (g+1) (t++l)).av]),(kBr,g+1,1,ci (aK (t++l)))]:=by
 have hc:=vg (k:=kB) (kr:=kBr) (g:=1) (gr:=g) (sz:=1) (x:= .own kBr g 1 t.length 0) (es:=ci (aK t)) rfl (by decide)
 have hsz:(aK l).size=l.length:=rfl
 have hbl:=uQ t
 have hrow:=yo t l
 have hlen:(t++l).length=t.length+(aK l).size:=by rw[List.length_append];rfl
 show BoxA _ _ [(kB,1,2,[.agg [.ptr kB 1 2 0 0,.own kBr g 1 t.length 0]]),(kBr,g,1,ci (aK t))] _ _ [(kB,1,2,[.agg [.ptr kB 1 2 0 0,.own kBr (g+1) 1 (t++l).length 0]]),(kBr,g+1,1,ci (aK (t++l)))]
 rw[hlen, ←hrow]
 have htk:=fun ks=>az ks (aK t)
 generalize hB:ci (aK t)=B at *
 refine aL ar { l:=0,f:=109,mat:=[132],ow:=[14],ty:=[14]} mixed xk Tryz.func109 (by kernel_rfl) ?_
 conv=>whnf
 refine⟨[kB,kBr],?_⟩
 conv=>whnf
 refine af (htk _) ?_
 conv=>whnf
 refine⟨_,_,hc,?_⟩
 conv=>whnf
 refine af (htk _) ?_
 conv=>whnf
 repeat(any_goals(first|exact ab|(refine ap ?_ ?_<;>intro _<;>first|exact aq|conv=>whnf)|((first|refine ac ?_|refine bi ?_ ?_|intro _)<;>conv=>whnf)))
 refine And.intro ?_ ?_
 ·conv=>whnf
  refine⟨⟨?_⟩,trivial⟩
  rfl
 ·repeat(first|exact trivial|refine And.intro rfl ?_|refine And.intro (by rfl) ?_)
end Go.Proofs.YtgncapdjheghfaaGreatDoor
namespace Go.Proofs.YtgncapdjheghfaaGreatDoor
open Go.Am Go.Proofs Go
theorem m8(s:Bill)(a:Int)(f:Fig)(h0:0≤a)(h:s.figs[a.toNat]?=some f)(hn:f.name.size≤16∧f.role.size≤16):PureA Tryz.prog 112 [dk s,aj a] (aN (aK (aJ (s.whoW a)))):=by
 have e:f.name++(⟨#[32,97,115,32]⟩:ByteArray)++f.role=aK (aJ (s.whoW a)):=by
  rw[rZ h]
  refine fG ?_
  rw[gU,gU]
  show _=bytes f.name++32::(wAs++32::bytes f.role)
  simp[wAs,bytes]
 rw[←e]
 have hlt:=(List.getElem?_eq_some_iff.1 h).1
 have hfl:(s.figs.map cD).length=s.figs.length:=List.length_map ..
 have hz:(⟨#[32,97,115,32]⟩:ByteArray).size=4:=rfl
 have hz1:(f.name++(⟨#[32,97,115,32]⟩:ByteArray)).size=f.name.size+4:=by rw[ByteArray.size_append,hz]
 refine ae ar { l:=0,f:=112} mixed DX Tryz.func112 (by kernel_rfl) ?_
 conv=>whnf
 repeat(any_goals(first|exact ab|(refine ap ?_ ?_<;>intro _<;>first|exact aq|conv=>whnf)|((first|refine ag h (by omega) ?_|refine ac ?_|refine bi ?_ ?_|intro _)<;>conv=>whnf)))
 (refine⟨⟨?_⟩,trivial⟩;rfl)
def kTx:Key:=⟨0,79,16⟩
theorem Ik(s:Bill)(c:List Ent)(h6:c.length≤6)(i:Nat)(hi:i≤c.length)(m:cf)(hm:dr s c m)(hmet:(m.any fun e=>decide (e.1=(i:Int)))=true) :
  BoxA Tryz.prog (.fn 76) [(kTx,1,0,lM m)] [dk s,aG c,aj i,.mp kTx 1] (ef s c i) [(kTx,1,0,lM m)]:=by
 obtain⟨n,hn⟩:=nP m i (s.press c i) 0 (p8 hm) hmet
 have hlt:i<c.length:=by
  rw[List.any_eq_true]at hmet
  obtain⟨e,he,h1⟩:=hmet
  obtain⟨j,h2,h3,_⟩:=hm e he
  have h1:=of_decide_eq_true h1
  omega
 rw[eg s hlt]
 generalize s.press c i=R at *
 unfold gN tR
 refine aL ar { l:=0,f:=76} mixed lz Tryz.func76 (by kernel_rfl) ?_
 conv=>whnf
 repeat(any_goals(first|exact ab|(refine ap ?_ ?_<;>intro _<;>first|exact aq|conv=>whnf)|((first|rw[hn]|refine ac ?_|refine bi ?_ ?_|intro _)<;>conv=>whnf)))
 refine And.intro ?_ ?_
 ·conv=>whnf
  refine⟨⟨?_⟩,trivial⟩
  rfl
 ·repeat(first|exact trivial|refine And.intro rfl ?_|refine And.intro (by skip) ?_)
theorem B4(s:Bill)(c:List Ent)(h6:c.length≤6)(m:cf)(hm:dr s c m) :
  BoxA Tryz.prog (.fn 76) [(kTx,1,0,lM m)] [dk s,aG c,aj c.length,.mp kTx 1] (ef s c c.length) [(kTx,1,0,lM m)]:=by
 have hcl:(c.map bB).length=c.length:=List.length_map ..
 have hn:=eU m c.length 0 (by
  rw[List.any_eq_false]
  intro e he
  obtain⟨j,h2,h3,_⟩:=hm e he
  simp only[decide_eq_true_eq]
  omega)
 rw[eK]
 refine aL ar { l:=0,f:=76} mixed lz Tryz.func76 (by kernel_rfl) ?_
 conv=>whnf
 repeat(any_goals(first|exact ab|(refine ap ?_ ?_<;>intro _<;>first|exact aq|conv=>whnf)|((first|rw[hn]|refine ac ?_|refine bi ?_ ?_|intro _)<;>conv=>whnf)))
 refine And.intro ?_ ?_
 ·conv=>whnf
  refine⟨⟨?_⟩,trivial⟩
  rfl
 ·repeat(first|exact trivial|refine And.intro rfl ?_|refine And.intro (by skip) ?_)
set_option maxHeartbeats 8000000 in
theorem Il(s:Bill)(hg:s.Good)(c:List Ent)(hc:∀x∈c,s.OkE x)(h6:c.length≤6)(f i:Nat)(hi:i<c.length)(m:cf)(hm:dr s c m)(hmet:(m.any fun e=>decide (e.1=(i:Int)))=false)
  (ih:∀(j:Nat) (m':cf),i<j→j≤c.length→dr s c m'→BoxA Tryz.prog (.fn 76) [(kTx,1,0,lM m')] [dk s,aG c,aj j,.mp kTx 1] (ef s c j) [(kTx,1,0,lM (s.memoN c f j m'))]) :
  BoxA Tryz.prog (.fn 76) [(kTx,1,0,lM m)] [dk s,aG c,aj i,.mp kTx 1] (ef s c i) [(kTx,1,0,lM (s.memoTo c (s.memoN c f) i (c.length-i) (i+1) m++[((i:Int),s.press c i)]))]:=by
 rw[eg s hi]
 have hn0:=eU m i 0 hmet
 have hnot:=xF (s:=s) (c:=c) (f:=f) (g:=c.length-i) hmet
 have hR:=qf hg hc hi
 have hlf:=fun j hij hj=>xB s hg c hc h6 i j hij hj
 have hfit:=fun j (hj:j≤c.length)=>oD hg hc h6 hj
 have hle:=fun j (h1:i≤j) (h2:j≤c.length)=>rc hg hc h1 h2
 have hmok:=fun j m' (hj:j≤c.length) hm'=>ri (s:=s) (c:=c) f j m' hj hm'
 have hcl:(c.map bB).length=c.length:=List.length_map ..
 have hpt:∀n j b,s.pressTo c (s.press c) i (n+1) j b=if s.left c i j<0 then b else s.pressTo c (s.press c) i n (j+1) (some (eC b (j8 s c (s.press c) i j))):=fun _ _ _=>rfl
 have hpt0:∀j b,s.pressTo c (s.press c) i 0 j b=b:=fun _ _=>rfl
 have hmt:=gv s c (s.memoN c f) i
 have hmt0:∀j m',s.memoTo c (s.memoN c f) i 0 j m'=m':=fun _ _=>rfl
 obtain⟨M,hM⟩:∃M,s.memoTo c (s.memoN c f) i (c.length-i) (i+1) m=M:=⟨_,rfl⟩
 rw[hM]at hnot ⊢
 have hn1:=eU M i 0 hnot
 generalize s.memoN c f=N at *
 generalize s.memoTo c N i=MT at *
 generalize s.pressTo c (s.press c) i=PT at *
 unfold j8 at hpt
 have hend:s.press c c.length=⟨[],0⟩:=kZ s c
 generalize hP:s.press c=P at *
 generalize s.left c i=L at *
 clear hg hc
 refine aL ar { l:=0,f:=76,mat:=[76]} mixed lz Tryz.func76 (by kernel_rfl) ?_
 conv=>whnf
 repeat(any_goals(first|exact ab|(refine ap ?_ ?_<;>intro _<;>first|exact aq|conv=>whnf)|((first|rw[hn0]|refine ac ?_|refine bi ?_ ?_|intro _)<;>conv=>whnf)))
 refine aW ar { l:=0,f:=76,mat:=[76]} mixed (fun u:PrSt=>[(11,aj u.j),(10,aB u.best.isSome)]) (fun u=>[(⟨0,76,8⟩,some (1,some (2,[Ju u.best]))),(kTx,some (1,some (0,lM u.m)))]) (fun _=>[]) (fun u=>(i<u.j∧u.j≤c.length+1)∧(dr s c u.m∧∀p,u.best=some p→Dy p)∧some (P i)=PT (c.length+1-u.j) u.j u.best∧M=MT (c.length+1-u.j) u.j u.m) (fun u=>c.length+1-u.j) (⟨i+1,none,m⟩:PrSt) (by kernel_rfl)
  ⟨⟨Nat.lt_succ_self _,by show i+1≤_;omega⟩,⟨hm,fun p h=>by cases h⟩,by rw[show c.length+1-(i+1)=c.length-i by omega];exact hR.symm,by rw[show c.length+1-(i+1)=c.length-i by omega];exact hM.symm⟩ ?_
 conv=>whnf
 refine⟨⟨ai rfl (ai rfl trivial),aH rfl (aH rfl trivial),trivial⟩,?_⟩
 clear hR hM hm hmet hn0 hnot
 rintro u ⟨⟨hij,hj⟩,⟨hm,hbf⟩,HR,HM⟩
 generalize u.j=j at *
 generalize u.best=best at *
 generalize u.m=m at *
 clear u
 by_cases hjl:j≤c.length
 ·obtain⟨n,hn⟩:∃n,c.length+1-j=n+1:=⟨c.length-j,by omega⟩
  have hn2:c.length+1-(j+1)=n:=by omega
  rw[hn,hpt]at HR
  rw[hn,hmt]at HM
  have hlj:=hlf j (by omega) hjl
  have hL:=hle j (by omega) hjl
  by_cases q:L j<0
  ·rw[if_pos q]at HR HM
   subst HM
   subst HR
   clear hlf hle hpt hmt hpt0 hmt0 ih hmok hfit
   generalize L j=y at *
   conv=>whnf
   repeat(any_goals(first|exact ab|(refine ap ?_ ?_<;>intro _<;>first|exact aq|conv=>whnf)|((first|refine ah hlj rfl ?_|refine aa hlj ?_|rw[hn1]|refine ac ?_|refine bi ?_ ?_|intro _)<;>conv=>whnf)))
   refine And.intro ?_ ?_
   ·conv=>whnf
    refine⟨⟨?_⟩,trivial⟩
    rfl
   ·repeat(first|exact trivial|refine And.intro rfl ?_|refine And.intro (by(simp only[lM,List.map_append];rfl)) ?_)
  ·rw[if_neg q]at HR HM
   have hih:=ih j m hij hjl hm
   have hmk:=hmok j m hjl hm
   have hf:=hfit j hjl
   clear hlf hle hpt hmt hpt0 hmt0 ih hmok hfit hn1 hm
   generalize N j m=m2 at *
   by_cases hjc:j<c.length
   ·rw[eg s hjc,hP]at hih
    rw[if_pos hjc]at HR
    generalize P j=pj at *
    obtain⟨ps,w⟩:=pj
    simp only at hf HR
    have hcat:=xu (i:Int) ps (by omega)
    have hsq:0≤L j * L j∧L j * L j≤900:=sqP (by omega) hL
    generalize L j=y at *
    cases best with
    | none =>
     rw[show eC none ⟨(i:Int)::ps,w+y * y⟩=⟨(i:Int)::ps,w+y * y⟩from rfl]at HR
     have hbn:∀p,some (⟨(i:Int)::ps,w+y * y⟩:Press)=some p→Dy p:=fun p hp=>by cases hp;exact⟨by simp only[List.length_cons];omega,by simp only;omega⟩
     conv=>whnf
     repeat(any_goals(first|exact ab|(refine ap ?_ ?_<;>intro _<;>first|exact aq|conv=>whnf)|((first|refine ah hlj rfl ?_|refine aa hlj ?_|refine ac ?_|refine bi ?_ ?_|intro _)<;>conv=>whnf)))
     refine⟨[kTx],?_⟩
     conv=>whnf
     refine⟨_,_,hih,?_⟩
     conv=>whnf
     repeat(any_goals(first|exact ab|(refine ap ?_ ?_<;>intro _<;>first|exact aq|conv=>whnf)|((first|refine aa hcat ?_|fail|refine ac ?_|refine bi ?_ ?_|intro _)<;>conv=>whnf)))
     (refine⟨⟨j+1,some ⟨(i:Int)::ps,w+y * y⟩,m2⟩,⟨⟨by show i<j+1;omega,by show j+1≤_;omega⟩,⟨hmk,hbn⟩,by show some (P i)=PT (c.length+1-(j+1)) (j+1) _;rw[hn2];exact HR,by show M=MT (c.length+1-(j+1)) (j+1) _;rw[hn2];exact HM⟩,(by show _-(j+1)<_-j;omega),?_⟩;(conv=>whnf);refine⟨?_,?_,?_⟩<;>repeat(first|exact trivial|refine sc rfl ?_|refine kn ?_|refine kc rfl ?_|refine sc (by rfl) ?_|refine kc (by rfl) ?_))
    | some b =>
     have hb:=hbf b rfl
     have hbt:=m9 ⟨(i:Int)::ps,w+y * y⟩ b (by simp only[List.length_cons];omega) (by have:=hb.1;omega) (by simp only;omega) (by have:=hb.2;omega)
     by_cases hbb:bJ ⟨(i:Int)::ps,w+y * y⟩ b=true
     ·rw[show eC (some b) ⟨(i:Int)::ps,w+y * y⟩=⟨(i:Int)::ps,w+y * y⟩from if_pos hbb]at HR
      rw[hbb]at hbt
      have hbn:∀p,some (⟨(i:Int)::ps,w+y * y⟩:Press)=some p→Dy p:=fun p hp=>by cases hp;exact⟨by simp only[List.length_cons];omega,by simp only;omega⟩
      conv=>whnf
      repeat(any_goals(first|exact ab|(refine ap ?_ ?_<;>intro _<;>first|exact aq|conv=>whnf)|((first|refine ah hlj rfl ?_|refine aa hlj ?_|refine ac ?_|refine bi ?_ ?_|intro _)<;>conv=>whnf)))
      refine⟨[kTx],?_⟩
      conv=>whnf
      refine⟨_,_,hih,?_⟩
      conv=>whnf
      repeat(any_goals(first|exact ab|(refine ap ?_ ?_<;>intro _<;>first|exact aq|conv=>whnf)|((first|refine aa hcat ?_|refine aa hbt ?_|refine ac ?_|refine bi ?_ ?_|intro _)<;>conv=>whnf)))
      (refine⟨⟨j+1,some ⟨(i:Int)::ps,w+y * y⟩,m2⟩,⟨⟨by show i<j+1;omega,by show j+1≤_;omega⟩,⟨hmk,hbn⟩,by show some (P i)=PT (c.length+1-(j+1)) (j+1) _;rw[hn2];exact HR,by show M=MT (c.length+1-(j+1)) (j+1) _;rw[hn2];exact HM⟩,(by show _-(j+1)<_-j;omega),?_⟩;(conv=>whnf);refine⟨?_,?_,?_⟩<;>repeat(first|exact trivial|refine sc rfl ?_|refine kn ?_|refine kc rfl ?_|refine sc (by rfl) ?_|refine kc (by rfl) ?_))
     ·rw[show eC (some b) ⟨(i:Int)::ps,w+y * y⟩=b from if_neg hbb]at HR
      rw[Bool.eq_false_iff.2 hbb]at hbt
      have hbn:=hbf
      conv=>whnf
      repeat(any_goals(first|exact ab|(refine ap ?_ ?_<;>intro _<;>first|exact aq|conv=>whnf)|((first|refine ah hlj rfl ?_|refine aa hlj ?_|refine ac ?_|refine bi ?_ ?_|intro _)<;>conv=>whnf)))
      refine⟨[kTx],?_⟩
      conv=>whnf
      refine⟨_,_,hih,?_⟩
      conv=>whnf
      repeat(any_goals(first|exact ab|(refine ap ?_ ?_<;>intro _<;>first|exact aq|conv=>whnf)|((first|refine aa hcat ?_|refine aa hbt ?_|refine ac ?_|refine bi ?_ ?_|intro _)<;>conv=>whnf)))
      (refine⟨⟨j+1,some b,m2⟩,⟨⟨by show i<j+1;omega,by show j+1≤_;omega⟩,⟨hmk,hbn⟩,by show some (P i)=PT (c.length+1-(j+1)) (j+1) _;rw[hn2];exact HR,by show M=MT (c.length+1-(j+1)) (j+1) _;rw[hn2];exact HM⟩,(by show _-(j+1)<_-j;omega),?_⟩;(conv=>whnf);refine⟨?_,?_,?_⟩<;>repeat(first|exact trivial|refine sc rfl ?_|refine kn ?_|refine kc rfl ?_|refine sc (by rfl) ?_|refine kc (by rfl) ?_))
   ·have hjc:j=c.length:=by omega
    rw[show ef s c j = .agg [.slice 0 [] .tight,aj 0] by rw[hjc];exact eK s c]at hih
    rw[if_neg (by omega),show P j=⟨[],0⟩ by rw[hjc];exact hend]at HR
    simp only[Int.add_zero]at HR
    have hcat:=sx (i:Int)
    generalize L j=y at *
    cases best with
    | none =>
     rw[show eC none ⟨[(i:Int)],0⟩=⟨[(i:Int)],0⟩from rfl]at HR
     have hbn:∀p,some (⟨[(i:Int)],0⟩:Press)=some p→Dy p:=fun p hp=>by cases hp;exact⟨by simp,by simp⟩
     conv=>whnf
     repeat(any_goals(first|exact ab|(refine ap ?_ ?_<;>intro _<;>first|exact aq|conv=>whnf)|((first|refine ah hlj rfl ?_|refine aa hlj ?_|refine ac ?_|refine bi ?_ ?_|intro _)<;>conv=>whnf)))
     refine⟨[kTx],?_⟩
     conv=>whnf
     refine⟨_,_,hih,?_⟩
     conv=>whnf
     repeat(any_goals(first|exact ab|(refine ap ?_ ?_<;>intro _<;>first|exact aq|conv=>whnf)|((first|refine aa hcat ?_|fail|refine ac ?_|refine bi ?_ ?_|intro _)<;>conv=>whnf)))
     (refine⟨⟨j+1,some ⟨[(i:Int)],0⟩,m2⟩,⟨⟨by show i<j+1;omega,by show j+1≤_;omega⟩,⟨hmk,hbn⟩,by show some (P i)=PT (c.length+1-(j+1)) (j+1) _;rw[hn2];exact HR,by show M=MT (c.length+1-(j+1)) (j+1) _;rw[hn2];exact HM⟩,(by show _-(j+1)<_-j;omega),?_⟩;(conv=>whnf);refine⟨?_,?_,?_⟩<;>repeat(first|exact trivial|refine sc rfl ?_|refine kn ?_|refine kc rfl ?_|refine sc (by rfl) ?_|refine kc (by rfl) ?_))
    | some b =>
     have hb:=hbf b rfl
     have hbt:=m9 ⟨[(i:Int)],0⟩ b (by simp) (by have:=hb.1;omega) (by simp) (by have:=hb.2;omega)
     by_cases hbb:bJ ⟨[(i:Int)],0⟩ b=true
     ·rw[show eC (some b) ⟨[(i:Int)],0⟩=⟨[(i:Int)],0⟩from if_pos hbb]at HR
      rw[hbb]at hbt
      have hbn:∀p,some (⟨[(i:Int)],0⟩:Press)=some p→Dy p:=fun p hp=>by cases hp;exact⟨by simp,by simp⟩
      conv=>whnf
      repeat(any_goals(first|exact ab|(refine ap ?_ ?_<;>intro _<;>first|exact aq|conv=>whnf)|((first|refine ah hlj rfl ?_|refine aa hlj ?_|refine ac ?_|refine bi ?_ ?_|intro _)<;>conv=>whnf)))
      refine⟨[kTx],?_⟩
      conv=>whnf
      refine⟨_,_,hih,?_⟩
      conv=>whnf
      repeat(any_goals(first|exact ab|(refine ap ?_ ?_<;>intro _<;>first|exact aq|conv=>whnf)|((first|refine aa hcat ?_|refine aa hbt ?_|refine ac ?_|refine bi ?_ ?_|intro _)<;>conv=>whnf)))
      (refine⟨⟨j+1,some ⟨[(i:Int)],0⟩,m2⟩,⟨⟨by show i<j+1;omega,by show j+1≤_;omega⟩,⟨hmk,hbn⟩,by show some (P i)=PT (c.length+1-(j+1)) (j+1) _;rw[hn2];exact HR,by show M=MT (c.length+1-(j+1)) (j+1) _;rw[hn2];exact HM⟩,(by show _-(j+1)<_-j;omega),?_⟩;(conv=>whnf);refine⟨?_,?_,?_⟩<;>repeat(first|exact trivial|refine sc rfl ?_|refine kn ?_|refine kc rfl ?_|refine sc (by rfl) ?_|refine kc (by rfl) ?_))
     ·rw[show eC (some b) ⟨[(i:Int)],0⟩=b from if_neg hbb]at HR
      rw[Bool.eq_false_iff.2 hbb]at hbt
      have hbn:=hbf
      conv=>whnf
      repeat(any_goals(first|exact ab|(refine ap ?_ ?_<;>intro _<;>first|exact aq|conv=>whnf)|((first|refine ah hlj rfl ?_|refine aa hlj ?_|refine ac ?_|refine bi ?_ ?_|intro _)<;>conv=>whnf)))
      refine⟨[kTx],?_⟩
      conv=>whnf
      refine⟨_,_,hih,?_⟩
      conv=>whnf
      repeat(any_goals(first|exact ab|(refine ap ?_ ?_<;>intro _<;>first|exact aq|conv=>whnf)|((first|refine aa hcat ?_|refine aa hbt ?_|refine ac ?_|refine bi ?_ ?_|intro _)<;>conv=>whnf)))
      (refine⟨⟨j+1,some b,m2⟩,⟨⟨by show i<j+1;omega,by show j+1≤_;omega⟩,⟨hmk,hbn⟩,by show some (P i)=PT (c.length+1-(j+1)) (j+1) _;rw[hn2];exact HR,by show M=MT (c.length+1-(j+1)) (j+1) _;rw[hn2];exact HM⟩,(by show _-(j+1)<_-j;omega),?_⟩;(conv=>whnf);refine⟨?_,?_,?_⟩<;>repeat(first|exact trivial|refine sc rfl ?_|refine kn ?_|refine kc rfl ?_|refine sc (by rfl) ?_|refine kc (by rfl) ?_))
 ·obtain rfl:j=c.length+1:=by omega
  rw[Nat.sub_self,hpt0]at HR
  rw[Nat.sub_self,hmt0]at HM
  subst HM
  subst HR
  clear hlf hle hpt hmt hpt0 hmt0 ih hmok hfit
  conv=>whnf
  repeat(any_goals(first|exact ab|(refine ap ?_ ?_<;>intro _<;>first|exact aq|conv=>whnf)|((first|rw[hn1]|refine ac ?_|refine bi ?_ ?_|intro _)<;>conv=>whnf)))
  refine And.intro ?_ ?_
  ·conv=>whnf
   refine⟨⟨?_⟩,trivial⟩
   rfl
  ·repeat(first|exact trivial|refine And.intro rfl ?_|refine And.intro (by(simp only[lM,List.map_append];rfl)) ?_)
theorem Gs(s:Bill)(hg:s.Good)(c:List Ent)(hc:∀x∈c,s.OkE x)(h6:c.length≤6):∀(f i:Nat) (m:cf),i≤c.length→c.length-i≤f→dr s c m →
  BoxA Tryz.prog (.fn 76) [(kTx,1,0,lM m)] [dk s,aG c,aj i,.mp kTx 1] (ef s c i) [(kTx,1,0,lM (s.memoN c f i m))]:=by
 intro f
 induction f with
 | zero =>
  intro i m hi hf hm
  obtain rfl:i=c.length:=by omega
  rw[show s.memoN c 0 c.length m=m from rfl]
  exact B4 s c h6 m hm
 | succ f ih =>
  intro i m hi hf hm
  rw[iR]
  by_cases hmet:(m.any fun e=>decide (e.1=(i:Int)))=true
  ·rw[if_pos hmet]
   exact Ik s c h6 i hi m hm hmet
  ·rw[if_neg hmet]
   by_cases hie:i=c.length
   ·rw[if_pos hie]
    subst hie
    exact B4 s c h6 m hm
   ·rw[if_neg hie]
    exact Il s hg c hc h6 f i (by omega) m hm (Bool.eq_false_iff.2 hmet) fun j m' h1 h2 h3=>ih j m' h2 (by omega) h3
end Go.Proofs.YtgncapdjheghfaaGreatDoor
namespace Go.Proofs.YtgncapdjheghfaaGreatDoor
open Go.Am Go.Proofs Go
def Bill.lineW(s:Bill)(c:List Ent)(pages:List Nat)(i:Nat):Bs:=(s.rowW c pages i).flatMap bE
def Bill.textTo(s:Bill)(c:List Ent)(pages:List Nat)(i:Nat):Bs:=((List.range i).flatMap (s.rowW c pages)).flatMap bE
theorem pd(s:Bill)(c:List Ent)(pages:List Nat):s.textTo c pages 0=[]:=rfl
theorem cF(s:Bill)(c:List Ent)(pages:List Nat)(i:Nat):s.textTo c pages (i+1)=s.textTo c pages i++s.lineW c pages i:=by
 unfold Bill.textTo Bill.lineW
 rw[List.range_succ,List.flatMap_append,List.flatMap_append]
 simp
theorem qx(s:Bill)(c:List Ent):s.textTo c (tL (s.press c 0)) c.length=s.textL c:=rfl
theorem mE(i:Nat):∀(l:List Nat) (k:Nat),b9 (fun x=>decide ((i:Int)=x)) k (gP l)=match l.findIdx? (· ==i)with
  | none=> -1
  | some p=>(k:Int)+p
 | [],k=>rfl
 | x::l,k=>by
  have ih:=mE i l (k+1)
  show(if decide ((i:Int)=(x:Int))=true then(k:Int)else b9 _ (k+1) (gP l))=_
  rw[List.findIdx?_cons,ih]
  by_cases h:x=i
  ·subst h;simp
  ·rw[if_neg (by simp only[decide_eq_true_eq];omega),if_neg (by simpa using h)]
   cases l.findIdx? (· ==i)with
   | none=>rfl
   | some p=>show((k+1:Nat):Int)+(p:Int)=(k:Int)+((p+1:Nat):Int);omega
theorem iJ(i:Nat)(l:List Nat):idx (fun x=>decide ((i:Int)=x)) (gP l)=match l.findIdx? (· ==i)with
  | none=> -1
  | some p=>(p:Int):=by
 have:=mE i l 0
 unfold idx
 rw[this]
 cases l.findIdx? (· ==i)with
 | none=>rfl
 | some p=>simp
theorem BA{s:ByteArray}(h:cm s=true):s.size≤16:=by
 unfold cm at h
 simp only[Bool.and_eq_true,decide_eq_true_eq]at h
 exact h.1.2
theorem kg{s:Bill}(hg:s.Good){a:Int}(h:0≤a∧a<s.figs.length):∃f,s.figs[a.toNat]?=some f∧(f.name.size≤16∧f.role.size≤16)∧s.roomAt a=f.room∧0≤f.room∧f.room≤9:=by
 have hlt:a.toNat<s.figs.length:=by omega
 refine⟨_,List.getElem?_eq_getElem hlt,?_⟩
 have hf:=hg.figs _ (List.getElem_mem hlt)
 refine⟨⟨BA hf.1.1,BA hf.1.2⟩,?_,hf.2.1⟩
 unfold Bill.roomAt
 rw[List.getElem?_eq_getElem hlt]
theorem dN{s:Bill}{a:Int}{f:Fig}(h:s.figs[a.toNat]?=some f)(hn:f.name.size≤16∧f.role.size≤16):(aJ (s.whoW a)).length≤36∧s.whoW a≠[]:=by
 rw[rZ h]
 refine⟨?_,by simp⟩
 show(bytes f.name++32::(wAs++32::bytes f.role)).length≤36
 have h1:(bytes f.name).length=f.name.size:=rfl
 have h2:(bytes f.role).length=f.role.size:=rfl
 simp only[List.length_append,List.length_cons,wAs,List.length_nil,h1,h2]
 omega
def KE(n:Int):Bs:=aJ (if n=2 then [zT,wBe]else [wIs])
theorem gg{s:Bill}{i:Nat}{x:Ent}(ha:s.whoW x.a≠[])(hb:s.whoW x.b≠[]):aJ (s.entW i x)=aJ (num ((i:Int)+1)::KE x.says::aJ (s.whoW x.a)::if x.says=1 then [wOr,aJ (s.whoW x.b)]else []):=by
 have one:∀(w:Bs) (l:List Bs),l≠[]→aJ (w::l)=w++32::aJ l:=fun w l h=>by cases l with|nil=>exact absurd rfl h|cons=>rfl
 unfold Bill.entW KE
 by_cases h1:x.says=1
 ·have h2:¬x.says=2:=by omega
  simp only[if_pos h1,if_neg h2]
  rw[List.append_assoc,one _ _ (by simp),kq _ _ (by simp) (by simp[ha]),kq _ _ ha (by simp),one wOr _ hb]
  simp[aJ]
 ·simp only[if_neg h1,List.append_nil]
  rw[one _ _ (by simp[ha]),kq _ _ (by split<;>simp) ha]
  simp[aJ]
def aZ(p:Nat):Bs:=bE (vZ p)
def bM(r:Int):Bs:=bE [bN,num r]
def fe(r:Int):Bs:=bE [bN,num r,jU]
def ed:Option Nat→Bs
 | none=>[]
 | some p=>aZ p
theorem dc(ws:List Bs):bE ws≠[]:=by unfold bE;simp
theorem cU(p:Nat):(aZ p).length=7:=by simp[aZ,bE,vZ,aJ,cN,num]
theorem cV(r:Int):(bM r).length=7:=by simp[bM,bE,aJ,bN,num]
theorem gW(r:Int):(fe r).length=17:=by simp[fe,bE,aJ,bN,num,jU]
theorem ey{s:Bill}{c:List Ent}{pages:List Nat}{i:Nat}{x:Ent}(hx:c[i]?=some x){o:Option Nat}(ho:pages.findIdx? (· ==i)=o){h:Int}(hh:s.heading c i o.isSome=h) :
  s.lineW c pages i=ed o++((if h=2 then bM (s.roomAt x.a)else if h=1 then fe (s.roomAt x.a)else [])++bE (s.entW i x)):=by
 unfold Bill.lineW Bill.rowW
 rw[hx]
 simp only[ho]
 unfold Bill.headW
 rw[hh]
 cases o with
 | none =>
  by_cases h2:h=2
  ·simp[h2,bM,ed]
  ·by_cases h1:h=1
   ·simp[h1,fe,ed]
   ·simp[h2,h1,ed]
 | some p =>
  by_cases h2:h=2
  ·simp[h2,bM,aZ,ed]
  ·by_cases h1:h=1
   ·simp[h1,fe,aZ,ed]
   ·simp[h2,h1,aZ,ed]
theorem g3{s:Bill}(hg:s.Good){x:Ent}(hx:s.OkE x)(i:Nat):(bE (s.entW i x)).length≤100:=by
 obtain⟨f,hf,hn,_⟩:=kg hg hx.a
 obtain⟨g,hg',hm,_⟩:=kg hg hx.b
 obtain⟨h1,h2⟩:=dN hf hn
 obtain⟨h3,h4⟩:=dN hg' hm
 unfold bE
 rw[gg h2 h4,List.length_append]
 have hs:(KE x.says).length≤6:=by unfold KE;split<;>simp[aJ,zT,wBe,wIs]
 have hn:(num ((i:Int)+1)).length=1:=rfl
 have one:∀(w:Bs) (l:List Bs),l≠[]→aJ (w::l)=w++32::aJ l:=fun w l h=>by cases l with|nil=>exact absurd rfl h|cons=>rfl
 rw[one _ _ (by simp),one _ _ (by simp)]
 by_cases e:x.says=1
 ·rw[if_pos e,one _ _ (by simp),one _ _ (by simp)]
  simp only[List.length_append,List.length_cons,List.length_nil,aJ,wOr,hn]
  omega
 ·rw[if_neg e]
  simp only[List.length_append,List.length_cons,List.length_nil,aJ,hn]
  omega
theorem Bi{s:Bill}(hg:s.Good){c:List Ent}(hc:∀x∈c,s.OkE x)(pages:List Nat)(i:Nat):(s.lineW c pages i).length≤200:=by
 cases hx:c[i]? with
 | none=>unfold Bill.lineW Bill.rowW;rw[hx];simp
 | some x =>
  rw[ey hx rfl rfl]
  have h1:=g3 hg (hc x (List.mem_of_getElem? hx)) i
  have h2:=cV (s.roomAt x.a)
  have h3:=gW (s.roomAt x.a)
  simp only[List.length_append]
  have hp:(ed (pages.findIdx? (· ==i))).length≤7:=by
   cases pages.findIdx? (· ==i)with
   | none=>simp[ed]
   | some p=>show(aZ p).length≤7;rw[cU];omega
  have hr:∀h:Int,(if h=2 then bM (s.roomAt x.a)else if h=1 then fe (s.roomAt x.a)else []).length≤17:=fun h=>by
   split
   ·omega
   ·split
    ·omega
    ·simp
  have:=hr (s.heading c i (pages.findIdx? (· ==i)).isSome)
  omega
theorem dq{s:Bill}(hg:s.Good){c:List Ent}(hc:∀x∈c,s.OkE x)(pages:List Nat):∀i:Nat,(s.textTo c pages i).length≤200 * i
 | 0=>by rw[pd];simp
 | i+1=>by
  rw[cF,List.length_append]
  have:=dq hg hc pages i
  have:=Bi hg hc pages i
  omega
end Go.Proofs.YtgncapdjheghfaaGreatDoor
namespace Go.Proofs.YtgncapdjheghfaaGreatDoor
open Go.Am Go.Proofs Go
end Go.Proofs.YtgncapdjheghfaaGreatDoor
namespace Go.Proofs.YtgncapdjheghfaaGreatDoor
open Go.Am Go.Proofs Go
end Go.Proofs.YtgncapdjheghfaaGreatDoor
namespace Go.Proofs.YtgncapdjheghfaaGreatDoor
open Go.Am Go.Proofs Go
noncomputable def K6:Code:=((Tryz.f79.body.bind tf)).getD .skip
def cxX:Cx:={ l:=0,f:=79,mat:=[76,109,113],ty:=[5]}
def Kk(s:Bill)(c:List Ent)(R:Press)(M:cf)(u:Nat×BSt):SS :=
 HH [(21,aj u.1)] [(kB,some (1,some (2,[u.2.av]))),(kBr,some u.2.row)] [] [cxX.key 9,cxX.key 88] [cxX.key 88]
  [(20,.v (.int .i64 ((c.map bB).length:Nat))),(19,aG c),(7,aD R.pages),(18,aD R.pages),(17,gN R),(16,.mp kTx 1),(15,aG c),(14,dk s),(6,.ptr (cxX.key 6) 1 6 0 0),(13,.agg gC),
   (5,.ptr kB 1 2 0 0),(4,ofValue (.string ⟨#[]⟩)),(0,dk s),(1,aG c)]
  [(kTx,some (1,some (0,lM M))),(cxX.key 6,some (1,some (6,[.agg gC])))] []
def Gw(s:Bill)(c:List Ent)(l:List Nat)(u:Nat×BSt):Prop:=u.1≤c.length∧(u.1=0→u.2 = .fresh)∧(0<u.1→∃g,u.2 = .used g (s.textTo c l u.1))
def uJ(s:Bill)(c:List Ent)(l:List Nat)(R:Press)(M:cf)(k:Nat)(st:BSt):Prop :=
 ∀Q:Exit→SS→Prop,eT Tryz.prog tab cxX Tryz.f79.ntmps K6
  (ut (fun ss'=>∃a':Nat×BSt,Gw s c l a'∧c.length-a'.1<c.length-k∧uA ss' (Kk s c R M a')) Q) (Kk s c R M (k,st))
theorem BF{o:Option (Option jr)}{K:Prop}(h:o=some (some (0,none)))(k:K):yS o K:=by subst h;exact k
theorem jy{s:Bill}{c:List Ent}{i:Nat}{x:Ent}(hx:c[i]?=some x):(s.heading c i true=2∨s.heading c i true=1)∧(s.heading c i false=2∨s.heading c i false=0):=by
 unfold Bill.heading
 rw[hx]
 simp only
 split
 ·exact⟨.inl rfl,.inl rfl⟩
 ·split
  ·exact⟨.inl rfl,.inl rfl⟩
  ·exact⟨.inr rfl,.inr rfl⟩
theorem gj{s:Bill}{c:List Ent}{x:Ent}(hx:c[0]?=some x)(t:Bool):s.heading c 0 t=2:=by
 unfold Bill.heading
 rw[hx]
 rfl
end Go.Proofs.YtgncapdjheghfaaGreatDoor
namespace Go.Proofs.YtgncapdjheghfaaGreatDoor
open Go.Am Go.Proofs Go
set_option maxHeartbeats 8000000 in
theorem Ix(s:Bill)(hg:s.Good)(c:List Ent)(hc:∀x∈c,s.OkE x)(h6:c.length≤6)(l:List Nat)(hll:l.length≤6)(i:Nat)(R:Press)(hR:R.pages=gP l)(M:cf)(xa xb:Int)(hx:c[i]?=some ⟨0,xa,xb⟩)(g:Nat) :
  uJ s c l R M i (.used g (s.textTo c l i)):=by
 have hi:i<c.length:=(List.getElem?_eq_some_iff.1 hx).1
 have hok:=hc _ (List.mem_of_getElem? hx)
 obtain⟨f,hf,hn,hroom,hr0⟩:=kg hg hok.a
 obtain⟨f2,hf2,hn2,_⟩:=kg hg hok.b
 have hlt:=dq hg hc l i
 have hsu:=cF s c l i
 have hwa:=m8 s xa f hok.a.1 hf hn
 have hwb:=m8 s xb f2 hok.b.1 hf2 hn2
 obtain⟨wl,wn⟩:=dN hf hn
 obtain⟨wl2,wn2⟩:=dN hf2 hn2
 have hej:=gg (s:=s) (i:=i) (x:=⟨0,xa,xb⟩) wn wn2
 have hel:=g3 hg hok i
 have hidx:=gm R.pages i (by rw[hR];unfold gP;rw[List.length_map];omega)
 rw[hR,iJ, ←hR]at hidx
 have hhd:=fun t=>eV s c (fun x hx=>(hc x hx).inn) h6 i hi t
 have hlw:=fun {o} ho {h} hh=>ey (s:=s) (pages:=l) hx (o:=o) ho (h:=h) hh
 have hitr:=df f.room hr0
 have hite:=df ((i:Int)+1) (by omega)
 have hax:=hok.a
 have hbx:=hok.b
 have hfl:(s.figs.map cD).length=s.figs.length:=List.length_map ..
 have hcl:(c.map bB).length=c.length:=List.length_map ..
 simp only at hroom hlw hax hbx hwa hwb wl wl2 wn wn2 hej hf
 rw[hroom]at hlw
 generalize aJ (s.whoW xa)=W at *
 generalize aJ (s.whoW xb)=W2 at *
 have hE:bE (s.entW i ⟨0,xa,xb⟩)=bE [num ((i:Int)+1),wIs,W]:=by unfold bE;rw[hej];rfl
 have hle:PureA Tryz.prog 110 [.slice 1 [aN (aK (num ((i:Int)+1))),aN isB,aN (aK W)] .no] (aN (aK (bE (s.entW i ⟨0,xa,xb⟩)))):=by
  rw[hE]
  refine ct [num ((i:Int)+1),wIs,W] (by simp) (by simp) ?_
  rw[hE]at hel
  unfold bE at hel
  rw[List.length_append]at hel
  omega
 have hEn:=dc (s.entW i ⟨0,xa,xb⟩)
 clear hej hE hn hn2 wl wl2 wn wn2 hf2
 generalize bE (s.entW i ⟨0,xa,xb⟩)=E at *
 have hht:=jy (s:=s) hx
 generalize s.textTo c l i=t at *
 intro Q
 cases ho:l.findIdx? (· ==i)with
 | none =>
  simp only[ho]at hidx
  have hhd:=hhd false
  rcases hht.2 with h2|h2
  ·rw[h2]at hhd
   have hlr:PureA Tryz.prog 110 [.slice 1 [aN (aK bN),aN (aK (num f.room))] .no] (aN (aK (bM f.room))):=ct [bN,num f.room] (by simp) (by simp) (by simp[aJ,bN,num])
   have hrl:=cV f.room
   have hlw:=hlw (o:=none) ho (h:=2) h2
   have hT:s.textTo c l (i+1)=t++bM f.room++E:=by rw[hsu,hlw];simp[ed]
   have hw1:=aO g (t) (bM f.room) (by(try simp only[List.length_append]);omega) (by omega)
   have hw2:=aO (g+1) (t++bM f.room) (E) (by(try simp only[List.length_append]);omega) (by omega)
   clear hsu hlw h2
   generalize bM f.room=B at *
   conv=>whnf
   repeat(any_goals(first|exact ab|(refine ap ?_ ?_<;>intro _<;>first|exact aq|conv=>whnf)|((first|refine ag hx rfl ?_|refine ag hf (by show xa=_;omega) ?_|refine aa hidx ?_|refine aa hitp ?_|refine aa hlp ?_|refine aa hitr ?_|refine aa hhd ?_|refine aa hlr ?_|refine aa hite ?_|refine aa hwa ?_|refine aa hwb ?_|refine aa hle ?_|refine ac ?_|refine bi ?_ ?_|intro _)<;>conv=>whnf)))
   refine⟨[kB,kBr],?_⟩
   conv=>whnf
   repeat(refine af (az _ _) ?_<;>(conv=>whnf))
   refine⟨_,_,hw1,?_⟩
   conv=>whnf
   repeat(refine af (az _ _) ?_<;>(conv=>whnf))
   repeat(any_goals(first|exact ab|(refine ap ?_ ?_<;>intro _<;>first|exact aq|conv=>whnf)|((first|refine ag hx rfl ?_|refine ag hf (by show xa=_;omega) ?_|refine aa hidx ?_|refine aa hitp ?_|refine aa hlp ?_|refine aa hitr ?_|refine aa hhd ?_|refine aa hlr ?_|refine aa hite ?_|refine aa hwa ?_|refine aa hwb ?_|refine aa hle ?_|refine ac ?_|refine bi ?_ ?_|intro _)<;>conv=>whnf)))
   refine⟨[kB,kBr],?_⟩
   conv=>whnf
   repeat(refine af (az _ _) ?_<;>(conv=>whnf))
   refine⟨_,_,hw2,?_⟩
   conv=>whnf
   repeat(refine af (az _ _) ?_<;>(conv=>whnf))
   repeat(any_goals(first|exact ab|(refine ap ?_ ?_<;>intro _<;>first|exact aq|conv=>whnf)|((first|refine ag hx rfl ?_|refine ag hf (by show xa=_;omega) ?_|refine aa hidx ?_|refine aa hitp ?_|refine aa hlp ?_|refine aa hitr ?_|refine aa hhd ?_|refine aa hlr ?_|refine aa hite ?_|refine aa hwa ?_|refine aa hwb ?_|refine aa hle ?_|refine ac ?_|refine bi ?_ ?_|intro _)<;>conv=>whnf)))
   (refine⟨⟨i+1,.used (g+1+1) (t++B++E)⟩,⟨by show i+1≤_;omega,(fun h=>by cases h),fun _=>⟨_,congrArg (BSt.used _) hT.symm⟩⟩,(by show _-(i+1)<_-i;omega),?_⟩;(conv=>whnf);refine⟨?_,?_,?_⟩<;>repeat(first|exact trivial|refine sc rfl ?_|refine kn ?_|refine kc rfl ?_|refine sc (by rfl) ?_|refine kc (by rfl) ?_))
  ·rw[h2]at hhd
   have hlw:=hlw (o:=none) ho (h:=0) h2
   have hT:s.textTo c l (i+1)=t++E:=by rw[hsu,hlw];simp[ed]
   have hw1:=aO g (t) (E) (by(try simp only[List.length_append]);omega) (by omega)
   clear hsu hlw h2
   conv=>whnf
   repeat(any_goals(first|exact ab|(refine ap ?_ ?_<;>intro _<;>first|exact aq|conv=>whnf)|((first|refine ag hx rfl ?_|refine ag hf (by show xa=_;omega) ?_|refine aa hidx ?_|refine aa hitp ?_|refine aa hlp ?_|refine aa hitr ?_|refine aa hhd ?_|refine aa hlr ?_|refine aa hite ?_|refine aa hwa ?_|refine aa hwb ?_|refine aa hle ?_|refine ac ?_|refine bi ?_ ?_|intro _)<;>conv=>whnf)))
   refine⟨[kB,kBr],?_⟩
   conv=>whnf
   repeat(refine af (az _ _) ?_<;>(conv=>whnf))
   refine⟨_,_,hw1,?_⟩
   conv=>whnf
   repeat(refine af (az _ _) ?_<;>(conv=>whnf))
   repeat(any_goals(first|exact ab|(refine ap ?_ ?_<;>intro _<;>first|exact aq|conv=>whnf)|((first|refine ag hx rfl ?_|refine ag hf (by show xa=_;omega) ?_|refine aa hidx ?_|refine aa hitp ?_|refine aa hlp ?_|refine aa hitr ?_|refine aa hhd ?_|refine aa hlr ?_|refine aa hite ?_|refine aa hwa ?_|refine aa hwb ?_|refine aa hle ?_|refine ac ?_|refine bi ?_ ?_|intro _)<;>conv=>whnf)))
   (refine⟨⟨i+1,.used (g+1) (t++E)⟩,⟨by show i+1≤_;omega,(fun h=>by cases h),fun _=>⟨_,congrArg (BSt.used _) hT.symm⟩⟩,(by show _-(i+1)<_-i;omega),?_⟩;(conv=>whnf);refine⟨?_,?_,?_⟩<;>repeat(first|exact trivial|refine sc rfl ?_|refine kn ?_|refine kc rfl ?_|refine sc (by rfl) ?_|refine kc (by rfl) ?_))
 | some p =>
  simp only[ho]at hidx
  have hp6:=iH ho
  have hhd:=hhd true
  rcases hht.1 with h2|h2
  ·rw[h2]at hhd
   have hitp:=df ((p:Int)+1) (by omega)
   have hlp:PureA Tryz.prog 110 [.slice 1 [aN (aK cN),aN (aK (num ((p:Int)+1)))] .no] (aN (aK (aZ p))):=ct [cN,num ((p:Int)+1)] (by simp) (by simp) (by simp[aJ,cN,num])
   have hpl:=cU p
   have hpn:aZ p≠[]:=dc _
   have hlr:PureA Tryz.prog 110 [.slice 1 [aN (aK bN),aN (aK (num f.room))] .no] (aN (aK (bM f.room))):=ct [bN,num f.room] (by simp) (by simp) (by simp[aJ,bN,num])
   have hrl:=cV f.room
   have hlw:=hlw (o:=(some p)) ho (h:=2) h2
   have hT:s.textTo c l (i+1)=t++aZ p++bM f.room++E:=by rw[hsu,hlw];simp[ed]
   have hw1:=aO g (t) (aZ p) (by(try simp only[List.length_append]);omega) (by omega)
   have hw2:=aO (g+1) (t++aZ p) (bM f.room) (by(try simp only[List.length_append]);omega) (by omega)
   have hw3:=aO (g+2) (t++aZ p++bM f.room) (E) (by(try simp only[List.length_append]);omega) (by omega)
   clear hsu hlw h2
   generalize aZ p=A at *
   generalize bM f.room=B at *
   conv=>whnf
   repeat(any_goals(first|exact ab|(refine ap ?_ ?_<;>intro _<;>first|exact aq|conv=>whnf)|((first|refine ag hx rfl ?_|refine ag hf (by show xa=_;omega) ?_|refine aa hidx ?_|refine aa hitp ?_|refine aa hlp ?_|refine aa hitr ?_|refine aa hhd ?_|refine aa hlr ?_|refine aa hite ?_|refine aa hwa ?_|refine aa hwb ?_|refine aa hle ?_|refine ac ?_|refine bi ?_ ?_|intro _)<;>conv=>whnf)))
   refine⟨[kB,kBr],?_⟩
   conv=>whnf
   repeat(refine af (az _ _) ?_<;>(conv=>whnf))
   refine⟨_,_,hw1,?_⟩
   conv=>whnf
   repeat(refine af (az _ _) ?_<;>(conv=>whnf))
   repeat(any_goals(first|exact ab|(refine ap ?_ ?_<;>intro _<;>first|exact aq|conv=>whnf)|((first|refine ag hx rfl ?_|refine ag hf (by show xa=_;omega) ?_|refine aa hidx ?_|refine aa hitp ?_|refine aa hlp ?_|refine aa hitr ?_|refine aa hhd ?_|refine aa hlr ?_|refine aa hite ?_|refine aa hwa ?_|refine aa hwb ?_|refine aa hle ?_|refine ac ?_|refine bi ?_ ?_|intro _)<;>conv=>whnf)))
   refine⟨[kB,kBr],?_⟩
   conv=>whnf
   repeat(refine af (az _ _) ?_<;>(conv=>whnf))
   refine⟨_,_,hw2,?_⟩
   conv=>whnf
   repeat(refine af (az _ _) ?_<;>(conv=>whnf))
   repeat(any_goals(first|exact ab|(refine ap ?_ ?_<;>intro _<;>first|exact aq|conv=>whnf)|((first|refine ag hx rfl ?_|refine ag hf (by show xa=_;omega) ?_|refine aa hidx ?_|refine aa hitp ?_|refine aa hlp ?_|refine aa hitr ?_|refine aa hhd ?_|refine aa hlr ?_|refine aa hite ?_|refine aa hwa ?_|refine aa hwb ?_|refine aa hle ?_|refine ac ?_|refine bi ?_ ?_|intro _)<;>conv=>whnf)))
   refine⟨[kB,kBr],?_⟩
   conv=>whnf
   repeat(refine af (az _ _) ?_<;>(conv=>whnf))
   refine⟨_,_,hw3,?_⟩
   conv=>whnf
   repeat(refine af (az _ _) ?_<;>(conv=>whnf))
   repeat(any_goals(first|exact ab|(refine ap ?_ ?_<;>intro _<;>first|exact aq|conv=>whnf)|((first|refine ag hx rfl ?_|refine ag hf (by show xa=_;omega) ?_|refine aa hidx ?_|refine aa hitp ?_|refine aa hlp ?_|refine aa hitr ?_|refine aa hhd ?_|refine aa hlr ?_|refine aa hite ?_|refine aa hwa ?_|refine aa hwb ?_|refine aa hle ?_|refine ac ?_|refine bi ?_ ?_|intro _)<;>conv=>whnf)))
   (refine⟨⟨i+1,.used (g+1+1+1) (t++A++B++E)⟩,⟨by show i+1≤_;omega,(fun h=>by cases h),fun _=>⟨_,congrArg (BSt.used _) hT.symm⟩⟩,(by show _-(i+1)<_-i;omega),?_⟩;(conv=>whnf);refine⟨?_,?_,?_⟩<;>repeat(first|exact trivial|refine sc rfl ?_|refine kn ?_|refine kc rfl ?_|refine sc (by rfl) ?_|refine kc (by rfl) ?_))
  ·rw[h2]at hhd
   have hitp:=df ((p:Int)+1) (by omega)
   have hlp:PureA Tryz.prog 110 [.slice 1 [aN (aK cN),aN (aK (num ((p:Int)+1)))] .no] (aN (aK (aZ p))):=ct [cN,num ((p:Int)+1)] (by simp) (by simp) (by simp[aJ,cN,num])
   have hpl:=cU p
   have hpn:aZ p≠[]:=dc _
   have hlr:PureA Tryz.prog 110 [.slice 1 [aN (aK bN),aN (aK (num f.room)),aN (aK jU)] .no] (aN (aK (fe f.room))):=ct [bN,num f.room,jU] (by simp) (by simp) (by simp[aJ,bN,num,jU])
   have hrl:=gW f.room
   have hlw:=hlw (o:=(some p)) ho (h:=1) h2
   have hT:s.textTo c l (i+1)=t++aZ p++fe f.room++E:=by rw[hsu,hlw];simp[ed]
   have hw1:=aO g (t) (aZ p) (by(try simp only[List.length_append]);omega) (by omega)
   have hw2:=aO (g+1) (t++aZ p) (fe f.room) (by(try simp only[List.length_append]);omega) (by omega)
   have hw3:=aO (g+2) (t++aZ p++fe f.room) (E) (by(try simp only[List.length_append]);omega) (by omega)
   clear hsu hlw h2
   generalize aZ p=A at *
   generalize fe f.room=B at *
   conv=>whnf
   repeat(any_goals(first|exact ab|(refine ap ?_ ?_<;>intro _<;>first|exact aq|conv=>whnf)|((first|refine ag hx rfl ?_|refine ag hf (by show xa=_;omega) ?_|refine aa hidx ?_|refine aa hitp ?_|refine aa hlp ?_|refine aa hitr ?_|refine aa hhd ?_|refine aa hlr ?_|refine aa hite ?_|refine aa hwa ?_|refine aa hwb ?_|refine aa hle ?_|refine ac ?_|refine bi ?_ ?_|intro _)<;>conv=>whnf)))
   refine⟨[kB,kBr],?_⟩
   conv=>whnf
   repeat(refine af (az _ _) ?_<;>(conv=>whnf))
   refine⟨_,_,hw1,?_⟩
   conv=>whnf
   repeat(refine af (az _ _) ?_<;>(conv=>whnf))
   repeat(any_goals(first|exact ab|(refine ap ?_ ?_<;>intro _<;>first|exact aq|conv=>whnf)|((first|refine ag hx rfl ?_|refine ag hf (by show xa=_;omega) ?_|refine aa hidx ?_|refine aa hitp ?_|refine aa hlp ?_|refine aa hitr ?_|refine aa hhd ?_|refine aa hlr ?_|refine aa hite ?_|refine aa hwa ?_|refine aa hwb ?_|refine aa hle ?_|refine ac ?_|refine bi ?_ ?_|intro _)<;>conv=>whnf)))
   refine⟨[kB,kBr],?_⟩
   conv=>whnf
   repeat(refine af (az _ _) ?_<;>(conv=>whnf))
   refine⟨_,_,hw2,?_⟩
   conv=>whnf
   repeat(refine af (az _ _) ?_<;>(conv=>whnf))
   repeat(any_goals(first|exact ab|(refine ap ?_ ?_<;>intro _<;>first|exact aq|conv=>whnf)|((first|refine ag hx rfl ?_|refine ag hf (by show xa=_;omega) ?_|refine aa hidx ?_|refine aa hitp ?_|refine aa hlp ?_|refine aa hitr ?_|refine aa hhd ?_|refine aa hlr ?_|refine aa hite ?_|refine aa hwa ?_|refine aa hwb ?_|refine aa hle ?_|refine ac ?_|refine bi ?_ ?_|intro _)<;>conv=>whnf)))
   refine⟨[kB,kBr],?_⟩
   conv=>whnf
   repeat(refine af (az _ _) ?_<;>(conv=>whnf))
   refine⟨_,_,hw3,?_⟩
   conv=>whnf
   repeat(refine af (az _ _) ?_<;>(conv=>whnf))
   repeat(any_goals(first|exact ab|(refine ap ?_ ?_<;>intro _<;>first|exact aq|conv=>whnf)|((first|refine ag hx rfl ?_|refine ag hf (by show xa=_;omega) ?_|refine aa hidx ?_|refine aa hitp ?_|refine aa hlp ?_|refine aa hitr ?_|refine aa hhd ?_|refine aa hlr ?_|refine aa hite ?_|refine aa hwa ?_|refine aa hwb ?_|refine aa hle ?_|refine ac ?_|refine bi ?_ ?_|intro _)<;>conv=>whnf)))
   (refine⟨⟨i+1,.used (g+1+1+1) (t++A++B++E)⟩,⟨by show i+1≤_;omega,(fun h=>by cases h),fun _=>⟨_,congrArg (BSt.used _) hT.symm⟩⟩,(by show _-(i+1)<_-i;omega),?_⟩;(conv=>whnf);refine⟨?_,?_,?_⟩<;>repeat(first|exact trivial|refine sc rfl ?_|refine kn ?_|refine kc rfl ?_|refine sc (by rfl) ?_|refine kc (by rfl) ?_))
end Go.Proofs.YtgncapdjheghfaaGreatDoor
namespace Go.Proofs.YtgncapdjheghfaaGreatDoor
open Go.Am Go.Proofs Go
set_option maxHeartbeats 8000000 in
theorem Iz(s:Bill)(hg:s.Good)(c:List Ent)(hc:∀x∈c,s.OkE x)(h6:c.length≤6)(l:List Nat)(hll:l.length≤6)(i:Nat)(R:Press)(hR:R.pages=gP l)(M:cf)(xa xb:Int)(hx:c[i]?=some ⟨1,xa,xb⟩)(g:Nat) :
  uJ s c l R M i (.used g (s.textTo c l i)):=by
 have hi:i<c.length:=(List.getElem?_eq_some_iff.1 hx).1
 have hok:=hc _ (List.mem_of_getElem? hx)
 obtain⟨f,hf,hn,hroom,hr0⟩:=kg hg hok.a
 obtain⟨f2,hf2,hn2,_⟩:=kg hg hok.b
 have hlt:=dq hg hc l i
 have hsu:=cF s c l i
 have hwa:=m8 s xa f hok.a.1 hf hn
 have hwb:=m8 s xb f2 hok.b.1 hf2 hn2
 obtain⟨wl,wn⟩:=dN hf hn
 obtain⟨wl2,wn2⟩:=dN hf2 hn2
 have hej:=gg (s:=s) (i:=i) (x:=⟨1,xa,xb⟩) wn wn2
 have hel:=g3 hg hok i
 have hidx:=gm R.pages i (by rw[hR];unfold gP;rw[List.length_map];omega)
 rw[hR,iJ, ←hR]at hidx
 have hhd:=fun t=>eV s c (fun x hx=>(hc x hx).inn) h6 i hi t
 have hlw:=fun {o} ho {h} hh=>ey (s:=s) (pages:=l) hx (o:=o) ho (h:=h) hh
 have hitr:=df f.room hr0
 have hite:=df ((i:Int)+1) (by omega)
 have hax:=hok.a
 have hbx:=hok.b
 have hfl:(s.figs.map cD).length=s.figs.length:=List.length_map ..
 have hcl:(c.map bB).length=c.length:=List.length_map ..
 simp only at hroom hlw hax hbx hwa hwb wl wl2 wn wn2 hej hf
 rw[hroom]at hlw
 generalize aJ (s.whoW xa)=W at *
 generalize aJ (s.whoW xb)=W2 at *
 have hE:bE (s.entW i ⟨1,xa,xb⟩)=bE [num ((i:Int)+1),wIs,W,wOr,W2]:=by unfold bE;rw[hej];rfl
 have hle:PureA Tryz.prog 110 [.slice 1 [aN (aK (num ((i:Int)+1))),aN isB,aN (aK W),aN (aK wOr),aN (aK W2)] .no] (aN (aK (bE (s.entW i ⟨1,xa,xb⟩)))):=by
  rw[hE]
  refine ct [num ((i:Int)+1),wIs,W,wOr,W2] (by simp) (by simp) ?_
  rw[hE]at hel
  unfold bE at hel
  rw[List.length_append]at hel
  omega
 have hEn:=dc (s.entW i ⟨1,xa,xb⟩)
 clear hej hE hn hn2 wl wl2 wn wn2 hf2
 generalize bE (s.entW i ⟨1,xa,xb⟩)=E at *
 have hht:=jy (s:=s) hx
 generalize s.textTo c l i=t at *
 intro Q
 cases ho:l.findIdx? (· ==i)with
 | none =>
  simp only[ho]at hidx
  have hhd:=hhd false
  rcases hht.2 with h2|h2
  ·rw[h2]at hhd
   have hlr:PureA Tryz.prog 110 [.slice 1 [aN (aK bN),aN (aK (num f.room))] .no] (aN (aK (bM f.room))):=ct [bN,num f.room] (by simp) (by simp) (by simp[aJ,bN,num])
   have hrl:=cV f.room
   have hlw:=hlw (o:=none) ho (h:=2) h2
   have hT:s.textTo c l (i+1)=t++bM f.room++E:=by rw[hsu,hlw];simp[ed]
   have hw1:=aO g (t) (bM f.room) (by(try simp only[List.length_append]);omega) (by omega)
   have hw2:=aO (g+1) (t++bM f.room) (E) (by(try simp only[List.length_append]);omega) (by omega)
   clear hsu hlw h2
   generalize bM f.room=B at *
   conv=>whnf
   repeat(any_goals(first|exact ab|(refine ap ?_ ?_<;>intro _<;>first|exact aq|conv=>whnf)|((first|refine ag hx rfl ?_|refine ag hf (by show xa=_;omega) ?_|refine aa hidx ?_|refine aa hitp ?_|refine aa hlp ?_|refine aa hitr ?_|refine aa hhd ?_|refine aa hlr ?_|refine aa hite ?_|refine aa hwa ?_|refine aa hwb ?_|refine aa hle ?_|refine ac ?_|refine bi ?_ ?_|intro _)<;>conv=>whnf)))
   refine⟨[kB,kBr],?_⟩
   conv=>whnf
   repeat(refine af (az _ _) ?_<;>(conv=>whnf))
   refine⟨_,_,hw1,?_⟩
   conv=>whnf
   repeat(refine af (az _ _) ?_<;>(conv=>whnf))
   repeat(any_goals(first|exact ab|(refine ap ?_ ?_<;>intro _<;>first|exact aq|conv=>whnf)|((first|refine ag hx rfl ?_|refine ag hf (by show xa=_;omega) ?_|refine aa hidx ?_|refine aa hitp ?_|refine aa hlp ?_|refine aa hitr ?_|refine aa hhd ?_|refine aa hlr ?_|refine aa hite ?_|refine aa hwa ?_|refine aa hwb ?_|refine aa hle ?_|refine ac ?_|refine bi ?_ ?_|intro _)<;>conv=>whnf)))
   refine⟨[kB,kBr],?_⟩
   conv=>whnf
   repeat(refine af (az _ _) ?_<;>(conv=>whnf))
   refine⟨_,_,hw2,?_⟩
   conv=>whnf
   repeat(refine af (az _ _) ?_<;>(conv=>whnf))
   repeat(any_goals(first|exact ab|(refine ap ?_ ?_<;>intro _<;>first|exact aq|conv=>whnf)|((first|refine ag hx rfl ?_|refine ag hf (by show xa=_;omega) ?_|refine aa hidx ?_|refine aa hitp ?_|refine aa hlp ?_|refine aa hitr ?_|refine aa hhd ?_|refine aa hlr ?_|refine aa hite ?_|refine aa hwa ?_|refine aa hwb ?_|refine aa hle ?_|refine ac ?_|refine bi ?_ ?_|intro _)<;>conv=>whnf)))
   (refine⟨⟨i+1,.used (g+1+1) (t++B++E)⟩,⟨by show i+1≤_;omega,(fun h=>by cases h),fun _=>⟨_,congrArg (BSt.used _) hT.symm⟩⟩,(by show _-(i+1)<_-i;omega),?_⟩;(conv=>whnf);refine⟨?_,?_,?_⟩<;>repeat(first|exact trivial|refine sc rfl ?_|refine kn ?_|refine kc rfl ?_|refine sc (by rfl) ?_|refine kc (by rfl) ?_))
  ·rw[h2]at hhd
   have hlw:=hlw (o:=none) ho (h:=0) h2
   have hT:s.textTo c l (i+1)=t++E:=by rw[hsu,hlw];simp[ed]
   have hw1:=aO g (t) (E) (by(try simp only[List.length_append]);omega) (by omega)
   clear hsu hlw h2
   conv=>whnf
   repeat(any_goals(first|exact ab|(refine ap ?_ ?_<;>intro _<;>first|exact aq|conv=>whnf)|((first|refine ag hx rfl ?_|refine ag hf (by show xa=_;omega) ?_|refine aa hidx ?_|refine aa hitp ?_|refine aa hlp ?_|refine aa hitr ?_|refine aa hhd ?_|refine aa hlr ?_|refine aa hite ?_|refine aa hwa ?_|refine aa hwb ?_|refine aa hle ?_|refine ac ?_|refine bi ?_ ?_|intro _)<;>conv=>whnf)))
   refine⟨[kB,kBr],?_⟩
   conv=>whnf
   repeat(refine af (az _ _) ?_<;>(conv=>whnf))
   refine⟨_,_,hw1,?_⟩
   conv=>whnf
   repeat(refine af (az _ _) ?_<;>(conv=>whnf))
   repeat(any_goals(first|exact ab|(refine ap ?_ ?_<;>intro _<;>first|exact aq|conv=>whnf)|((first|refine ag hx rfl ?_|refine ag hf (by show xa=_;omega) ?_|refine aa hidx ?_|refine aa hitp ?_|refine aa hlp ?_|refine aa hitr ?_|refine aa hhd ?_|refine aa hlr ?_|refine aa hite ?_|refine aa hwa ?_|refine aa hwb ?_|refine aa hle ?_|refine ac ?_|refine bi ?_ ?_|intro _)<;>conv=>whnf)))
   (refine⟨⟨i+1,.used (g+1) (t++E)⟩,⟨by show i+1≤_;omega,(fun h=>by cases h),fun _=>⟨_,congrArg (BSt.used _) hT.symm⟩⟩,(by show _-(i+1)<_-i;omega),?_⟩;(conv=>whnf);refine⟨?_,?_,?_⟩<;>repeat(first|exact trivial|refine sc rfl ?_|refine kn ?_|refine kc rfl ?_|refine sc (by rfl) ?_|refine kc (by rfl) ?_))
 | some p =>
  simp only[ho]at hidx
  have hp6:=iH ho
  have hhd:=hhd true
  rcases hht.1 with h2|h2
  ·rw[h2]at hhd
   have hitp:=df ((p:Int)+1) (by omega)
   have hlp:PureA Tryz.prog 110 [.slice 1 [aN (aK cN),aN (aK (num ((p:Int)+1)))] .no] (aN (aK (aZ p))):=ct [cN,num ((p:Int)+1)] (by simp) (by simp) (by simp[aJ,cN,num])
   have hpl:=cU p
   have hpn:aZ p≠[]:=dc _
   have hlr:PureA Tryz.prog 110 [.slice 1 [aN (aK bN),aN (aK (num f.room))] .no] (aN (aK (bM f.room))):=ct [bN,num f.room] (by simp) (by simp) (by simp[aJ,bN,num])
   have hrl:=cV f.room
   have hlw:=hlw (o:=(some p)) ho (h:=2) h2
   have hT:s.textTo c l (i+1)=t++aZ p++bM f.room++E:=by rw[hsu,hlw];simp[ed]
   have hw1:=aO g (t) (aZ p) (by(try simp only[List.length_append]);omega) (by omega)
   have hw2:=aO (g+1) (t++aZ p) (bM f.room) (by(try simp only[List.length_append]);omega) (by omega)
   have hw3:=aO (g+2) (t++aZ p++bM f.room) (E) (by(try simp only[List.length_append]);omega) (by omega)
   clear hsu hlw h2
   generalize aZ p=A at *
   generalize bM f.room=B at *
   conv=>whnf
   repeat(any_goals(first|exact ab|(refine ap ?_ ?_<;>intro _<;>first|exact aq|conv=>whnf)|((first|refine ag hx rfl ?_|refine ag hf (by show xa=_;omega) ?_|refine aa hidx ?_|refine aa hitp ?_|refine aa hlp ?_|refine aa hitr ?_|refine aa hhd ?_|refine aa hlr ?_|refine aa hite ?_|refine aa hwa ?_|refine aa hwb ?_|refine aa hle ?_|refine ac ?_|refine bi ?_ ?_|intro _)<;>conv=>whnf)))
   refine⟨[kB,kBr],?_⟩
   conv=>whnf
   repeat(refine af (az _ _) ?_<;>(conv=>whnf))
   refine⟨_,_,hw1,?_⟩
   conv=>whnf
   repeat(refine af (az _ _) ?_<;>(conv=>whnf))
   repeat(any_goals(first|exact ab|(refine ap ?_ ?_<;>intro _<;>first|exact aq|conv=>whnf)|((first|refine ag hx rfl ?_|refine ag hf (by show xa=_;omega) ?_|refine aa hidx ?_|refine aa hitp ?_|refine aa hlp ?_|refine aa hitr ?_|refine aa hhd ?_|refine aa hlr ?_|refine aa hite ?_|refine aa hwa ?_|refine aa hwb ?_|refine aa hle ?_|refine ac ?_|refine bi ?_ ?_|intro _)<;>conv=>whnf)))
   refine⟨[kB,kBr],?_⟩
   conv=>whnf
   repeat(refine af (az _ _) ?_<;>(conv=>whnf))
   refine⟨_,_,hw2,?_⟩
   conv=>whnf
   repeat(refine af (az _ _) ?_<;>(conv=>whnf))
   repeat(any_goals(first|exact ab|(refine ap ?_ ?_<;>intro _<;>first|exact aq|conv=>whnf)|((first|refine ag hx rfl ?_|refine ag hf (by show xa=_;omega) ?_|refine aa hidx ?_|refine aa hitp ?_|refine aa hlp ?_|refine aa hitr ?_|refine aa hhd ?_|refine aa hlr ?_|refine aa hite ?_|refine aa hwa ?_|refine aa hwb ?_|refine aa hle ?_|refine ac ?_|refine bi ?_ ?_|intro _)<;>conv=>whnf)))
   refine⟨[kB,kBr],?_⟩
   conv=>whnf
   repeat(refine af (az _ _) ?_<;>(conv=>whnf))
   refine⟨_,_,hw3,?_⟩
   conv=>whnf
   repeat(refine af (az _ _) ?_<;>(conv=>whnf))
   repeat(any_goals(first|exact ab|(refine ap ?_ ?_<;>intro _<;>first|exact aq|conv=>whnf)|((first|refine ag hx rfl ?_|refine ag hf (by show xa=_;omega) ?_|refine aa hidx ?_|refine aa hitp ?_|refine aa hlp ?_|refine aa hitr ?_|refine aa hhd ?_|refine aa hlr ?_|refine aa hite ?_|refine aa hwa ?_|refine aa hwb ?_|refine aa hle ?_|refine ac ?_|refine bi ?_ ?_|intro _)<;>conv=>whnf)))
   (refine⟨⟨i+1,.used (g+1+1+1) (t++A++B++E)⟩,⟨by show i+1≤_;omega,(fun h=>by cases h),fun _=>⟨_,congrArg (BSt.used _) hT.symm⟩⟩,(by show _-(i+1)<_-i;omega),?_⟩;(conv=>whnf);refine⟨?_,?_,?_⟩<;>repeat(first|exact trivial|refine sc rfl ?_|refine kn ?_|refine kc rfl ?_|refine sc (by rfl) ?_|refine kc (by rfl) ?_))
  ·rw[h2]at hhd
   have hitp:=df ((p:Int)+1) (by omega)
   have hlp:PureA Tryz.prog 110 [.slice 1 [aN (aK cN),aN (aK (num ((p:Int)+1)))] .no] (aN (aK (aZ p))):=ct [cN,num ((p:Int)+1)] (by simp) (by simp) (by simp[aJ,cN,num])
   have hpl:=cU p
   have hpn:aZ p≠[]:=dc _
   have hlr:PureA Tryz.prog 110 [.slice 1 [aN (aK bN),aN (aK (num f.room)),aN (aK jU)] .no] (aN (aK (fe f.room))):=ct [bN,num f.room,jU] (by simp) (by simp) (by simp[aJ,bN,num,jU])
   have hrl:=gW f.room
   have hlw:=hlw (o:=(some p)) ho (h:=1) h2
   have hT:s.textTo c l (i+1)=t++aZ p++fe f.room++E:=by rw[hsu,hlw];simp[ed]
   have hw1:=aO g (t) (aZ p) (by(try simp only[List.length_append]);omega) (by omega)
   have hw2:=aO (g+1) (t++aZ p) (fe f.room) (by(try simp only[List.length_append]);omega) (by omega)
   have hw3:=aO (g+2) (t++aZ p++fe f.room) (E) (by(try simp only[List.length_append]);omega) (by omega)
   clear hsu hlw h2
   generalize aZ p=A at *
   generalize fe f.room=B at *
   conv=>whnf
   repeat(any_goals(first|exact ab|(refine ap ?_ ?_<;>intro _<;>first|exact aq|conv=>whnf)|((first|refine ag hx rfl ?_|refine ag hf (by show xa=_;omega) ?_|refine aa hidx ?_|refine aa hitp ?_|refine aa hlp ?_|refine aa hitr ?_|refine aa hhd ?_|refine aa hlr ?_|refine aa hite ?_|refine aa hwa ?_|refine aa hwb ?_|refine aa hle ?_|refine ac ?_|refine bi ?_ ?_|intro _)<;>conv=>whnf)))
   refine⟨[kB,kBr],?_⟩
   conv=>whnf
   repeat(refine af (az _ _) ?_<;>(conv=>whnf))
   refine⟨_,_,hw1,?_⟩
   conv=>whnf
   repeat(refine af (az _ _) ?_<;>(conv=>whnf))
   repeat(any_goals(first|exact ab|(refine ap ?_ ?_<;>intro _<;>first|exact aq|conv=>whnf)|((first|refine ag hx rfl ?_|refine ag hf (by show xa=_;omega) ?_|refine aa hidx ?_|refine aa hitp ?_|refine aa hlp ?_|refine aa hitr ?_|refine aa hhd ?_|refine aa hlr ?_|refine aa hite ?_|refine aa hwa ?_|refine aa hwb ?_|refine aa hle ?_|refine ac ?_|refine bi ?_ ?_|intro _)<;>conv=>whnf)))
   refine⟨[kB,kBr],?_⟩
   conv=>whnf
   repeat(refine af (az _ _) ?_<;>(conv=>whnf))
   refine⟨_,_,hw2,?_⟩
   conv=>whnf
   repeat(refine af (az _ _) ?_<;>(conv=>whnf))
   repeat(any_goals(first|exact ab|(refine ap ?_ ?_<;>intro _<;>first|exact aq|conv=>whnf)|((first|refine ag hx rfl ?_|refine ag hf (by show xa=_;omega) ?_|refine aa hidx ?_|refine aa hitp ?_|refine aa hlp ?_|refine aa hitr ?_|refine aa hhd ?_|refine aa hlr ?_|refine aa hite ?_|refine aa hwa ?_|refine aa hwb ?_|refine aa hle ?_|refine ac ?_|refine bi ?_ ?_|intro _)<;>conv=>whnf)))
   refine⟨[kB,kBr],?_⟩
   conv=>whnf
   repeat(refine af (az _ _) ?_<;>(conv=>whnf))
   refine⟨_,_,hw3,?_⟩
   conv=>whnf
   repeat(refine af (az _ _) ?_<;>(conv=>whnf))
   repeat(any_goals(first|exact ab|(refine ap ?_ ?_<;>intro _<;>first|exact aq|conv=>whnf)|((first|refine ag hx rfl ?_|refine ag hf (by show xa=_;omega) ?_|refine aa hidx ?_|refine aa hitp ?_|refine aa hlp ?_|refine aa hitr ?_|refine aa hhd ?_|refine aa hlr ?_|refine aa hite ?_|refine aa hwa ?_|refine aa hwb ?_|refine aa hle ?_|refine ac ?_|refine bi ?_ ?_|intro _)<;>conv=>whnf)))
   (refine⟨⟨i+1,.used (g+1+1+1) (t++A++B++E)⟩,⟨by show i+1≤_;omega,(fun h=>by cases h),fun _=>⟨_,congrArg (BSt.used _) hT.symm⟩⟩,(by show _-(i+1)<_-i;omega),?_⟩;(conv=>whnf);refine⟨?_,?_,?_⟩<;>repeat(first|exact trivial|refine sc rfl ?_|refine kn ?_|refine kc rfl ?_|refine sc (by rfl) ?_|refine kc (by rfl) ?_))
end Go.Proofs.YtgncapdjheghfaaGreatDoor
namespace Go.Proofs.YtgncapdjheghfaaGreatDoor
open Go.Am Go.Proofs Go
set_option maxHeartbeats 8000000 in
theorem IB(s:Bill)(hg:s.Good)(c:List Ent)(hc:∀x∈c,s.OkE x)(h6:c.length≤6)(l:List Nat)(hll:l.length≤6)(i:Nat)(R:Press)(hR:R.pages=gP l)(M:cf)(xa xb:Int)(hx:c[i]?=some ⟨2,xa,xb⟩)(g:Nat) :
  uJ s c l R M i (.used g (s.textTo c l i)):=by
 have hi:i<c.length:=(List.getElem?_eq_some_iff.1 hx).1
 have hok:=hc _ (List.mem_of_getElem? hx)
 obtain⟨f,hf,hn,hroom,hr0⟩:=kg hg hok.a
 obtain⟨f2,hf2,hn2,_⟩:=kg hg hok.b
 have hlt:=dq hg hc l i
 have hsu:=cF s c l i
 have hwa:=m8 s xa f hok.a.1 hf hn
 have hwb:=m8 s xb f2 hok.b.1 hf2 hn2
 obtain⟨wl,wn⟩:=dN hf hn
 obtain⟨wl2,wn2⟩:=dN hf2 hn2
 have hej:=gg (s:=s) (i:=i) (x:=⟨2,xa,xb⟩) wn wn2
 have hel:=g3 hg hok i
 have hidx:=gm R.pages i (by rw[hR];unfold gP;rw[List.length_map];omega)
 rw[hR,iJ, ←hR]at hidx
 have hhd:=fun t=>eV s c (fun x hx=>(hc x hx).inn) h6 i hi t
 have hlw:=fun {o} ho {h} hh=>ey (s:=s) (pages:=l) hx (o:=o) ho (h:=h) hh
 have hitr:=df f.room hr0
 have hite:=df ((i:Int)+1) (by omega)
 have hax:=hok.a
 have hbx:=hok.b
 have hfl:(s.figs.map cD).length=s.figs.length:=List.length_map ..
 have hcl:(c.map bB).length=c.length:=List.length_map ..
 simp only at hroom hlw hax hbx hwa hwb wl wl2 wn wn2 hej hf
 rw[hroom]at hlw
 generalize aJ (s.whoW xa)=W at *
 generalize aJ (s.whoW xb)=W2 at *
 have hE:bE (s.entW i ⟨2,xa,xb⟩)=bE [num ((i:Int)+1),aJ [zT,wBe],W]:=by unfold bE;rw[hej];rfl
 have hle:PureA Tryz.prog 110 [.slice 1 [aN (aK (num ((i:Int)+1))),aN KT,aN (aK W)] .no] (aN (aK (bE (s.entW i ⟨2,xa,xb⟩)))):=by
  rw[hE]
  refine ct [num ((i:Int)+1),aJ [zT,wBe],W] (by simp) (by simp) ?_
  rw[hE]at hel
  unfold bE at hel
  rw[List.length_append]at hel
  omega
 have hEn:=dc (s.entW i ⟨2,xa,xb⟩)
 clear hej hE hn hn2 wl wl2 wn wn2 hf2
 generalize bE (s.entW i ⟨2,xa,xb⟩)=E at *
 have hht:=jy (s:=s) hx
 generalize s.textTo c l i=t at *
 intro Q
 cases ho:l.findIdx? (· ==i)with
 | none =>
  simp only[ho]at hidx
  have hhd:=hhd false
  rcases hht.2 with h2|h2
  ·rw[h2]at hhd
   have hlr:PureA Tryz.prog 110 [.slice 1 [aN (aK bN),aN (aK (num f.room))] .no] (aN (aK (bM f.room))):=ct [bN,num f.room] (by simp) (by simp) (by simp[aJ,bN,num])
   have hrl:=cV f.room
   have hlw:=hlw (o:=none) ho (h:=2) h2
   have hT:s.textTo c l (i+1)=t++bM f.room++E:=by rw[hsu,hlw];simp[ed]
   have hw1:=aO g (t) (bM f.room) (by(try simp only[List.length_append]);omega) (by omega)
   have hw2:=aO (g+1) (t++bM f.room) (E) (by(try simp only[List.length_append]);omega) (by omega)
   clear hsu hlw h2
   generalize bM f.room=B at *
   conv=>whnf
   repeat(any_goals(first|exact ab|(refine ap ?_ ?_<;>intro _<;>first|exact aq|conv=>whnf)|((first|refine ag hx rfl ?_|refine ag hf (by show xa=_;omega) ?_|refine aa hidx ?_|refine aa hitp ?_|refine aa hlp ?_|refine aa hitr ?_|refine aa hhd ?_|refine aa hlr ?_|refine aa hite ?_|refine aa hwa ?_|refine aa hwb ?_|refine aa hle ?_|refine ac ?_|refine bi ?_ ?_|intro _)<;>conv=>whnf)))
   refine⟨[kB,kBr],?_⟩
   conv=>whnf
   repeat(refine af (az _ _) ?_<;>(conv=>whnf))
   refine⟨_,_,hw1,?_⟩
   conv=>whnf
   repeat(refine af (az _ _) ?_<;>(conv=>whnf))
   repeat(any_goals(first|exact ab|(refine ap ?_ ?_<;>intro _<;>first|exact aq|conv=>whnf)|((first|refine ag hx rfl ?_|refine ag hf (by show xa=_;omega) ?_|refine aa hidx ?_|refine aa hitp ?_|refine aa hlp ?_|refine aa hitr ?_|refine aa hhd ?_|refine aa hlr ?_|refine aa hite ?_|refine aa hwa ?_|refine aa hwb ?_|refine aa hle ?_|refine ac ?_|refine bi ?_ ?_|intro _)<;>conv=>whnf)))
   refine⟨[kB,kBr],?_⟩
   conv=>whnf
   repeat(refine af (az _ _) ?_<;>(conv=>whnf))
   refine⟨_,_,hw2,?_⟩
   conv=>whnf
   repeat(refine af (az _ _) ?_<;>(conv=>whnf))
   repeat(any_goals(first|exact ab|(refine ap ?_ ?_<;>intro _<;>first|exact aq|conv=>whnf)|((first|refine ag hx rfl ?_|refine ag hf (by show xa=_;omega) ?_|refine aa hidx ?_|refine aa hitp ?_|refine aa hlp ?_|refine aa hitr ?_|refine aa hhd ?_|refine aa hlr ?_|refine aa hite ?_|refine aa hwa ?_|refine aa hwb ?_|refine aa hle ?_|refine ac ?_|refine bi ?_ ?_|intro _)<;>conv=>whnf)))
   (refine⟨⟨i+1,.used (g+1+1) (t++B++E)⟩,⟨by show i+1≤_;omega,(fun h=>by cases h),fun _=>⟨_,congrArg (BSt.used _) hT.symm⟩⟩,(by show _-(i+1)<_-i;omega),?_⟩;(conv=>whnf);refine⟨?_,?_,?_⟩<;>repeat(first|exact trivial|refine sc rfl ?_|refine kn ?_|refine kc rfl ?_|refine sc (by rfl) ?_|refine kc (by rfl) ?_))
  ·rw[h2]at hhd
   have hlw:=hlw (o:=none) ho (h:=0) h2
   have hT:s.textTo c l (i+1)=t++E:=by rw[hsu,hlw];simp[ed]
   have hw1:=aO g (t) (E) (by(try simp only[List.length_append]);omega) (by omega)
   clear hsu hlw h2
   conv=>whnf
   repeat(any_goals(first|exact ab|(refine ap ?_ ?_<;>intro _<;>first|exact aq|conv=>whnf)|((first|refine ag hx rfl ?_|refine ag hf (by show xa=_;omega) ?_|refine aa hidx ?_|refine aa hitp ?_|refine aa hlp ?_|refine aa hitr ?_|refine aa hhd ?_|refine aa hlr ?_|refine aa hite ?_|refine aa hwa ?_|refine aa hwb ?_|refine aa hle ?_|refine ac ?_|refine bi ?_ ?_|intro _)<;>conv=>whnf)))
   refine⟨[kB,kBr],?_⟩
   conv=>whnf
   repeat(refine af (az _ _) ?_<;>(conv=>whnf))
   refine⟨_,_,hw1,?_⟩
   conv=>whnf
   repeat(refine af (az _ _) ?_<;>(conv=>whnf))
   repeat(any_goals(first|exact ab|(refine ap ?_ ?_<;>intro _<;>first|exact aq|conv=>whnf)|((first|refine ag hx rfl ?_|refine ag hf (by show xa=_;omega) ?_|refine aa hidx ?_|refine aa hitp ?_|refine aa hlp ?_|refine aa hitr ?_|refine aa hhd ?_|refine aa hlr ?_|refine aa hite ?_|refine aa hwa ?_|refine aa hwb ?_|refine aa hle ?_|refine ac ?_|refine bi ?_ ?_|intro _)<;>conv=>whnf)))
   (refine⟨⟨i+1,.used (g+1) (t++E)⟩,⟨by show i+1≤_;omega,(fun h=>by cases h),fun _=>⟨_,congrArg (BSt.used _) hT.symm⟩⟩,(by show _-(i+1)<_-i;omega),?_⟩;(conv=>whnf);refine⟨?_,?_,?_⟩<;>repeat(first|exact trivial|refine sc rfl ?_|refine kn ?_|refine kc rfl ?_|refine sc (by rfl) ?_|refine kc (by rfl) ?_))
 | some p =>
  simp only[ho]at hidx
  have hp6:=iH ho
  have hhd:=hhd true
  rcases hht.1 with h2|h2
  ·rw[h2]at hhd
   have hitp:=df ((p:Int)+1) (by omega)
   have hlp:PureA Tryz.prog 110 [.slice 1 [aN (aK cN),aN (aK (num ((p:Int)+1)))] .no] (aN (aK (aZ p))):=ct [cN,num ((p:Int)+1)] (by simp) (by simp) (by simp[aJ,cN,num])
   have hpl:=cU p
   have hpn:aZ p≠[]:=dc _
   have hlr:PureA Tryz.prog 110 [.slice 1 [aN (aK bN),aN (aK (num f.room))] .no] (aN (aK (bM f.room))):=ct [bN,num f.room] (by simp) (by simp) (by simp[aJ,bN,num])
   have hrl:=cV f.room
   have hlw:=hlw (o:=(some p)) ho (h:=2) h2
   have hT:s.textTo c l (i+1)=t++aZ p++bM f.room++E:=by rw[hsu,hlw];simp[ed]
   have hw1:=aO g (t) (aZ p) (by(try simp only[List.length_append]);omega) (by omega)
   have hw2:=aO (g+1) (t++aZ p) (bM f.room) (by(try simp only[List.length_append]);omega) (by omega)
   have hw3:=aO (g+2) (t++aZ p++bM f.room) (E) (by(try simp only[List.length_append]);omega) (by omega)
   clear hsu hlw h2
   generalize aZ p=A at *
   generalize bM f.room=B at *
   conv=>whnf
   repeat(any_goals(first|exact ab|(refine ap ?_ ?_<;>intro _<;>first|exact aq|conv=>whnf)|((first|refine ag hx rfl ?_|refine ag hf (by show xa=_;omega) ?_|refine aa hidx ?_|refine aa hitp ?_|refine aa hlp ?_|refine aa hitr ?_|refine aa hhd ?_|refine aa hlr ?_|refine aa hite ?_|refine aa hwa ?_|refine aa hwb ?_|refine aa hle ?_|refine ac ?_|refine bi ?_ ?_|intro _)<;>conv=>whnf)))
   refine⟨[kB,kBr],?_⟩
   conv=>whnf
   repeat(refine af (az _ _) ?_<;>(conv=>whnf))
   refine⟨_,_,hw1,?_⟩
   conv=>whnf
   repeat(refine af (az _ _) ?_<;>(conv=>whnf))
   repeat(any_goals(first|exact ab|(refine ap ?_ ?_<;>intro _<;>first|exact aq|conv=>whnf)|((first|refine ag hx rfl ?_|refine ag hf (by show xa=_;omega) ?_|refine aa hidx ?_|refine aa hitp ?_|refine aa hlp ?_|refine aa hitr ?_|refine aa hhd ?_|refine aa hlr ?_|refine aa hite ?_|refine aa hwa ?_|refine aa hwb ?_|refine aa hle ?_|refine ac ?_|refine bi ?_ ?_|intro _)<;>conv=>whnf)))
   refine⟨[kB,kBr],?_⟩
   conv=>whnf
   repeat(refine af (az _ _) ?_<;>(conv=>whnf))
   refine⟨_,_,hw2,?_⟩
   conv=>whnf
   repeat(refine af (az _ _) ?_<;>(conv=>whnf))
   repeat(any_goals(first|exact ab|(refine ap ?_ ?_<;>intro _<;>first|exact aq|conv=>whnf)|((first|refine ag hx rfl ?_|refine ag hf (by show xa=_;omega) ?_|refine aa hidx ?_|refine aa hitp ?_|refine aa hlp ?_|refine aa hitr ?_|refine aa hhd ?_|refine aa hlr ?_|refine aa hite ?_|refine aa hwa ?_|refine aa hwb ?_|refine aa hle ?_|refine ac ?_|refine bi ?_ ?_|intro _)<;>conv=>whnf)))
   refine⟨[kB,kBr],?_⟩
   conv=>whnf
   repeat(refine af (az _ _) ?_<;>(conv=>whnf))
   refine⟨_,_,hw3,?_⟩
   conv=>whnf
   repeat(refine af (az _ _) ?_<;>(conv=>whnf))
   repeat(any_goals(first|exact ab|(refine ap ?_ ?_<;>intro _<;>first|exact aq|conv=>whnf)|((first|refine ag hx rfl ?_|refine ag hf (by show xa=_;omega) ?_|refine aa hidx ?_|refine aa hitp ?_|refine aa hlp ?_|refine aa hitr ?_|refine aa hhd ?_|refine aa hlr ?_|refine aa hite ?_|refine aa hwa ?_|refine aa hwb ?_|refine aa hle ?_|refine ac ?_|refine bi ?_ ?_|intro _)<;>conv=>whnf)))
   (refine⟨⟨i+1,.used (g+1+1+1) (t++A++B++E)⟩,⟨by show i+1≤_;omega,(fun h=>by cases h),fun _=>⟨_,congrArg (BSt.used _) hT.symm⟩⟩,(by show _-(i+1)<_-i;omega),?_⟩;(conv=>whnf);refine⟨?_,?_,?_⟩<;>repeat(first|exact trivial|refine sc rfl ?_|refine kn ?_|refine kc rfl ?_|refine sc (by rfl) ?_|refine kc (by rfl) ?_))
  ·rw[h2]at hhd
   have hitp:=df ((p:Int)+1) (by omega)
   have hlp:PureA Tryz.prog 110 [.slice 1 [aN (aK cN),aN (aK (num ((p:Int)+1)))] .no] (aN (aK (aZ p))):=ct [cN,num ((p:Int)+1)] (by simp) (by simp) (by simp[aJ,cN,num])
   have hpl:=cU p
   have hpn:aZ p≠[]:=dc _
   have hlr:PureA Tryz.prog 110 [.slice 1 [aN (aK bN),aN (aK (num f.room)),aN (aK jU)] .no] (aN (aK (fe f.room))):=ct [bN,num f.room,jU] (by simp) (by simp) (by simp[aJ,bN,num,jU])
   have hrl:=gW f.room
   have hlw:=hlw (o:=(some p)) ho (h:=1) h2
   have hT:s.textTo c l (i+1)=t++aZ p++fe f.room++E:=by rw[hsu,hlw];simp[ed]
   have hw1:=aO g (t) (aZ p) (by(try simp only[List.length_append]);omega) (by omega)
   have hw2:=aO (g+1) (t++aZ p) (fe f.room) (by(try simp only[List.length_append]);omega) (by omega)
   have hw3:=aO (g+2) (t++aZ p++fe f.room) (E) (by(try simp only[List.length_append]);omega) (by omega)
   clear hsu hlw h2
   generalize aZ p=A at *
   generalize fe f.room=B at *
   conv=>whnf
   repeat(any_goals(first|exact ab|(refine ap ?_ ?_<;>intro _<;>first|exact aq|conv=>whnf)|((first|refine ag hx rfl ?_|refine ag hf (by show xa=_;omega) ?_|refine aa hidx ?_|refine aa hitp ?_|refine aa hlp ?_|refine aa hitr ?_|refine aa hhd ?_|refine aa hlr ?_|refine aa hite ?_|refine aa hwa ?_|refine aa hwb ?_|refine aa hle ?_|refine ac ?_|refine bi ?_ ?_|intro _)<;>conv=>whnf)))
   refine⟨[kB,kBr],?_⟩
   conv=>whnf
   repeat(refine af (az _ _) ?_<;>(conv=>whnf))
   refine⟨_,_,hw1,?_⟩
   conv=>whnf
   repeat(refine af (az _ _) ?_<;>(conv=>whnf))
   repeat(any_goals(first|exact ab|(refine ap ?_ ?_<;>intro _<;>first|exact aq|conv=>whnf)|((first|refine ag hx rfl ?_|refine ag hf (by show xa=_;omega) ?_|refine aa hidx ?_|refine aa hitp ?_|refine aa hlp ?_|refine aa hitr ?_|refine aa hhd ?_|refine aa hlr ?_|refine aa hite ?_|refine aa hwa ?_|refine aa hwb ?_|refine aa hle ?_|refine ac ?_|refine bi ?_ ?_|intro _)<;>conv=>whnf)))
   refine⟨[kB,kBr],?_⟩
   conv=>whnf
   repeat(refine af (az _ _) ?_<;>(conv=>whnf))
   refine⟨_,_,hw2,?_⟩
   conv=>whnf
   repeat(refine af (az _ _) ?_<;>(conv=>whnf))
   repeat(any_goals(first|exact ab|(refine ap ?_ ?_<;>intro _<;>first|exact aq|conv=>whnf)|((first|refine ag hx rfl ?_|refine ag hf (by show xa=_;omega) ?_|refine aa hidx ?_|refine aa hitp ?_|refine aa hlp ?_|refine aa hitr ?_|refine aa hhd ?_|refine aa hlr ?_|refine aa hite ?_|refine aa hwa ?_|refine aa hwb ?_|refine aa hle ?_|refine ac ?_|refine bi ?_ ?_|intro _)<;>conv=>whnf)))
   refine⟨[kB,kBr],?_⟩
   conv=>whnf
   repeat(refine af (az _ _) ?_<;>(conv=>whnf))
   refine⟨_,_,hw3,?_⟩
   conv=>whnf
   repeat(refine af (az _ _) ?_<;>(conv=>whnf))
   repeat(any_goals(first|exact ab|(refine ap ?_ ?_<;>intro _<;>first|exact aq|conv=>whnf)|((first|refine ag hx rfl ?_|refine ag hf (by show xa=_;omega) ?_|refine aa hidx ?_|refine aa hitp ?_|refine aa hlp ?_|refine aa hitr ?_|refine aa hhd ?_|refine aa hlr ?_|refine aa hite ?_|refine aa hwa ?_|refine aa hwb ?_|refine aa hle ?_|refine ac ?_|refine bi ?_ ?_|intro _)<;>conv=>whnf)))
   (refine⟨⟨i+1,.used (g+1+1+1) (t++A++B++E)⟩,⟨by show i+1≤_;omega,(fun h=>by cases h),fun _=>⟨_,congrArg (BSt.used _) hT.symm⟩⟩,(by show _-(i+1)<_-i;omega),?_⟩;(conv=>whnf);refine⟨?_,?_,?_⟩<;>repeat(first|exact trivial|refine sc rfl ?_|refine kn ?_|refine kc rfl ?_|refine sc (by rfl) ?_|refine kc (by rfl) ?_))
end Go.Proofs.YtgncapdjheghfaaGreatDoor
namespace Go.Proofs.YtgncapdjheghfaaGreatDoor
open Go.Am Go.Proofs Go
set_option maxHeartbeats 8000000 in
theorem Iw(s:Bill)(hg:s.Good)(c:List Ent)(hc:∀x∈c,s.OkE x)(h6:c.length≤6)(l:List Nat)(hll:l.length≤6)(i:Nat)(hi0:i=0)(hl0:l.findIdx? (· ==i)=some 0)(R:Press)(hR:R.pages=gP l)(M:cf)(xa xb:Int)(hx:c[i]?=some ⟨0,xa,xb⟩) :
  uJ s c l R M i .fresh:=by
 have hi:i<c.length:=(List.getElem?_eq_some_iff.1 hx).1
 have hok:=hc _ (List.mem_of_getElem? hx)
 obtain⟨f,hf,hn,hroom,hr0⟩:=kg hg hok.a
 obtain⟨f2,hf2,hn2,_⟩:=kg hg hok.b
 have hlt:=dq hg hc l i
 have hsu:=cF s c l i
 have hwa:=m8 s xa f hok.a.1 hf hn
 have hwb:=m8 s xb f2 hok.b.1 hf2 hn2
 obtain⟨wl,wn⟩:=dN hf hn
 obtain⟨wl2,wn2⟩:=dN hf2 hn2
 have hej:=gg (s:=s) (i:=i) (x:=⟨0,xa,xb⟩) wn wn2
 have hel:=g3 hg hok i
 have hidx:=gm R.pages i (by rw[hR];unfold gP;rw[List.length_map];omega)
 rw[hR,iJ, ←hR]at hidx
 have hhd:=fun t=>eV s c (fun x hx=>(hc x hx).inn) h6 i hi t
 have hlw:=fun {o} ho {h} hh=>ey (s:=s) (pages:=l) hx (o:=o) ho (h:=h) hh
 have hitr:=df f.room hr0
 have hite:=df ((i:Int)+1) (by omega)
 have hax:=hok.a
 have hbx:=hok.b
 have hfl:(s.figs.map cD).length=s.figs.length:=List.length_map ..
 have hcl:(c.map bB).length=c.length:=List.length_map ..
 simp only at hroom hlw hax hbx hwa hwb wl wl2 wn wn2 hej hf
 rw[hroom]at hlw
 generalize aJ (s.whoW xa)=W at *
 generalize aJ (s.whoW xb)=W2 at *
 have hE:bE (s.entW i ⟨0,xa,xb⟩)=bE [num ((i:Int)+1),wIs,W]:=by unfold bE;rw[hej];rfl
 have hle:PureA Tryz.prog 110 [.slice 1 [aN (aK (num ((i:Int)+1))),aN isB,aN (aK W)] .no] (aN (aK (bE (s.entW i ⟨0,xa,xb⟩)))):=by
  rw[hE]
  refine ct [num ((i:Int)+1),wIs,W] (by simp) (by simp) ?_
  rw[hE]at hel
  unfold bE at hel
  rw[List.length_append]at hel
  omega
 have hEn:=dc (s.entW i ⟨0,xa,xb⟩)
 clear hej hE hn hn2 wl wl2 wn wn2 hf2
 generalize bE (s.entW i ⟨0,xa,xb⟩)=E at *
 obtain⟨p,hp⟩:∃p:Nat,p=0:=⟨_,rfl⟩
 have ho:l.findIdx? (· ==i)=some p:=by rw[hp];exact hl0
 simp only[ho]at hidx
 have hhd:=hhd true
 have h2:s.heading c i true=2:=by subst hi0;exact gj hx true
 rw[h2]at hhd
 have ht0:s.textTo c l i=[]:=by rw[hi0];rfl
 rw[ht0,List.nil_append]at hsu
 intro Q
 have hitp:=df ((p:Int)+1) (by omega)
 have hlp:PureA Tryz.prog 110 [.slice 1 [aN (aK cN),aN (aK (num ((p:Int)+1)))] .no] (aN (aK (aZ p))):=ct [cN,num ((p:Int)+1)] (by simp) (by simp) (by simp[aJ,cN,num])
 have hpl:=cU p
 have hpn:aZ p≠[]:=dc _
 have hlr:PureA Tryz.prog 110 [.slice 1 [aN (aK bN),aN (aK (num f.room))] .no] (aN (aK (bM f.room))):=ct [bN,num f.room] (by simp) (by simp) (by simp[aJ,bN,num])
 have hrl:=cV f.room
 have hlw:=hlw (o:=(some p)) ho (h:=2) h2
 have hT:s.textTo c l (i+1)=aZ p++bM f.room++E:=by rw[hsu,hlw];simp[ed]
 have hw1:=r4 (aZ p) hpn (by omega)
 have hw2:=aO 1 (aZ p) (bM f.room) (by(try simp only[List.length_append]);omega) (by omega)
 have hw3:=aO 2 (aZ p++bM f.room) (E) (by(try simp only[List.length_append]);omega) (by omega)
 clear hsu hlw h2
 generalize aZ p=A at *
 generalize bM f.room=B at *
 conv=>whnf
 repeat(any_goals(first|exact ab|(refine ap ?_ ?_<;>intro _<;>first|exact aq|conv=>whnf)|((first|refine ag hx rfl ?_|refine ag hf (by show xa=_;omega) ?_|refine aa hidx ?_|refine aa hitp ?_|refine aa hlp ?_|refine aa hitr ?_|refine aa hhd ?_|refine aa hlr ?_|refine aa hite ?_|refine aa hwa ?_|refine aa hwb ?_|refine aa hle ?_|refine ac ?_|refine bi ?_ ?_|intro _)<;>conv=>whnf)))
 refine⟨[kB],?_⟩
 conv=>whnf
 refine⟨_,_,hw1,?_⟩
 refine(?_:yS _ _)
 refine BF rfl ?_
 refine(?_:okP _ _)
 refine kF rfl ?_
 refine(?_:jZ _ _)
 refine af rfl ?_
 refine(?_:jZ _ _)
 refine af rfl ?_
 refine(?_:jZ _ _)
 refine af (az _ _) ?_
 conv=>whnf
 repeat(any_goals(first|exact ab|(refine ap ?_ ?_<;>intro _<;>first|exact aq|conv=>whnf)|((first|refine ag hx rfl ?_|refine ag hf (by show xa=_;omega) ?_|refine aa hidx ?_|refine aa hitp ?_|refine aa hlp ?_|refine aa hitr ?_|refine aa hhd ?_|refine aa hlr ?_|refine aa hite ?_|refine aa hwa ?_|refine aa hwb ?_|refine aa hle ?_|refine ac ?_|refine bi ?_ ?_|intro _)<;>conv=>whnf)))
 refine⟨[kB,kBr],?_⟩
 conv=>whnf
 repeat(refine af (az _ _) ?_<;>(conv=>whnf))
 refine⟨_,_,hw2,?_⟩
 conv=>whnf
 repeat(refine af (az _ _) ?_<;>(conv=>whnf))
 repeat(any_goals(first|exact ab|(refine ap ?_ ?_<;>intro _<;>first|exact aq|conv=>whnf)|((first|refine ag hx rfl ?_|refine ag hf (by show xa=_;omega) ?_|refine aa hidx ?_|refine aa hitp ?_|refine aa hlp ?_|refine aa hitr ?_|refine aa hhd ?_|refine aa hlr ?_|refine aa hite ?_|refine aa hwa ?_|refine aa hwb ?_|refine aa hle ?_|refine ac ?_|refine bi ?_ ?_|intro _)<;>conv=>whnf)))
 refine⟨[kB,kBr],?_⟩
 conv=>whnf
 repeat(refine af (az _ _) ?_<;>(conv=>whnf))
 refine⟨_,_,hw3,?_⟩
 conv=>whnf
 repeat(refine af (az _ _) ?_<;>(conv=>whnf))
 repeat(any_goals(first|exact ab|(refine ap ?_ ?_<;>intro _<;>first|exact aq|conv=>whnf)|((first|refine ag hx rfl ?_|refine ag hf (by show xa=_;omega) ?_|refine aa hidx ?_|refine aa hitp ?_|refine aa hlp ?_|refine aa hitr ?_|refine aa hhd ?_|refine aa hlr ?_|refine aa hite ?_|refine aa hwa ?_|refine aa hwb ?_|refine aa hle ?_|refine ac ?_|refine bi ?_ ?_|intro _)<;>conv=>whnf)))
 (refine⟨⟨i+1,.used 3 (A++B++E)⟩,⟨by show i+1≤_;omega,(fun h=>by cases h),fun _=>⟨_,congrArg (BSt.used _) hT.symm⟩⟩,(by show _-(i+1)<_-i;omega),?_⟩;(conv=>whnf);refine⟨?_,?_,?_⟩<;>repeat(first|exact trivial|refine sc rfl ?_|refine kn ?_|refine kc rfl ?_|refine sc (by rfl) ?_|refine kc (by rfl) ?_))
end Go.Proofs.YtgncapdjheghfaaGreatDoor
namespace Go.Proofs.YtgncapdjheghfaaGreatDoor
open Go.Am Go.Proofs Go
set_option maxHeartbeats 8000000 in
theorem Iy(s:Bill)(hg:s.Good)(c:List Ent)(hc:∀x∈c,s.OkE x)(h6:c.length≤6)(l:List Nat)(hll:l.length≤6)(i:Nat)(hi0:i=0)(hl0:l.findIdx? (· ==i)=some 0)(R:Press)(hR:R.pages=gP l)(M:cf)(xa xb:Int)(hx:c[i]?=some ⟨1,xa,xb⟩) :
  uJ s c l R M i .fresh:=by
 have hi:i<c.length:=(List.getElem?_eq_some_iff.1 hx).1
 have hok:=hc _ (List.mem_of_getElem? hx)
 obtain⟨f,hf,hn,hroom,hr0⟩:=kg hg hok.a
 obtain⟨f2,hf2,hn2,_⟩:=kg hg hok.b
 have hlt:=dq hg hc l i
 have hsu:=cF s c l i
 have hwa:=m8 s xa f hok.a.1 hf hn
 have hwb:=m8 s xb f2 hok.b.1 hf2 hn2
 obtain⟨wl,wn⟩:=dN hf hn
 obtain⟨wl2,wn2⟩:=dN hf2 hn2
 have hej:=gg (s:=s) (i:=i) (x:=⟨1,xa,xb⟩) wn wn2
 have hel:=g3 hg hok i
 have hidx:=gm R.pages i (by rw[hR];unfold gP;rw[List.length_map];omega)
 rw[hR,iJ, ←hR]at hidx
 have hhd:=fun t=>eV s c (fun x hx=>(hc x hx).inn) h6 i hi t
 have hlw:=fun {o} ho {h} hh=>ey (s:=s) (pages:=l) hx (o:=o) ho (h:=h) hh
 have hitr:=df f.room hr0
 have hite:=df ((i:Int)+1) (by omega)
 have hax:=hok.a
 have hbx:=hok.b
 have hfl:(s.figs.map cD).length=s.figs.length:=List.length_map ..
 have hcl:(c.map bB).length=c.length:=List.length_map ..
 simp only at hroom hlw hax hbx hwa hwb wl wl2 wn wn2 hej hf
 rw[hroom]at hlw
 generalize aJ (s.whoW xa)=W at *
 generalize aJ (s.whoW xb)=W2 at *
 have hE:bE (s.entW i ⟨1,xa,xb⟩)=bE [num ((i:Int)+1),wIs,W,wOr,W2]:=by unfold bE;rw[hej];rfl
 have hle:PureA Tryz.prog 110 [.slice 1 [aN (aK (num ((i:Int)+1))),aN isB,aN (aK W),aN (aK wOr),aN (aK W2)] .no] (aN (aK (bE (s.entW i ⟨1,xa,xb⟩)))):=by
  rw[hE]
  refine ct [num ((i:Int)+1),wIs,W,wOr,W2] (by simp) (by simp) ?_
  rw[hE]at hel
  unfold bE at hel
  rw[List.length_append]at hel
  omega
 have hEn:=dc (s.entW i ⟨1,xa,xb⟩)
 clear hej hE hn hn2 wl wl2 wn wn2 hf2
 generalize bE (s.entW i ⟨1,xa,xb⟩)=E at *
 obtain⟨p,hp⟩:∃p:Nat,p=0:=⟨_,rfl⟩
 have ho:l.findIdx? (· ==i)=some p:=by rw[hp];exact hl0
 simp only[ho]at hidx
 have hhd:=hhd true
 have h2:s.heading c i true=2:=by subst hi0;exact gj hx true
 rw[h2]at hhd
 have ht0:s.textTo c l i=[]:=by rw[hi0];rfl
 rw[ht0,List.nil_append]at hsu
 intro Q
 have hitp:=df ((p:Int)+1) (by omega)
 have hlp:PureA Tryz.prog 110 [.slice 1 [aN (aK cN),aN (aK (num ((p:Int)+1)))] .no] (aN (aK (aZ p))):=ct [cN,num ((p:Int)+1)] (by simp) (by simp) (by simp[aJ,cN,num])
 have hpl:=cU p
 have hpn:aZ p≠[]:=dc _
 have hlr:PureA Tryz.prog 110 [.slice 1 [aN (aK bN),aN (aK (num f.room))] .no] (aN (aK (bM f.room))):=ct [bN,num f.room] (by simp) (by simp) (by simp[aJ,bN,num])
 have hrl:=cV f.room
 have hlw:=hlw (o:=(some p)) ho (h:=2) h2
 have hT:s.textTo c l (i+1)=aZ p++bM f.room++E:=by rw[hsu,hlw];simp[ed]
 have hw1:=r4 (aZ p) hpn (by omega)
 have hw2:=aO 1 (aZ p) (bM f.room) (by(try simp only[List.length_append]);omega) (by omega)
 have hw3:=aO 2 (aZ p++bM f.room) (E) (by(try simp only[List.length_append]);omega) (by omega)
 clear hsu hlw h2
 generalize aZ p=A at *
 generalize bM f.room=B at *
 conv=>whnf
 repeat(any_goals(first|exact ab|(refine ap ?_ ?_<;>intro _<;>first|exact aq|conv=>whnf)|((first|refine ag hx rfl ?_|refine ag hf (by show xa=_;omega) ?_|refine aa hidx ?_|refine aa hitp ?_|refine aa hlp ?_|refine aa hitr ?_|refine aa hhd ?_|refine aa hlr ?_|refine aa hite ?_|refine aa hwa ?_|refine aa hwb ?_|refine aa hle ?_|refine ac ?_|refine bi ?_ ?_|intro _)<;>conv=>whnf)))
 refine⟨[kB],?_⟩
 conv=>whnf
 refine⟨_,_,hw1,?_⟩
 refine(?_:yS _ _)
 refine BF rfl ?_
 refine(?_:okP _ _)
 refine kF rfl ?_
 refine(?_:jZ _ _)
 refine af rfl ?_
 refine(?_:jZ _ _)
 refine af rfl ?_
 refine(?_:jZ _ _)
 refine af (az _ _) ?_
 conv=>whnf
 repeat(any_goals(first|exact ab|(refine ap ?_ ?_<;>intro _<;>first|exact aq|conv=>whnf)|((first|refine ag hx rfl ?_|refine ag hf (by show xa=_;omega) ?_|refine aa hidx ?_|refine aa hitp ?_|refine aa hlp ?_|refine aa hitr ?_|refine aa hhd ?_|refine aa hlr ?_|refine aa hite ?_|refine aa hwa ?_|refine aa hwb ?_|refine aa hle ?_|refine ac ?_|refine bi ?_ ?_|intro _)<;>conv=>whnf)))
 refine⟨[kB,kBr],?_⟩
 conv=>whnf
 repeat(refine af (az _ _) ?_<;>(conv=>whnf))
 refine⟨_,_,hw2,?_⟩
 conv=>whnf
 repeat(refine af (az _ _) ?_<;>(conv=>whnf))
 repeat(any_goals(first|exact ab|(refine ap ?_ ?_<;>intro _<;>first|exact aq|conv=>whnf)|((first|refine ag hx rfl ?_|refine ag hf (by show xa=_;omega) ?_|refine aa hidx ?_|refine aa hitp ?_|refine aa hlp ?_|refine aa hitr ?_|refine aa hhd ?_|refine aa hlr ?_|refine aa hite ?_|refine aa hwa ?_|refine aa hwb ?_|refine aa hle ?_|refine ac ?_|refine bi ?_ ?_|intro _)<;>conv=>whnf)))
 refine⟨[kB,kBr],?_⟩
 conv=>whnf
 repeat(refine af (az _ _) ?_<;>(conv=>whnf))
 refine⟨_,_,hw3,?_⟩
 conv=>whnf
 repeat(refine af (az _ _) ?_<;>(conv=>whnf))
 repeat(any_goals(first|exact ab|(refine ap ?_ ?_<;>intro _<;>first|exact aq|conv=>whnf)|((first|refine ag hx rfl ?_|refine ag hf (by show xa=_;omega) ?_|refine aa hidx ?_|refine aa hitp ?_|refine aa hlp ?_|refine aa hitr ?_|refine aa hhd ?_|refine aa hlr ?_|refine aa hite ?_|refine aa hwa ?_|refine aa hwb ?_|refine aa hle ?_|refine ac ?_|refine bi ?_ ?_|intro _)<;>conv=>whnf)))
 (refine⟨⟨i+1,.used 3 (A++B++E)⟩,⟨by show i+1≤_;omega,(fun h=>by cases h),fun _=>⟨_,congrArg (BSt.used _) hT.symm⟩⟩,(by show _-(i+1)<_-i;omega),?_⟩;(conv=>whnf);refine⟨?_,?_,?_⟩<;>repeat(first|exact trivial|refine sc rfl ?_|refine kn ?_|refine kc rfl ?_|refine sc (by rfl) ?_|refine kc (by rfl) ?_))
end Go.Proofs.YtgncapdjheghfaaGreatDoor
namespace Go.Proofs.YtgncapdjheghfaaGreatDoor
open Go.Am Go.Proofs Go
set_option maxHeartbeats 8000000 in
theorem IA(s:Bill)(hg:s.Good)(c:List Ent)(hc:∀x∈c,s.OkE x)(h6:c.length≤6)(l:List Nat)(hll:l.length≤6)(i:Nat)(hi0:i=0)(hl0:l.findIdx? (· ==i)=some 0)(R:Press)(hR:R.pages=gP l)(M:cf)(xa xb:Int)(hx:c[i]?=some ⟨2,xa,xb⟩) :
  uJ s c l R M i .fresh:=by
 have hi:i<c.length:=(List.getElem?_eq_some_iff.1 hx).1
 have hok:=hc _ (List.mem_of_getElem? hx)
 obtain⟨f,hf,hn,hroom,hr0⟩:=kg hg hok.a
 obtain⟨f2,hf2,hn2,_⟩:=kg hg hok.b
 have hlt:=dq hg hc l i
 have hsu:=cF s c l i
 have hwa:=m8 s xa f hok.a.1 hf hn
 have hwb:=m8 s xb f2 hok.b.1 hf2 hn2
 obtain⟨wl,wn⟩:=dN hf hn
 obtain⟨wl2,wn2⟩:=dN hf2 hn2
 have hej:=gg (s:=s) (i:=i) (x:=⟨2,xa,xb⟩) wn wn2
 have hel:=g3 hg hok i
 have hidx:=gm R.pages i (by rw[hR];unfold gP;rw[List.length_map];omega)
 rw[hR,iJ, ←hR]at hidx
 have hhd:=fun t=>eV s c (fun x hx=>(hc x hx).inn) h6 i hi t
 have hlw:=fun {o} ho {h} hh=>ey (s:=s) (pages:=l) hx (o:=o) ho (h:=h) hh
 have hitr:=df f.room hr0
 have hite:=df ((i:Int)+1) (by omega)
 have hax:=hok.a
 have hbx:=hok.b
 have hfl:(s.figs.map cD).length=s.figs.length:=List.length_map ..
 have hcl:(c.map bB).length=c.length:=List.length_map ..
 simp only at hroom hlw hax hbx hwa hwb wl wl2 wn wn2 hej hf
 rw[hroom]at hlw
 generalize aJ (s.whoW xa)=W at *
 generalize aJ (s.whoW xb)=W2 at *
 have hE:bE (s.entW i ⟨2,xa,xb⟩)=bE [num ((i:Int)+1),aJ [zT,wBe],W]:=by unfold bE;rw[hej];rfl
 have hle:PureA Tryz.prog 110 [.slice 1 [aN (aK (num ((i:Int)+1))),aN KT,aN (aK W)] .no] (aN (aK (bE (s.entW i ⟨2,xa,xb⟩)))):=by
  rw[hE]
  refine ct [num ((i:Int)+1),aJ [zT,wBe],W] (by simp) (by simp) ?_
  rw[hE]at hel
  unfold bE at hel
  rw[List.length_append]at hel
  omega
 have hEn:=dc (s.entW i ⟨2,xa,xb⟩)
 clear hej hE hn hn2 wl wl2 wn wn2 hf2
 generalize bE (s.entW i ⟨2,xa,xb⟩)=E at *
 obtain⟨p,hp⟩:∃p:Nat,p=0:=⟨_,rfl⟩
 have ho:l.findIdx? (· ==i)=some p:=by rw[hp];exact hl0
 simp only[ho]at hidx
 have hhd:=hhd true
 have h2:s.heading c i true=2:=by subst hi0;exact gj hx true
 rw[h2]at hhd
 have ht0:s.textTo c l i=[]:=by rw[hi0];rfl
 rw[ht0,List.nil_append]at hsu
 intro Q
 have hitp:=df ((p:Int)+1) (by omega)
 have hlp:PureA Tryz.prog 110 [.slice 1 [aN (aK cN),aN (aK (num ((p:Int)+1)))] .no] (aN (aK (aZ p))):=ct [cN,num ((p:Int)+1)] (by simp) (by simp) (by simp[aJ,cN,num])
 have hpl:=cU p
 have hpn:aZ p≠[]:=dc _
 have hlr:PureA Tryz.prog 110 [.slice 1 [aN (aK bN),aN (aK (num f.room))] .no] (aN (aK (bM f.room))):=ct [bN,num f.room] (by simp) (by simp) (by simp[aJ,bN,num])
 have hrl:=cV f.room
 have hlw:=hlw (o:=(some p)) ho (h:=2) h2
 have hT:s.textTo c l (i+1)=aZ p++bM f.room++E:=by rw[hsu,hlw];simp[ed]
 have hw1:=r4 (aZ p) hpn (by omega)
 have hw2:=aO 1 (aZ p) (bM f.room) (by(try simp only[List.length_append]);omega) (by omega)
 have hw3:=aO 2 (aZ p++bM f.room) (E) (by(try simp only[List.length_append]);omega) (by omega)
 clear hsu hlw h2
 generalize aZ p=A at *
 generalize bM f.room=B at *
 conv=>whnf
 repeat(any_goals(first|exact ab|(refine ap ?_ ?_<;>intro _<;>first|exact aq|conv=>whnf)|((first|refine ag hx rfl ?_|refine ag hf (by show xa=_;omega) ?_|refine aa hidx ?_|refine aa hitp ?_|refine aa hlp ?_|refine aa hitr ?_|refine aa hhd ?_|refine aa hlr ?_|refine aa hite ?_|refine aa hwa ?_|refine aa hwb ?_|refine aa hle ?_|refine ac ?_|refine bi ?_ ?_|intro _)<;>conv=>whnf)))
 refine⟨[kB],?_⟩
 conv=>whnf
 refine⟨_,_,hw1,?_⟩
 refine(?_:yS _ _)
 refine BF rfl ?_
 refine(?_:okP _ _)
 refine kF rfl ?_
 refine(?_:jZ _ _)
 refine af rfl ?_
 refine(?_:jZ _ _)
 refine af rfl ?_
 refine(?_:jZ _ _)
 refine af (az _ _) ?_
 conv=>whnf
 repeat(any_goals(first|exact ab|(refine ap ?_ ?_<;>intro _<;>first|exact aq|conv=>whnf)|((first|refine ag hx rfl ?_|refine ag hf (by show xa=_;omega) ?_|refine aa hidx ?_|refine aa hitp ?_|refine aa hlp ?_|refine aa hitr ?_|refine aa hhd ?_|refine aa hlr ?_|refine aa hite ?_|refine aa hwa ?_|refine aa hwb ?_|refine aa hle ?_|refine ac ?_|refine bi ?_ ?_|intro _)<;>conv=>whnf)))
 refine⟨[kB,kBr],?_⟩
 conv=>whnf
 repeat(refine af (az _ _) ?_<;>(conv=>whnf))
 refine⟨_,_,hw2,?_⟩
 conv=>whnf
 repeat(refine af (az _ _) ?_<;>(conv=>whnf))
 repeat(any_goals(first|exact ab|(refine ap ?_ ?_<;>intro _<;>first|exact aq|conv=>whnf)|((first|refine ag hx rfl ?_|refine ag hf (by show xa=_;omega) ?_|refine aa hidx ?_|refine aa hitp ?_|refine aa hlp ?_|refine aa hitr ?_|refine aa hhd ?_|refine aa hlr ?_|refine aa hite ?_|refine aa hwa ?_|refine aa hwb ?_|refine aa hle ?_|refine ac ?_|refine bi ?_ ?_|intro _)<;>conv=>whnf)))
 refine⟨[kB,kBr],?_⟩
 conv=>whnf
 repeat(refine af (az _ _) ?_<;>(conv=>whnf))
 refine⟨_,_,hw3,?_⟩
 conv=>whnf
 repeat(refine af (az _ _) ?_<;>(conv=>whnf))
 repeat(any_goals(first|exact ab|(refine ap ?_ ?_<;>intro _<;>first|exact aq|conv=>whnf)|((first|refine ag hx rfl ?_|refine ag hf (by show xa=_;omega) ?_|refine aa hidx ?_|refine aa hitp ?_|refine aa hlp ?_|refine aa hitr ?_|refine aa hhd ?_|refine aa hlr ?_|refine aa hite ?_|refine aa hwa ?_|refine aa hwb ?_|refine aa hle ?_|refine ac ?_|refine bi ?_ ?_|intro _)<;>conv=>whnf)))
 (refine⟨⟨i+1,.used 3 (A++B++E)⟩,⟨by show i+1≤_;omega,(fun h=>by cases h),fun _=>⟨_,congrArg (BSt.used _) hT.symm⟩⟩,(by show _-(i+1)<_-i;omega),?_⟩;(conv=>whnf);refine⟨?_,?_,?_⟩<;>repeat(first|exact trivial|refine sc rfl ?_|refine kn ?_|refine kc rfl ?_|refine sc (by rfl) ?_|refine kc (by rfl) ?_))
end Go.Proofs.YtgncapdjheghfaaGreatDoor
namespace Go.Proofs.YtgncapdjheghfaaGreatDoor
open Go.Am Go.Proofs Go
theorem KW(s:Bill)(hg:s.Good)(c:List Ent)(hc:∀x∈c,s.OkE x)(h6:c.length≤6)(l:List Nat)(hll:l.length≤6)(hl0:l.findIdx? (· ==0)=some 0)(R:Press)(hR:R.pages=gP l)(M:cf)(i:Nat)(hi:i<c.length)(st:BSt)(hI:Gw s c l (i,st)) :
  uJ s c l R M i st:=by
 obtain⟨x,hx⟩:∃x,c[i]?=some x:=⟨_,List.getElem?_eq_getElem hi⟩
 obtain⟨h1,h2,h3⟩:=hI
 simp only at h1 h2 h3
 have hok:=hc _ (List.mem_of_getElem? hx)
 obtain⟨says,xa,xb⟩:=x
 have hs:=hok.says
 simp only at hs
 by_cases h0:i=0
 ·have e:=h2 h0
  subst e
  have hl0':l.findIdx? (· ==i)=some 0:=by rw[h0];exact hl0
  rcases hs with rfl|rfl|rfl
  ·exact Iw s hg c hc h6 l hll i h0 hl0' R hR M xa xb hx
  ·exact Iy s hg c hc h6 l hll i h0 hl0' R hR M xa xb hx
  ·exact IA s hg c hc h6 l hll i h0 hl0' R hR M xa xb hx
 ·obtain⟨g,e⟩:=h3 (by omega)
  subst e
  rcases hs with rfl|rfl|rfl
  ·exact Ix s hg c hc h6 l hll i R hR M xa xb hx g
  ·exact Iz s hg c hc h6 l hll i R hR M xa xb hx g
  ·exact IB s hg c hc h6 l hll i R hR M xa xb hx g
theorem AO{c:List Ent}{l:List Nat}(h:ek c 0 l)(h0:0<c.length):l.findIdx? (· ==0)=some 0:=by
 cases l with
 | nil=>have:0=c.length:=h;omega
 | cons j l =>
  have e:=h.1
  subst e
  rfl
set_option maxHeartbeats 4000000 in
theorem IX(s:Bill)(hg:s.Good)(c:List Ent)(hc:∀x∈c,s.OkE x)(h6:c.length≤6)(h0:0<c.length):PureA Tryz.prog 79 [dk s,aG c] (aN (aK (s.textL c))):=by
 have hp:=Gs s hg c hc h6 c.length 0 [] (Nat.zero_le _) (by omega) (fun e h=>by cases h)
 rw[eg s h0]at hp
 obtain⟨l,w,hpr,hpn,hpg,_⟩:=oE hg hc
 have hll:l.length≤6:=by have:=gn hpg;omega
 have hend:=qx s c
 rw[hpn]at hend
 have hlen:=dq hg hc l c.length
 have hne:(s.textTo c l c.length).length≠0:=by
  obtain⟨n,hn⟩:∃n,c.length=n+1:=⟨c.length-1,by omega⟩
  rw[hn,cF]
  obtain⟨x,hx⟩:∃x,c[n]?=some x:=⟨_,List.getElem?_eq_getElem (by omega)⟩
  rw[ey hx rfl rfl]
  have:=dc (s.entW n x)
  simp[this]
 have hrow:=fun M i hi st hI=>KW s hg c hc h6 l hll (AO hpg h0) (s.press c 0) (by rw[hpr];rfl) M i hi st hI
 rw[←hend]
 have hcl:(c.map bB).length=c.length:=List.length_map ..
 generalize s.memoN c c.length 0 []=M at *
 have hrow:=hrow M
 generalize s.press c 0=R at *
 unfold gN tR at hp
 refine ae ar { l:=0,f:=79,mat:=[76,109,113],ty:=[5]} mixed Ay Tryz.func79 (by kernel_rfl) ?_
 conv=>whnf
 repeat(any_goals(first|exact ab|(refine ap ?_ ?_<;>intro _<;>first|exact aq|conv=>whnf)|((first|refine aa fV ?_|refine ah fV rfl ?_|refine ac ?_|refine bi ?_ ?_|intro _)<;>conv=>whnf)))
 refine⟨[kTx],?_⟩
 conv=>whnf
 refine⟨_,_,hp,?_⟩
 conv=>whnf
 repeat(any_goals(first|exact ab|(refine ap ?_ ?_<;>intro _<;>first|exact aq|conv=>whnf)|((first|refine ac ?_|refine bi ?_ ?_|intro _)<;>conv=>whnf)))
 refine aW ar { l:=0,f:=79,mat:=[76,109,113],ty:=[5]} mixed (fun u:Nat×BSt=>[(21,aj u.1)]) (fun u=>[(kB,some (1,some (2,[u.2.av]))),(kBr,some u.2.row)]) (fun _=>[]) (Gw s c l) (fun u=>c.length-u.1) ((0,.fresh):Nat×BSt) (by kernel_rfl)
  ⟨Nat.zero_le _,fun _=>rfl,fun h=>absurd h (Nat.lt_irrefl _)⟩ ?_
 conv=>whnf
 refine⟨⟨ai rfl trivial,?_,trivial⟩,?_⟩
 ·repeat(first|exact trivial|refine kc rfl ?_|refine bU rfl ?_)
 rintro⟨i,st⟩ hI
 by_cases hi:i<c.length
 ·exact hrow i hi st hI _
 ·obtain⟨h1,_,h3⟩:=hI
  simp only at h1 h3
  have hic:i=c.length:=by omega
  obtain⟨g,e⟩:=h3 (by omega)
  subst e
  rw[←hic]at hne ⊢
  have hst:=Fc (k:=kB) (kr:=kBr) (g:=1) (gr:=g) (c0:=0) (p:= .ptr kB 1 2 0 0) (s:=aK (s.textTo c l i)) rfl rfl hne
  clear hrow hp hlen hpg hpn hpr
  generalize s.textTo c l i=t at *
  conv=>whnf
  repeat(any_goals(first|exact ab|(refine ap ?_ ?_<;>intro _<;>first|exact aq|conv=>whnf)|((first|refine ac ?_|refine bi ?_ ?_|intro _)<;>conv=>whnf)))
  refine⟨[kB,kBr],?_⟩
  conv=>whnf
  repeat(refine af (az _ _) ?_<;>(conv=>whnf))
  refine⟨_,_,hst,?_⟩
  conv=>whnf
  repeat(any_goals(first|exact ab|(refine ap ?_ ?_<;>intro _<;>first|exact aq|conv=>whnf)|((first|refine ac ?_|refine bi ?_ ?_|intro _)<;>conv=>whnf)))
  (refine⟨⟨?_⟩,trivial⟩;rfl)
theorem IV(s:Bill)(hg:s.Good)(c:List Ent)(hc:∀x∈c,s.OkE x)(h6:c.length≤6)(h0:c.length=0):PureA Tryz.prog 79 [dk s,aG c] (aN (aK (s.textL c))):=by
 have e:c=[]:=List.length_eq_zero_iff.1 h0
 subst e
 have hp:=Gs s hg [] hc h6 0 0 [] (Nat.zero_le _) (by simp) (fun e h=>by cases h)
 rw[show ef s [] 0 = .agg [.slice 0 [] .tight,aj 0]from eK s []]at hp
 have ht:aK (s.textL [])=⟨#[]⟩:=rfl
 rw[ht]
 have hst:=wT (k:=kB) (g:=1) (p:= .v (.pointer none)) rfl
 generalize s.memoN [] 0 0 []=M at *
 refine ae ar { l:=0,f:=79,mat:=[76,109,113],ty:=[5]} mixed Ay Tryz.func79 (by kernel_rfl) ?_
 conv=>whnf
 repeat(any_goals(first|exact ab|(refine ap ?_ ?_<;>intro _<;>first|exact aq|conv=>whnf)|((first|refine aa fV ?_|refine ah fV rfl ?_|refine ac ?_|refine bi ?_ ?_|intro _)<;>conv=>whnf)))
 refine⟨[kTx],?_⟩
 conv=>whnf
 refine⟨_,_,hp,?_⟩
 conv=>whnf
 repeat(any_goals(first|exact ab|(refine ap ?_ ?_<;>intro _<;>first|exact aq|conv=>whnf)|((first|refine ac ?_|refine bi ?_ ?_|intro _)<;>conv=>whnf)))
 refine aW ar { l:=0,f:=79,mat:=[76,109,113],ty:=[5]} mixed (fun i:Nat=>[(21,aj i)]) (fun _=>[(kB,some (1,some (2,[BSt.fresh.av])))]) (fun _=>[]) (fun i=>i=0) (fun i=>i) 0 (by kernel_rfl)
  rfl ?_
 conv=>whnf
 refine⟨⟨ai rfl trivial,?_,trivial⟩,?_⟩
 ·repeat(first|exact trivial|refine kc rfl ?_|refine bU rfl ?_)
 rintro i rfl
 conv=>whnf
 repeat(any_goals(first|exact ab|(refine ap ?_ ?_<;>intro _<;>first|exact aq|conv=>whnf)|((first|refine ac ?_|refine bi ?_ ?_|intro _)<;>conv=>whnf)))
 refine⟨[kB],?_⟩
 conv=>whnf
 refine⟨_,_,hst,?_⟩
 conv=>whnf
 repeat(any_goals(first|exact ab|(refine ap ?_ ?_<;>intro _<;>first|exact aq|conv=>whnf)|((first|refine ac ?_|refine bi ?_ ?_|intro _)<;>conv=>whnf)))
 (refine⟨⟨?_⟩,trivial⟩;rfl)
theorem CB(s:Bill)(hg:s.Good)(c:List Ent)(hc:∀x∈c,s.OkE x)(h6:c.length≤6):PureA Tryz.prog 79 [dk s,aG c] (aN (aK (s.textL c))):=by
 by_cases h0:c.length=0
 ·exact IV s hg c hc h6 h0
 ·exact IX s hg c hc h6 (by omega)
end Go.Proofs.YtgncapdjheghfaaGreatDoor
namespace Go.Proofs.YtgncapdjheghfaaGreatDoor
open Go.Am Go.Proofs Go
def Bill.writeR(s:Bill)(c:List Ent):Bs×Int:=if cb s c≠0 then([],cb s c)else(s.textL c,0)
theorem mr(s:Bill)(hr:s.small)(c:List Ent)(hl:c.length≤1048576):PureA Tryz.prog 32 [aF s,aG c] (.tuple [aN (aK (s.writeR c).1),aj (s.writeR c).2]):=by
 unfold Bill.writeR
 by_cases hk:cb s c=0
 ·rw[if_neg (fun h=>h hk)]
  have he:=d7 s hr c hl hk
  obtain⟨hg,hok,h6⟩:=cr hk
  have ht:=CB s hg c hok h6
  unfold cW at he
  generalize s.textL c=T at *
  refine ae ar { l:=0,f:=32,mat:=[71]} mixed Au Tryz.func32 (by kernel_rfl) ?_
  conv=>whnf
  repeat(any_goals(first|exact ab|(refine ap ?_ ?_<;>intro _<;>first|exact aq|conv=>whnf)|((first|refine ac ?_|refine bi ?_ ?_|intro _)<;>conv=>whnf)))
  refine⟨[],?_⟩
  conv=>whnf
  refine⟨_,_,he,?_⟩
  conv=>whnf
  repeat(any_goals(first|exact ab|(refine ap ?_ ?_<;>intro _<;>first|exact aq|conv=>whnf)|((first|refine ah ht rfl ?_|refine aa ht ?_|refine ac ?_|refine bi ?_ ?_|intro _)<;>conv=>whnf)))
  (refine⟨⟨?_⟩,trivial⟩;rfl)
 ·rw[if_pos hk]
  have he:=ka s hr c hl _ rfl hk
  generalize cb s c=e at *
  have hn:(aK [])=⟨#[]⟩:=rfl
  simp only[hn]
  refine ae ar { l:=0,f:=32,mat:=[71]} mixed Au Tryz.func32 (by kernel_rfl) ?_
  conv=>whnf
  repeat(any_goals(first|exact ab|(refine ap ?_ ?_<;>intro _<;>first|exact aq|conv=>whnf)|((first|refine ac ?_|refine bi ?_ ?_|intro _)<;>conv=>whnf)))
  refine⟨[],?_⟩
  conv=>whnf
  refine⟨_,_,he,?_⟩
  conv=>whnf
  repeat(any_goals(first|exact ab|(refine ap ?_ ?_<;>intro _<;>first|exact aq|conv=>whnf)|((first|refine ac ?_|refine bi ?_ ?_|intro _)<;>conv=>whnf)))
  (refine⟨⟨?_⟩,trivial⟩;rfl)
end Go.Proofs.YtgncapdjheghfaaGreatDoor
namespace Go.Proofs.YtgncapdjheghfaaGreatDoor
open Go.Am Go.Proofs Go
theorem E1(b:UInt8)(hb:b.toNat<128):Utf8.encode (b.toNat:Int)=⟨#[b]⟩:=by
 have hv:Utf8.valid (b.toNat:Int)=true:=by unfold Utf8.valid;simp;left;omega
 unfold Utf8.encode
 simp only[hv,if_true,Int.toNat_natCast]
 rw[if_pos (by omega)]
 simp
structure SpSt where
 i:Nat
 ws:List Bs
 w:Bs
def ft(ws:List Bs):List AV:=ws.map fun w=>aN (aK w)
theorem mq(ws:List Bs)(w:Bs):ft ws++[aN (aK w)]=ft (ws++[w]):=by unfold ft;rw[List.map_append];rfl
def Cp:Option (List Bs)→AV
 | none=> .tuple [oe,aB false]
 | some ws=> .tuple [.slice 1 (ft ws) .no,aB true]
theorem jN(w:Bs)(b:UInt8)(l:Bs):bI w (b::l)=if b=32 then(bI [] l).map (w:: ·)else if okB b=true then bI (w++[b]) l else none:=rfl
set_option maxRecDepth 100000 in
theorem IL(s:ByteArray)(hl:s.size≤1048576):PureA Tryz.prog 82 [aN s] (Cp (bI [] (bytes s))):=by
 have hsz:=rR s
 obtain⟨R,hR⟩:∃R,R=bI [] (bytes s):=⟨_,rfl⟩
 rw[←hR]
 have hlen:∀ws:List Bs,(ft ws).length=ws.length:=fun ws=>List.length_map ..
 refine ae ar { l:=0,f:=82} mixed Hf Tryz.func82 (by kernel_rfl) ?_
 conv=>whnf
 refine dX 2 1 ⟨0,82,18⟩ ?_
 conv=>whnf
 refine aW ar { l:=0,f:=82} mixed (fun u:SpSt=>[(4,aN (aK u.w)),(2,.slice 1 (ft u.ws) (.own ⟨0,82,18⟩ 1))]) (fun u=>[(⟨0,82,8⟩,(1,some (0,[aN s,aj u.i])))]) (fun u=>[(⟨0,82,18⟩,some (1,u.ws.length))]) (fun u=>(u.i≤s.size∧u.ws.length≤u.i∧u.w.length≤u.i)∧R=(bI u.w (s.data.toList.drop u.i)).map (u.ws++ ·)) (fun u=>s.size-u.i) (⟨0,[],[]⟩:SpSt) (by kernel_rfl)
  ⟨⟨Nat.zero_le _,Nat.zero_le _,Nat.zero_le _⟩,by rw[hR];show _=(bI [] (bytes s)).map ([]++ ·);cases bI [] (bytes s)<;>rfl⟩ ?_
 conv=>whnf
 refine⟨⟨ai rfl (ai rfl trivial),aH rfl trivial,aH rfl trivial⟩,?_⟩
 clear hR
 rintro u ⟨⟨hi,hws,hw⟩,H⟩
 generalize u.i=i at *
 generalize u.ws=ws at *
 generalize u.w=w at *
 clear u
 have hwl:=hlen ws
 have hsw:(aK w).size=w.length:=rfl
 conv=>whnf
 refine bK (fun h1=>?_) (fun h1=>?_)
 ·obtain⟨b,hb,hd⟩:=ay (l:=s.data.toList) (i:=i) (by omega)
  rw[hd,jN]at H
  have hlt:=b.toNat_lt
  by_cases h128:b.toNat<128
  ·have hdec:Utf8.decode s (i:Int).toNat=(b.toNat,1):=by rw[Int.toNat_natCast];exact pH hb h128
   have hc:((Utf8.decode s (i:Int).toNat).1:Int)=b.toNat:=by rw[hdec]
   have hcv:=E1 b h128
   rw[←hc]at hcv
   have hes:(Utf8.encode ((Utf8.decode s (i:Int).toNat).1:Int)).size=1:=by rw[hcv];rfl
   by_cases h32:b=32
   ·rw[if_pos h32]at H
    have hb32:b.toNat=32:=by rw[h32];rfl
    have hH:R=(bI [] (s.data.toList.drop (i+1))).map ((ws++[w])++ ·):=by rw[H];cases bI [] (s.data.toList.drop (i+1))<;>simp
    conv=>whnf
    repeat(any_goals(first|exact ab|(refine ap ?_ ?_<;>intro _<;>first|exact aq|conv=>whnf)|((first|refine ac ?_|refine bi ?_ ?_|intro _)<;>conv=>whnf)))
    (refine⟨⟨i+1,ws++[w],[]⟩,⟨⟨by show i+1≤_;omega,by show(ws++[w]).length≤i+1;simp;omega,Nat.zero_le _⟩,hH⟩,(by show _-(i+1)<_-i;omega),?_⟩;(conv=>whnf);refine⟨?_,?_,?_⟩<;>repeat(first|exact trivial|refine sc rfl ?_|refine kn ?_|refine kc rfl ?_|refine sc (by first|(simp only[hdec];rfl)|(show some (AV.slice 1 (ft ws++[aN (aK w)]) _)=some (AV.slice 1 (ft (ws++[w])) _);rw[mq])|(show some (some (1,(ft ws).length+1))=some (some (1,(ws++[w]).length));rw[hwl,List.length_append];rfl)) ?_|refine kc (by first|(simp only[hdec];rfl)|(show some (AV.slice 1 (ft ws++[aN (aK w)]) _)=some (AV.slice 1 (ft (ws++[w])) _);rw[mq])|(show some (some (1,(ft ws).length+1))=some (some (1,(ws++[w]).length));rw[hwl,List.length_append];rfl)) ?_))
   ·rw[if_neg h32]at H
    have hb32:¬b.toNat=32:=fun e=>h32 (UInt8.toNat_inj.1 e)
    by_cases hok:okB b=true
    ·rw[if_pos hok]at H
     have hcond:b.toNat=46∨(48≤b.toNat∧b.toNat≤57)∨(97≤b.toNat∧b.toNat≤122):=by
      unfold okB dt fD at hok
      simp at hok
      omega
     have hcat:=o8 w [b]
     conv=>whnf
     repeat(any_goals(first|exact ab|(refine ap ?_ ?_<;>intro _<;>first|exact aq|conv=>whnf)|((first|refine ac ?_|refine bi ?_ ?_|intro _)<;>conv=>whnf)))
     all_goals(try(exfalso;omega))
     all_goals
      refine⟨⟨i+1,ws,w++[b]⟩,⟨⟨by show i+1≤_;omega,by show ws.length≤i+1;omega,by show(w++[b]).length≤i+1;simp;omega⟩,H⟩,(by show _-(i+1)<_-i;omega),?_⟩
      conv=>whnf
      refine⟨ai (by show some (aN (aK w++Utf8.encode ((Utf8.decode s (i:Int).toNat).1:Int)))=some (aN (aK (w++[b])));rw[hcv, ←hcat];rfl) ?_,?_,?_⟩
      all_goals repeat(first|exact trivial|refine kn ?_|refine kc (by simp only[hdec];rfl) ?_|refine sc rfl ?_|refine kc rfl ?_)
    ·rw[if_neg hok]at H
     simp only[Option.map_none]at H
     have hcond:¬b.toNat=46∧¬(48≤b.toNat∧b.toNat≤57)∧¬(97≤b.toNat∧b.toNat≤122):=by
      unfold okB dt fD at hok
      simp at hok
      omega
     subst H
     conv=>whnf
     repeat(any_goals(first|exact ab|(refine ap ?_ ?_<;>intro _<;>first|exact aq|conv=>whnf)|((first|refine ac ?_|refine bi ?_ ?_|intro _)<;>conv=>whnf)))
     all_goals(try(exfalso;omega))
     all_goals(refine⟨⟨?_⟩,trivial⟩;rfl)
  ·have hdec:128≤(Utf8.decode s (i:Int).toNat).1:=by rw[Int.toNat_natCast];exact nI hb h128
   have hno:¬okB b=true:=by
    unfold okB dt fD
    simp
    omega
   rw[if_neg (fun e=>by subst e;exact h128 (by decide)),if_neg hno]at H
   simp only[Option.map_none]at H
   subst H
   conv=>whnf
   repeat(any_goals(first|exact ab|(refine ap ?_ ?_<;>intro _<;>first|exact aq|conv=>whnf)|((first|refine ac ?_|refine bi ?_ ?_|intro _)<;>conv=>whnf)))
   all_goals(try(exfalso;omega))
   all_goals(refine⟨⟨?_⟩,trivial⟩;rfl)
 ·have hdr:s.data.toList.drop i=[]:=List.drop_eq_nil_of_le (by omega)
  rw[hdr]at H
  simp only[bI,Option.map_some]at H
  subst H
  conv=>whnf
  repeat(any_goals(first|exact ab|(refine ap ?_ ?_<;>intro _<;>first|exact aq|conv=>whnf)|((first|refine ac ?_|refine bi ?_ ?_|intro _)<;>conv=>whnf)))
  (refine⟨⟨?_⟩,trivial⟩;exact congrArg (fun z=>AV.tuple [.slice 1 z .no,aB true]) (mq ws w).symm)
end Go.Proofs.YtgncapdjheghfaaGreatDoor
namespace Go.Proofs.YtgncapdjheghfaaGreatDoor
open Go.Am Go.Proofs Go
theorem Iv(x:Fig)(w:ByteArray):PureA Tryz.prog 122 [cD x,.cptr [aN w]] (aB (decide (x.name=w))):=by
 refine ae ar { l:=0,f:=122} mixed D1 Tryz.func122 (by kernel_rfl) ?_
 conv=>whnf
 (refine⟨⟨?_⟩,trivial⟩;rfl)
theorem Kd(l:List Fig)(w:ByteArray)(hl:l.length≤1048576):PureA Tryz.prog 89 [bu l,.func (.func 122) [] [.cptr [aN w]]] (aj (idx (fun x=>decide (x.name=w)) l)):=by
 refine ae ar { l:=0,f:=89} mixed Az Tryz.func89 (by kernel_rfl) ?_
 conv=>whnf
 refine aW ar { l:=0,f:=89} mixed (fun i:Nat=>[(8,aj i)]) (fun _=>[]) (fun _=>[]) (fun i=>i≤l.length∧idx (fun x:Fig=>decide (x.name=w)) l=b9 (fun x:Fig=>decide (x.name=w)) i (l.drop i)) (fun i=>l.length-i) 0 (by kernel_rfl)
  ⟨Nat.zero_le _,rfl⟩ ?_
 conv=>whnf
 refine⟨⟨ai rfl trivial,trivial,trivial⟩,?_⟩
 intro i ⟨hi,H⟩
 conv=>whnf
 refine bK (fun h1=>?_) (fun h1=>?_)
 ·simp only[List.length_map]at h1
  obtain⟨x,hx,hd⟩:=ay (l:=l) (i:=i) (by omega)
  have H':=ea hd H
  conv=>whnf
  repeat(any_goals(first|exact ab|(refine ap ?_ ?_<;>intro _<;>first|exact aq|conv=>whnf)|((first|refine ag hx rfl ?_|refine aa (Iv x w) ?_|refine ac ?_|refine bi ?_ ?_|intro _)<;>conv=>whnf)))
  ·rename_i he
   simp only[he,if_true]at H'
   (refine⟨⟨?_⟩,trivial⟩;simp[oneOf,aj,H'])
  ·rename_i he
   simp only[he,Bool.false_eq_true,if_false]at H'
   (refine⟨i+1,⟨by omega,H'⟩,by omega,?_⟩;(conv=>whnf);refine⟨?_,?_,?_⟩<;>repeat(first|exact trivial|refine sc rfl ?_|refine kn ?_|refine kc rfl ?_))
 ·conv=>whnf
  simp only[List.length_map]at h1
  have:i=l.length:=by omega
  subst this
  (refine⟨⟨?_⟩,trivial⟩;simp[oneOf,aj,H,b9])
theorem IP{w:Bs}{s:ByteArray}:s=aK w↔bytes s=w:=⟨fun e=>by rw[e,eN],fun e=>by rw[←e,yq]⟩
theorem Jd(s:Bill)(hl:s.figs.length≤6)(w:Bs):PureA Tryz.prog 121 [aN (aK w),.cptr [dk s]] (aj (s.whoAt w)):=by
 have h:=Kd s.figs (aK w) (by omega)
 have e:s.whoAt w=idx (fun x:Fig=>decide (x.name=aK w)) s.figs:=by
  unfold Bill.whoAt
  congr 1
  funext f
  rw[decide_eq_decide]
  exact IP.symm
 rw[e]
 generalize idx (fun x:Fig=>decide (x.name=aK w)) s.figs=n at *
 refine ae ar { l:=0,f:=121} mixed D0 Tryz.func121 (by kernel_rfl) ?_
 conv=>whnf
 repeat(any_goals(first|exact ab|(refine ap ?_ ?_<;>intro _<;>first|exact aq|conv=>whnf)|((first|refine aa h ?_|refine ah h rfl ?_|refine ac ?_|refine bi ?_ ?_|intro _)<;>conv=>whnf)))
 (refine⟨⟨?_⟩,trivial⟩;rfl)
def Iq:Option Ent→AV
 | none=> .tuple [bB ⟨0,0,0⟩,aB false]
 | some x=> .tuple [bB x,aB true]
theorem JX{α:Type}:(∀l:List α,l.length=5→∃a b c d e,l=[a,b,c,d,e])∧(∀l:List α,l.length=6→∃a b c d e f,l=[a,b,c,d,e,f])∧(∀l:List α,l.length=9→∃a b c d e f g h i,l=[a,b,c,d,e,f,g,h,i]):=by
 refine⟨fun l h=>?_,fun l h=>?_,fun l h=>?_⟩
 ·match l,h with
  | [a,b,c,d,e],_=>exact⟨_,_,_,_,_,rfl⟩
 ·match l,h with
  | [a,b,c,d,e,f],_=>exact⟨_,_,_,_,_,_,rfl⟩
 ·match l,h with
  | [a,b,c,d,e,f,g,h,i],_=>exact⟨_,_,_,_,_,_,_,_,_,rfl⟩
theorem Ka(s:Bill)(hl:s.figs.length≤6)(ws:List Bs)(hn:ws.length≤1048576):PureA Tryz.prog 84 [dk s,.slice 1 (ft ws) .no] (Iq (s.readE ws)):=by
 have hw:=Jd s hl
 obtain⟨l5,l6,l9⟩:=JX (α:=Bs)
 have his:∀{b:Bs},¬b=wIs→¬aK b=(⟨#[105,115]⟩:ByteArray):=fun {b} h e=>h (by rw[←eN b,e];rfl)
 have hma:∀{b:Bs},¬b=zT→¬aK b=(⟨#[109,97,121]⟩:ByteArray):=fun {b} h e=>h (by rw[←eN b,e];rfl)
 by_cases h5:ws.length=5
 ·obtain⟨a,b,c,d,e,rfl⟩:=l5 ws h5
  by_cases hb:b=wIs
  ·subst hb
   have hwc:=hw c
   rw[show s.readE [a,wIs,c,d,e]=some ⟨0,s.whoAt c,0⟩from rfl]
   generalize s.whoAt c=n at *
   refine ae ar { l:=0,f:=84} mixed ju Tryz.func84 (by kernel_rfl) ?_
   conv=>whnf
   repeat(any_goals(first|exact ab|(refine ap ?_ ?_<;>intro _<;>first|exact aq|conv=>whnf)|((first|refine cg (decide_eq_true rfl) ?_|refine aa hwc ?_|refine ah hwc rfl ?_|refine ac ?_|refine bi ?_ ?_|intro _)<;>conv=>whnf)))
   (refine⟨⟨?_⟩,trivial⟩;rfl)
  ·have hb':=his hb
   rw[show s.readE [a,b,c,d,e]=none by unfold Bill.readE;simp[hb]]
   refine ae ar { l:=0,f:=84} mixed ju Tryz.func84 (by kernel_rfl) ?_
   conv=>whnf
   repeat(any_goals(first|exact ab|(refine ap ?_ ?_<;>intro _<;>first|exact aq|conv=>whnf)|((first|refine ac ?_|refine bi ?_ ?_|intro _)<;>conv=>whnf)))
   all_goals(try(exact absurd (by assumption) hb'))
   all_goals(refine⟨⟨?_⟩,trivial⟩;rfl)
 ·by_cases h9:ws.length=9
  ·obtain⟨a,b,c,d,e,f,g,h,i,rfl⟩:=l9 ws h9
   by_cases hb:b=wIs
   ·subst hb
    have hwc:=hw c
    have hwg:=hw g
    rw[show s.readE [a,wIs,c,d,e,f,g,h,i]=some ⟨1,s.whoAt c,s.whoAt g⟩from rfl]
    generalize s.whoAt c=n at *
    generalize s.whoAt g=m at *
    refine ae ar { l:=0,f:=84} mixed ju Tryz.func84 (by kernel_rfl) ?_
    conv=>whnf
    repeat(any_goals(first|exact ab|(refine ap ?_ ?_<;>intro _<;>first|exact aq|conv=>whnf)|((first|refine cg (decide_eq_true rfl) ?_|refine aa hwc ?_|refine ah hwc rfl ?_|refine aa hwg ?_|refine ah hwg rfl ?_|refine ac ?_|refine bi ?_ ?_|intro _)<;>conv=>whnf)))
    (refine⟨⟨?_⟩,trivial⟩;rfl)
   ·have hb':=his hb
    rw[show s.readE [a,b,c,d,e,f,g,h,i]=none by unfold Bill.readE;simp[hb]]
    refine ae ar { l:=0,f:=84} mixed ju Tryz.func84 (by kernel_rfl) ?_
    conv=>whnf
    repeat(any_goals(first|exact ab|(refine ap ?_ ?_<;>intro _<;>first|exact aq|conv=>whnf)|((first|refine ac ?_|refine bi ?_ ?_|intro _)<;>conv=>whnf)))
    all_goals(try(exact absurd (by assumption) hb'))
    all_goals(refine⟨⟨?_⟩,trivial⟩;rfl)
  ·by_cases h6:ws.length=6
   ·obtain⟨a,b,c,d,e,f,rfl⟩:=l6 ws h6
    by_cases hb:b=zT
    ·subst hb
     have hwd:=hw d
     rw[show s.readE [a,zT,c,d,e,f]=some ⟨2,s.whoAt d,0⟩from rfl]
     generalize s.whoAt d=n at *
     refine ae ar { l:=0,f:=84} mixed ju Tryz.func84 (by kernel_rfl) ?_
     conv=>whnf
     repeat(any_goals(first|exact ab|(refine ap ?_ ?_<;>intro _<;>first|exact aq|conv=>whnf)|((first|refine cg (decide_eq_true rfl) ?_|refine aa hwd ?_|refine ah hwd rfl ?_|refine ac ?_|refine bi ?_ ?_|intro _)<;>conv=>whnf)))
     (refine⟨⟨?_⟩,trivial⟩;rfl)
    ·have hb':=hma hb
     rw[show s.readE [a,b,c,d,e,f]=none by unfold Bill.readE;simp[hb]]
     refine ae ar { l:=0,f:=84} mixed ju Tryz.func84 (by kernel_rfl) ?_
     conv=>whnf
     repeat(any_goals(first|exact ab|(refine ap ?_ ?_<;>intro _<;>first|exact aq|conv=>whnf)|((first|refine ac ?_|refine bi ?_ ?_|intro _)<;>conv=>whnf)))
     all_goals(try(exact absurd (by assumption) hb'))
     all_goals(refine⟨⟨?_⟩,trivial⟩;rfl)
   ·have hlen:(ft ws).length=ws.length:=List.length_map ..
    rw[show s.readE ws=none by unfold Bill.readE;simp[h5,h9,h6]]
    refine ae ar { l:=0,f:=84} mixed ju Tryz.func84 (by kernel_rfl) ?_
    conv=>whnf
    repeat(any_goals(first|exact ab|(refine ap ?_ ?_<;>intro _<;>first|exact aq|conv=>whnf)|((first|refine ac ?_|refine bi ?_ ?_|intro _)<;>conv=>whnf)))
    (refine⟨⟨?_⟩,trivial⟩;rfl)
end Go.Proofs.YtgncapdjheghfaaGreatDoor
namespace Go.Proofs.YtgncapdjheghfaaGreatDoor
open Go.Am Go.Proofs Go
theorem mT(r:Bs)(a b:Nat):(aK r).extract a b=aK ((r.drop a).take (b-a)):=by
 refine fG ?_
 unfold bytes
 rw[ByteArray.data_extract,Array.toList_extract]
 simp[aK,List.extract_eq_take_drop]
theorem Fb(r:Bs)(n:Nat)(hn:n≤r.length)(w:World):(Instr.sliceAt 9 (.string (aK r)) none (some (.int .i64 n)) none).run Tryz.prog w = .ok (.string (aK (r.take n))) w:=by
 rw[run_sliceAt_string w 9 _ _ _ _ Tryz.underlying9]
 have hs:(aK r).size=r.length:=rfl
 simp[Instr.slice,run_underlying Tryz.underlying9,Instr.sliceBounds,run_sliceBound,hs,hn]
 rw[mT];simp
theorem E9(r:Bs)(n:Nat)(hn:n≤r.length)(w:World):(Instr.sliceAt 9 (.string (aK r)) (some (.int .i64 n)) none none).run Tryz.prog w = .ok (.string (aK (r.drop n))) w:=by
 rw[run_sliceAt_string w 9 _ _ _ _ Tryz.underlying9]
 have hs:(aK r).size=r.length:=rfl
 simp[Instr.slice,run_underlying Tryz.underlying9,Instr.sliceBounds,run_sliceBound,hs,hn]
 rw[mT,List.take_of_length_le (by simp)]
inductive RowsOk:List Bs→Prop where
 | nil:RowsOk []
 | row (w:Bs) (rs:List Bs) (h:(10:UInt8)∉w) (k:RowsOk rs):RowsOk ((w++[10])::rs)
 | last (w:Bs) (h:(10:UInt8)∉w) (h0:w≠[]):RowsOk [w]
def fZ(r:Bs):Bs:=Lib.trimSuffix r [10]
theorem Fo(w:Bs):fZ (w++[10])=w:=by
 unfold fZ Lib.trimSuffix Lib.hasSuffix
 rw[if_pos (by simp)]
 simp
theorem CI{w:Bs}(h:(10:UInt8)∉w):fZ w=w:=by
 unfold fZ Lib.trimSuffix Lib.hasSuffix
 rw[if_neg]
 intro hs
 rw[List.isSuffixOf_iff_suffix]at hs
 obtain⟨a,ha⟩:=hs
 exact h (by rw[←ha];simp)
theorem yO{w:Bs}(h:(10:UInt8)∉w):∀cur:Bs,fK cur w=if cur++w=[]then []else [cur++w]:=by
 induction w with
 | nil=>intro cur;simp[fK]
 | cons b w ih =>
  intro cur
  simp only[List.mem_cons,not_or]at h
  show(if b=10 then cur::fK [] w else fK (cur++[b]) w)=_
  rw[if_neg (fun e=>h.1 e.symm),ih h.2]
  simp
theorem ql:∀{rs:List Bs},RowsOk rs→fK [] rs.flatten=rs.map fZ
 | _,.nil=>rfl
 | _,.row w rs h k=>by
  rw[List.flatten_cons,List.append_assoc,List.singleton_append,jz w [] _ h,ql k,List.map_cons,Fo,List.nil_append]
 | _,.last w h h0=>by
  simp only[List.flatten_cons,List.flatten_nil,List.append_nil,List.map_cons,List.map_nil]
  rw[yO h,CI h,if_neg (by simpa using h0),List.nil_append]
theorem Ch:∀(n:Nat) (t:Bs),t.length≤n→∃rs,RowsOk rs∧rs.flatten=t
 | 0,t,h=>⟨[],.nil,by rw[List.length_eq_zero_iff.1 (Nat.le_zero.1 h)];rfl⟩
 | n+1,t,h=>by
  by_cases h0:t=[]
  ·exact⟨[],.nil,by rw[h0];rfl⟩
  ·by_cases hm:(10:UInt8)∈t
   ·obtain⟨a,b,hab,ha⟩:∃a b,t=a++10::b∧(10:UInt8)∉a:=by
     clear h h0
     induction t with
     | nil=>simp at hm
     | cons x t ih =>
      by_cases hx:x=10
      ·exact⟨[],t,by rw[hx];rfl,by simp⟩
      ·have hm':(10:UInt8)∈t:=by
        rcases List.mem_cons.1 hm with e|e
        ·exact absurd e.symm hx
        ·exact e
       obtain⟨a,b,e,h1⟩:=ih hm'
       exact⟨x::a,b,by rw[e];rfl,by simp only[List.mem_cons,not_or];exact⟨fun e=>hx e.symm,h1⟩⟩
    obtain⟨rs,h1,h2⟩:=Ch n b (by rw[hab,List.length_append,List.length_cons]at h;omega)
    exact⟨(a++[10])::rs,.row a rs ha h1,by rw[List.flatten_cons,h2,hab];simp⟩
   ·exact⟨[t],.last t hm h0,by simp⟩
theorem s7:∀(w rest:Bs),(10:UInt8)∉w→Lib.indexByte (w++10::rest) 10=(w.length:Int)
 | [],rest,_=>rfl
 | b::w,rest,h=>by
  simp only[List.mem_cons,not_or]at h
  have ih:=s7 w rest h.2
  show(if(b==10)=true then(0:Int)else if(Lib.indexByte (w++10::rest) 10== -1)=true then -1 else Lib.indexByte (w++10::rest) 10+1)=_
  rw[if_neg (by simpa using fun e=>h.1 e.symm),ih,if_neg (by simp)]
  simp
theorem pU:∀(w:Bs),(10:UInt8)∉w→Lib.indexByte w 10 = -1
 | [],_=>rfl
 | b::w,h=>by
  simp only[List.mem_cons,not_or]at h
  have ih:=pU w h.2
  show(if(b==10)=true then(0:Int)else if(Lib.indexByte w 10== -1)=true then -1 else Lib.indexByte w 10+1) = -1
  rw[if_neg (by simpa using fun e=>h.1 e.symm),ih]
  rfl
theorem AZ(s:ByteArray)(c:Nat):PureA Tryz.prog 119 [aN s,.v (.int .u8 c)] (aj (Lib.indexByte s.data.toList (c:Int).toNat.toUInt8)):=by
 have h:=vF s c
 generalize Lib.indexByte s.data.toList (c:Int).toNat.toUInt8=n at *
 refine ae ar { l:=0,f:=119} mixed DZ Tryz.func119 (by kernel_rfl) ?_
 conv=>whnf
 repeat(any_goals(first|exact ab|(refine ap ?_ ?_<;>intro _<;>first|exact aq|conv=>whnf)|((first|refine aa h ?_|refine ac ?_|refine bi ?_ ?_|intro _)<;>conv=>whnf)))
 (refine⟨⟨?_⟩,trivial⟩;rfl)
def Bill.lineE(s:Bill)(w:Bs):Option (Option Ent):=match bI [] w with
 | none=>none
 | some ws=>if gR ws=true then some none else match s.readE ws with
  | none=>none
  | some x=>some (some x)
theorem v6(s:Bill)(w:Bs)(ls:List Bs):s.parseW (w::ls)=match s.lineE w with
  | none=>none
  | some o=>match s.parseW ls with
   | none=>none
   | some l=>some (o.toList++l):=by
 show(match bI [] w with
  | none=>none
  | some ws=>if gR ws=true then s.parseW ls else match s.readE ws with
   | none=>none
   | some x=>(s.parseW ls).map (x:: ·))=_
 unfold Bill.lineE
 cases bI [] w with
 | none=>rfl
 | some ws =>
  simp only
  by_cases hk:gR ws=true
  ·rw[if_pos hk,if_pos hk]
   cases s.parseW ls<;>rfl
  ·rw[if_neg hk,if_neg hk]
   cases s.readE ws with
   | none=>rfl
   | some x=>cases s.parseW ls<;>rfl
theorem ul:∀{l w:Bs} {ws:List Bs},bI w l=some ws→ws≠[]
 | [],w,ws,h=>by cases h;simp
 | b::l,w,ws,h=>by
  rw[jN]at h
  split at h
  ·cases hs:bI [] l with
   | none=>rw[hs]at h;cases h
   | some vs=>rw[hs]at h;cases h;simp
  ·split at h
   ·exact ul h
   ·cases h
theorem mh:∀{l w:Bs} {ws:List Bs},bI w l=some ws→ws.length≤l.length+1
 | [],w,ws,h=>by cases h;simp
 | b::l,w,ws,h=>by
  rw[jN]at h
  split at h
  ·cases hs:bI [] l with
   | none=>rw[hs]at h;cases h
   | some vs=>rw[hs]at h;cases h;have:=mh hs;simp;omega
  ·split at h
   ·have:=mh h;simp;omega
   ·cases h
end Go.Proofs.YtgncapdjheghfaaGreatDoor
namespace Go.Proofs.YtgncapdjheghfaaGreatDoor
open Go.Am Go.Proofs Go
def kLr:Key:=({ l:=0,f:=34}:Cx).loopKey #[26]
def kRt:Key:=⟨0,34,4⟩
def kRe:Key:=⟨0,34,5⟩
def kRs:Key:=⟨0,34,6⟩
def kRx:Key:=⟨0,34,10⟩
def kRl:Key:=⟨0,34,56⟩
def kLn:Key:=⟨0,81,1⟩
structure RS where
 l:List Ent
 st:Nat
def JY:List Ent→AV
 | []=> .slice 0 [] .tight
 | x::l=> .own kRl (l.length+1) 3 (l.length+1) 0
def lstS:List Ent→jr
 | []=>(0,none)
 | x::l=>(l.length+1,some (3,(x::l).map bB))
def KS:List Ent→List cn
 | []=>[]
 | x::l=>[(kRl,l.length+1,3,(x::l).map bB)]
def yL(x:Ent):List Ent→Ent
 | []=>x
 | y::l=>yL y l
def curS:RS→jr
 | ⟨l,2⟩=>(l.length+1,some (3,[bB ⟨0,0,0⟩]))
 | ⟨[],_⟩=>(0,none)
 | ⟨x::l,_⟩=>(l.length+1,some (3,[bB (yL x l)]))
def KM:RS→List cn
 | ⟨l,2⟩=>[(kRx,l.length+1,3,[bB ⟨0,0,0⟩])]
 | ⟨[],_⟩=>[]
 | ⟨x::l,_⟩=>[(kRx,l.length+1,3,[bB (yL x l)])]
def yH(s:Bill)(r:Rec)(done:Bool)(l:AV)(e:Int):List cn:=[r.box kLr #[26] done,(kRt,1,1,[l]),(kRe,1,1,[aj e]),(kRs,1,1,[.ptr cq 1 5 0 0]),cW s]
def ID(s:Bill)(r:Rec)(u:RS):List cn :=
 (match u.st with
 | 0=>yH s r false (JY u.l) 0
 | _=>yH s r true (.slice 0 [] .tight) 6)++(KS u.l++KM u)
def Bill.stepM(s:Bill)(l:List Ent)(r:Bs):RS:=match bI [] (fZ r)with
 | none=>⟨l,1⟩
 | some ws=>if gR ws=true then⟨l,0⟩else match s.readE ws with
  | none=>⟨l,2⟩
  | some x=>⟨l++[x],0⟩
def Bill.readM(s:Bill):List Bs→List Ent→RS×List Bs
 | [],l=>(⟨l,0⟩,[])
 | r::rs,l=>if(s.stepM l r).st=0 then s.readM rs (s.stepM l r).l else(s.stepM l r,rs)
theorem jH(s:Bill):∀(rs:List Bs) (l:List Ent),match s.parseW (rs.map fZ)with
  | none=>(s.readM rs l).1.st=1∨(s.readM rs l).1.st=2
  | some m=>s.readM rs l=(⟨l++m,0⟩,[])
 | [],l=>by show(⟨l,0⟩,[])=((⟨l++[],0⟩,[]):RS×List Bs);rw[List.append_nil]
 | r::rs,l=>by
  rw[List.map_cons,v6]
  unfold Bill.lineE
  show match(match(match bI [] (fZ r)with
   | none=>none
   | some ws=>if gR ws=true then some none else match s.readE ws with
    | none=>none
    | some x=>some (some x))with
   | none=>none
   | some o=>match s.parseW (rs.map fZ)with
    | none=>none
    | some l=>some (o.toList++l))with
   | none=>((if(s.stepM l r).st=0 then s.readM rs (s.stepM l r).l else(s.stepM l r,rs)):RS×List Bs).1.st=1∨((if(s.stepM l r).st=0 then s.readM rs (s.stepM l r).l else(s.stepM l r,rs)):RS×List Bs).1.st=2
   | some m=>(if(s.stepM l r).st=0 then s.readM rs (s.stepM l r).l else(s.stepM l r,rs))=(⟨l++m,0⟩,[])
  unfold Bill.stepM
  cases bI [] (fZ r)with
  | none=>exact .inl rfl
  | some ws =>
   simp only
   by_cases hk:gR ws=true
   ·rw[if_pos hk]
    simp only[if_pos hk,if_true]
    have:=jH s rs l
    cases hp:s.parseW (rs.map fZ)with
    | none=>rw[hp]at this;simpa using this
    | some m=>rw[hp]at this;simpa using this
   ·rw[if_neg hk]
    simp only[if_neg hk]
    cases s.readE ws with
    | none=>exact .inr rfl
    | some x =>
     simp only[if_true]
     have:=jH s rs (l++[x])
     cases hp:s.parseW (rs.map fZ)with
     | none=>rw[hp]at this;simpa using this
     | some m=>rw[hp]at this;simpa using this
theorem yN(t:ByteArray):BoxA Tryz.prog (.fn 81) [] [aN t] (.func (.func 118) [] [.ptr kLn 1 1 0 0]) [(kLn,1,1,[aN t])]:=by
 refine aL ar { l:=0,f:=81} mixed He Tryz.func81 (by kernel_rfl) ?_
 conv=>whnf
 repeat(any_goals(first|exact ab|(refine ap ?_ ?_<;>intro _<;>first|exact aq|conv=>whnf)|((first|refine ac ?_|refine bi ?_ ?_|intro _)<;>conv=>whnf)))
 refine And.intro ?_ ?_
 ·conv=>whnf
  refine⟨⟨?_⟩,trivial⟩
  rfl
 ·repeat(first|exact trivial|refine And.intro rfl ?_|refine And.intro (by skip) ?_)
theorem Ag{P:Program}{T:Tab}(hT:T.Ok P)(cx:Cx)(hm:P.follows .mixedOrders=true){f:FuncId}{fn:Func}{pre:List cn}{bov:List (Key×Option jr)}{post:List cn}{args:List AV}{res:AV}
  (hlook:∀k,cy pre k=match bf bov k with
   | some (some c)=>c
   | _=>(0,none))
  (hc:ak P f) (hf:P.funcs[f]?=some fn) (hok:Gg fn args.length=true)
  (h:yl P T cx fn res post ⟨cI 0 args,bov,[]⟩) (hrd:cx.rd=false:=by rfl):BoxA P (.fn f) pre args res post:=by
 have kn:Knows ⟨cI 0 args,bov,[]⟩ (dW pre args):={
  slot:=fun i v h=>by
   have:=(dh args 0 i v h).2
   simp only[Nat.sub_zero]at this
   simp[dW,List.getD,this]
  box:=fun k=>by
   have:=hlook k
   split
   ·rename_i c hc;simp only[dW,this,hc]
   ·trivial
   ·rename_i hc;simp only[dW,this,hc]
  tk:=fun k=>rfl}
 unfold yl at h
 unfold Gg at hok
 split at h
 ·rename_i c hb
  rw[hb]at hok
  simp only[Bool.and_eq_true,decide_eq_true_eq]at hok
  refine uO hc hf hb (by rw[hok.1.2,decide_eq_true hok.1.1];rfl) (hrd▸bD cx hm c hok.2 (bO cx c (fun e S'=>?_) (bC hT cx c kn h)))
  rintro⟨ss',h1,h2⟩
  have key:((wL T fn.results.toList fun l=> .lst l fun l=> .need (Res res (oneOf l)) (Classical.propDecidable _) (.done [])).ev P ss' (fun _ _=>True)∧vY ss' fun _ bx _=>db (0,none) bx (rJ post)) →
    Jp P fn S' res∧∀p∈post,S'.box p.1=(p.2.1,some (p.2.2.1,p.2.2.2)):=by
   rintro⟨h,hk⟩
   have h:=RB.ev_rm h1 _ h
   have h:=iz (rs:=fn.results.toList) (k':=fun l=> .need (res=oneOf l) (.done [])) hT (fun l=>ax fun hr=>aC hr.eq (au _)) _ _ h
   have h:=RM.wp_wp0 _ h
   exact⟨RM.wp0_mono _ h fun _ _=>trivial,e5 h1.box hk⟩
  cases e with
  | normal=>exact⟨.inl rfl,key h2⟩
  | ret=>exact⟨.inr rfl,key h2⟩
  | _=>exact h2.elim
 ·exact h.elim
end Go.Proofs.YtgncapdjheghfaaGreatDoor
namespace Go.Proofs.YtgncapdjheghfaaGreatDoor
open Go.Am Go.Proofs Go
def dg(s:Bill)(r:Rec)(t:Bs)(u:RS):List cn:=(kLn,1,1,[aN (aK t)])::ID s r u
def KL(s:Bill)(r:Rec)(t:Bs)(l:List Ent):List (Key×Option jr) :=
 rJ ((kLn,1,1,[aN (aK t)])::yH s r false (JY l) 0)++[(kRl,some (lstS l)),(kRx,some (curS ⟨l,0⟩))]
theorem Af(s:Bill)(r:Rec)(t:Bs)(l:List Ent)(k:Key):cy (dg s r t ⟨l,0⟩) k=match bf (KL s r t l) k with
  | some (some c)=>c
  | _=>(0,none):=by
 rw[kV]
 cases l with
 | nil=>exact((fM kRx k _).trans (fM kRl k (rJ (dg s r t ⟨[],0⟩)))).symm
 | cons x l=>rfl
theorem jQ(s:Bill)(l:List Ent)(r:Bs):s.stepM l r=⟨l,1⟩∨s.stepM l r=⟨l,0⟩∨s.stepM l r=⟨l,2⟩∨∃x,s.stepM l r=⟨l++[x],0⟩:=by
 unfold Bill.stepM
 split
 ·exact .inl rfl
 ·split
  ·exact .inr (.inl rfl)
  ·split
   ·exact .inr (.inr (.inl rfl))
   ·exact .inr (.inr (.inr ⟨_,rfl⟩))
theorem ma(s:Bill)(r:Bs)(rs:List Bs)(l:List Ent):s.readM (r::rs) l=if(s.stepM l r).st=0 then s.readM rs (s.stepM l r).l else(s.stepM l r,rs):=rfl
theorem Ca(s:Bill)(l:List Ent):s.readM [] l=(⟨l,0⟩,[]):=rfl
structure LnSt where
 rs:List Bs
 l:List Ent
set_option maxHeartbeats 8000000 in
theorem Bj(s:Bill)(r:Rec)(hl:∀(t:Bs) (u:RS),fY (aI (dg s r t u)) r.l=r.l)
  (hy:∀(t:Bs) (l:List Ent) (row:Bs),row.length≤800→l.length≤800→BoxA Tryz.prog (.yld kLr r.g) (dg s r t ⟨l,0⟩) [aN (aK row)] (aB (decide ((s.stepM l row).st=0))) (dg s r t (s.stepM l row)))
  (rs:List Bs) (hok:RowsOk rs) (hsz:rs.flatten.length≤800) :
  BoxA Tryz.prog (.fn 118) (dg s r rs.flatten ⟨[],0⟩) [.yld kLr r.g,.ptr kLn 1 1 0 0] (.tuple []) (dg s r (s.readM rs []).2.flatten (s.readM rs []).1):=by
 obtain⟨Z,hZ⟩:∃Z,s.readM rs []=Z:=⟨_,rfl⟩
 rw[hZ]
 obtain⟨rg,ra,rb,rl⟩:=r
 simp only at hl hy
 refine Ag (bov:=KL s ⟨rg,ra,rb,rl⟩ rs.flatten []) ar { l:=0,f:=118} mixed (Af s _ _ []) DY Tryz.func118 (by kernel_rfl) ?_
 conv=>whnf
 refine aW ar { l:=0,f:=118} mixed (fun _:LnSt=>[]) (fun u=>KL s ⟨rg,ra,rb,rl⟩ u.rs.flatten u.l) (fun _=>[]) (fun u=>RowsOk u.rs∧u.l.length+u.rs.flatten.length≤800∧s.readM u.rs u.l=Z) (fun u=>u.rs.length) (⟨rs,[]⟩:LnSt) (by kernel_rfl)
  ⟨hok,by show 0+rs.flatten.length≤800;omega,hZ⟩ ?_
 conv=>whnf
 refine⟨⟨trivial,?_,trivial⟩,?_⟩
 ·repeat(first|exact trivial|refine kc rfl ?_|refine bU rfl ?_)
 clear hok hsz hZ
 rintro⟨rs,l⟩ ⟨hok,hsz,HZ⟩
 simp only at hok hsz HZ
 cases hok with
 | nil =>
  rw[Ca]at HZ
  subst HZ
  clear hy
  cases l with
  | nil =>
   conv=>whnf
   repeat(any_goals(first|exact ab|(refine ap ?_ ?_<;>intro _<;>first|exact aq|conv=>whnf)|((first|refine ac ?_|refine bi ?_ ?_|intro _)<;>conv=>whnf)))
   refine And.intro ?_ ?_
   ·conv=>whnf
    refine⟨⟨?_⟩,trivial⟩
    rfl
   ·repeat(first|exact trivial|refine And.intro rfl ?_|refine And.intro (by first|exact(congrArg (fun z=>some (some (rg,some (0,[AV.lp .ready none #[26] ra rb z])))) (hl _ _))|rfl) ?_)
  | cons y l =>
   conv=>whnf
   repeat(any_goals(first|exact ab|(refine ap ?_ ?_<;>intro _<;>first|exact aq|conv=>whnf)|((first|refine ac ?_|refine bi ?_ ?_|intro _)<;>conv=>whnf)))
   refine And.intro ?_ ?_
   ·conv=>whnf
    refine⟨⟨?_⟩,trivial⟩
    rfl
   ·repeat(first|exact trivial|refine And.intro rfl ?_|refine And.intro (by first|exact(congrArg (fun z=>some (some (rg,some (0,[AV.lp .ready none #[26] ra rb z])))) (hl _ _))|rfl) ?_)
 | row w rs h10 hrs =>
  obtain⟨T,hT0⟩:∃T,((w++[10])::rs).flatten=T:=⟨_,rfl⟩
  rw[hT0]at hsz ⊢
  have hT:T=w++10::rs.flatten:=by rw[←hT0];simp
  have hTl:T.length=w.length+1+rs.flatten.length:=by rw[hT];simp;omega
  have hidx:=AZ (aK T) 10
  rw[show Lib.indexByte (aK T).data.toList ((10:Nat):Int).toNat.toUInt8=(w.length:Int) by show Lib.indexByte T 10=_;rw[hT];exact s7 w _ h10]at hidx
  have hs1:=Fb T (w.length+1) (by omega)
  rw[show T.take (w.length+1)=w++[10] by rw[hT,show w++10::rs.flatten=(w++[10])++rs.flatten by simp];exact List.take_left' (by simp)]at hs1
  have hs2:=E9 T (w.length+1) (by omega)
  rw[show T.drop (w.length+1)=rs.flatten by rw[hT,show w++10::rs.flatten=(w++[10])++rs.flatten by simp];exact List.drop_left' (by simp)]at hs2
  rw[show((w.length+1:Nat):Int)=(w.length:Int)+1 by omega]at hs1 hs2
  have hTs:(aK T).size=T.length:=rfl
  have h256:(aK T).size=w.length+1+rs.flatten.length:=hTl
  have hy:=hy (rs.flatten) (l) (w++[10]) (by(try simp only[List.length_append,List.length_cons,List.length_nil]);omega) (by omega)
  have hY:BoxA Tryz.prog (.yld kLr rg) (dg s ⟨rg,ra,rb,fY (aI (dg s ⟨rg,ra,rb,rl⟩ (rs.flatten) ⟨l,0⟩)) rl⟩ (rs.flatten) ⟨l,0⟩) [aN (aK (w++[10]))] (aB (decide ((s.stepM (l) (w++[10])).st=0))) (dg s ⟨rg,ra,rb,rl⟩ (rs.flatten) (s.stepM (l) (w++[10]))):=by
   have e:=hl (rs.flatten) ⟨l,0⟩
   rw[e];exact hy
  clear hy
  rw[ma]at HZ
  obtain⟨R0,hR0⟩:∃R0,w++[10]=R0:=⟨_,rfl⟩
  rw[hR0]at hY HZ hs1
  clear hT hT0 h10
  rcases jQ s l R0 with e|e|e|⟨x,e⟩
  ·rw[e]at hY HZ
   rw[if_neg (by simp)]at HZ
   subst HZ
   cases l with
   | nil =>
    conv=>whnf
    repeat(any_goals(first|exact ab|(refine ap ?_ ?_<;>intro _<;>first|exact aq|conv=>whnf)|((first|refine aa hidx ?_|refine ah hidx rfl ?_|refine ac ?_|refine bi ?_ ?_|intro _)<;>conv=>whnf)))
    refine⟨_,hs1,?_⟩
    conv=>whnf
    repeat(any_goals(first|exact ab|(refine ap ?_ ?_<;>intro _<;>first|exact aq|conv=>whnf)|((first|refine aa hidx ?_|refine ah hidx rfl ?_|refine ac ?_|refine bi ?_ ?_|intro _)<;>conv=>whnf)))
    refine⟨_,hs2,?_⟩
    conv=>whnf
    repeat(any_goals(first|exact ab|(refine ap ?_ ?_<;>intro _<;>first|exact aq|conv=>whnf)|((first|refine aa hidx ?_|refine ah hidx rfl ?_|refine ac ?_|refine bi ?_ ?_|intro _)<;>conv=>whnf)))
    refine⟨aI (dg s ⟨rg,ra,rb,rl⟩ (rs.flatten) ⟨[],0⟩),?_⟩
    conv=>whnf
    repeat(refine af (aA _ _) ?_<;>(conv=>whnf))
    refine⟨_,_,hY,?_⟩
    conv=>whnf
    repeat(refine af (aA _ _) ?_<;>(conv=>whnf))
    repeat(any_goals(first|exact ab|(refine ap ?_ ?_<;>intro _<;>first|exact aq|conv=>whnf)|((first|refine aa hidx ?_|refine ah hidx rfl ?_|refine ac ?_|refine bi ?_ ?_|intro _)<;>conv=>whnf)))
    refine And.intro ?_ ?_
    ·conv=>whnf
     exact⟨⟨rfl⟩,trivial⟩
    ·rw[b7]
     repeat(first|exact trivial|refine kc rfl ?_|refine kc (congrArg (fun z=>some (some (rg,some (0,[AV.lp .done (some .ret) #[26] ra rb z])))) (hl _ _)) ?_)
   | cons y l =>
    conv=>whnf
    repeat(any_goals(first|exact ab|(refine ap ?_ ?_<;>intro _<;>first|exact aq|conv=>whnf)|((first|refine aa hidx ?_|refine ah hidx rfl ?_|refine ac ?_|refine bi ?_ ?_|intro _)<;>conv=>whnf)))
    refine⟨_,hs1,?_⟩
    conv=>whnf
    repeat(any_goals(first|exact ab|(refine ap ?_ ?_<;>intro _<;>first|exact aq|conv=>whnf)|((first|refine aa hidx ?_|refine ah hidx rfl ?_|refine ac ?_|refine bi ?_ ?_|intro _)<;>conv=>whnf)))
    refine⟨_,hs2,?_⟩
    conv=>whnf
    repeat(any_goals(first|exact ab|(refine ap ?_ ?_<;>intro _<;>first|exact aq|conv=>whnf)|((first|refine aa hidx ?_|refine ah hidx rfl ?_|refine ac ?_|refine bi ?_ ?_|intro _)<;>conv=>whnf)))
    refine⟨aI (dg s ⟨rg,ra,rb,rl⟩ (rs.flatten) ⟨(y::l),0⟩),?_⟩
    conv=>whnf
    repeat(refine af (aA _ _) ?_<;>(conv=>whnf))
    refine⟨_,_,hY,?_⟩
    conv=>whnf
    repeat(refine af (aA _ _) ?_<;>(conv=>whnf))
    repeat(any_goals(first|exact ab|(refine ap ?_ ?_<;>intro _<;>first|exact aq|conv=>whnf)|((first|refine aa hidx ?_|refine ah hidx rfl ?_|refine ac ?_|refine bi ?_ ?_|intro _)<;>conv=>whnf)))
    refine And.intro ?_ ?_
    ·conv=>whnf
     exact⟨⟨rfl⟩,trivial⟩
    ·rw[b7]
     repeat(first|exact trivial|refine kc rfl ?_|refine kc (congrArg (fun z=>some (some (rg,some (0,[AV.lp .done (some .ret) #[26] ra rb z])))) (hl _ _)) ?_)
  ·rw[e]at hY HZ
   rw[if_pos rfl]at HZ
   cases l with
   | nil =>
    conv=>whnf
    repeat(any_goals(first|exact ab|(refine ap ?_ ?_<;>intro _<;>first|exact aq|conv=>whnf)|((first|refine aa hidx ?_|refine ah hidx rfl ?_|refine ac ?_|refine bi ?_ ?_|intro _)<;>conv=>whnf)))
    refine⟨_,hs1,?_⟩
    conv=>whnf
    repeat(any_goals(first|exact ab|(refine ap ?_ ?_<;>intro _<;>first|exact aq|conv=>whnf)|((first|refine aa hidx ?_|refine ah hidx rfl ?_|refine ac ?_|refine bi ?_ ?_|intro _)<;>conv=>whnf)))
    refine⟨_,hs2,?_⟩
    conv=>whnf
    repeat(any_goals(first|exact ab|(refine ap ?_ ?_<;>intro _<;>first|exact aq|conv=>whnf)|((first|refine aa hidx ?_|refine ah hidx rfl ?_|refine ac ?_|refine bi ?_ ?_|intro _)<;>conv=>whnf)))
    refine⟨aI (dg s ⟨rg,ra,rb,rl⟩ (rs.flatten) ⟨[],0⟩),?_⟩
    conv=>whnf
    repeat(refine af (aA _ _) ?_<;>(conv=>whnf))
    refine⟨_,_,hY,?_⟩
    conv=>whnf
    repeat(refine af (aA _ _) ?_<;>(conv=>whnf))
    repeat(any_goals(first|exact ab|(refine ap ?_ ?_<;>intro _<;>first|exact aq|conv=>whnf)|((first|refine aa hidx ?_|refine ah hidx rfl ?_|refine ac ?_|refine bi ?_ ?_|intro _)<;>conv=>whnf)))
    (refine⟨⟨rs,[]⟩,⟨hrs,by show List.length ([])+(rs).flatten.length≤800;(try simp only[List.length_append,List.length_cons,List.length_nil]at hsz ⊢);omega,HZ⟩,(by show(rs).length<_;simp),?_⟩;(conv=>whnf);refine⟨?_,?_,?_⟩<;>repeat(first|exact trivial|refine sc rfl ?_|refine kn ?_|refine kc rfl ?_|refine sc (by first|exact(congrArg (fun z=>some (some (rg,some (0,[AV.lp .ready none #[26] ra rb z])))) (hl _ _))|rfl) ?_|refine kc (by first|exact(congrArg (fun z=>some (some (rg,some (0,[AV.lp .ready none #[26] ra rb z])))) (hl _ _))|rfl) ?_))
   | cons y l =>
    conv=>whnf
    repeat(any_goals(first|exact ab|(refine ap ?_ ?_<;>intro _<;>first|exact aq|conv=>whnf)|((first|refine aa hidx ?_|refine ah hidx rfl ?_|refine ac ?_|refine bi ?_ ?_|intro _)<;>conv=>whnf)))
    refine⟨_,hs1,?_⟩
    conv=>whnf
    repeat(any_goals(first|exact ab|(refine ap ?_ ?_<;>intro _<;>first|exact aq|conv=>whnf)|((first|refine aa hidx ?_|refine ah hidx rfl ?_|refine ac ?_|refine bi ?_ ?_|intro _)<;>conv=>whnf)))
    refine⟨_,hs2,?_⟩
    conv=>whnf
    repeat(any_goals(first|exact ab|(refine ap ?_ ?_<;>intro _<;>first|exact aq|conv=>whnf)|((first|refine aa hidx ?_|refine ah hidx rfl ?_|refine ac ?_|refine bi ?_ ?_|intro _)<;>conv=>whnf)))
    refine⟨aI (dg s ⟨rg,ra,rb,rl⟩ (rs.flatten) ⟨(y::l),0⟩),?_⟩
    conv=>whnf
    repeat(refine af (aA _ _) ?_<;>(conv=>whnf))
    refine⟨_,_,hY,?_⟩
    conv=>whnf
    repeat(refine af (aA _ _) ?_<;>(conv=>whnf))
    repeat(any_goals(first|exact ab|(refine ap ?_ ?_<;>intro _<;>first|exact aq|conv=>whnf)|((first|refine aa hidx ?_|refine ah hidx rfl ?_|refine ac ?_|refine bi ?_ ?_|intro _)<;>conv=>whnf)))
    (refine⟨⟨rs,(y::l)⟩,⟨hrs,by show List.length ((y::l))+(rs).flatten.length≤800;(try simp only[List.length_append,List.length_cons,List.length_nil]at hsz ⊢);omega,HZ⟩,(by show(rs).length<_;simp),?_⟩;(conv=>whnf);refine⟨?_,?_,?_⟩<;>repeat(first|exact trivial|refine sc rfl ?_|refine kn ?_|refine kc rfl ?_|refine sc (by first|exact(congrArg (fun z=>some (some (rg,some (0,[AV.lp .ready none #[26] ra rb z])))) (hl _ _))|rfl) ?_|refine kc (by first|exact(congrArg (fun z=>some (some (rg,some (0,[AV.lp .ready none #[26] ra rb z])))) (hl _ _))|rfl) ?_))
  ·rw[e]at hY HZ
   rw[if_neg (by simp)]at HZ
   subst HZ
   cases l with
   | nil =>
    conv=>whnf
    repeat(any_goals(first|exact ab|(refine ap ?_ ?_<;>intro _<;>first|exact aq|conv=>whnf)|((first|refine aa hidx ?_|refine ah hidx rfl ?_|refine ac ?_|refine bi ?_ ?_|intro _)<;>conv=>whnf)))
    refine⟨_,hs1,?_⟩
    conv=>whnf
    repeat(any_goals(first|exact ab|(refine ap ?_ ?_<;>intro _<;>first|exact aq|conv=>whnf)|((first|refine aa hidx ?_|refine ah hidx rfl ?_|refine ac ?_|refine bi ?_ ?_|intro _)<;>conv=>whnf)))
    refine⟨_,hs2,?_⟩
    conv=>whnf
    repeat(any_goals(first|exact ab|(refine ap ?_ ?_<;>intro _<;>first|exact aq|conv=>whnf)|((first|refine aa hidx ?_|refine ah hidx rfl ?_|refine ac ?_|refine bi ?_ ?_|intro _)<;>conv=>whnf)))
    refine⟨aI (dg s ⟨rg,ra,rb,rl⟩ (rs.flatten) ⟨[],0⟩),?_⟩
    conv=>whnf
    repeat(refine af (aA _ _) ?_<;>(conv=>whnf))
    refine⟨_,_,hY,?_⟩
    conv=>whnf
    repeat(refine af (aA _ _) ?_<;>(conv=>whnf))
    repeat(any_goals(first|exact ab|(refine ap ?_ ?_<;>intro _<;>first|exact aq|conv=>whnf)|((first|refine aa hidx ?_|refine ah hidx rfl ?_|refine ac ?_|refine bi ?_ ?_|intro _)<;>conv=>whnf)))
    refine And.intro ?_ ?_
    ·conv=>whnf
     exact⟨⟨rfl⟩,trivial⟩
    ·rw[b7]
     repeat(first|exact trivial|refine kc rfl ?_|refine kc (congrArg (fun z=>some (some (rg,some (0,[AV.lp .done (some .ret) #[26] ra rb z])))) (hl _ _)) ?_)
   | cons y l =>
    conv=>whnf
    repeat(any_goals(first|exact ab|(refine ap ?_ ?_<;>intro _<;>first|exact aq|conv=>whnf)|((first|refine aa hidx ?_|refine ah hidx rfl ?_|refine ac ?_|refine bi ?_ ?_|intro _)<;>conv=>whnf)))
    refine⟨_,hs1,?_⟩
    conv=>whnf
    repeat(any_goals(first|exact ab|(refine ap ?_ ?_<;>intro _<;>first|exact aq|conv=>whnf)|((first|refine aa hidx ?_|refine ah hidx rfl ?_|refine ac ?_|refine bi ?_ ?_|intro _)<;>conv=>whnf)))
    refine⟨_,hs2,?_⟩
    conv=>whnf
    repeat(any_goals(first|exact ab|(refine ap ?_ ?_<;>intro _<;>first|exact aq|conv=>whnf)|((first|refine aa hidx ?_|refine ah hidx rfl ?_|refine ac ?_|refine bi ?_ ?_|intro _)<;>conv=>whnf)))
    refine⟨aI (dg s ⟨rg,ra,rb,rl⟩ (rs.flatten) ⟨(y::l),0⟩),?_⟩
    conv=>whnf
    repeat(refine af (aA _ _) ?_<;>(conv=>whnf))
    refine⟨_,_,hY,?_⟩
    conv=>whnf
    repeat(refine af (aA _ _) ?_<;>(conv=>whnf))
    repeat(any_goals(first|exact ab|(refine ap ?_ ?_<;>intro _<;>first|exact aq|conv=>whnf)|((first|refine aa hidx ?_|refine ah hidx rfl ?_|refine ac ?_|refine bi ?_ ?_|intro _)<;>conv=>whnf)))
    refine And.intro ?_ ?_
    ·conv=>whnf
     exact⟨⟨rfl⟩,trivial⟩
    ·rw[b7]
     repeat(first|exact trivial|refine kc rfl ?_|refine kc (congrArg (fun z=>some (some (rg,some (0,[AV.lp .done (some .ret) #[26] ra rb z])))) (hl _ _)) ?_)
  ·rw[e]at hY HZ
   rw[if_pos rfl]at HZ
   cases l with
   | nil =>
    conv=>whnf
    repeat(any_goals(first|exact ab|(refine ap ?_ ?_<;>intro _<;>first|exact aq|conv=>whnf)|((first|refine aa hidx ?_|refine ah hidx rfl ?_|refine ac ?_|refine bi ?_ ?_|intro _)<;>conv=>whnf)))
    refine⟨_,hs1,?_⟩
    conv=>whnf
    repeat(any_goals(first|exact ab|(refine ap ?_ ?_<;>intro _<;>first|exact aq|conv=>whnf)|((first|refine aa hidx ?_|refine ah hidx rfl ?_|refine ac ?_|refine bi ?_ ?_|intro _)<;>conv=>whnf)))
    refine⟨_,hs2,?_⟩
    conv=>whnf
    repeat(any_goals(first|exact ab|(refine ap ?_ ?_<;>intro _<;>first|exact aq|conv=>whnf)|((first|refine aa hidx ?_|refine ah hidx rfl ?_|refine ac ?_|refine bi ?_ ?_|intro _)<;>conv=>whnf)))
    refine⟨aI (dg s ⟨rg,ra,rb,rl⟩ (rs.flatten) ⟨[],0⟩),?_⟩
    conv=>whnf
    repeat(refine af (aA _ _) ?_<;>(conv=>whnf))
    refine⟨_,_,hY,?_⟩
    conv=>whnf
    repeat(refine af (aA _ _) ?_<;>(conv=>whnf))
    repeat(any_goals(first|exact ab|(refine ap ?_ ?_<;>intro _<;>first|exact aq|conv=>whnf)|((first|refine aa hidx ?_|refine ah hidx rfl ?_|refine ac ?_|refine bi ?_ ?_|intro _)<;>conv=>whnf)))
    (refine⟨⟨rs,([]++[x])⟩,⟨hrs,by show List.length (([]++[x]))+(rs).flatten.length≤800;(try simp only[List.length_append,List.length_cons,List.length_nil]at hsz ⊢);omega,HZ⟩,(by show(rs).length<_;simp),?_⟩;(conv=>whnf);refine⟨?_,?_,?_⟩<;>repeat(first|exact trivial|refine sc rfl ?_|refine kn ?_|refine kc rfl ?_|refine sc (by first|exact(congrArg (fun z=>some (some (rg,some (0,[AV.lp .ready none #[26] ra rb z])))) (hl _ _))|rfl) ?_|refine kc (by first|exact(congrArg (fun z=>some (some (rg,some (0,[AV.lp .ready none #[26] ra rb z])))) (hl _ _))|rfl) ?_))
   | cons y l =>
    conv=>whnf
    repeat(any_goals(first|exact ab|(refine ap ?_ ?_<;>intro _<;>first|exact aq|conv=>whnf)|((first|refine aa hidx ?_|refine ah hidx rfl ?_|refine ac ?_|refine bi ?_ ?_|intro _)<;>conv=>whnf)))
    refine⟨_,hs1,?_⟩
    conv=>whnf
    repeat(any_goals(first|exact ab|(refine ap ?_ ?_<;>intro _<;>first|exact aq|conv=>whnf)|((first|refine aa hidx ?_|refine ah hidx rfl ?_|refine ac ?_|refine bi ?_ ?_|intro _)<;>conv=>whnf)))
    refine⟨_,hs2,?_⟩
    conv=>whnf
    repeat(any_goals(first|exact ab|(refine ap ?_ ?_<;>intro _<;>first|exact aq|conv=>whnf)|((first|refine aa hidx ?_|refine ah hidx rfl ?_|refine ac ?_|refine bi ?_ ?_|intro _)<;>conv=>whnf)))
    refine⟨aI (dg s ⟨rg,ra,rb,rl⟩ (rs.flatten) ⟨(y::l),0⟩),?_⟩
    conv=>whnf
    repeat(refine af (aA _ _) ?_<;>(conv=>whnf))
    refine⟨_,_,hY,?_⟩
    conv=>whnf
    repeat(refine af (aA _ _) ?_<;>(conv=>whnf))
    repeat(any_goals(first|exact ab|(refine ap ?_ ?_<;>intro _<;>first|exact aq|conv=>whnf)|((first|refine aa hidx ?_|refine ah hidx rfl ?_|refine ac ?_|refine bi ?_ ?_|intro _)<;>conv=>whnf)))
    (refine⟨⟨rs,((y::l)++[x])⟩,⟨hrs,by show List.length (((y::l)++[x]))+(rs).flatten.length≤800;(try simp only[List.length_append,List.length_cons,List.length_nil]at hsz ⊢);omega,HZ⟩,(by show(rs).length<_;simp),?_⟩;(conv=>whnf);refine⟨?_,?_,?_⟩<;>repeat(first|exact trivial|refine sc rfl ?_|refine kn ?_|refine kc rfl ?_|refine sc (by first|exact(congrArg (fun z=>some (some (rg,some (0,[AV.lp .ready none #[26] ra rb z])))) (hl _ _))|rfl) ?_|refine kc (by first|exact(congrArg (fun z=>some (some (rg,some (0,[AV.lp .ready none #[26] ra rb z])))) (hl _ _))|rfl) ?_))
 | last w h10 h0 =>
  obtain⟨T,hT0⟩:∃T,([w]:List Bs).flatten=T:=⟨_,rfl⟩
  rw[hT0]at hsz ⊢
  have hT:w=T:=by rw[←hT0];simp
  subst hT
  have hidx:=AZ (aK w) 10
  rw[show Lib.indexByte (aK w).data.toList ((10:Nat):Int).toNat.toUInt8 = -1 from pU w h10]at hidx
  have hTs:(aK w).size=w.length:=rfl
  have hpos:0<w.length:=List.length_pos_iff.2 h0
  have hrs:RowsOk []:= .nil
  have hfl:([]:List Bs).flatten.length=0:=rfl
  have hy:=hy ([]) (l) (w) (by(try simp only[List.length_append,List.length_cons,List.length_nil]);omega) (by omega)
  have hY:BoxA Tryz.prog (.yld kLr rg) (dg s ⟨rg,ra,rb,fY (aI (dg s ⟨rg,ra,rb,rl⟩ ([]) ⟨l,0⟩)) rl⟩ ([]) ⟨l,0⟩) [aN (aK (w))] (aB (decide ((s.stepM (l) (w)).st=0))) (dg s ⟨rg,ra,rb,rl⟩ ([]) (s.stepM (l) (w))):=by
   have e:=hl ([]) ⟨l,0⟩
   rw[e];exact hy
  clear hy
  rw[ma]at HZ
  obtain⟨R0,hR0⟩:∃R0,w=R0:=⟨_,rfl⟩
  subst hR0
  clear hT0 h10
  rcases jQ s l w with e|e|e|⟨x,e⟩
  ·rw[e]at hY HZ
   rw[if_neg (by simp)]at HZ
   subst HZ
   cases l with
   | nil =>
    conv=>whnf
    repeat(any_goals(first|exact ab|(refine ap ?_ ?_<;>intro _<;>first|exact aq|conv=>whnf)|((first|refine aa hidx ?_|refine ah hidx rfl ?_|refine ac ?_|refine bi ?_ ?_|intro _)<;>conv=>whnf)))
    refine⟨aI (dg s ⟨rg,ra,rb,rl⟩ ([]) ⟨[],0⟩),?_⟩
    conv=>whnf
    repeat(refine af (aA _ _) ?_<;>(conv=>whnf))
    refine⟨_,_,hY,?_⟩
    conv=>whnf
    repeat(refine af (aA _ _) ?_<;>(conv=>whnf))
    repeat(any_goals(first|exact ab|(refine ap ?_ ?_<;>intro _<;>first|exact aq|conv=>whnf)|((first|refine aa hidx ?_|refine ah hidx rfl ?_|refine ac ?_|refine bi ?_ ?_|intro _)<;>conv=>whnf)))
    refine And.intro ?_ ?_
    ·conv=>whnf
     exact⟨⟨rfl⟩,trivial⟩
    ·rw[b7]
     repeat(first|exact trivial|refine kc rfl ?_|refine kc (congrArg (fun z=>some (some (rg,some (0,[AV.lp .done (some .ret) #[26] ra rb z])))) (hl _ _)) ?_)
   | cons y l =>
    conv=>whnf
    repeat(any_goals(first|exact ab|(refine ap ?_ ?_<;>intro _<;>first|exact aq|conv=>whnf)|((first|refine aa hidx ?_|refine ah hidx rfl ?_|refine ac ?_|refine bi ?_ ?_|intro _)<;>conv=>whnf)))
    refine⟨aI (dg s ⟨rg,ra,rb,rl⟩ ([]) ⟨(y::l),0⟩),?_⟩
    conv=>whnf
    repeat(refine af (aA _ _) ?_<;>(conv=>whnf))
    refine⟨_,_,hY,?_⟩
    conv=>whnf
    repeat(refine af (aA _ _) ?_<;>(conv=>whnf))
    repeat(any_goals(first|exact ab|(refine ap ?_ ?_<;>intro _<;>first|exact aq|conv=>whnf)|((first|refine aa hidx ?_|refine ah hidx rfl ?_|refine ac ?_|refine bi ?_ ?_|intro _)<;>conv=>whnf)))
    refine And.intro ?_ ?_
    ·conv=>whnf
     exact⟨⟨rfl⟩,trivial⟩
    ·rw[b7]
     repeat(first|exact trivial|refine kc rfl ?_|refine kc (congrArg (fun z=>some (some (rg,some (0,[AV.lp .done (some .ret) #[26] ra rb z])))) (hl _ _)) ?_)
  ·rw[e]at hY HZ
   rw[if_pos rfl]at HZ
   cases l with
   | nil =>
    conv=>whnf
    repeat(any_goals(first|exact ab|(refine ap ?_ ?_<;>intro _<;>first|exact aq|conv=>whnf)|((first|refine aa hidx ?_|refine ah hidx rfl ?_|refine ac ?_|refine bi ?_ ?_|intro _)<;>conv=>whnf)))
    refine⟨aI (dg s ⟨rg,ra,rb,rl⟩ ([]) ⟨[],0⟩),?_⟩
    conv=>whnf
    repeat(refine af (aA _ _) ?_<;>(conv=>whnf))
    refine⟨_,_,hY,?_⟩
    conv=>whnf
    repeat(refine af (aA _ _) ?_<;>(conv=>whnf))
    repeat(any_goals(first|exact ab|(refine ap ?_ ?_<;>intro _<;>first|exact aq|conv=>whnf)|((first|refine aa hidx ?_|refine ah hidx rfl ?_|refine ac ?_|refine bi ?_ ?_|intro _)<;>conv=>whnf)))
    (refine⟨⟨[],[]⟩,⟨hrs,by show List.length ([])+([]).flatten.length≤800;(try simp only[List.length_append,List.length_cons,List.length_nil]at hsz ⊢);omega,HZ⟩,(by show([]).length<_;simp),?_⟩;(conv=>whnf);refine⟨?_,?_,?_⟩<;>repeat(first|exact trivial|refine sc rfl ?_|refine kn ?_|refine kc rfl ?_|refine sc (by first|exact(congrArg (fun z=>some (some (rg,some (0,[AV.lp .ready none #[26] ra rb z])))) (hl _ _))|rfl) ?_|refine kc (by first|exact(congrArg (fun z=>some (some (rg,some (0,[AV.lp .ready none #[26] ra rb z])))) (hl _ _))|rfl) ?_))
   | cons y l =>
    conv=>whnf
    repeat(any_goals(first|exact ab|(refine ap ?_ ?_<;>intro _<;>first|exact aq|conv=>whnf)|((first|refine aa hidx ?_|refine ah hidx rfl ?_|refine ac ?_|refine bi ?_ ?_|intro _)<;>conv=>whnf)))
    refine⟨aI (dg s ⟨rg,ra,rb,rl⟩ ([]) ⟨(y::l),0⟩),?_⟩
    conv=>whnf
    repeat(refine af (aA _ _) ?_<;>(conv=>whnf))
    refine⟨_,_,hY,?_⟩
    conv=>whnf
    repeat(refine af (aA _ _) ?_<;>(conv=>whnf))
    repeat(any_goals(first|exact ab|(refine ap ?_ ?_<;>intro _<;>first|exact aq|conv=>whnf)|((first|refine aa hidx ?_|refine ah hidx rfl ?_|refine ac ?_|refine bi ?_ ?_|intro _)<;>conv=>whnf)))
    (refine⟨⟨[],(y::l)⟩,⟨hrs,by show List.length ((y::l))+([]).flatten.length≤800;(try simp only[List.length_append,List.length_cons,List.length_nil]at hsz ⊢);omega,HZ⟩,(by show([]).length<_;simp),?_⟩;(conv=>whnf);refine⟨?_,?_,?_⟩<;>repeat(first|exact trivial|refine sc rfl ?_|refine kn ?_|refine kc rfl ?_|refine sc (by first|exact(congrArg (fun z=>some (some (rg,some (0,[AV.lp .ready none #[26] ra rb z])))) (hl _ _))|rfl) ?_|refine kc (by first|exact(congrArg (fun z=>some (some (rg,some (0,[AV.lp .ready none #[26] ra rb z])))) (hl _ _))|rfl) ?_))
  ·rw[e]at hY HZ
   rw[if_neg (by simp)]at HZ
   subst HZ
   cases l with
   | nil =>
    conv=>whnf
    repeat(any_goals(first|exact ab|(refine ap ?_ ?_<;>intro _<;>first|exact aq|conv=>whnf)|((first|refine aa hidx ?_|refine ah hidx rfl ?_|refine ac ?_|refine bi ?_ ?_|intro _)<;>conv=>whnf)))
    refine⟨aI (dg s ⟨rg,ra,rb,rl⟩ ([]) ⟨[],0⟩),?_⟩
    conv=>whnf
    repeat(refine af (aA _ _) ?_<;>(conv=>whnf))
    refine⟨_,_,hY,?_⟩
    conv=>whnf
    repeat(refine af (aA _ _) ?_<;>(conv=>whnf))
    repeat(any_goals(first|exact ab|(refine ap ?_ ?_<;>intro _<;>first|exact aq|conv=>whnf)|((first|refine aa hidx ?_|refine ah hidx rfl ?_|refine ac ?_|refine bi ?_ ?_|intro _)<;>conv=>whnf)))
    refine And.intro ?_ ?_
    ·conv=>whnf
     exact⟨⟨rfl⟩,trivial⟩
    ·rw[b7]
     repeat(first|exact trivial|refine kc rfl ?_|refine kc (congrArg (fun z=>some (some (rg,some (0,[AV.lp .done (some .ret) #[26] ra rb z])))) (hl _ _)) ?_)
   | cons y l =>
    conv=>whnf
    repeat(any_goals(first|exact ab|(refine ap ?_ ?_<;>intro _<;>first|exact aq|conv=>whnf)|((first|refine aa hidx ?_|refine ah hidx rfl ?_|refine ac ?_|refine bi ?_ ?_|intro _)<;>conv=>whnf)))
    refine⟨aI (dg s ⟨rg,ra,rb,rl⟩ ([]) ⟨(y::l),0⟩),?_⟩
    conv=>whnf
    repeat(refine af (aA _ _) ?_<;>(conv=>whnf))
    refine⟨_,_,hY,?_⟩
    conv=>whnf
    repeat(refine af (aA _ _) ?_<;>(conv=>whnf))
    repeat(any_goals(first|exact ab|(refine ap ?_ ?_<;>intro _<;>first|exact aq|conv=>whnf)|((first|refine aa hidx ?_|refine ah hidx rfl ?_|refine ac ?_|refine bi ?_ ?_|intro _)<;>conv=>whnf)))
    refine And.intro ?_ ?_
    ·conv=>whnf
     exact⟨⟨rfl⟩,trivial⟩
    ·rw[b7]
     repeat(first|exact trivial|refine kc rfl ?_|refine kc (congrArg (fun z=>some (some (rg,some (0,[AV.lp .done (some .ret) #[26] ra rb z])))) (hl _ _)) ?_)
  ·rw[e]at hY HZ
   rw[if_pos rfl]at HZ
   cases l with
   | nil =>
    conv=>whnf
    repeat(any_goals(first|exact ab|(refine ap ?_ ?_<;>intro _<;>first|exact aq|conv=>whnf)|((first|refine aa hidx ?_|refine ah hidx rfl ?_|refine ac ?_|refine bi ?_ ?_|intro _)<;>conv=>whnf)))
    refine⟨aI (dg s ⟨rg,ra,rb,rl⟩ ([]) ⟨[],0⟩),?_⟩
    conv=>whnf
    repeat(refine af (aA _ _) ?_<;>(conv=>whnf))
    refine⟨_,_,hY,?_⟩
    conv=>whnf
    repeat(refine af (aA _ _) ?_<;>(conv=>whnf))
    repeat(any_goals(first|exact ab|(refine ap ?_ ?_<;>intro _<;>first|exact aq|conv=>whnf)|((first|refine aa hidx ?_|refine ah hidx rfl ?_|refine ac ?_|refine bi ?_ ?_|intro _)<;>conv=>whnf)))
    (refine⟨⟨[],([]++[x])⟩,⟨hrs,by show List.length (([]++[x]))+([]).flatten.length≤800;(try simp only[List.length_append,List.length_cons,List.length_nil]at hsz ⊢);omega,HZ⟩,(by show([]).length<_;simp),?_⟩;(conv=>whnf);refine⟨?_,?_,?_⟩<;>repeat(first|exact trivial|refine sc rfl ?_|refine kn ?_|refine kc rfl ?_|refine sc (by first|exact(congrArg (fun z=>some (some (rg,some (0,[AV.lp .ready none #[26] ra rb z])))) (hl _ _))|rfl) ?_|refine kc (by first|exact(congrArg (fun z=>some (some (rg,some (0,[AV.lp .ready none #[26] ra rb z])))) (hl _ _))|rfl) ?_))
   | cons y l =>
    conv=>whnf
    repeat(any_goals(first|exact ab|(refine ap ?_ ?_<;>intro _<;>first|exact aq|conv=>whnf)|((first|refine aa hidx ?_|refine ah hidx rfl ?_|refine ac ?_|refine bi ?_ ?_|intro _)<;>conv=>whnf)))
    refine⟨aI (dg s ⟨rg,ra,rb,rl⟩ ([]) ⟨(y::l),0⟩),?_⟩
    conv=>whnf
    repeat(refine af (aA _ _) ?_<;>(conv=>whnf))
    refine⟨_,_,hY,?_⟩
    conv=>whnf
    repeat(refine af (aA _ _) ?_<;>(conv=>whnf))
    repeat(any_goals(first|exact ab|(refine ap ?_ ?_<;>intro _<;>first|exact aq|conv=>whnf)|((first|refine aa hidx ?_|refine ah hidx rfl ?_|refine ac ?_|refine bi ?_ ?_|intro _)<;>conv=>whnf)))
    (refine⟨⟨[],((y::l)++[x])⟩,⟨hrs,by show List.length (((y::l)++[x]))+([]).flatten.length≤800;(try simp only[List.length_append,List.length_cons,List.length_nil]at hsz ⊢);omega,HZ⟩,(by show([]).length<_;simp),?_⟩;(conv=>whnf);refine⟨?_,?_,?_⟩<;>repeat(first|exact trivial|refine sc rfl ?_|refine kn ?_|refine kc rfl ?_|refine sc (by first|exact(congrArg (fun z=>some (some (rg,some (0,[AV.lp .ready none #[26] ra rb z])))) (hl _ _))|rfl) ?_|refine kc (by first|exact(congrArg (fun z=>some (some (rg,some (0,[AV.lp .ready none #[26] ra rb z])))) (hl _ _))|rfl) ?_))
end Go.Proofs.YtgncapdjheghfaaGreatDoor
namespace Go.Proofs.YtgncapdjheghfaaGreatDoor
open Go.Am Go.Proofs Go
def Eu:List Key:=[kLn,kLr,kRt,kRe,kRs,cq]
theorem EW{s:Bill}{r:Rec}(h:fY Eu r.l=r.l)(t:Bs)(u:RS):fY (aI (dg s r t u)) r.l=r.l:=by
 rw[←h]
 refine li (fun k hk=>?_) _
 unfold dg ID yH
 obtain⟨l,st⟩:=u
 cases st with
 | zero=>exact ic (aI (KS l++KM ⟨l,0⟩)) Eu k hk
 | succ n=>exact ic (aI (KS l++KM ⟨l,n+1⟩)) Eu k hk
def tr(e:Int):AV:= .tuple [oe,aj e]
theorem Ir(s:Bill)(hr:s.small)(t:ByteArray)(hc:s.check.2.2≠0):PureA Tryz.prog 34 [aF s,aN t] (tr s.check.2.2):=by
 have hlk:=te s hr _ rfl hc
 unfold tr
 generalize s.check.2.2=e at *
 refine ae ar { l:=0,f:=34,mat:=[63,81,118],ow:=[56]} mixed uX Tryz.func34 (by kernel_rfl) ?_
 conv=>whnf
 repeat(any_goals(first|exact ab|(refine ap ?_ ?_<;>intro _<;>first|exact aq|conv=>whnf)|((first|refine ac ?_|refine bi ?_ ?_|intro _)<;>conv=>whnf)))
 refine⟨[],?_⟩
 conv=>whnf
 refine⟨_,_,hlk,?_⟩
 conv=>whnf
 repeat(any_goals(first|exact ab|(refine ap ?_ ?_<;>intro _<;>first|exact aq|conv=>whnf)|((first|refine ac ?_|refine bi ?_ ?_|intro _)<;>conv=>whnf)))
 (refine⟨⟨?_⟩,trivial⟩;rfl)
theorem Is(s:Bill)(hr:s.small)(t:ByteArray)(hc:s.check.2.2=0)(hz:800<t.size):PureA Tryz.prog 34 [aF s,aN t] (tr 3):=by
 have hlk:=jB s hr hc
 unfold tr
 unfold cW at hlk
 refine ae ar { l:=0,f:=34,mat:=[63,81,118],ow:=[56]} mixed uX Tryz.func34 (by kernel_rfl) ?_
 conv=>whnf
 repeat(any_goals(first|exact ab|(refine ap ?_ ?_<;>intro _<;>first|exact aq|conv=>whnf)|((first|refine ac ?_|refine bi ?_ ?_|intro _)<;>conv=>whnf)))
 refine⟨[],?_⟩
 conv=>whnf
 refine⟨_,_,hlk,?_⟩
 conv=>whnf
 repeat(any_goals(first|exact ab|(refine ap ?_ ?_<;>intro _<;>first|exact aq|conv=>whnf)|((first|refine ac ?_|refine bi ?_ ?_|intro _)<;>conv=>whnf)))
 (refine⟨⟨?_⟩,trivial⟩;rfl)
theorem CH(r:Bs):(fZ r).length≤r.length:=by
 unfold fZ Lib.trimSuffix
 split
 ·rw[List.length_take];omega
 ·exact Nat.le_refl _
theorem pY:∀(l:List Ent) (y x:Ent),yL y (l++[x])=x
 | [],_,_=>rfl
 | z::l,y,x=>pY l z x
theorem Ci(s:Bill)(r:Rec)(y:Ent)(l:List Ent)(x:Ent):ID s r ⟨(y::l)++[x],0⟩ =
  (yH s r false (.own kRl (l.length+1+1) 3 (l.length+1+1) 0) 0++([(kRl,l.length+1+1,3,((y::l).map bB).take (l.length+1)++[bB x])]++[(kRx,l.length+1+1,3,[bB x])])):=by
 have h1:(l++[x]).length=l.length+1:=by simp
 have h2:yL y (l++[x])=x:=pY l y x
 have h3:(y::(l++[x])).map bB=((y::l).map bB).take (l.length+1)++[bB x]:=by rw[List.take_of_length_le (by simp)];simp
 show(yH s r false (.own kRl ((l++[x]).length+1) 3 ((l++[x]).length+1) 0) 0++([(kRl,(l++[x]).length+1,3,(y::(l++[x])).map bB)]++[(kRx,(l++[x]).length+1,3,[bB (yL y (l++[x]))])]))=_
 rw[h1,h2,h3]
def zx(s:Bill)(t:ByteArray)(l:List Ent):AV:=if s.holds l=true∧s.textL l=bytes t then .tuple [(match l with|[]=>oe|_::_=>aG l),aj 0]else tr 6
set_option maxHeartbeats 8000000 in
theorem Cb(s:Bill)(hr:s.small)(t:ByteArray)(hc:s.check.2.2=0)(hz:t.size≤800)(rs:List Bs)(hok:RowsOk rs)(hfl:rs.flatten=bytes t)(l0:List Ent)(st:Nat)(rest:List Bs)(hl0:l0.length≤1048576)(hZ:s.readM rs []=(⟨l0,st⟩,rest))(R:AV)(hR:((st=1∨st=2)∧R=tr 6)∨(st=0∧R=zx s t l0)):PureA Tryz.prog 34 [aF s,aN t] R:=by
 have hg:=Bill.good hc
 have hlk:=jB s hr hc
 have hln:=yN t
 have hit:=fun r hl hy=>Bj s r hl hy rs hok (by rw[hfl];exact hz)
 have ht:aK rs.flatten=t:=by rw[hfl];rfl
 unfold dg at hit
 rw[ht,hZ]at hit
 simp only at hit
 unfold cW at hlk
 refine ae ar { l:=0,f:=34,mat:=[63,81,118],ow:=[56]} mixed uX Tryz.func34 (by kernel_rfl) ?_
 conv=>whnf
 repeat(any_goals(first|exact ab|(refine ap ?_ ?_<;>intro _<;>first|exact aq|conv=>whnf)|((first|refine ac ?_|refine bi ?_ ?_|intro _)<;>conv=>whnf)))
 refine⟨[],?_⟩
 conv=>whnf
 refine⟨_,_,hlk,?_⟩
 conv=>whnf
 repeat(any_goals(first|exact ab|(refine ap ?_ ?_<;>intro _<;>first|exact aq|conv=>whnf)|((first|refine ac ?_|refine bi ?_ ?_|intro _)<;>conv=>whnf)))
 refine⟨[],?_⟩
 conv=>whnf
 refine⟨_,_,hln,?_⟩
 conv=>whnf
 repeat(any_goals(first|exact ab|(refine ap ?_ ?_<;>intro _<;>first|exact aq|conv=>whnf)|((first|refine ac ?_|refine bi ?_ ?_|intro _)<;>conv=>whnf)))
 refine⟨Eu,?_⟩
 conv=>whnf
 refine⟨_,_,hit ⟨_,_,_,_⟩ ?_ ?_,?_⟩
 ·exact EW (by first|exact uw _ _|rfl)
 ·intro t' l row hrow hll
  clear hit
  have htr:PureA Tryz.prog 83 [aN (aK row),aN ⟨#[10]⟩] (aN (aK (fZ row))):=Ko (aK row) ⟨#[10]⟩ (by show row.length≤_;omega)
  have htl:=CH row
  have hsp:=IL (aK (fZ row)) (by show(fZ row).length≤_;omega)
  rw[eN]at hsp
  obtain⟨v,hv⟩:∃v,s.stepM l row=v:=⟨_,rfl⟩
  rw[hv]
  unfold Bill.stepM at hv
  generalize fZ row=W at *
  cases hS:bI [] W with
  | none =>
   rw[hS]at hsp hv
   unfold Cp at hsp
   simp only at hv
   subst hv
   cases l with
   | nil =>
    refine bq ar { l:=0,f:=34,rd:=true,ow:=[56]} mixed rfl rfl rfl (by kernel_rfl) ?_
    conv=>whnf
    refine And.intro rfl ?_
    conv=>whnf
    repeat(any_goals(first|exact ab|(refine ap ?_ ?_<;>intro _<;>first|exact aq|conv=>whnf)|((first|refine aa htr ?_|refine ah htr rfl ?_|refine aa hsp ?_|refine ah hsp rfl ?_|refine aa hrd ?_|refine ah hrd rfl ?_|refine ac ?_|refine bi ?_ ?_|intro _)<;>conv=>whnf)))
    repeat(first|exact trivial|refine And.intro rfl ?_|refine kc rfl ?_)
   | cons y l =>
    refine bq ar { l:=0,f:=34,rd:=true,ow:=[56]} mixed rfl rfl rfl (by kernel_rfl) ?_
    conv=>whnf
    refine And.intro rfl ?_
    conv=>whnf
    repeat(any_goals(first|exact ab|(refine ap ?_ ?_<;>intro _<;>first|exact aq|conv=>whnf)|((first|refine aa htr ?_|refine ah htr rfl ?_|refine aa hsp ?_|refine ah hsp rfl ?_|refine aa hrd ?_|refine ah hrd rfl ?_|refine ac ?_|refine bi ?_ ?_|intro _)<;>conv=>whnf)))
    repeat(first|exact trivial|refine And.intro rfl ?_|refine kc rfl ?_)
  | some ws =>
   rw[hS]at hsp hv
   unfold Cp at hsp
   simp only at hv
   have hne:=ul hS
   have hwl:=mh hS
   cases ws with
   | nil=>exact absurd rfl hne
   | cons w0 ws =>
    have hrd:=Ka s hg.len (w0::ws) (by omega)
    clear hS hne
    by_cases hp:w0=cN
    ·subst hp
     rw[if_pos (show gR (cN::ws)=true by unfold gR;simp)]at hv
     subst hv
     have hc1:aK cN=(⟨#[112,97,103,101]⟩:ByteArray):=rfl
     clear hrd
     cases l with
     | nil =>
      refine bq ar { l:=0,f:=34,rd:=true,ow:=[56]} mixed rfl rfl rfl (by kernel_rfl) ?_
      conv=>whnf
      refine And.intro rfl ?_
      conv=>whnf
      repeat(any_goals(first|exact ab|(refine ap ?_ ?_<;>intro _<;>first|exact aq|conv=>whnf)|((first|refine aa htr ?_|refine ah htr rfl ?_|refine aa hsp ?_|refine ah hsp rfl ?_|refine aa hrd ?_|refine ah hrd rfl ?_|refine ac ?_|refine bi ?_ ?_|intro _)<;>conv=>whnf)))
      all_goals(try(exact absurd hc1 (by assumption)))
      all_goals repeat(first|exact trivial|refine And.intro rfl ?_|refine kc rfl ?_)
     | cons y l =>
      refine bq ar { l:=0,f:=34,rd:=true,ow:=[56]} mixed rfl rfl rfl (by kernel_rfl) ?_
      conv=>whnf
      refine And.intro rfl ?_
      conv=>whnf
      repeat(any_goals(first|exact ab|(refine ap ?_ ?_<;>intro _<;>first|exact aq|conv=>whnf)|((first|refine aa htr ?_|refine ah htr rfl ?_|refine aa hsp ?_|refine ah hsp rfl ?_|refine aa hrd ?_|refine ah hrd rfl ?_|refine ac ?_|refine bi ?_ ?_|intro _)<;>conv=>whnf)))
      all_goals(try(exact absurd hc1 (by assumption)))
      all_goals repeat(first|exact trivial|refine And.intro rfl ?_|refine kc rfl ?_)
    ·have hp':¬aK w0=(⟨#[112,97,103,101]⟩:ByteArray):=fun e=>hp (by rw[←eN w0,e];rfl)
     by_cases hq:w0=bN
     ·subst hq
      rw[if_pos (show gR (bN::ws)=true by unfold gR;simp)]at hv
      subst hv
      have hc1:aK bN=(⟨#[114,111,111,109]⟩:ByteArray):=rfl
      clear hrd
      cases l with
      | nil =>
       refine bq ar { l:=0,f:=34,rd:=true,ow:=[56]} mixed rfl rfl rfl (by kernel_rfl) ?_
       conv=>whnf
       refine And.intro rfl ?_
       conv=>whnf
       repeat(any_goals(first|exact ab|(refine ap ?_ ?_<;>intro _<;>first|exact aq|conv=>whnf)|((first|refine aa htr ?_|refine ah htr rfl ?_|refine aa hsp ?_|refine ah hsp rfl ?_|refine aa hrd ?_|refine ah hrd rfl ?_|refine ac ?_|refine bi ?_ ?_|intro _)<;>conv=>whnf)))
       all_goals(try(first|exact absurd hc1 (by assumption)|exact absurd (by assumption) hp'))
       all_goals repeat(first|exact trivial|refine And.intro rfl ?_|refine kc rfl ?_)
      | cons y l =>
       refine bq ar { l:=0,f:=34,rd:=true,ow:=[56]} mixed rfl rfl rfl (by kernel_rfl) ?_
       conv=>whnf
       refine And.intro rfl ?_
       conv=>whnf
       repeat(any_goals(first|exact ab|(refine ap ?_ ?_<;>intro _<;>first|exact aq|conv=>whnf)|((first|refine aa htr ?_|refine ah htr rfl ?_|refine aa hsp ?_|refine ah hsp rfl ?_|refine aa hrd ?_|refine ah hrd rfl ?_|refine ac ?_|refine bi ?_ ?_|intro _)<;>conv=>whnf)))
       all_goals(try(first|exact absurd hc1 (by assumption)|exact absurd (by assumption) hp'))
       all_goals repeat(first|exact trivial|refine And.intro rfl ?_|refine kc rfl ?_)
     ·have hq':¬aK w0=(⟨#[114,111,111,109]⟩:ByteArray):=fun e=>hq (by rw[←eN w0,e];rfl)
      rw[if_neg (show¬gR (w0::ws)=true by unfold gR;simp[hp,hq])]at hv
      cases hE:s.readE (w0::ws)with
      | none =>
       rw[hE]at hrd hv
       unfold Iq at hrd
       simp only at hv
       subst hv
       cases l with
       | nil =>
        refine bq ar { l:=0,f:=34,rd:=true,ow:=[56]} mixed rfl rfl rfl (by kernel_rfl) ?_
        conv=>whnf
        refine And.intro rfl ?_
        conv=>whnf
        repeat(any_goals(first|exact ab|(refine ap ?_ ?_<;>intro _<;>first|exact aq|conv=>whnf)|((first|refine aa htr ?_|refine ah htr rfl ?_|refine aa hsp ?_|refine ah hsp rfl ?_|refine aa hrd ?_|refine ah hrd rfl ?_|refine ac ?_|refine bi ?_ ?_|intro _)<;>conv=>whnf)))
        all_goals(try(first|exact absurd (by assumption) hp'|exact absurd (by assumption) hq'))
        all_goals repeat(first|exact trivial|refine And.intro rfl ?_|refine kc rfl ?_)
       | cons y l =>
        refine bq ar { l:=0,f:=34,rd:=true,ow:=[56]} mixed rfl rfl rfl (by kernel_rfl) ?_
        conv=>whnf
        refine And.intro rfl ?_
        conv=>whnf
        repeat(any_goals(first|exact ab|(refine ap ?_ ?_<;>intro _<;>first|exact aq|conv=>whnf)|((first|refine aa htr ?_|refine ah htr rfl ?_|refine aa hsp ?_|refine ah hsp rfl ?_|refine aa hrd ?_|refine ah hrd rfl ?_|refine ac ?_|refine bi ?_ ?_|intro _)<;>conv=>whnf)))
        all_goals(try(first|exact absurd (by assumption) hp'|exact absurd (by assumption) hq'))
        all_goals repeat(first|exact trivial|refine And.intro rfl ?_|refine kc rfl ?_)
      | some x =>
       rw[hE]at hrd hv
       unfold Iq at hrd
       simp only at hv
       subst hv
       cases l with
       | nil =>
        refine bq ar { l:=0,f:=34,rd:=true,ow:=[56]} mixed rfl rfl rfl (by kernel_rfl) ?_
        conv=>whnf
        refine And.intro rfl ?_
        conv=>whnf
        repeat(any_goals(first|exact ab|(refine ap ?_ ?_<;>intro _<;>first|exact aq|conv=>whnf)|((first|refine aa htr ?_|refine ah htr rfl ?_|refine aa hsp ?_|refine ah hsp rfl ?_|refine aa hrd ?_|refine ah hrd rfl ?_|refine ac ?_|refine bi ?_ ?_|intro _)<;>conv=>whnf)))
        all_goals(try(first|exact absurd (by assumption) hp'|exact absurd (by assumption) hq'))
        all_goals repeat(first|exact trivial|refine And.intro rfl ?_|refine kc rfl ?_)
       | cons y l =>
        rw[Ci]
        simp only[List.length_cons]at hll
        have hel:((y::l).map bB).length=l.length+1:=by simp
        refine bq ar { l:=0,f:=34,rd:=true,ow:=[56]} mixed rfl rfl rfl (by kernel_rfl) ?_
        conv=>whnf
        refine And.intro rfl ?_
        conv=>whnf
        repeat(any_goals(first|exact ab|(refine ap ?_ ?_<;>intro _<;>first|exact aq|conv=>whnf)|((first|refine aa htr ?_|refine ah htr rfl ?_|refine aa hsp ?_|refine ah hsp rfl ?_|refine aa hrd ?_|refine ah hrd rfl ?_|refine ac ?_|refine bi ?_ ?_|intro _)<;>conv=>whnf)))
        all_goals(try(first|exact absurd (by assumption) hp'|exact absurd (by assumption) hq'))
        all_goals repeat(first|exact trivial|refine And.intro rfl ?_|refine kc rfl ?_)
 ·clear hit hln hlk
  rcases hR with⟨rfl|rfl,rfl⟩|⟨rfl,rfl⟩
  ·unfold tr
   cases l0 with
   | nil =>
    conv=>whnf
    repeat(refine af (aA _ _) ?_<;>(conv=>whnf))
    repeat(any_goals(first|exact ab|(refine ap ?_ ?_<;>intro _<;>first|exact aq|conv=>whnf)|((first|refine ac ?_|refine bi ?_ ?_|intro _)<;>conv=>whnf)))
    (refine⟨⟨?_⟩,trivial⟩;rfl)
   | cons y l =>
    conv=>whnf
    repeat(refine af (aA _ _) ?_<;>(conv=>whnf))
    repeat(any_goals(first|exact ab|(refine ap ?_ ?_<;>intro _<;>first|exact aq|conv=>whnf)|((first|refine ac ?_|refine bi ?_ ?_|intro _)<;>conv=>whnf)))
    (refine⟨⟨?_⟩,trivial⟩;rfl)
  ·unfold tr
   cases l0 with
   | nil =>
    conv=>whnf
    repeat(refine af (aA _ _) ?_<;>(conv=>whnf))
    repeat(any_goals(first|exact ab|(refine ap ?_ ?_<;>intro _<;>first|exact aq|conv=>whnf)|((first|refine ac ?_|refine bi ?_ ?_|intro _)<;>conv=>whnf)))
    (refine⟨⟨?_⟩,trivial⟩;rfl)
   | cons y l =>
    conv=>whnf
    repeat(refine af (aA _ _) ?_<;>(conv=>whnf))
    repeat(any_goals(first|exact ab|(refine ap ?_ ?_<;>intro _<;>first|exact aq|conv=>whnf)|((first|refine ac ?_|refine bi ?_ ?_|intro _)<;>conv=>whnf)))
    (refine⟨⟨?_⟩,trivial⟩;rfl)
  ·have hho:=q7 s hg l0 hl0
   cases l0 with
   | nil =>
    have hho:=hho.args (args:=[dk s,oe]) (WkL.cons (Wk.refl _) (WkL.cons (Wk.nil 3) trivial))
    by_cases hh:s.holds []=true
    ·rw[hh]at hho
     have htx:=CB s hg [] (iI hh) (Nat.le_trans (fJ hg hh) hg.len)
     have htx:=htx.args (args:=[dk s,oe]) (WkL.cons (Wk.refl _) (WkL.cons (Wk.nil 3) trivial))
     unfold zx
     by_cases ht2:s.textL []=bytes t
     ·rw[if_pos ⟨hh,ht2⟩]
      have hd:aK (s.textL [])=t:=by rw[ht2];rfl
      clear hh ht2
      generalize s.textL []=T at *
      conv=>whnf
      repeat(refine af (aA _ _) ?_<;>(conv=>whnf))
      repeat(first|(refine af (bF (y::l) (l.length+1) (by simp)) ?_<;>(conv=>whnf))|(any_goals(first|exact ab|((first|refine bd ?_ ?_|refine bn ?_ ?_)<;>intro _<;>first|(exfalso;omega)|conv=>whnf)|((first|refine ah hho rfl ?_|refine ah htx rfl ?_|refine af (bF (y::l) (l.length+1) (by simp)) ?_|refine dI ?_|refine okI ?_|refine bt ?_|refine bi (fun _=>?_) (fun _=>?_)|refine GE ?_|intro _)<;>conv=>whnf))))
      all_goals(try(exact absurd hd (by assumption)))
      all_goals(refine⟨⟨?_⟩,trivial⟩;rfl)
     ·rw[if_neg (fun h=>ht2 h.2)]
      have hd:¬aK (s.textL [])=t:=fun e=>ht2 (by rw[←e];rfl)
      clear hh ht2
      generalize s.textL []=T at *
      unfold tr
      conv=>whnf
      repeat(refine af (aA _ _) ?_<;>(conv=>whnf))
      repeat(first|(refine af (bF (y::l) (l.length+1) (by simp)) ?_<;>(conv=>whnf))|(any_goals(first|exact ab|((first|refine bd ?_ ?_|refine bn ?_ ?_)<;>intro _<;>first|(exfalso;omega)|conv=>whnf)|((first|refine ah hho rfl ?_|refine ah htx rfl ?_|refine af (bF (y::l) (l.length+1) (by simp)) ?_|refine dI ?_|refine okI ?_|refine bt ?_|refine bi (fun _=>?_) (fun _=>?_)|refine GE ?_|intro _)<;>conv=>whnf))))
      all_goals(try(exact absurd (by assumption) hd))
      all_goals(refine⟨⟨?_⟩,trivial⟩;rfl)
    ·unfold zx
     rw[if_neg (fun h=>hh h.1)]
     rw[Bool.eq_false_iff.2 hh]at hho
     unfold tr
     conv=>whnf
     repeat(refine af (aA _ _) ?_<;>(conv=>whnf))
     repeat(first|(refine af (bF (y::l) (l.length+1) (by simp)) ?_<;>(conv=>whnf))|(any_goals(first|exact ab|((first|refine bd ?_ ?_|refine bn ?_ ?_)<;>intro _<;>first|(exfalso;omega)|conv=>whnf)|((first|refine ah hho rfl ?_|refine ah htx rfl ?_|refine af (bF (y::l) (l.length+1) (by simp)) ?_|refine dI ?_|refine okI ?_|refine bt ?_|refine bi (fun _=>?_) (fun _=>?_)|refine GE ?_|intro _)<;>conv=>whnf))))
     all_goals(refine⟨⟨?_⟩,trivial⟩;rfl)
   | cons y l =>
    have hel:((y::l).map bB).length=l.length+1:=by simp
    by_cases hh:s.holds (y::l)=true
    ·rw[hh]at hho
     have htx:=CB s hg (y::l) (iI hh) (Nat.le_trans (fJ hg hh) hg.len)
     unfold zx
     by_cases ht2:s.textL (y::l)=bytes t
     ·rw[if_pos ⟨hh,ht2⟩]
      have hd:aK (s.textL (y::l))=t:=by rw[ht2];rfl
      clear hh ht2
      generalize s.textL (y::l)=T at *
      conv=>whnf
      repeat(refine af (aA _ _) ?_<;>(conv=>whnf))
      repeat(first|(refine af (bF (y::l) (l.length+1) (by simp)) ?_<;>(conv=>whnf))|(any_goals(first|exact ab|((first|refine bd ?_ ?_|refine bn ?_ ?_)<;>intro _<;>first|(exfalso;omega)|conv=>whnf)|((first|refine ah hho rfl ?_|refine ah htx rfl ?_|refine af (bF (y::l) (l.length+1) (by simp)) ?_|refine dI ?_|refine okI ?_|refine bt ?_|refine bi (fun _=>?_) (fun _=>?_)|refine GE ?_|intro _)<;>conv=>whnf))))
      all_goals(try(exact absurd hd (by assumption)))
      all_goals(refine⟨⟨?_⟩,trivial⟩;rfl)
     ·rw[if_neg (fun h=>ht2 h.2)]
      have hd:¬aK (s.textL (y::l))=t:=fun e=>ht2 (by rw[←e];rfl)
      clear hh ht2
      generalize s.textL (y::l)=T at *
      unfold tr
      conv=>whnf
      repeat(refine af (aA _ _) ?_<;>(conv=>whnf))
      repeat(first|(refine af (bF (y::l) (l.length+1) (by simp)) ?_<;>(conv=>whnf))|(any_goals(first|exact ab|((first|refine bd ?_ ?_|refine bn ?_ ?_)<;>intro _<;>first|(exfalso;omega)|conv=>whnf)|((first|refine ah hho rfl ?_|refine ah htx rfl ?_|refine af (bF (y::l) (l.length+1) (by simp)) ?_|refine dI ?_|refine okI ?_|refine bt ?_|refine bi (fun _=>?_) (fun _=>?_)|refine GE ?_|intro _)<;>conv=>whnf))))
      all_goals(try(exact absurd (by assumption) hd))
      all_goals(refine⟨⟨?_⟩,trivial⟩;rfl)
    ·unfold zx
     rw[if_neg (fun h=>hh h.1)]
     rw[Bool.eq_false_iff.2 hh]at hho
     unfold tr
     conv=>whnf
     repeat(refine af (aA _ _) ?_<;>(conv=>whnf))
     repeat(first|(refine af (bF (y::l) (l.length+1) (by simp)) ?_<;>(conv=>whnf))|(any_goals(first|exact ab|((first|refine bd ?_ ?_|refine bn ?_ ?_)<;>intro _<;>first|(exfalso;omega)|conv=>whnf)|((first|refine ah hho rfl ?_|refine ah htx rfl ?_|refine af (bF (y::l) (l.length+1) (by simp)) ?_|refine dI ?_|refine okI ?_|refine bt ?_|refine bi (fun _=>?_) (fun _=>?_)|refine GE ?_|intro _)<;>conv=>whnf))))
     all_goals(refine⟨⟨?_⟩,trivial⟩;rfl)
end Go.Proofs.YtgncapdjheghfaaGreatDoor
namespace Go.Proofs.YtgncapdjheghfaaGreatDoor
open Go.Am Go.Proofs Go
theorem tZ(s:Bill):∀(rs:List Bs) (l:List Ent),(s.readM rs l).1.l.length≤l.length+rs.length
 | [],l=>Nat.le_refl _
 | r::rs,l=>by
  rw[ma]
  have h:(s.stepM l r).l.length≤l.length+1:=by
   rcases jQ s l r with e|e|e|⟨x,e⟩<;>rw[e]<;>simp
  split
  ·have:=tZ s rs (s.stepM l r).l
   simp only[List.length_cons];omega
  ·simp only[List.length_cons];omega
theorem xR:∀{rs:List Bs},RowsOk rs→rs.length≤rs.flatten.length
 | _,.nil=>Nat.le_refl _
 | _,.row w rs _ k=>by have:=xR k;simp only[List.length_cons,List.flatten_cons,List.length_append,List.length_nil];omega
 | _,.last w _ h0=>by have:=List.length_pos_iff.2 h0;simp only[List.length_cons,List.flatten_cons,List.flatten_nil,List.append_nil,List.length_nil];omega
theorem rk{P:Program}{f:FuncId}{args:List AV}{e:Int}(h:PureA P f args (tr e)):PureA P f args (.tuple [aG [],aj e]) :=
 h.wk (Wk.tuple (.cons (Wk.nil 3) (WkL.refl _)))
theorem oL(s:Bill)(hr:s.small)(t:ByteArray):PureA Tryz.prog 34 [aF s,aN t] (.tuple [aG (s.readR t).1,aj (s.readR t).2]):=by
 unfold Bill.readR
 by_cases hc:s.check.2.2=0
 ·rw[if_neg (fun h=>h hc)]
  by_cases hz:800<t.size
  ·rw[if_pos hz]
   exact rk (Is s hr t hc hz)
  ·rw[if_neg hz]
   obtain⟨rs,hok,hfl⟩:=Ch (bytes t).length (bytes t) (Nat.le_refl _)
   have hp:s.parse (bytes t)=s.parseW (rs.map fZ):=by unfold Bill.parse;rw[←hfl,ql hok]
   rw[hp]
   have hm:=jH s rs []
   have hlen:=tZ s rs []
   have hrl:=xR hok
   have hts:rs.flatten.length=t.size:=by rw[hfl];rfl
   have hb:(s.readM rs []).1.l.length≤1048576:=by simp only[List.length_nil]at hlen;omega
   cases hw:s.parseW (rs.map fZ)with
   | none =>
    rw[hw]at hm
    simp only at hm ⊢
    exact rk (Cb s hr t hc (by omega) rs hok hfl _ _ _ hb rfl _ (.inl ⟨hm,rfl⟩))
   | some l =>
    rw[hw]at hm
    simp only[List.nil_append]at hm ⊢
    have h:=Cb s hr t hc (by omega) rs hok hfl l 0 [] (by rw[hm]at hb;exact hb) hm _ (.inr ⟨rfl,rfl⟩)
    unfold zx at h
    by_cases hh:s.holds l=true∧s.textL l=bytes t
    ·rw[if_pos hh]at h ⊢
     cases l with
     | nil=>exact h.wk (Wk.tuple (.cons (Wk.nil 3) (WkL.refl _)))
     | cons y l=>exact h
    ·rw[if_neg hh]at h ⊢
     exact rk h
 ·rw[if_pos hc]
  exact rk (Ir s hr t hc)
end Go.Proofs.YtgncapdjheghfaaGreatDoor
namespace Go.Proofs.YtgncapdjheghfaaGreatDoor
open Go.Am Go.Proofs Go
theorem dz{s:Bill}(hg:s.Good){c:List Ent}(h:s.holds c=true):cb s c=0:=by
 unfold cb
 rw[if_neg (by rw[hg.check];simp),if_pos h]
end Go.Proofs.YtgncapdjheghfaaGreatDoor
namespace Go.Proofs.YtgncapdjheghfaaGreatDoor
open Go.Am Go.Proofs Go
structure SlS where
 i:Nat
 K:List Int
 I:List Int
structure SuS where
 i:Nat
 U:List Int
theorem vG(x:Ent)(l:List Ent):cG (x::l)=if x.says=0 then x.a::cG l else cG l:=rfl
theorem mm(s:Bill)(is:List Int)(f i:Nat):fa s is (f+1) i=if(s.inAll i&& !gc (i:Int) is)=true then(i:Int)::fa s is f (i+1)else fa s is f (i+1):=rfl
set_option maxHeartbeats 4000000 in
theorem E3(s S:Bill)(c:List Ent)(left:Int)(hl6:c.length≤6)(hf6:s.figs.length≤6)(hk:PureA Tryz.prog 73 [.agg [aj s.lines,bu s.figs,aD s.truths],aG c] (aj 0))
  (hse:PureA Tryz.prog 47 [aj ((s.truths.map aj).length:Int)] (aj (2^s.truths.length))) (hb:(2:Int)^s.truths.length≤64∧0<(2:Int)^s.truths.length)
  (hw:PureA Tryz.prog 60 [aj left,aj 1,aj (2^s.truths.length-1)] (aB true))
  (hle:PureA Tryz.prog 48 [.agg [aj s.lines,bu s.figs,aD s.truths],aj left] (.agg [aj S.lines,bu S.figs,aD S.truths]))
  (hso:∀x∈c,PureA Tryz.prog 49 [.agg [aj S.lines,bu S.figs,aD S.truths],aD [x.a]] (aB (S.inSome x.a.toNat)))
  (hal:∀i:Nat,i<s.figs.length→PureA Tryz.prog 50 [.agg [aj S.lines,bu S.figs,aD S.truths],aD [(i:Int)]] (aB (S.inAll i)))
  (hha:∀(l:List Int) (n:Int),l.length≤1048576→PureA Tryz.prog 41 [aD l,aj n] (aB (gc n l))) :
  PureA Tryz.prog 37 [aF s,aG c,aj left] (.tuple [aD (bG S 0 c),aD (fa S (cG c) s.figs.length 0),aj 0]):=by
 have hcl:(c.map bB).length=c.length:=List.length_map ..
 have hfl:(s.figs.map cD).length=s.figs.length:=List.length_map ..
 have hK:=dp S
 have hI:=vG
 have hU:=mm S (cG c)
 have hU0:∀i,fa S (cG c) 0 i=[]:=fun _=>rfl
 have hI0:cG []=[]:=rfl
 have hK0:∀i,bG S i []=[]:=fun _=>rfl
 obtain⟨KR,hKR⟩:∃KR,bG S 0 c=KR:=⟨_,rfl⟩
 obtain⟨IR,hIR⟩:∃IR,cG c=IR:=⟨_,rfl⟩
 rw[hIR]at hU hU0
 obtain⟨UR,hUR⟩:∃UR,fa S IR s.figs.length 0=UR:=⟨_,rfl⟩
 rw[hKR,hIR,hUR]
 generalize (2:Int)^s.truths.length=P at *
 refine ae ar { l:=0,f:=37} mixed uZ Tryz.func37 (by kernel_rfl) ?_
 conv=>whnf
 repeat(any_goals(first|exact ab|(refine ap ?_ ?_<;>intro _<;>first|exact aq|conv=>whnf)|((first|refine aa hk ?_|refine ah hk rfl ?_|refine aa hse ?_|refine ah hse rfl ?_|refine aa hw ?_|refine ah hw rfl ?_|refine aa hle ?_|refine ah hle rfl ?_|refine ac ?_|refine bi ?_ ?_|intro _)<;>conv=>whnf)))
 clear hk hse hw hle hb
 refine dX 11 1 ⟨0,37,63⟩ ?_
 conv=>whnf
 refine dX 13 1 ⟨0,37,77⟩ ?_
 conv=>whnf
 refine aW ar { l:=0,f:=37} mixed (fun u:SlS=>[(14,aj u.i),(11,.slice 1 (u.K.map aj) (.own ⟨0,37,63⟩ 1)),(13,.slice 1 (u.I.map aj) (.own ⟨0,37,77⟩ 1))]) (fun _=>[]) (fun u=>[(⟨0,37,63⟩,some (1,u.K.length)),(⟨0,37,77⟩,some (1,u.I.length))]) (fun u=>u.i≤c.length∧u.K.length≤u.i∧u.I.length≤u.i∧KR=u.K++bG S u.i (c.drop u.i)∧IR=u.I++cG (c.drop u.i)) (fun u=>c.length-u.i) (⟨0,[],[]⟩:SlS) (by kernel_rfl)
  ⟨Nat.zero_le _,Nat.le_refl _,Nat.le_refl _,hKR.symm,hIR.symm⟩ ?_
 conv=>whnf
 refine⟨⟨ai rfl (ai rfl (ai rfl trivial)),trivial,aH rfl (aH rfl trivial)⟩,?_⟩
 clear hKR
 rintro u ⟨hi,hKl,hIl,H,J⟩
 generalize u.i=i at *
 generalize u.K=K at *
 generalize u.I=I at *
 clear u
 by_cases hlt:i<c.length
 ·obtain⟨x,hx,hd⟩:=ay (l:=c) (i:=i) hlt
  rw[hd,hK]at H
  rw[hd,hI]at J
  have hso:=hso x (List.mem_of_getElem? hx)
  have hKm:(K.map aj).length=K.length:=List.length_map ..
  have hIm:(I.map aj).length=I.length:=List.length_map ..
  have hT1:∀y,(I++[y]).length=(I.map aj).length+1:=by intro y;simp
  have hT2:∀y,(K++[y]).length=(K.map aj).length+1:=by intro y;simp
  by_cases q0:x.says=0
  ·rw[if_neg (by omega)]at H
   rw[if_pos q0]at J
   conv=>whnf
   repeat(any_goals(first|exact ab|(refine ap ?_ ?_<;>intro _<;>first|exact aq|conv=>whnf)|((first|refine ag hx rfl ?_|refine ac ?_|refine bi ?_ ?_|intro _)<;>conv=>whnf)))
   (refine⟨⟨i+1,K,I++[x.a]⟩,⟨by show i+1≤_;omega,by simp only[List.length_append,List.length_cons,List.length_nil];omega,by simp only[List.length_append,List.length_cons,List.length_nil];omega,by simpa using H,by simpa using J⟩,(by show _-(i+1)<_-i;omega),?_⟩;(conv=>whnf);refine⟨?_,?_,?_⟩<;>repeat(first|exact trivial|refine sc rfl ?_|refine kn ?_|refine kc rfl ?_|refine sc (by first|rfl|(rw[List.map_append];rfl)|(rw[hT1];rfl)|(rw[hT2];rfl)) ?_|refine kc (by first|rfl|(rw[List.map_append];rfl)|(rw[hT1];rfl)|(rw[hT2];rfl)) ?_))
  ·rw[if_neg q0]at J
   by_cases q2:x.says=2
   ·cases hv:S.inSome x.a.toNat with
    | true =>
     rw[hv]at hso
     rw[if_neg (by rw[hv];simp)]at H
     conv=>whnf
     repeat(any_goals(first|exact ab|(refine ap ?_ ?_<;>intro _<;>first|exact aq|conv=>whnf)|((first|refine ag hx rfl ?_|refine aa hso ?_|refine ah hso rfl ?_|refine ac ?_|refine bi ?_ ?_|intro _)<;>conv=>whnf)))
     (refine⟨⟨i+1,K,I⟩,⟨by show i+1≤_;omega,by simp only[List.length_append,List.length_cons,List.length_nil];omega,by simp only[List.length_append,List.length_cons,List.length_nil];omega,by simpa using H,by simpa using J⟩,(by show _-(i+1)<_-i;omega),?_⟩;(conv=>whnf);refine⟨?_,?_,?_⟩<;>repeat(first|exact trivial|refine sc rfl ?_|refine kn ?_|refine kc rfl ?_|refine sc (by first|rfl|(rw[List.map_append];rfl)|(rw[hT1];rfl)|(rw[hT2];rfl)) ?_|refine kc (by first|rfl|(rw[List.map_append];rfl)|(rw[hT1];rfl)|(rw[hT2];rfl)) ?_))
    | false =>
     rw[hv]at hso
     rw[if_pos ⟨q2,hv⟩]at H
     conv=>whnf
     repeat(any_goals(first|exact ab|(refine ap ?_ ?_<;>intro _<;>first|exact aq|conv=>whnf)|((first|refine ag hx rfl ?_|refine aa hso ?_|refine ah hso rfl ?_|refine ac ?_|refine bi ?_ ?_|intro _)<;>conv=>whnf)))
     (refine⟨⟨i+1,K++[(i:Int)],I⟩,⟨by show i+1≤_;omega,by simp only[List.length_append,List.length_cons,List.length_nil];omega,by simp only[List.length_append,List.length_cons,List.length_nil];omega,by simpa using H,by simpa using J⟩,(by show _-(i+1)<_-i;omega),?_⟩;(conv=>whnf);refine⟨?_,?_,?_⟩<;>repeat(first|exact trivial|refine sc rfl ?_|refine kn ?_|refine kc rfl ?_|refine sc (by first|rfl|(rw[List.map_append];rfl)|(rw[hT1];rfl)|(rw[hT2];rfl)) ?_|refine kc (by first|rfl|(rw[List.map_append];rfl)|(rw[hT1];rfl)|(rw[hT2];rfl)) ?_))
   ·rw[if_neg (fun h=>q2 h.1)]at H
    conv=>whnf
    repeat(any_goals(first|exact ab|(refine ap ?_ ?_<;>intro _<;>first|exact aq|conv=>whnf)|((first|refine ag hx rfl ?_|refine ac ?_|refine bi ?_ ?_|intro _)<;>conv=>whnf)))
    (refine⟨⟨i+1,K,I⟩,⟨by show i+1≤_;omega,by simp only[List.length_append,List.length_cons,List.length_nil];omega,by simp only[List.length_append,List.length_cons,List.length_nil];omega,by simpa using H,by simpa using J⟩,(by show _-(i+1)<_-i;omega),?_⟩;(conv=>whnf);refine⟨?_,?_,?_⟩<;>repeat(first|exact trivial|refine sc rfl ?_|refine kn ?_|refine kc rfl ?_|refine sc (by first|rfl|(rw[List.map_append];rfl)|(rw[hT1];rfl)|(rw[hT2];rfl)) ?_|refine kc (by first|rfl|(rw[List.map_append];rfl)|(rw[hT1];rfl)|(rw[hT2];rfl)) ?_))
 ·have hin:i=c.length:=by omega
  subst hin
  rw[List.drop_length,hK0,List.append_nil]at H
  rw[List.drop_length,hI0,List.append_nil]at J
  subst H J
  have hKm:(KR.map aj).length=KR.length:=List.length_map ..
  have hha:=fun n=>hha IR n (by omega)
  clear hso
  conv=>whnf
  repeat(any_goals(first|exact ab|(refine ap ?_ ?_<;>intro _<;>first|exact aq|conv=>whnf)|((first|refine ac ?_|refine bi ?_ ?_|intro _)<;>conv=>whnf)))
  refine dX 12 1 ⟨0,37,98⟩ ?_
  conv=>whnf
  refine aW ar { l:=0,f:=37} mixed (fun u:SuS=>[(15,aj u.i),(12,.slice 1 (u.U.map aj) (.own ⟨0,37,98⟩ 1))]) (fun _=>[]) (fun u=>[(⟨0,37,98⟩,some (1,u.U.length))]) (fun u=>u.i≤s.figs.length∧u.U.length≤u.i∧UR=u.U++fa S IR (s.figs.length-u.i) u.i) (fun u=>s.figs.length-u.i) (⟨0,[]⟩:SuS) (by kernel_rfl)
   ⟨Nat.zero_le _,Nat.le_refl _,hUR.symm⟩ ?_
  conv=>whnf
  refine⟨⟨ai rfl (ai rfl trivial),trivial,aH rfl trivial⟩,?_⟩
  clear hUR
  rintro u ⟨hi2,hUl,H⟩
  generalize u.i=i at *
  generalize u.U=U at *
  clear u
  by_cases hlt2:i<s.figs.length
  ·obtain⟨f,hf⟩:∃f,s.figs.length-i=f+1:=⟨s.figs.length-i-1,by omega⟩
   have hf2:s.figs.length-(i+1)=f:=by omega
   rw[hf,hU]at H
   have hal:=hal i hlt2
   have hha:=hha (i:Int)
   have hUm:(U.map aj).length=U.length:=List.length_map ..
   have hT1:∀y,(U++[y]).length=(U.map aj).length+1:=by intro y;simp
   rw[←hf2]at H
   cases hv:S.inAll i with
   | false =>
    rw[hv]at hal
    rw[if_neg (by rw[hv];simp)]at H
    conv=>whnf
    repeat(any_goals(first|exact ab|(refine ap ?_ ?_<;>intro _<;>first|exact aq|conv=>whnf)|((first|refine aa hal ?_|refine ah hal rfl ?_|refine ac ?_|refine bi ?_ ?_|intro _)<;>conv=>whnf)))
    (refine⟨⟨i+1,U⟩,⟨by show i+1≤_;omega,by show U.length≤i+1;omega,H⟩,(by show _-(i+1)<_-i;omega),?_⟩;(conv=>whnf);refine⟨?_,?_,?_⟩<;>repeat(first|exact trivial|refine sc rfl ?_|refine kn ?_|refine kc rfl ?_|refine sc (by rfl) ?_|refine kc (by rfl) ?_))
   | true =>
    rw[hv]at hal
    cases hh:gc (i:Int) IR with
    | true =>
     rw[hh]at hha
     rw[if_neg (by rw[hh];simp)]at H
     conv=>whnf
     repeat(any_goals(first|exact ab|(refine ap ?_ ?_<;>intro _<;>first|exact aq|conv=>whnf)|((first|refine aa hal ?_|refine ah hal rfl ?_|refine aa hha ?_|refine ah hha rfl ?_|refine ac ?_|refine bi ?_ ?_|intro _)<;>conv=>whnf)))
     (refine⟨⟨i+1,U⟩,⟨by show i+1≤_;omega,by show U.length≤i+1;omega,H⟩,(by show _-(i+1)<_-i;omega),?_⟩;(conv=>whnf);refine⟨?_,?_,?_⟩<;>repeat(first|exact trivial|refine sc rfl ?_|refine kn ?_|refine kc rfl ?_|refine sc (by rfl) ?_|refine kc (by rfl) ?_))
    | false =>
     rw[hh]at hha
     rw[if_pos (by rw[hv,hh];rfl)]at H
     conv=>whnf
     repeat(any_goals(first|exact ab|(refine ap ?_ ?_<;>intro _<;>first|exact aq|conv=>whnf)|((first|refine aa hal ?_|refine ah hal rfl ?_|refine aa hha ?_|refine ah hha rfl ?_|refine ac ?_|refine bi ?_ ?_|intro _)<;>conv=>whnf)))
     (refine⟨⟨i+1,U++[(i:Int)]⟩,⟨by show i+1≤_;omega,by simp only[List.length_append,List.length_cons,List.length_nil];omega,by simpa using H⟩,(by show _-(i+1)<_-i;omega),?_⟩;(conv=>whnf);refine⟨?_,?_,?_⟩<;>repeat(first|exact trivial|refine sc rfl ?_|refine kn ?_|refine kc rfl ?_|refine sc (by first|rfl|(rw[List.map_append];rfl)|(rw[hT1];rfl)) ?_|refine kc (by first|rfl|(rw[List.map_append];rfl)|(rw[hT1];rfl)) ?_))
  ·have hin:i=s.figs.length:=by omega
   subst hin
   rw[Nat.sub_self,hU0,List.append_nil]at H
   subst H
   conv=>whnf
   repeat(any_goals(first|exact ab|(refine ap ?_ ?_<;>intro _<;>first|exact aq|conv=>whnf)|((first|refine ac ?_|refine bi ?_ ?_|intro _)<;>conv=>whnf)))
   (refine⟨⟨?_⟩,trivial⟩;rfl)
theorem Ce(s:Bill)(hr:s.small)(c:List Ent)(left:Int):PureA Tryz.prog 37 [aF s,aG c,aj left] (ui (s.slipR c left)):=by
 have hk:=zy s hr c
 unfold Bill.slipR
 obtain⟨e,he⟩:∃e,cb s c=e:=⟨_,rfl⟩
 rw[he]at hk ⊢
 unfold aF at hk
 by_cases h0:e=0
 ·rw[if_neg (fun h=>h h0)]
  subst h0
  obtain⟨hg,hok,h6⟩:=cr he
  have hh:s.holds c=true:=by
   unfold cb at he
   rw[if_neg (by rw[hg.check];simp)]at he
   by_cases q:s.holds c=true
   ·exact q
   ·rw[if_neg q]at he;simp at he
  have hT:=hg.lenT
  have h6f:=hg.len
  obtain⟨p1,p2⟩:=bH hT.2
  have htl:(s.truths.map aj).length=s.truths.length:=List.length_map ..
  have hse:=ld s.truths.length (by omega)
  have hw:=dO left 1 (2^s.truths.length-1)
  rw[eQ]at hw
  by_cases ho:aQ 1 (2^s.truths.length-1) left=true
  ·rw[if_pos ho]
   rw[ho]at hw
   clear hg hok hh
   rw[←htl]at hse
   rw[htl]at hse
   generalize (2:Int)^s.truths.length=P at *
   rw[←htl]at hse
   refine nx ?_
   refine ae ar { l:=0,f:=37} mixed uZ Tryz.func37 (by kernel_rfl) ?_
   conv=>whnf
   repeat(any_goals(first|exact ab|(refine ap ?_ ?_<;>intro _<;>first|exact aq|conv=>whnf)|((first|refine aa hk ?_|refine ah hk rfl ?_|refine aa hse ?_|refine ah hse rfl ?_|refine aa hw ?_|refine ah hw rfl ?_|refine ac ?_|refine bi ?_ ?_|intro _)<;>conv=>whnf)))
   (refine⟨⟨?_⟩,trivial⟩;rfl)
  ·rw[if_neg ho]
   rw[Bool.not_eq_true]at ho
   rw[ho]at hw
   rw[aT]at ho
   have hln:((left.toNat:Nat):Int)=left:=by omega
   have hlt:left.toNat<2^s.truths.length:=by
    have:((2^s.truths.length:Nat):Int)=(2:Int)^s.truths.length:=by norm_cast
    omega
   have hne:=qL (l:=s.truths) rfl (show left.toNat≠0 by omega) hlt
   have hS:=iO hg hne
   have hle:=oM s (by omega) left.toNat
   rw[hln]at hle
   have heq:=wQ hS (fun t ht=>(cT left.toNat s.truths 0).subset ht) rfl h6f hh
   have hTS:=hS.lenT
   have htS:∀t∈(s.leftT left.toNat).truths,0≤t:=fun t h=>(hS.lt h).1
   unfold ui
   simp only
   rw[heq]
   refine E3 s (s.leftT left.toNat) c left h6 h6f hk (by rw[htl];exact hse) ⟨by omega,by omega⟩ hw hle (fun x hx=>?_) (fun i hi=>?_) (fun l n hl=>mD l n hl)
   ·have hxa:=(hok x hx).a
    have:=uk (s.leftT left.toNat) (by omega) htS [x.a] (by simp) (by intro y hy;simp at hy;omega)
    rw[i4]at this
    exact this
   ·have:=r7 (s.leftT left.toNat) (by omega) htS [(i:Int)] (by simp) (by intro y hy;simp at hy;omega)
    rw[nB,Int.toNat_natCast]at this
    exact this
 ·rw[if_pos h0]
  refine nx ?_
  refine ae ar { l:=0,f:=37} mixed uZ Tryz.func37 (by kernel_rfl) ?_
  conv=>whnf
  repeat(any_goals(first|exact ab|(refine ap ?_ ?_<;>intro _<;>first|exact aq|conv=>whnf)|((first|refine aa hk ?_|refine ah hk rfl ?_|refine ac ?_|refine bi ?_ ?_|intro _)<;>conv=>whnf)))
  (refine⟨⟨?_⟩,trivial⟩;rfl)
end Go.Proofs.YtgncapdjheghfaaGreatDoor
