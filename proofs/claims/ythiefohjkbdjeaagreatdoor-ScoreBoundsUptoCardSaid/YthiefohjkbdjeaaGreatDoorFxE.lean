/- A LIBRARY: WHAT A FUNCTION'S CODE RECKONS, AS A LEAN FUNCTION, AND THAT ITS WORD IS THE MODEL'S: part 5 of 5. No condition. -/
import Derived.Test.YthiefohjkbdjeaaGreatDoorFxD
import Derived.Carry
import Derived.WideShapes
import Derived.Lib.AtoiAll
import Derived.Lib.ItoaNum
import Derived.Lib.Bytealg
import Derived.Lib.IndexLaws
import Derived.Lib.ParseIntBTie
import Derived.Lib.ItoaLen
import Derived.Lib.AppendIntMem
import Derived.Lib.LaidTab
import Derived.Shelf.Small.Bits
import Derived.Shelf.Strconv.Itoa4
import Derived.DataReads
import Derived.ChangeArms
set_option linter.unusedVariables false
set_option linter.unusedSimpArgs false
namespace Go.Sy
open Go.ChangeShapes Go.RowKit
section
variable {P:Program} {w:World} {r:Reach} {b:Nat} {t:TypeId} {v:Value}
theorem trod_kept {H:Type} {enc:TypeId×Value->H} {P:Program} {t:TypeId} (hl:laidOutB P=true) (hr:P.readableRec t=true) (hrow:t<P.types.size) {W W':World} {v:Value} {d:DataW H} {ps:List MemPlace} {sp:Nat->Bool}
  (h:DataW.Trod enc P W 0 (fun _=>true) true t v d ps) (hb:Kept W W') (hlt:∀x∈ps,x.block<W.heap.size) (hs:∀x∈ps,sp x.block=true):DataW.Trod enc P W' 0 sp true t v d ps:=
 WideElems.Trod_stays hl hr hrow h (fun x hx=>hb.below.same (hlt x hx)) hs
end
end Go.Sy
namespace Go.Sy
open Go.ChangeShapes Go.RowKit
section
variable {P:Program} {w:World} {r:Reach} {b:Nat} {t u:TypeId} {v:Value} {E:Env}
def lets (s:ByteArray):List Nat:=s.data.toList.map UInt8.toNat
theorem VR.lets {s:ByteArray} (h:s.size<=maxStr):VR E w (.str (Sy.lets s)) (.string s):=.str _ s rfl (by
 have:(Sy.lets s).length=s.size:=by
  unfold Sy.lets
  rw [List.length_map,Array.length_toList]
  rfl
 omega)
theorem lets_lt {s:ByteArray}:∀b∈lets s,b<256:=by
 intro b hb
 obtain ⟨x,_,rfl⟩:=List.mem_map.1 hb
 exact UInt8.toNat_lt x
theorem pure_of_calls {G:Cx} {f:FuncId} {fn:Func} {body:Code} (hf:P.funcs[f]? = some fn) (hb:fn.body=some body) (hn:(fn.name == "runtime.NumGoroutine")=false) {g:List AV->Option AV}
  (h:∀args v,g args=some v->∀(E:Env) (w:World) (cargs:Array Value),HR E [] w->VRs E w args cargs.toList->GR G E w->Calls P f cargs w fun e w'=>∃cv,e=.returned cv/\Below w.heap.size w w'/\VR E w v cv) (hp:∀args v,g args=some v->args.all (pureV 40)=true/\pureV 40 v=true) (hG:PureG G):PureOK P G f g:=by
 intro args v hv
 refine ⟨⟨fn,body,hf,hb,hn⟩,fn_anywhere hG (hp _ _ hv).1 (hp _ _ hv).2 (n:=0) ?_⟩
 intro E w cargs hr hva hg _
 refine (h args v hv E w cargs hr hva hg).mono fun e w' h1=>?_
 obtain ⟨cv,rfl,h2,h3⟩:=h1
 obtain ⟨k1,k2,k3⟩:=below_step hr h2 0
 exact ⟨cv,E,rfl,k1,k2,k3 h3⟩
end
end Go.Sy
namespace Go.Sy
open Go.RowKit
section
variable {P:Program} {G:Cx} {E:Env} {w w':World} {H:Heap}
theorem below_close {N:Nat} (hr:HR E H w) (hb:Below w.heap.size w w') (hN:w.heap.size<=N) (hlt:N<w'.heap.size) (a:Nat):
  HR { E with Z:=fun b=>E.Z b\/b=N } H w'/\Tr E H w { E with Z:=fun b=>E.Z b\/b=N } H w' a a/\∀{v cv},VR E w v cv->VR { E with Z:=fun b=>E.Z b\/b=N } w' v cv:=by
 have hS:Shapes w w':=fun b c e f h=>⟨c,f,(hb.block b (Array.getElem?_eq_some_iff.1 h).1).trans h,rfl⟩
 have hm:∀{v cv},VR E w v cv->VR { E with Z:=fun b=>E.Z b\/b=N } w' v cv:=fun hv=>
  VR.mono (E:=E) (E':={ E with Z:=fun b=>E.Z b\/b=N }) (fun _ h=>⟨h,rfl⟩) (fun b h=>⟨.inl h,hb.block b (hr.zlt b h)⟩) hS hv
 refine ⟨⟨hr.nodup,hr.dom,hr.inj,fun p hp=>(hr.obj p hp).mono (hb.block _ (hr.lt hp)) hm,fun p hp hz=>?_,fun b h=>?_⟩,
  ⟨Nat.le_refl _,fun _ _=>rfl,fun h=>⟨.inl,fun h=>h.elim id fun ⟨x,y⟩=>by omega⟩,fun _ h=>.inl h,fun x h=>?_,fun p hp=>.inl ⟨p,hp,rfl⟩,hb.tape,hb.os,hb.output,hb.size,fun x hx _=>hb.block x hx,hS,rfl⟩,hm⟩
 ·rcases hz with hz | hz
  ·exact hr.nz p hp hz
  ·have:=hr.lt hp
   have e:E.ρ p.1=N:=hz
   omega
 ·rcases h with h | h
  ·exact Nat.lt_of_lt_of_le (hr.zlt b h) hb.size
  ·rw [h];exact hlt
 ·rcases h with h | h
  ·exact .inl h
  ·exact .inr (.inr (by rw [h];exact hN))
def decN (i:Nat):List Nat:=(Lib.decDigits i).map UInt8.toNat
def itoaG:List AV->Option AV
 | [.int .i64 (.ofNat i)]=>match Nat.blt i 100 with
  | true=>some (.str (decN i))
  | false=>none
 | _=>none
theorem itoa_pure {f:FuncId} {fn:Func} {body:Code} (hf:P.funcs[f]? = some fn) (hb:fn.body=some body) (hn:(fn.name == "runtime.NumGoroutine")=false)
  (h0:∀(i:Nat) (hi:i<100) (w:World),Calls P f #[.int .i64 i] w fun e w'=>e=.returned (.string ⟨(Lib.decDigits i).toArray⟩)/\w'=w) (hG:PureG G):PureOK P G f itoaG:=by
 refine pure_of_calls hf hb hn (fun args v hv E w cargs hr hva hg=>?_) (fun args v hv=>?_) hG
 ·unfold itoaG at hv
  split at hv
  rotate_left
  ·cases hv
  rename_i i
  split at hv
  rotate_left
  ·cases hv
  rename_i hi
  have hi:i<100:=by simpa [Nat.blt_eq] using hi
  cases hv
  obtain ⟨c,cr,hc,hvc,hrest⟩:=hva.of_cons
  have hcr:=hrest.of_nil
  subst hcr
  have hca:cargs=#[c]:=by apply Array.toList_inj.1;simpa using hc
  subst hca
  obtain ⟨rfl,_⟩:=hvc.of_int
  refine (h0 i hi w).mono fun e w' h=>?_
  obtain ⟨rfl,rfl⟩:=h
  refine ⟨_,rfl,Below.refl _ _,.str _ _ (by simp [decN]) ?_⟩
  have:(Lib.decDigits i).length<=2:=by
   rw [Lib.decDigits]
   split
   ·simp
   ·rw [Lib.decDigits]
    split
    ·simp
    ·omega
  unfold decN maxStr
  rw [List.length_map]
  omega
 ·unfold itoaG at hv
  split at hv
  ·split at hv
   ·cases hv;exact ⟨rfl,rfl⟩
   ·cases hv
  ·cases hv
theorem glob_cell {g:Nat} {x:AV} {w:World} (hg:GR G E w) (hG:G.glob g=some (.eptr (.agg [x]) 0)):∃ev,w.cell? ⟨g,0,none⟩=some ev/\VR E w x ev/\ev.oneCell'=true:=by
 have:=(hg g _ hG).1
 generalize hpp:Value.pointer (some ⟨g,0,none⟩)=pv at this
 cases this with
 | eptr e off b o cv hfl hz hvv hcc=>
  have e1:g=b/\0=o+0:=by
   have h1:=Option.some.inj (Value.pointer.inj hpp)
   exact ⟨congrArg Addr.block h1,congrArg Addr.off h1⟩
  obtain ⟨e1,e2⟩:=e1
  obtain ⟨vs,rfl,h2,h3⟩:=hvv.of_agg
  obtain ⟨u,us,hu,h4,h5⟩:=h2.of_cons
  have h6:=h5.of_nil
  subst h6
  have h7:vs[0]? = some u:=by
   have:vs.toList[0]? = some u:=by rw [hu];rfl
   simpa using this
  have h8:=hcc 0 u (by simpa [Value.cells] using h7)
  have e3:o=0:=by omega
  subst e3
  exact ⟨u,by rw [e1];exact h8,h4,h3 u (by rw [hu];exact .head _)⟩
theorem lets_back {s:ByteArray}:(s.data.toList.map UInt8.toNat).map UInt8.ofNat=s.data.toList:=by
 rw [List.map_map]
 have:(UInt8.ofNat∘UInt8.toNat)=id:=by funext x;simp
 rw [this,List.map_id]
end
end Go.Sy
namespace Go.Sy
open Go.RowKit
section
variable {P:Program} {G:Cx} {E:Env} {w w':World} {H:Heap}
theorem EntOK.of_pure {f:Nat} {g:List AV->Option AV} (h:PureOK P G f g) (hp:∀args v,(∀a∈args,PP a)->g args=some v->PP v):EntOK P G f g:=fun args v ha hv=>⟨(h args v hv).1,hp args v ha hv,(h args v hv).2⟩
def idxG:List AV->Option AV
 | [.str s,.int .u8 c]=>some (.int .i64 (Lib.indexByte (s.map UInt8.ofNat) c.toNat.toUInt8))
 | _=>none
theorem idxByte_lt (c:UInt8) (l:List UInt8):Lib.indexByte l c<9223372036854775808\/9223372036854775808<=l.length:=by
 by_cases h:Lib.indexByte l c<0
 ·left;omega
 ·obtain ⟨o,ho⟩:=Int.eq_ofNat_of_zero_le (show 0<=Lib.indexByte l c by omega)
  have:=(Lib.indexByte_some ho).1
  have:=(List.getElem?_eq_some_iff.1 this).1
  omega
theorem idx_ext {f:FuncId} {fn:Func} {body:Code} (hf:P.funcs[f]? = some fn) (hb:fn.body=some body) (hn:(fn.name == "runtime.NumGoroutine")=false)
  (h0:∀(s:ByteArray) (c:Int) (w:World),Calls P f #[.string s,.int .u8 c] w fun e w'=>e=.returned (.int .i64 (Lib.indexByte s.data.toList c.toNat.toUInt8))/\w'=w):EntOK P G f idxG:=by
 intro args v ha hv
 unfold idxG at hv
 split at hv
 rotate_left
 ·cases hv
 rename_i l c
 cases hv
 refine ⟨⟨fn,body,hf,hb,hn⟩,.int _ _,fun H nx E w cargs hr hva hg hfr=>?_⟩
 obtain ⟨c1,cr,hc,hvc,hrest⟩:=hva.of_cons
 obtain ⟨c2,cr2,hc2,hvc2,hrest2⟩:=hrest.of_cons
 have hcr:=hrest2.of_nil
 subst hcr
 have hca:cargs=#[c1,c2]:=by apply Array.toList_inj.1;rw [hc,hc2]
 subst hca
 obtain ⟨s,rfl,hs,hl⟩:∃s:ByteArray,c1=.string s/\s.data.toList.map UInt8.toNat=l/\l.length<=maxStr:=by
  cases hvc with
  | str l s' h hl=>exact ⟨s',rfl,h,hl⟩
 obtain ⟨rfl,_⟩:=hvc2.of_int
 subst hs
 rw [lets_back]
 refine (h0 s c w).mono fun e w' h=>?_
 obtain ⟨rfl,rfl⟩:=h
 refine ⟨_,E,rfl,hr,.refl nx,.int _ _ ?_⟩
 have h1:=Lib.indexByte_ge s.data.toList c.toNat.toUInt8
 have h2:=idxByte_lt c.toNat.toUInt8 s.data.toList
 rw [List.length_map] at hl
 unfold maxStr at hl
 unfold has
 show -9223372036854775808<=_/\_<=9223372036854775807
 omega
theorem itoa_ext {f:FuncId} {fn:Func} {body:Code} (hf:P.funcs[f]? = some fn) (hb:fn.body=some body) (hn:(fn.name == "runtime.NumGoroutine")=false)
  (h0:∀(i:Nat) (hi:i<100) (w:World),Calls P f #[.int .i64 i] w fun e w'=>e=.returned (.string ⟨(Lib.decDigits i).toArray⟩)/\w'=w) (hG:PureG G):EntOK P G f itoaG:=.of_pure (itoa_pure hf hb hn h0 hG) fun args v _ hv=>by
 unfold itoaG at hv
 split at hv
 ·split at hv
  ·cases hv;exact .str _
  ·cases hv
 ·cases hv
def fmtG:List AV->Option AV
 | [.int .i64 n,.int .i64 b]=>match b==10&&decide (-9223372036854775808<=n/\n<=9223372036854775807) with
  | true=>some (.str ((Lib.itoa n).map UInt8.toNat))
  | false=>none
 | _=>none
theorem tab_is {n:String} {g:Nat} {zs:List Int} {k:IntKind} (hn:P.globalNamed n=some g) (hG:G.glob g=some (.eptr (.agg (zs.map fun z=>.int k z)) 0)) (hg:GR G E w):Lib.TabIs P w n k zs:=by
 obtain ⟨hv,hx⟩:=hg g _ hG
 obtain ⟨c,t,e,hb,hsz⟩:=hx _ _ rfl
 unfold Lib.TabIs World.var?
 rw [hn]
 show (match w.heap[g]? with | some (.cells cs _ _)=>some cs | _=>none)=_
 rw [hb]
 refine congrArg some ?_
 generalize hpp:Value.pointer (some ⟨g,0,none⟩)=pv at hv
 cases hv with
 | eptr e off b o cv hfl hz hvv hcc=>
  have e1:g=b/\0=o+0:=by
   have h1:=Option.some.inj (Value.pointer.inj hpp)
   exact ⟨congrArg Addr.block h1,congrArg Addr.off h1⟩
  obtain ⟨rfl,e2⟩:=e1
  have e3:o=0:=by omega
  subst e3
  obtain ⟨vs,rfl,h2,h3⟩:=hvv.of_agg
  have hlen:vs.size=zs.length:=by
   have:=h2.1
   simp at this
   omega
  apply Array.ext
  ·rw [hsz];simp
  ·intro i hi1 hi2
   have hi3:i<zs.length:=by simpa using hi2
   have hvi:vs[i]? = some (.int k zs[i]):=by
    have h4:=(h2.2 i (.int k zs[i]) (vs[i]'(by omega)) (by rw [List.getElem?_map,List.getElem?_eq_getElem hi3];rfl) (by simp [hlen,hi3]))
    have h5:=h4.of_int
    rw [Array.getElem?_eq_getElem (by omega)]
    exact congrArg some h5.1
   have h6:=hcc i (.int k zs[i]) (by simpa [Value.cells] using hvi)
   have h7:w.cell? ⟨g,0+i,none⟩=c[i]?:=by simp [World.cell?,hb,Nat.zero_add]
   rw [h7,Array.getElem?_eq_getElem hi1] at h6
   have h8:=Option.some.inj h6
   simpa using h8
theorem fmt_ext {f:FuncId} {fn:Func} {body:Code} {g:Nat} (hf:P.funcs[f]? = some fn) (hb:fn.body=some body) (hn:(fn.name == "runtime.NumGoroutine")=false)
  (hgn:P.globalNamed "internal/strconv.uint64pow10"=some g) (hG:G.glob g=some (.eptr (.agg (Lib.pow10Tab.map fun z=>.int .u64 z)) 0))
  (h0:∀(n:Int) (h0:-9223372036854775808<=n) (h1:n<=9223372036854775807) (w:World) (htab:Lib.TabIs P w "internal/strconv.uint64pow10" .u64 Lib.pow10Tab),Calls P f #[.int .i64 n,.int .i64 10] w fun e w'=>e=.returned (.string ⟨(Lib.itoa n).toArray⟩)/\∃k os,w'=Sort.grow (w.drewN k) os):EntOK P G f fmtG:=by
 intro args v ha hv
 unfold fmtG at hv
 split at hv
 rotate_left
 ·cases hv
 rename_i n b
 split at hv
 rotate_left
 ·cases hv
 rename_i hb2
 cases hv
 rw [Bool.and_eq_true] at hb2
 obtain rfl:b=10:=by simpa using hb2.1
 have hr2:=of_decide_eq_true hb2.2
 refine ⟨⟨fn,body,hf,hb,hn⟩,.str _,fun H nx E w cargs hr hva hg hfr=>?_⟩
 obtain ⟨c1,cr,hc,hvc,hrest⟩:=hva.of_cons
 obtain ⟨c2,cr2,hc2,hvc2,hrest2⟩:=hrest.of_cons
 have hcr:=hrest2.of_nil
 subst hcr
 have hca:cargs=#[c1,c2]:=by apply Array.toList_inj.1;rw [hc,hc2]
 subst hca
 obtain ⟨rfl,_⟩:=hvc.of_int
 obtain ⟨rfl,_⟩:=hvc2.of_int
 refine (h0 n hr2.1 hr2.2 w (tab_is hgn hG hg)).mono fun e w' h=>?_
 obtain ⟨rfl,k,os,rfl⟩:=h
 obtain ⟨k1,k2,k3⟩:=below_step hr (Lib.below_grow _ _ (Nat.le_refl _) k os) nx
 refine ⟨_,E,rfl,k1,k2,.str _ _ (by simp) ?_⟩
 have:=Lib.itoa_length_le n hr2.1 hr2.2
 rw [List.length_map]
 unfold maxStr
 omega
def lenG:List AV->Option AV
 | [.int .u64 x]=>match decide (0<=x/\x<=18446744073709551615) with
  | true=>some (.int .i64 (Lib.bitLen x.toNat))
  | false=>none
 | _=>none
theorem len_ext {f:FuncId} {fn:Func} {body:Code} (hf:P.funcs[f]? = some fn) (hb:fn.body=some body) (hn:(fn.name == "runtime.NumGoroutine")=false)
  (h0:∀(x:Int) (w:World) (h0:0<=x) (h1:x<=18446744073709551615),Calls P f #[.int .u64 x] w fun e w'=>e=.returned (.int .i64 (Lib.bitLen x.toNat))/\w'=w):EntOK P G f lenG:=by
 intro args v ha hv
 unfold lenG at hv
 split at hv
 rotate_left
 ·cases hv
 rename_i x
 split at hv
 rotate_left
 ·cases hv
 rename_i hx
 have hx:=of_decide_eq_true hx
 cases hv
 refine ⟨⟨fn,body,hf,hb,hn⟩,.int _ _,fun H nx E w cargs hr hva hg hfr=>?_⟩
 obtain ⟨c1,cr,hc,hvc,hrest⟩:=hva.of_cons
 have hcr:=hrest.of_nil
 subst hcr
 have hca:cargs=#[c1]:=by apply Array.toList_inj.1;rw [hc]
 subst hca
 obtain ⟨rfl,_⟩:=hvc.of_int
 refine (h0 x w hx.1 hx.2).mono fun e w' h=>?_
 obtain ⟨rfl,rfl⟩:=h
 refine ⟨_,E,rfl,hr,.refl nx,.int _ _ ?_⟩
 have:=Lib.bitLen_le x.toNat 64 (by omega) (by omega)
 unfold has
 show -9223372036854775808<=_/\_<=9223372036854775807
 omega
theorem EntOK.no {f:Nat}:EntOK P G f fun _=>none:=fun _ _ _ h=>by cases h
theorem below_all (hr:HR E H w) (hb:Below w.heap.size w w') (a:Nat):
  HR { E with Z:=fun b=>E.Z b\/(w.heap.size<=b/\b<w'.heap.size) } H w'/\Tr E H w { E with Z:=fun b=>E.Z b\/(w.heap.size<=b/\b<w'.heap.size) } H w' a a/\∀{v cv},VR E w v cv->VR { E with Z:=fun b=>E.Z b\/(w.heap.size<=b/\b<w'.heap.size) } w' v cv:=by
 have hS:Shapes w w':=fun b c e f h=>⟨c,f,(hb.block b (Array.getElem?_eq_some_iff.1 h).1).trans h,rfl⟩
 have hm:∀{v cv},VR E w v cv->VR { E with Z:=fun b=>E.Z b\/(w.heap.size<=b/\b<w'.heap.size) } w' v cv:=fun hv=>
  VR.mono (E:=E) (E':={ E with Z:=fun b=>E.Z b\/(w.heap.size<=b/\b<w'.heap.size) }) (fun _ h=>⟨h,rfl⟩) (fun b h=>⟨.inl h,hb.block b (hr.zlt b h)⟩) hS hv
 refine ⟨⟨hr.nodup,hr.dom,hr.inj,fun p hp=>(hr.obj p hp).mono (hb.block _ (hr.lt hp)) hm,fun p hp hz=>?_,fun b h=>?_⟩,
  ⟨Nat.le_refl _,fun _ _=>rfl,fun h=>⟨.inl,fun h=>h.elim id fun ⟨x,y⟩=>by omega⟩,fun _ h=>.inl h,fun x h=>?_,fun p hp=>.inl ⟨p,hp,rfl⟩,hb.tape,hb.os,hb.output,hb.size,fun x hx _=>hb.block x hx,hS,rfl⟩,hm⟩
 ·rcases hz with hz | hz
  ·exact hr.nz p hp hz
  ·have:=hr.lt hp
   have e:w.heap.size<=E.ρ p.1:=hz.1
   omega
 ·rcases h with h | h
  ·exact Nat.lt_of_lt_of_le (hr.zlt b h) hb.size
  ·exact h.2
 ·rcases h with h | h
  ·exact .inl h
  ·exact .inr (.inr h.1)
def pintG (T:Nat) (es er:AV):List AV->Option AV
 | [.str s,.int .i64 b,.int .i64 z]=>match Nat.ble s.length 281474976710656&&(b==10&&z==64) with
  | true=>match Lib.parseIntB 64 (s.map UInt8.ofNat) with
   | .ok v=>some (.tup [.int .i64 v,.niliface])
   | .range=>some (.tup [.int .i64 (Lib.intSat 64 (s.map UInt8.ofNat)),.iface T (.eptr (.agg [.str [80,97,114,115,101,73,110,116],.str s,er]) 0)])
   | _=>some (.tup [.int .i64 0,.iface T (.eptr (.agg [.str [80,97,114,115,101,73,110,116],.str s,es]) 0)])
  | false=>none
 | _=>none
theorem pint_ext {f:FuncId} {fn:Func} {body:Code} {T gs gr ty ps pr:Nat} {es er:AV} (hf:P.funcs[f]? = some fn) (hb:fn.body=some body) (hn:(fn.name == "runtime.NumGoroutine")=false) (hGP:GPP G)
  (hGs:G.glob gs=some (.eptr (.agg [.iface ps es]) 0)) (hGr:G.glob gr=some (.eptr (.agg [.iface pr er]) 0))
  (h0:∀(s:ByteArray) (hmax:s.size<=9223372036854775806) (v:Int) (h:Lib.parseIntB 64 s.data.toList=.ok v) (w:World),Calls P f #[.string s,.int .i64 10,.int .i64 64] w fun e w'=>e=.returned (.tuple #[.int .i64 v,.nilIface])/\Below w.heap.size w w')
  (h1:∀(s:ByteArray) (hlim:s.size<=281474976710656) (h:∀v,Lib.parseIntB 64 s.data.toList≠.ok v) (h':Lib.parseIntB 64 s.data.toList≠.range) (ev:Value) (w:World) (hv:w.cell? ⟨gs,0,none⟩=some ev) (hev:ev=.nilIface\/∃te pe,ev=.iface te pe),
   Calls P f #[.string s,.int .i64 10,.int .i64 64] w fun e w'=>∃N,e=.returned (.tuple #[.int .i64 (0),.iface T (.pointer (some ⟨N,0,none⟩))])/\w.heap.size<=N/\w'.heap[N]? = some (.cells #[.string ⟨#[80,97,114,115,101,73,110,116]⟩,.string s,ev] ty (0,0))/\Below w.heap.size w w')
  (h2:∀(s:ByteArray) (hlim:s.size<=281474976710656) (h:Lib.parseIntB 64 s.data.toList=.range) (ev:Value) (w:World) (hv:w.cell? ⟨gr,0,none⟩=some ev) (hev:ev=.nilIface\/∃te pe,ev=.iface te pe),
   Calls P f #[.string s,.int .i64 10,.int .i64 64] w fun e w'=>∃N,e=.returned (.tuple #[.int .i64 (Lib.intSat 64 s.data.toList),.iface T (.pointer (some ⟨N,0,none⟩))])/\w.heap.size<=N/\w'.heap[N]? = some (.cells #[.string ⟨#[80,97,114,115,101,73,110,116]⟩,.string s,ev] ty (0,0))/\Below w.heap.size w w'):EntOK P G f (pintG T (.iface ps es) (.iface pr er)):=by
 have hb2:∀l,has .i64 (Lib.intSat 64 l):=fun l=>by unfold Lib.intSat has;split <;> decide
 have pes:PP (.iface ps es):=by
  have:=hGP gs _ hGs
  cases this with
  | eptr e off h=>cases h with
   | agg cs h=>exact h _ (.head _)
 have per:PP (.iface pr er):=by
  have:=hGP gr _ hGr
  cases this with
  | eptr e off h=>cases h with
   | agg cs h=>exact h _ (.head _)
 intro args v ha hv
 unfold pintG at hv
 split at hv
 rotate_left
 ·cases hv
 rename_i l b z
 split at hv
 rotate_left
 ·cases hv
 rename_i hle
 simp only [Bool.and_eq_true] at hle
 obtain ⟨hle,e10,e64⟩:=hle
 obtain rfl:b=10:=by simpa using e10
 obtain rfl:z=64:=by simpa using e64
 have hpv:PP v:=by
  have hpe:∀{n:Int} {e:AV},PP e->PP (.tup [.int .i64 n,.iface T (.eptr (.agg [.str [80,97,114,115,101,73,110,116],.str l,e]) 0)]):=fun he=>.tup _ fun x hx=>by
   rcases List.mem_cons.1 hx with rfl | hx
   ·exact .int _ _
   ·rcases List.mem_cons.1 hx with rfl | hx
    ·refine .iface _ _ (.eptr _ _ (.agg _ fun y hy=>?_))
     rcases List.mem_cons.1 hy with rfl | hy
     ·exact .str _
     ·rcases List.mem_cons.1 hy with rfl | hy
      ·exact .str _
      ·rcases List.mem_cons.1 hy with rfl | hy
       ·exact he
       ·cases hy
    ·cases hx
  split at hv
  ·cases hv
   exact .tup _ fun x hx=>by
    rcases List.mem_cons.1 hx with rfl | hx
    ·exact .int _ _
    ·rcases List.mem_cons.1 hx with rfl | hx
     ·exact .niliface
     ·cases hx
  ·cases hv;exact hpe per
  ·cases hv;exact hpe pes
 refine ⟨⟨fn,body,hf,hb,hn⟩,hpv,fun H nx E w cargs hr hva hg hfr=>?_⟩
 obtain ⟨c,cr,hc,hvc,hrest⟩:=hva.of_cons
 obtain ⟨c2,cr2,hc2,hvc2,hrest2⟩:=hrest.of_cons
 obtain ⟨c3,cr3,hc3,hvc3,hrest3⟩:=hrest2.of_cons
 have hcr:=hrest3.of_nil
 subst hcr
 have hca:cargs=#[c,c2,c3]:=by apply Array.toList_inj.1;rw [hc,hc2,hc3]
 subst hca
 obtain ⟨rfl,_⟩:=hvc2.of_int
 obtain ⟨rfl,_⟩:=hvc3.of_int
 obtain ⟨s,rfl,hs,hl⟩:∃s:ByteArray,c=.string s/\s.data.toList.map UInt8.toNat=l/\l.length<=maxStr:=by
  cases hvc with
  | str l s' h hl=>exact ⟨s',rfl,h,hl⟩
 subst hs
 rw [lets_back] at hv
 have hsz:s.size<=281474976710656:=by
  have h3:=Nat.le_of_ble_eq_true hle
  rw [List.length_map,Array.length_toList] at h3
  exact h3
 have herr:∀{N:Nat} {w':World} {ev:Value} {te:Nat} {x:AV} {num:Int},has .i64 num->VR E w (.iface te x) ev->w.heap.size<=N->w'.heap[N]? = some (.cells #[.string ⟨#[80,97,114,115,101,73,110,116]⟩,.string s,ev] ty (0,0))->Below w.heap.size w w' →
   ∃cv E',(Ending.returned (.tuple #[.int .i64 num,.iface T (.pointer (some ⟨N,0,none⟩))]):Ending)=.returned cv/\HR E' H w'/\Tr E H w E' H w' nx nx ∧
    VR E' w' (.tup [.int .i64 num,.iface T (.eptr (.agg [.str [80,97,114,115,101,73,110,116],.str (s.data.toList.map UInt8.toNat),.iface te x]) 0)]) cv:=by
  intro N w' ev te x num hnum hve hN hcell hbl
  have hlt:=(Array.getElem?_eq_some_iff.1 hcell).1
  obtain ⟨k1,k2,k3⟩:=below_close hr hbl hN hlt nx
  refine ⟨_,_,rfl,k1,k2,?_⟩
  have hagg:VR { E with Z:=fun b=>E.Z b\/b=N } w' (.agg [.str [80,97,114,115,101,73,110,116],.str (s.data.toList.map UInt8.toNat),.iface te x]) (.agg #[.string ⟨#[80,97,114,115,101,73,110,116]⟩,.string s,ev]):=by
   refine VR.mk_agg (.cons (.str _ _ rfl (by decide)) (.cons (.str _ _ rfl hl) (.cons (k3 hve) .nil))) fun v hv=>?_
   have h9:ev.oneCell'=true:=hve.oneCell rfl
   have hv':v=.string ⟨#[80,97,114,115,101,73,110,116]⟩\/v=.string s\/v=ev:=by simpa using hv
   rcases hv' with rfl | rfl | rfl
   ·rfl
   ·rfl
   ·exact h9
  refine VR.mk_tup (.cons (.int _ _ hnum) (.cons (.iface _ _ _ ?_) .nil))
  have:=VR.eptr (E:={ E with Z:=fun b=>E.Z b\/b=N }) (w:=w') _ 0 N 0 _ rfl (Or.inr rfl) hagg fun j c hj=>by
   have hj:(#[Value.string ⟨#[80,97,114,115,101,73,110,116]⟩,.string s,ev])[j]? = some c:=hj
   show w'.cell? ⟨N,0+j,none⟩=some c
   simp only [World.cell?,hcell,Nat.zero_add]
   exact hj
  exact this
 have hif:∀{te:Nat} {x:AV} {ev:Value},VR E w (.iface te x) ev->ev=.nilIface\/∃te pe,ev=.iface te pe:=fun h=>by
  cases h with
  | iface t v cv h=>exact .inr ⟨_,_,rfl⟩
 split at hv
 ·rename_i n hok
  cases hv
  refine (h0 s (by omega) n hok w).mono fun e w' h=>?_
  obtain ⟨rfl,hbl⟩:=h
  obtain ⟨k1,k2,k3⟩:=below_step hr hbl nx
  have hbn:=Lib.parseIntB_bounds hok
  exact ⟨_,E,rfl,k1,k2,VR.mk_tup (.cons (.int _ _ ⟨hbn.1,Int.le_of_lt_add_one hbn.2⟩) (.cons .niliface .nil))⟩
 ·rename_i hra
  cases hv
  obtain ⟨ev,c1,c2,_⟩:=glob_cell hg hGr
  refine (h2 s hsz hra ev w c1 (hif c2)).mono fun e w' h=>?_
  obtain ⟨N,rfl,m1,m2,m3⟩:=h
  exact herr (hb2 _) c2 m1 m2 m3
 ·rename_i hno hnr
  cases hv
  obtain ⟨ev,c1,c2,_⟩:=glob_cell hg hGs
  refine (h1 s hsz (fun v e=>hno v e) (fun e=>hnr e) ev w c1 (hif c2)).mono fun e w' h=>?_
  obtain ⟨N,rfl,m1,m2,m3⟩:=h
  exact herr (by unfold has;decide) c2 m1 m2 m3
end
end Go.Sy
namespace Go.Sy
open Go.RowKit
inductive CD where
 | bool | int (k:IntKind) | str
 | sl (es:List CD) (one:Bool)
structure BK (H:Type) where
 f:DataW H->Nat
 all:List (DataW H)->Nat
 str:∀b,f (.lit (.string b))=b.length+1
 pos:∀d,1<=f d
 slice:∀a b,f (.slice a b)=all a+all b+1
 agg:∀p,f (.agg p)=all p+1
 nil:all []=0
 cons:∀d r,all (d::r)=f d+all r
theorem BK.mem {H:Type} (B:BK H) {d:DataW H}:∀{l:List (DataW H)},d∈l->B.f d<=B.all l
 | _::r,h=>by
  rw [B.cons]
  rcases List.mem_cons.1 h with rfl | h
  ·omega
  ·have:=B.mem h;omega
theorem BK.len {H:Type} (B:BK H):∀l:List (DataW H),l.length<=B.all l
 | []=>Nat.zero_le _
 | d::r=>by rw [B.cons,List.length_cons];have:=B.pos d;have:=B.len r;omega
mutual
inductive CD.Ok (N:Nat):CD->AV->Prop
 | bool (b:Bool):CD.Ok N .bool (.bool b)
 | int (k:IntKind) (n:Int) (h:has k n):CD.Ok N (.int k) (.int k n)
 | str (l:List Nat) (h:∀x∈l,x<256) (hl:l.length<=maxStr) (hn:l.length<=N):CD.Ok N .str (.str l)
 | one (e:CD) (xs:List AV) (h:∀x∈xs,CD.Ok N e x) (hn:xs.length<=N):CD.Ok N (.sl [e] true) (.lst 1 xs)
 | agg (es:List CD) (xs:List (List AV)) (h:∀x∈xs,CD.Oks N es x) (hn:xs.length<=N):CD.Ok N (.sl es false) (.lst es.length (xs.map .agg))
inductive CD.Oks (N:Nat):List CD->List AV->Prop
 | nil:CD.Oks N [] []
 | cons {c:CD} {cs:List CD} {a:AV} {as_:List AV} (h:CD.Ok N c a) (hs:CD.Oks N cs as_):CD.Oks N (c::cs) (a::as_)
end
mutual
theorem CD.Ok.mono {N M:Nat} (hm:N<=M):∀{c:CD} {a:AV},CD.Ok N c a->CD.Ok M c a
 | _,_,.bool b=>.bool b
 | _,_,.int k n h=>.int k n h
 | _,_,.str l h hl hn=>.str l h hl (Nat.le_trans hn hm)
 | _,_,.one e xs h hn=>.one e xs (fun x hx=>CD.Ok.mono hm (h x hx)) (Nat.le_trans hn hm)
 | _,_,.agg es xs h hn=>.agg es xs (fun x hx=>CD.Oks.mono hm (h x hx)) (Nat.le_trans hn hm)
theorem CD.Oks.mono {N M:Nat} (hm:N<=M):∀{c:List CD} {a:List AV},CD.Oks N c a->CD.Oks M c a
 | _,_,.nil=>.nil
 | _,_,.cons h hs=>.cons (CD.Ok.mono hm h) (CD.Oks.mono hm hs)
end
theorem CD.Oks.append {N:Nat} {cs ds:List CD}:∀{l m:List AV},CD.Oks N cs l->CD.Oks N ds m->CD.Oks N (cs++ds) (l++m):=by
 induction cs with
 | nil=>intro l m h k;cases h;exact k
 | cons c cs ih=>intro l m h k;cases h with | cons h1 h2=>exact .cons h1 (ih h2 k)
def plainT (P:Program) (t:TypeId):Bool:=match P.underlying t with
 | some (.struct _)=>false
 | some (.array _ _)=>false
 | _=>true
def fieldsCD (rd:TypeId->Option (List CD)) (P:Program):Nat->List Field->Option (List CD)
 | _,[]=>some []
 | off,f::r=>match rd f.type with
  | none=>none
  | some cs=>match Nat.beq f.offset off&&Nat.beq (P.cellsOf f.type) cs.length with
   | false=>none
   | true=>match fieldsCD rd P (off+cs.length) r with
    | none=>none
    | some ds=>some (cs++ds)
def cdOf (P:Program):Nat->TypeId->Option (List CD)
 | 0,_=>none
 | n+1,t=>match P.underlying t with
  | some .bool=>some [.bool]
  | some (.int k)=>some [.int k]
  | some .string=>some [.str]
  | some (.slice e)=>match cdOf P n e with
   | none=>none
   | some es=>match Nat.beq (P.cellsOf e) es.length&&Nat.ble 1 es.length with
    | false=>none
    | true=>match plainT P e with
     | true=>match es with
      | [c]=>some [.sl [c] true]
      | _=>none
     | false=>some [.sl es false]
  | some (.struct fs)=>match fieldsCD (cdOf P n) P 0 fs.toList with
   | none=>none
   | some cs=>match Nat.beq (P.cellsOf t) cs.length with
    | true=>some cs
    | false=>none
  | _=>none
section
variable {H:Type} (B:BK H) {N M:Nat} {enc:TypeId×Value->H} {P:Program} {W:World} {E:Env} {base:Nat} {sp:Nat->Bool} {hd:Bool}
structure RD (N:Nat) (E:Env) (W:World) (cds:List CD) (cs:List Value):Prop where
 len:cs.length=cds.length
 ex:∃avs,CD.Oks N cds avs/\VRs E W avs cs/\(∀a∈avs,a.flat=true)
 one:∀c∈cs,c.oneCell'=true
theorem RD.mono (hm:N<=M) {cds:List CD} {cs:List Value} (h:RD N E W cds cs):RD M E W cds cs:=
 let ⟨l,⟨a,h1,h2,h3⟩,o⟩:=h
 ⟨l,⟨a,h1.mono hm,h2,h3⟩,o⟩
theorem RD.single {c:CD} {a:AV} {v:Value} (h1:CD.Ok N c a) (h2:VR E W a v) (h3:a.flat=true) (h4:v.oneCell'=true):RD N E W [c] [v]:=
 ⟨rfl,⟨[a],.cons h1 .nil,.cons h2 .nil,fun x hx=>by simp at hx;subst hx;exact h3⟩,fun x hx=>by simp at hx;subst hx;exact h4⟩
theorem RD.append {cs ds:List CD} {u v:List Value} (h:RD N E W cs u) (k:RD N E W ds v):RD N E W (cs++ds) (u++v):=by
 obtain ⟨l1,⟨a,a1,a2,a3⟩,o1⟩:=h
 obtain ⟨l2,⟨b,b1,b2,b3⟩,o2⟩:=k
 refine ⟨by simp [l1,l2],⟨a++b,a1.append b1,?_,fun x hx=>?_⟩,fun x hx=>?_⟩
 ·have:∀{a:List AV} {u:List Value},VRs E W a u->VRs E W (a++b) (u++v):=by
   intro a
   induction a with
   | nil=>intro u h;have:=h.of_nil;subst this;exact b2
   | cons x a ih=>intro u h;obtain ⟨y,r,rfl,h1,h2⟩:=h.of_cons;exact .cons h1 (ih h2)
  exact this a2
 ·rcases List.mem_append.1 hx with h | h
  ·exact a3 x h
  ·exact b3 x h
 ·rcases List.mem_append.1 hx with h | h
  ·exact o1 x h
  ·exact o2 x h
theorem fields_ok {n fuel:Nat} (ih:∀t cds cs x,cdOf P n t=some cds->DataW.trod enc P W base sp hd fuel t cs=some x->RD (B.f x.1) E W cds cs):
  ∀(fs:List Field) (off:Nat) (cds:List CD) (cs:List Value),fieldsCD (cdOf P n) P off fs=some cds →
   (∀f∈fs,∃x,DataW.trod enc P W base sp hd fuel f.type ((cs.drop f.offset).take (P.cellsOf f.type))=some x/\B.f x.1<=N)->RD N E W cds ((cs.drop off).take cds.length)
 | [],off,cds,cs,h,_=>by
  cases h
  exact ⟨by simp,⟨[],.nil,by simpa using VRs.nil,fun x hx=>by cases hx⟩,fun x hx=>by simp at hx⟩
 | f::r,off,cds,cs,h,hm=>by
  unfold fieldsCD at h
  split at h
  ·cases h
  rename_i c1 e1
  split at h
  ·cases h
  rename_i e2
  rw [Bool.and_eq_true] at e2
  have a1:=nbeq_true e2.1
  have a2:=nbeq_true e2.2
  split at h
  ·cases h
  rename_i c2 e3
  cases h
  obtain ⟨x,hy,hN⟩:=hm f (List.mem_cons_self ..)
  have r1:=(ih _ _ _ _ e1 hy).mono hN
  have r2:=fields_ok ih r _ _ cs e3 fun g hg=>hm g (List.mem_cons_of_mem _ hg)
  rw [a1,a2] at r1
  have:(cs.drop off).take (c1++c2).length=(cs.drop off).take c1.length++(cs.drop (off+c1.length)).take c2.length:=by
   rw [List.length_append,List.take_add,List.drop_drop]
  rw [this]
  exact r1.append r2
theorem add_off {a:Addr} {i:Nat} (h:a.spot=none):a.add i=⟨a.block,a.off+i,none⟩:=by
 obtain ⟨b,o,s⟩:=a
 simp only at h
 subst h
 unfold Addr.add
 split
 ·rename_i e;subst e;rfl
 ·rfl
theorem read_ok (hZ:∀b,b<W.heap.size->E.Z b):∀(n fuel:Nat) (t:TypeId) (cds:List CD) (cs:List Value) (x:DataW H×List MemPlace),cdOf P n t=some cds →
  DataW.trod enc P W base sp hd fuel t cs=some x->RD (B.f x.1) E W cds cs
 | 0,_,_,_,_,_,h,_=>by cases h
 | n+1,fuel,t,cds,cs,x,h,hr=>by
  unfold cdOf at h
  split at h
  ·rename_i hu
   cases h
   obtain ⟨b,rfl,_⟩:=DataW.trod_bool hu hr
   exact .single (.bool b) (.bool b) rfl rfl
  ·rename_i k hu
   cases h
   obtain ⟨m,rfl,_,hw⟩:=DataW.trod_int hu hr
   have hh:has k m:=by
    simp only [Lit.wf,Bool.and_eq_true,decide_eq_true_eq] at hw
    exact hw
   exact .single (.int k m hh) (.int k m hh) rfl rfl
  ·rename_i hu
   cases h
   obtain ⟨s,rfl,rfl,hw⟩:=DataW.trod_string hu hr
   have hl:s.size<=maxStr:=by unfold maxLen at hw;unfold maxStr;exact hw
   have hlen:(lets s).length=s.size:=by
    unfold lets
    rw [List.length_map,Array.length_toList]
    rfl
   exact .single (.str (lets s) lets_lt (by rw [hlen];exact hl) (by rw [B.str];unfold lets;rw [List.length_map];omega)) (VR.lets hl) rfl rfl
  ·rename_i e hu
   split at h
   ·cases h
   rename_i es hes
   split at h
   ·cases h
   rename_i hsz
   rw [Bool.and_eq_true] at hsz
   have hsz1:=nbeq_true hsz.1
   have hsz2:=Nat.le_of_ble_eq_true hsz.2
   rcases DataW.trod_slice hu hr with ⟨rfl,_⟩ | ⟨a,len,cap,elems,rest,m,rfl,rfl,rfl,_,hlc,hcm,hel,hat,_,_⟩
   ·split at h
    ·split at h
     ·cases h;exact .single (.one _ [] (fun x hx=>by cases hx) (Nat.zero_le _)) (.lst0 _ _ _ (Nat.zero_le _)) rfl rfl
     ·cases h
    ·cases h;exact .single (.agg _ [] (fun x hx=>by cases hx) (Nat.zero_le _)) (.lst0 _ _ _ (Nat.zero_le _)) rfl rfl
   have hbe:∀{i:Nat} {y:DataW H×List MemPlace},elems[i]? = some y->B.f y.1<=B.f (.slice (elems.map (·.1)) (rest.map (·.1))):=fun {i y} h=>by
    have:=B.mem (List.mem_map.2 ⟨y,List.mem_of_getElem? h,rfl⟩:y.1∈elems.map (·.1))
    rw [B.slice]
    omega
   have hbl:len<=B.f (.slice (elems.map (·.1)) (rest.map (·.1))):=by
    have:=B.len (elems.map (·.1))
    rw [List.length_map,hel] at this
    rw [B.slice]
    omega
   have hE:∀i,i<len->∃q:List Value×List AV,q.1.length=es.length/\CD.Oks (B.f (.slice (elems.map (·.1)) (rest.map (·.1)))) es q.2/\VRs E W q.2 q.1/\(∀a∈q.2,a.flat=true)/\(∀c∈q.1,c.oneCell'=true) ∧
     (∀j,j<es.length->W.cell? (a.add (i*es.length+j))=q.1[j]?):=fun i hi=>by
    have h1:=hat i hi
    have h2:∃y,elems[i]? = some y:=⟨_,List.getElem?_eq_getElem (by rw [hel];exact hi)⟩
    obtain ⟨y,hy⟩:=h2
    rw [hy,Option.bind_eq_some_iff] at h1
    obtain ⟨ci,hc,ht⟩:=h1
    obtain ⟨_,c1,c2⟩:=World.cells?_some hc
    obtain ⟨l1,⟨avs,l2,l3,l4⟩,l5⟩:=(read_ok hZ n m e es ci y hes ht).mono (hbe hy)
    refine ⟨(ci,avs),l1,l2,l3,l4,l5,fun j hj=>?_⟩
    have h3:=c2 j (by rw [hsz1];exact hj)
    rw [←h3,hsz1]
    congr 1
    unfold Addr.add
    split <;> split <;> split <;> simp_all <;> omega
   have hC:∃g:Nat->List Value×List AV,∀i,i<len->(g i).1.length=es.length/\CD.Oks (B.f (.slice (elems.map (·.1)) (rest.map (·.1)))) es (g i).2/\VRs E W (g i).2 (g i).1/\(∀a∈(g i).2,a.flat=true)/\(∀c∈(g i).1,c.oneCell'=true) ∧
     (∀j,j<es.length->W.cell? (a.add (i*es.length+j))=(g i).1[j]?):=by
    refine ⟨fun i=>if h:i<len then (hE i h).choose else ([],[]),fun i hi=>?_⟩
    simp only [dif_pos hi]
    exact (hE i hi).choose_spec
   obtain ⟨g,hg⟩:=hC
   have hcap:cap<=maxStr:=by unfold maxLen at hcm;unfold maxStr;exact hcm
   have hsp:0<len->a.spot=none/\a.block<W.heap.size:=fun hpos=>by
    obtain ⟨g1,_,_,_,_,g6⟩:=hg 0 hpos
    have h0:=g6 0 (by omega)
    have h1:∃y,(g 0).1[0]? = some y:=⟨_,List.getElem?_eq_getElem (by omega)⟩
    obtain ⟨y,hy⟩:=h1
    have:W.cell? a=some y:=by rw [←hy,←h0];simp [Addr.add]
    unfold World.cell? at this
    split at this
    ·rename_i c _ _ hb
     split at this
     ·cases this
     ·rename_i hs
      exact ⟨by simpa using hs,(Array.getElem?_eq_some_iff.1 hb).1⟩
    ·cases this
   have fin:∀(f:Nat->Value) (xs:List AV),xs.length=len->(∀(i:Nat) y,xs[i]? = some y->y.flat=true/\VR E W y (f i))->(∀i,i<len->(f i).cells.toList=(g i).1)->VR E W (.lst es.length xs) (.slice (some a) len cap):=by
    intro f xs hx hy hcel
    by_cases h0:len=0
    ·have:xs=[]:=List.eq_nil_of_length_eq_zero (by omega)
     subst this
     subst h0
     exact .lst0 _ _ _ hcap
    ·obtain ⟨s1,s2⟩:=hsp (by omega)
     obtain ⟨ab,ao,as'⟩:=a
     simp only at s1 s2
     subst s1
     subst hx
     refine .lst xs ab ao cap es.length f (hZ _ s2) hlc hcap (fun i y h=>by have:=(hy i y h).1;cases y <;> first | rfl | exact this) (fun i y h=>(hy i y h).2) fun i hi=>?_
     obtain ⟨g1,_,_,_,_,g6⟩:=hg i hi
     have hc:=hcel i hi
     refine ⟨by rw [←Array.length_toList,hc,g1],fun j c hj=>?_⟩
     have hj':(g i).1[j]? = some c:=by rw [←hc];simpa using hj
     have hjl:j<es.length:=by rw [←g1];exact (List.getElem?_eq_some_iff.1 hj').1
     have:=g6 j hjl
     rw [hj',add_off rfl] at this
     simpa [Nat.add_assoc] using this
   split at h
   ·split at h
    ·rename_i c
     cases h
     have h1:∀i,i<len->∃v av,(g i).1=[v]/\(g i).2=[av]/\CD.Ok (B.f (.slice (elems.map (·.1)) (rest.map (·.1)))) c av/\VR E W av v/\av.flat=true/\v.oneCell'=true:=fun i hi=>by
      obtain ⟨g1,g2,g3,g4,g5,_⟩:=hg i hi
      cases hq:(g i).2 with
      | nil=>rw [hq] at g2;cases g2
      | cons av r=>
       rw [hq] at g2 g3 g4
       cases g2 with
       | cons k1 k2=>
        cases k2
        obtain ⟨v,r',e1,e2,e3⟩:=g3.of_cons
        have:=e3.of_nil
        subst this
        rw [e1] at g5
        exact ⟨v,av,e1,rfl,k1,e2,g4 _ (List.mem_cons_self ..),g5 _ (List.mem_cons_self ..)⟩
     refine .single (.one c ((List.range len).map fun i=>((g i).2).headD .nilptr) (fun x hx=>?_) (by rw [List.length_map,List.length_range];exact hbl)) (fin (fun i=>((g i).1).headD undef) _ (by simp) (fun i y hy=>?_) fun i hi=>?_) rfl rfl
     ·obtain ⟨i,hi,rfl⟩:=List.mem_map.1 hx
      obtain ⟨v,av,e1,e2,e3,_⟩:=h1 i (by simpa using hi)
      rw [e2];exact e3
     ·rw [List.getElem?_map] at hy
      cases hi:(List.range len)[i]? with
      | none=>rw [hi] at hy;cases hy
      | some k=>
       rw [hi] at hy
       obtain ⟨hlt,rfl⟩:=List.getElem?_eq_some_iff.1 hi
       simp only [List.getElem_range,Option.map_some,Option.some.injEq] at hy
       obtain ⟨v,av,e1,e2,e3,e4,e5,_⟩:=h1 i (by simpa using hlt)
       rw [e2] at hy
       simp only [List.headD_cons] at hy
       subst hy
       rw [e1]
       exact ⟨e5,e4⟩
     ·obtain ⟨v,av,e1,e2,e3,e4,e5,e6⟩:=h1 i hi
      rw [e1]
      simp only [List.headD_cons]
      cases v <;> first | rfl | (simp [Value.oneCell'] at e6)
    ·cases h
   ·cases h
    refine .single (a:=.lst es.length (((List.range len).map fun i=>(g i).2).map .agg)) (.agg es _ (fun x hx=>?_) (by rw [List.length_map,List.length_range];exact hbl)) (fin (fun i=>.agg (g i).1.toArray) _ (by simp) (fun i y hy=>?_) fun i hi=>by simp [Value.cells]) rfl rfl
    ·obtain ⟨i,hi,rfl⟩:=List.mem_map.1 hx
     exact (hg i (by simpa using hi)).2.1
    ·rw [List.getElem?_map,List.getElem?_map] at hy
     cases hi:(List.range len)[i]? with
     | none=>rw [hi] at hy;cases hy
     | some k=>
      rw [hi] at hy
      obtain ⟨hlt,rfl⟩:=List.getElem?_eq_some_iff.1 hi
      simp only [List.getElem_range,Option.map_some,Option.some.injEq] at hy
      subst hy
      obtain ⟨g1,g2,g3,g4,g5,_⟩:=hg i (by simpa using hlt)
      exact ⟨rfl,VR.mk_agg (by simpa using g3) (by simpa using g5)⟩
  ·rename_i fs hu
   split at h
   ·cases h
   rename_i cs' hf
   split at h
   rotate_left
   ·cases h
   rename_i hc
   cases h
   have hc:=nbeq_true hc
   obtain ⟨xs,m,rfl,rfl,hl,hxl,hat⟩:=DataW.trod_struct hu hr
   have:=fields_ok B (fuel:=m) (N:=B.f (.agg (xs.map (·.1)))) (fun t cds cs x=>read_ok hZ n m t cds cs x) fs.toList 0 cds cs hf fun f hfm=>by
    obtain ⟨i,hi⟩:=List.getElem?_of_mem hfm
    have h1:=hat i f (by simpa using hi)
    have:∃y,xs[i]? = some y:=⟨_,List.getElem?_eq_getElem (by rw [hxl];simpa using (List.getElem?_eq_some_iff.1 hi).1)⟩
    obtain ⟨y,hy⟩:=this
    exact ⟨y,h1.trans hy,by have:=B.mem (List.mem_map.2 ⟨y,List.mem_of_getElem? hy,rfl⟩:y.1∈xs.map (·.1));rw [B.agg];omega⟩
   rw [←hc,←hl] at this
   simpa using this
  ·cases h
end
end Go.Sy
namespace Go.Sy
open Go.RowKit
mutual
theorem CD.Ok.pp {N:Nat}:∀{c:CD} {a:AV},CD.Ok N c a->PP a
 | _,_,.bool b=>.bool b
 | _,_,.int k n h=>.int k n
 | _,_,.str l h hl hn=>.str l
 | _,_,.one e xs h hn=>.lst _ _ fun x hx=>CD.Ok.pp (h x hx)
 | _,_,.agg es xs h hn=>.lst _ _ fun x hx=>by
   obtain ⟨y,hy,rfl⟩:=List.mem_map.1 hx
   exact .agg _ (CD.Oks.pp (h y hy))
theorem CD.Oks.pp {N:Nat}:∀{c:List CD} {a:List AV},CD.Oks N c a->∀x∈a,PP x
 | _,_,.nil=>fun x hx=>by cases hx
 | _,_,.cons h hs=>fun x hx=>by
   rcases List.mem_cons.1 hx with rfl | hx
   ·exact CD.Ok.pp h
   ·exact CD.Oks.pp hs x hx
end
theorem okWide_agg {P:Program} {w:World} {r:Reach} {b:Nat} {t:TypeId} {v:Value} {fs:Array Field} (ht:P.underlying t=some (.struct fs)) (h:Value.okWide P w r b t v):∃cs:Array Value,v=.agg cs:=by
 unfold Value.okWide at h
 rw [ht] at h
 obtain ⟨cs,rfl,_⟩:=h
 exact ⟨cs,rfl⟩
theorem TabOK.at {P:Program} {G:Cx} {f:Nat} {g:List AV->Option AV} {tb:TbF} {th:TbH} (h:TabOK P G ((f,g)::tb) th):EntOK P G f g:=fun args v ha hv=>h.v _ (.head _) args v ha hv
end Go.Sy
