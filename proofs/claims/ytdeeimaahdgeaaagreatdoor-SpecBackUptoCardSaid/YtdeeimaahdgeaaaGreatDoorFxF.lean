/- A LIBRARY: WHAT A FUNCTION'S CODE RECKONS, AS A LEAN FUNCTION, AND THAT ITS WORD IS THE MODEL'S: part 6 of 6. No condition. -/
import Derived.Test.YtdeeimaahdgeaaaGreatDoorFxE
import Derived.Carry
import Derived.WideShapes
import Derived.Lib.AtoiAll
import Derived.Lib.ItoaNum
import Derived.Lib.Bytealg
import Derived.Lib.IndexLaws
import Derived.Lib.ParseIntBTie
import Derived.Lib.ItoaLen
import Derived.Lib.AppendIntMem
import Derived.Lib.LaidTab
import Derived.Shelf.Small.Bits
import Derived.Shelf.Strconv.Itoa4
import Derived.Lib.SplitLaws
import Derived.Lib.IndexMore
import Derived.DataReads
import Derived.ChangeArms
import Derived.Sort.AssemblyPlain
import Derived.Shelf.GgSortFunc.InsertionK
set_option linter.unusedVariables false
set_option linter.unusedSimpArgs false
namespace Go.Sy
open Go.ChangeShapes Go.RowKit
section
variable {P:Program} {w:World} {r:Reach} {b:Nat} {t:TypeId} {v:Value}
theorem zRO {H:Type} {enc:TypeId×Value->H} {P:Program} {t:TypeId} (hl:laidOutB P=true) (hr:P.readableRec t=true) (hrow:t<P.types.size) {W W':World} {v:Value} {d:DataW H} {ps:List MemPlace} {sp:Nat->Bool}
  (h:DataW.Trod enc P W 0 (fun _=>true) true t v d ps) (hb:Kept W W') (hlt:∀x∈ps,x.block<W.heap.size) (hs:∀x∈ps,sp x.block=true):DataW.Trod enc P W' 0 sp true t v d ps:=
 WideElems.Trod_stays hl hr hrow h (fun x hx=>hb.below.same (hlt x hx)) hs
end
end Go.Sy
namespace Go.Sy
open Go.ChangeShapes Go.RowKit
section
variable {P:Program} {w:World} {r:Reach} {b:Nat} {t u:TypeId} {v:Value} {E:Env}
def lets (s:ByteArray):List Nat:=s.data.toList.map UInt8.toNat
theorem VR.lets {s:ByteArray} (h:s.size<=zf):VR E w (.str (Sy.lets s)) (.string s):=.str _ s rfl (by
 have:(Sy.lets s).length=s.size:=by
  unfold Sy.lets;rw [List.length_map,Array.length_toList];rfl
 omega)
theorem zNY {G:Cx} {f:FuncId} {fn:Func} {body:Code} (hf:P.funcs[f]? = some fn) (hb:fn.body=some body) (hn:(fn.name == "runtime.NumGoroutine")=false) {g:List AV->Option AV}
  (h:∀args v,g args=some v->∀(E:Env) (w:World) (cargs:Array Value),HR E [] w->VRs E w args cargs.toList->GR G E w->Calls P f cargs w fun e w'=>∃cv,e=.returned cv/\Below w.heap.size w w'/\VR E w v cv) (hp:∀args v,g args=some v->args.all (z9 40)=true/\z9 40 v=true) (hG:zMx G):zOy P G f g:=by
 intro args v hv;refine ⟨⟨fn,body,hf,hb,hn⟩,zPt hG (hp _ _ hv).1 (hp _ _ hv).2 (n:=0) ?_⟩
 intro E w cargs hr hva hg _;refine (h args v hv E w cargs hr hva hg).mono fun e w' h1=>?_
 obtain ⟨cv,rfl,h2,h3⟩:=h1;obtain ⟨k1,k2,k3⟩:=zGW hr h2 0;exact ⟨cv,E,rfl,k1,k2,k3 h3⟩
end
end Go.Sy
namespace Go.Sy
open Go.RowKit
section
variable {P:Program} {G:Cx} {E:Env} {w w':World} {H:Heap}
theorem zPA {N:Nat} (hr:HR E H w) (hb:Below w.heap.size w w') (hN:w.heap.size<=N) (hlt:N<w'.heap.size) (a:Nat):
  HR { E with Z:=fun b=>E.Z b\/b=N } H w'/\Tr E H w { E with Z:=fun b=>E.Z b\/b=N } H w' a a/\∀{v cv},VR E w v cv->VR { E with Z:=fun b=>E.Z b\/b=N } w' v cv:=by
 have hS:Shapes w w':=fun b c e f h=>⟨c,f,(hb.block b (Array.getElem?_eq_some_iff.1 h).1).trans h,rfl⟩
 have hm:∀{v cv},VR E w v cv->VR { E with Z:=fun b=>E.Z b\/b=N } w' v cv:=fun hv=>
  VR.mono (E:=E) (E':={ E with Z:=fun b=>E.Z b\/b=N }) (fun _ h=>⟨h,rfl⟩) (fun b h=>⟨.inl h,hb.block b (hr.zlt b h)⟩) hS hv
 refine ⟨⟨hr.nodup,hr.dom,hr.inj,fun p hp=>(hr.obj p hp).mono (hb.block _ (hr.lt hp)) hm,fun p hp hz=>?_,fun b h=>?_⟩,
  ⟨Nat.le_refl _,fun _ _=>rfl,fun h=>⟨.inl,fun h=>h.elim id fun ⟨x,y⟩=>by omega⟩,fun _ h=>.inl h,fun x h=>?_,fun p hp=>.inl ⟨p,hp,rfl⟩,hb.tape,hb.os,hb.output,hb.size,fun x hx _=>hb.block x hx,hS,rfl⟩,hm⟩
 ·rcases hz with hz | hz
  ·exact hr.nz p hp hz
  ·have:=hr.lt hp;have e:E.ρ p.1=N:=hz;omega
 ·rcases h with h | h
  ·exact Nat.lt_of_lt_of_le (hr.zlt b h) hb.size
  ·rw [h];exact hlt
 ·rcases h with h | h
  ·exact .inl h
  ·exact .inr (.inr (by rw [h];exact hN))
def decN (i:Nat):List Nat:=(Lib.decDigits i).map UInt8.toNat
def zIg:List AV->Option AV
 | [.int .i64 (.ofNat i)]=>match Nat.blt i 100 with
  | true=>some (.str (decN i))
  | false=>none
 | _=>none
theorem zRP {f:FuncId} {fn:Func} {body:Code} (hf:P.funcs[f]? = some fn) (hb:fn.body=some body) (hn:(fn.name == "runtime.NumGoroutine")=false)
  (h0:∀(i:Nat) (hi:i<100) (w:World),Calls P f #[.int .i64 i] w fun e w'=>e=.returned (.string ⟨(Lib.decDigits i).toArray⟩)/\w'=w) (hG:zMx G):zOy P G f zIg:=by
 refine zNY hf hb hn (fun args v hv E w cargs hr hva hg=>?_) (fun args v hv=>?_) hG
 ·unfold zIg at hv;split at hv
  rotate_left
  ·cases hv
  rename_i i;split at hv
  rotate_left
  ·cases hv
  rename_i hi;have hi:i<100:=by simpa [Nat.blt_eq] using hi
  cases hv;obtain ⟨c,cr,hc,hvc,hrest⟩:=hva.of_cons;have hcr:=hrest.of_nil;subst hcr;have hca:cargs=#[c]:=by apply Array.toList_inj.1;simpa using hc
  subst hca;obtain ⟨rfl,_⟩:=hvc.of_int;refine (h0 i hi w).mono fun e w' h=>?_
  obtain ⟨rfl,rfl⟩:=h;refine ⟨_,rfl,Below.refl _ _,.str _ _ (by simp [decN]) ?_⟩
  have:(Lib.decDigits i).length<=2:=by
   rw [Lib.decDigits];split
   ·simp
   ·rw [Lib.decDigits];split
    ·simp
    ·omega
  unfold decN zf;rw [List.length_map];omega
 ·unfold zIg at hv;split at hv
  ·split at hv
   ·cases hv;exact ⟨rfl,rfl⟩
   ·cases hv
  ·cases hv
theorem zNK {g:Nat} {x:AV} {w:World} (hg:GR G E w) (hG:G.glob g=some (.eptr (.agg [x]) 0)):∃ev,w.cell? ⟨g,0,none⟩=some ev/\VR E w x ev/\ev.oneCell'=true:=by
 have:=(hg g _ hG).1;generalize hpp:Value.pointer (some ⟨g,0,none⟩)=pv at this;cases this with
 | eptr e off b o cv hfl hz hvv hcc=>
  have e1:g=b/\0=o+0:=by
   have h1:=Option.some.inj (Value.pointer.inj hpp);exact ⟨congrArg Addr.block h1,congrArg Addr.off h1⟩
  obtain ⟨e1,e2⟩:=e1;obtain ⟨vs,rfl,h2,h3⟩:=hvv.of_agg;obtain ⟨u,us,hu,h4,h5⟩:=h2.of_cons;have h6:=h5.of_nil;subst h6;have h7:vs[0]? = some u:=by
   have:vs.toList[0]? = some u:=by rw [hu];rfl
   simpa using this
  have h8:=hcc 0 u (by simpa [Value.cells] using h7)
  have e3:o=0:=by omega
  subst e3;exact ⟨u,by rw [e1];exact h8,h4,h3 u (by rw [hu];exact .head _)⟩
theorem zNL {s:ByteArray}:(s.data.toList.map UInt8.toNat).map UInt8.ofNat=s.data.toList:=by
 rw [List.map_map];have:(UInt8.ofNat∘UInt8.toNat)=id:=by funext x;simp
 rw [this,List.map_id]
end
end Go.Sy
namespace Go.Sy
open Go.RowKit
section
variable {P:Program} {G:Cx} {E:Env} {w w':World} {H:Heap}
theorem zBv.of_pure {f:Nat} {g:List AV->Option AV} (h:zOy P G f g) (hp:∀args v,(∀a∈args,PP a)->g args=some v->PP v):zBv P G f g:=fun args v ha hv=>⟨(h args v hv).1,hp args v ha hv,(h args v hv).2⟩
def idxG:List AV->Option AV
 | [.str s,.int .u8 c]=>some (.int .i64 (Lib.indexByte (s.map UInt8.ofNat) c.toNat.toUInt8))
 | _=>none
theorem zQE (c:UInt8) (l:List UInt8):Lib.indexByte l c<9223372036854775808\/9223372036854775808<=l.length:=by
 by_cases h:Lib.indexByte l c<0
 ·left;omega
 ·obtain ⟨o,ho⟩:=Int.eq_ofNat_of_zero_le (show 0<=Lib.indexByte l c by omega)
  have:=(Lib.indexByte_some ho).1;have:=(List.getElem?_eq_some_iff.1 this).1;omega
theorem zUt {f:FuncId} {fn:Func} {body:Code} (hf:P.funcs[f]? = some fn) (hb:fn.body=some body) (hn:(fn.name == "runtime.NumGoroutine")=false)
  (h0:∀(s:ByteArray) (c:Int) (w:World),Calls P f #[.string s,.int .u8 c] w fun e w'=>e=.returned (.int .i64 (Lib.indexByte s.data.toList c.toNat.toUInt8))/\w'=w):zBv P G f idxG:=by
 intro args v ha hv;unfold idxG at hv;split at hv
 rotate_left
 ·cases hv
 rename_i l c;cases hv;refine ⟨⟨fn,body,hf,hb,hn⟩,.int _ _,fun H nx E w cargs hr hva hg hfr=>?_⟩
 obtain ⟨c1,cr,hc,hvc,hrest⟩:=hva.of_cons;obtain ⟨c2,cr2,hc2,hvc2,hrest2⟩:=hrest.of_cons;have hcr:=hrest2.of_nil;subst hcr;have hca:cargs=#[c1,c2]:=by apply Array.toList_inj.1;rw [hc,hc2]
 subst hca;obtain ⟨s,rfl,hs,hl⟩:∃s:ByteArray,c1=.string s/\s.data.toList.map UInt8.toNat=l/\l.length<=zf:=by
  cases hvc with
  | str l s' h hl=>exact ⟨s',rfl,h,hl⟩
 obtain ⟨rfl,_⟩:=hvc2.of_int;subst hs;rw [zNL];refine (h0 s c w).mono fun e w' h=>?_
 obtain ⟨rfl,rfl⟩:=h;refine ⟨_,E,rfl,hr,.refl nx,.int _ _ ?_⟩
 have h1:=Lib.indexByte_ge s.data.toList c.toNat.toUInt8;have h2:=zQE c.toNat.toUInt8 s.data.toList;rw [List.length_map] at hl;unfold zf at hl;unfold has;show -9223372036854775808<=_/\_<=9223372036854775807
 omega
theorem zSS {f:FuncId} {fn:Func} {body:Code} (hf:P.funcs[f]? = some fn) (hb:fn.body=some body) (hn:(fn.name == "runtime.NumGoroutine")=false)
  (h0:∀(i:Nat) (hi:i<100) (w:World),Calls P f #[.int .i64 i] w fun e w'=>e=.returned (.string ⟨(Lib.decDigits i).toArray⟩)/\w'=w) (hG:zMx G):zBv P G f zIg:=.of_pure (zRP hf hb hn h0 hG) fun args v _ hv=>by
 unfold zIg at hv;split at hv
 ·split at hv
  ·cases hv;exact .str _
  ·cases hv
 ·cases hv
def fmtG:List AV->Option AV
 | [.int .i64 n,.int .i64 b]=>match b==10&&decide (-9223372036854775808<=n/\n<=9223372036854775807) with
  | true=>some (.str ((Lib.itoa n).map UInt8.toNat))
  | false=>none
 | _=>none
theorem zVC {n:String} {g:Nat} {zs:List Int} {k:IntKind} (hn:P.globalNamed n=some g) (hG:G.glob g=some (.eptr (.agg (zs.map fun z=>.int k z)) 0)) (hg:GR G E w):Lib.TabIs P w n k zs:=by
 obtain ⟨hv,hx⟩:=hg g _ hG;obtain ⟨c,t,e,hb,hsz⟩:=hx _ _ rfl;unfold Lib.TabIs World.var?;rw [hn];show (match w.heap[g]? with | some (.cells cs _ _)=>some cs | _=>none)=_
 rw [hb];refine congrArg some ?_
 generalize hpp:Value.pointer (some ⟨g,0,none⟩)=pv at hv;cases hv with
 | eptr e off b o cv hfl hz hvv hcc=>
  have e1:g=b/\0=o+0:=by
   have h1:=Option.some.inj (Value.pointer.inj hpp);exact ⟨congrArg Addr.block h1,congrArg Addr.off h1⟩
  obtain ⟨rfl,e2⟩:=e1;have e3:o=0:=by omega
  subst e3;obtain ⟨vs,rfl,h2,h3⟩:=hvv.of_agg;have hlen:vs.size=zs.length:=by
   have:=h2.1;simp at this;omega
  apply Array.ext
  ·rw [hsz];simp
  ·intro i hi1 hi2;have hi3:i<zs.length:=by simpa using hi2
   have hvi:vs[i]? = some (.int k zs[i]):=by
    have h4:=(h2.2 i (.int k zs[i]) (vs[i]'(by omega)) (by rw [List.getElem?_map,List.getElem?_eq_getElem hi3];rfl) (by simp [hlen,hi3]))
    have h5:=h4.of_int;rw [Array.getElem?_eq_getElem (by omega)]
    exact congrArg some h5.1
   have h6:=hcc i (.int k zs[i]) (by simpa [Value.cells] using hvi)
   have h7:w.cell? ⟨g,0+i,none⟩=c[i]?:=by simp [World.cell?,hb,Nat.zero_add]
   rw [h7,Array.getElem?_eq_getElem hi1] at h6;have h8:=Option.some.inj h6
   simpa using h8
theorem zUu {f:FuncId} {fn:Func} {body:Code} {g:Nat} (hf:P.funcs[f]? = some fn) (hb:fn.body=some body) (hn:(fn.name == "runtime.NumGoroutine")=false)
  (hgn:P.globalNamed "internal/strconv.uint64pow10"=some g) (hG:G.glob g=some (.eptr (.agg (Lib.pow10Tab.map fun z=>.int .u64 z)) 0))
  (h0:∀(n:Int) (h0:-9223372036854775808<=n) (h1:n<=9223372036854775807) (w:World) (htab:Lib.TabIs P w "internal/strconv.uint64pow10" .u64 Lib.pow10Tab),Calls P f #[.int .i64 n,.int .i64 10] w fun e w'=>e=.returned (.string ⟨(Lib.itoa n).toArray⟩)/\∃k os,w'=Sort.grow (w.drewN k) os):zBv P G f fmtG:=by
 intro args v ha hv;unfold fmtG at hv;split at hv
 rotate_left
 ·cases hv
 rename_i n b;split at hv
 rotate_left
 ·cases hv
 rename_i hb2;cases hv;rw [Bool.and_eq_true] at hb2;obtain rfl:b=10:=by simpa using hb2.1
 have hr2:=of_decide_eq_true hb2.2;refine ⟨⟨fn,body,hf,hb,hn⟩,.str _,fun H nx E w cargs hr hva hg hfr=>?_⟩
 obtain ⟨c1,cr,hc,hvc,hrest⟩:=hva.of_cons;obtain ⟨c2,cr2,hc2,hvc2,hrest2⟩:=hrest.of_cons;have hcr:=hrest2.of_nil;subst hcr;have hca:cargs=#[c1,c2]:=by apply Array.toList_inj.1;rw [hc,hc2]
 subst hca;obtain ⟨rfl,_⟩:=hvc.of_int;obtain ⟨rfl,_⟩:=hvc2.of_int;refine (h0 n hr2.1 hr2.2 w (zVC hgn hG hg)).mono fun e w' h=>?_
 obtain ⟨rfl,k,os,rfl⟩:=h;obtain ⟨k1,k2,k3⟩:=zGW hr (Lib.below_grow _ _ (Nat.le_refl _) k os) nx;refine ⟨_,E,rfl,k1,k2,.str _ _ (by simp) ?_⟩
 have:=Lib.itoa_length_le n hr2.1 hr2.2;rw [List.length_map];unfold zf;omega
theorem zNM (hr:HR E H w) (hb:Below w.heap.size w w') (a:Nat):
  HR { E with Z:=fun b=>E.Z b\/(w.heap.size<=b/\b<w'.heap.size) } H w'/\Tr E H w { E with Z:=fun b=>E.Z b\/(w.heap.size<=b/\b<w'.heap.size) } H w' a a/\∀{v cv},VR E w v cv->VR { E with Z:=fun b=>E.Z b\/(w.heap.size<=b/\b<w'.heap.size) } w' v cv:=by
 have hS:Shapes w w':=fun b c e f h=>⟨c,f,(hb.block b (Array.getElem?_eq_some_iff.1 h).1).trans h,rfl⟩
 have hm:∀{v cv},VR E w v cv->VR { E with Z:=fun b=>E.Z b\/(w.heap.size<=b/\b<w'.heap.size) } w' v cv:=fun hv=>
  VR.mono (E:=E) (E':={ E with Z:=fun b=>E.Z b\/(w.heap.size<=b/\b<w'.heap.size) }) (fun _ h=>⟨h,rfl⟩) (fun b h=>⟨.inl h,hb.block b (hr.zlt b h)⟩) hS hv
 refine ⟨⟨hr.nodup,hr.dom,hr.inj,fun p hp=>(hr.obj p hp).mono (hb.block _ (hr.lt hp)) hm,fun p hp hz=>?_,fun b h=>?_⟩,
  ⟨Nat.le_refl _,fun _ _=>rfl,fun h=>⟨.inl,fun h=>h.elim id fun ⟨x,y⟩=>by omega⟩,fun _ h=>.inl h,fun x h=>?_,fun p hp=>.inl ⟨p,hp,rfl⟩,hb.tape,hb.os,hb.output,hb.size,fun x hx _=>hb.block x hx,hS,rfl⟩,hm⟩
 ·rcases hz with hz | hz
  ·exact hr.nz p hp hz
  ·have:=hr.lt hp;have e:w.heap.size<=E.ρ p.1:=hz.1;omega
 ·rcases h with h | h
  ·exact Nat.lt_of_lt_of_le (hr.zlt b h) hb.size
  ·exact h.2
 ·rcases h with h | h
  ·exact .inl h
  ·exact .inr (.inr h.1)
def zOc (T:Nat) (es er:AV):List AV->Option AV
 | [.str s,.int .i64 b,.int .i64 z]=>match Nat.ble s.length 281474976710656&&(b==10&&z==64) with
  | true=>match Lib.parseIntB 64 (s.map UInt8.ofNat) with
   | .ok v=>some (.tup [.int .i64 v,.niliface])
   | .range=>some (.tup [.int .i64 (Lib.intSat 64 (s.map UInt8.ofNat)),.iface T (.eptr (.agg [.str [80,97,114,115,101,73,110,116],.str s,er]) 0)])
   | _=>some (.tup [.int .i64 0,.iface T (.eptr (.agg [.str [80,97,114,115,101,73,110,116],.str s,es]) 0)])
  | false=>none
 | _=>none
theorem zST {f:FuncId} {fn:Func} {body:Code} {T gs gr ty ps pr:Nat} {es er:AV} (hf:P.funcs[f]? = some fn) (hb:fn.body=some body) (hn:(fn.name == "runtime.NumGoroutine")=false) (hGP:GPP G)
  (hGs:G.glob gs=some (.eptr (.agg [.iface ps es]) 0)) (hGr:G.glob gr=some (.eptr (.agg [.iface pr er]) 0))
  (h0:∀(s:ByteArray) (hmax:s.size<=9223372036854775806) (v:Int) (h:Lib.parseIntB 64 s.data.toList=.ok v) (w:World),Calls P f #[.string s,.int .i64 10,.int .i64 64] w fun e w'=>e=.returned (.tuple #[.int .i64 v,.nilIface])/\Below w.heap.size w w')
  (h1:∀(s:ByteArray) (hlim:s.size<=281474976710656) (h:∀v,Lib.parseIntB 64 s.data.toList≠.ok v) (h':Lib.parseIntB 64 s.data.toList≠.range) (ev:Value) (w:World) (hv:w.cell? ⟨gs,0,none⟩=some ev) (hev:ev=.nilIface\/∃te pe,ev=.iface te pe),
   Calls P f #[.string s,.int .i64 10,.int .i64 64] w fun e w'=>∃N,e=.returned (.tuple #[.int .i64 (0),.iface T (.pointer (some ⟨N,0,none⟩))])/\w.heap.size<=N/\w'.heap[N]? = some (.cells #[.string ⟨#[80,97,114,115,101,73,110,116]⟩,.string s,ev] ty (0,0))/\Below w.heap.size w w')
  (h2:∀(s:ByteArray) (hlim:s.size<=281474976710656) (h:Lib.parseIntB 64 s.data.toList=.range) (ev:Value) (w:World) (hv:w.cell? ⟨gr,0,none⟩=some ev) (hev:ev=.nilIface\/∃te pe,ev=.iface te pe),
   Calls P f #[.string s,.int .i64 10,.int .i64 64] w fun e w'=>∃N,e=.returned (.tuple #[.int .i64 (Lib.intSat 64 s.data.toList),.iface T (.pointer (some ⟨N,0,none⟩))])/\w.heap.size<=N/\w'.heap[N]? = some (.cells #[.string ⟨#[80,97,114,115,101,73,110,116]⟩,.string s,ev] ty (0,0))/\Below w.heap.size w w'):zBv P G f (zOc T (.iface ps es) (.iface pr er)):=by
 have hb2:∀l,has .i64 (Lib.intSat 64 l):=fun l=>by unfold Lib.intSat has;split <;> decide
 have pes:PP (.iface ps es):=by
  have:=hGP gs _ hGs;cases this with
  | eptr e off h=>cases h with
   | agg cs h=>exact h _ (.head _)
 have per:PP (.iface pr er):=by
  have:=hGP gr _ hGr;cases this with
  | eptr e off h=>cases h with
   | agg cs h=>exact h _ (.head _)
 intro args v ha hv;unfold zOc at hv;split at hv
 rotate_left
 ·cases hv
 rename_i l b z;split at hv
 rotate_left
 ·cases hv
 rename_i hle;simp only [Bool.and_eq_true] at hle;obtain ⟨hle,e10,e64⟩:=hle;obtain rfl:b=10:=by simpa using e10
 obtain rfl:z=64:=by simpa using e64
 have hpv:PP v:=by
  have hpe:∀{n:Int} {e:AV},PP e->PP (.tup [.int .i64 n,.iface T (.eptr (.agg [.str [80,97,114,115,101,73,110,116],.str l,e]) 0)]):=fun he=>.tup _ fun x hx=>by
   rcases List.mem_cons.1 hx with rfl | hx
   ·exact .int _ _
   ·rcases List.mem_cons.1 hx with rfl | hx
    ·refine .iface _ _ (.eptr _ _ (.agg _ fun y hy=>?_))
     rcases List.mem_cons.1 hy with rfl | hy
     ·exact .str _
     ·rcases List.mem_cons.1 hy with rfl | hy
      ·exact .str _
      ·rcases List.mem_cons.1 hy with rfl | hy
       ·exact he
       ·cases hy
    ·cases hx
  split at hv
  ·cases hv;exact .tup _ fun x hx=>by
    rcases List.mem_cons.1 hx with rfl | hx
    ·exact .int _ _
    ·rcases List.mem_cons.1 hx with rfl | hx
     ·exact .niliface
     ·cases hx
  ·cases hv;exact hpe per
  ·cases hv;exact hpe pes
 refine ⟨⟨fn,body,hf,hb,hn⟩,hpv,fun H nx E w cargs hr hva hg hfr=>?_⟩
 obtain ⟨c,cr,hc,hvc,hrest⟩:=hva.of_cons;obtain ⟨c2,cr2,hc2,hvc2,hrest2⟩:=hrest.of_cons;obtain ⟨c3,cr3,hc3,hvc3,hrest3⟩:=hrest2.of_cons;have hcr:=hrest3.of_nil;subst hcr;have hca:cargs=#[c,c2,c3]:=by apply Array.toList_inj.1;rw [hc,hc2,hc3]
 subst hca;obtain ⟨rfl,_⟩:=hvc2.of_int;obtain ⟨rfl,_⟩:=hvc3.of_int;obtain ⟨s,rfl,hs,hl⟩:∃s:ByteArray,c=.string s/\s.data.toList.map UInt8.toNat=l/\l.length<=zf:=by
  cases hvc with
  | str l s' h hl=>exact ⟨s',rfl,h,hl⟩
 subst hs;rw [zNL] at hv;have hsz:s.size<=281474976710656:=by
  have h3:=Nat.le_of_ble_eq_true hle;rw [List.length_map,Array.length_toList] at h3;exact h3
 have herr:∀{N:Nat} {w':World} {ev:Value} {te:Nat} {x:AV} {num:Int},has .i64 num->VR E w (.iface te x) ev->w.heap.size<=N->w'.heap[N]? = some (.cells #[.string ⟨#[80,97,114,115,101,73,110,116]⟩,.string s,ev] ty (0,0))->Below w.heap.size w w' →
   ∃cv E',(Ending.returned (.tuple #[.int .i64 num,.iface T (.pointer (some ⟨N,0,none⟩))]):Ending)=.returned cv/\HR E' H w'/\Tr E H w E' H w' nx nx ∧
    VR E' w' (.tup [.int .i64 num,.iface T (.eptr (.agg [.str [80,97,114,115,101,73,110,116],.str (s.data.toList.map UInt8.toNat),.iface te x]) 0)]) cv:=by
  intro N w' ev te x num hnum hve hN hcell hbl;have hlt:=(Array.getElem?_eq_some_iff.1 hcell).1;obtain ⟨k1,k2,k3⟩:=zPA hr hbl hN hlt nx;refine ⟨_,_,rfl,k1,k2,?_⟩
  have hagg:VR { E with Z:=fun b=>E.Z b\/b=N } w' (.agg [.str [80,97,114,115,101,73,110,116],.str (s.data.toList.map UInt8.toNat),.iface te x]) (.agg #[.string ⟨#[80,97,114,115,101,73,110,116]⟩,.string s,ev]):=by
   refine VR.mk_agg (.cons (.str _ _ rfl (by decide)) (.cons (.str _ _ rfl hl) (.cons (k3 hve) .nil))) fun v hv=>?_
   have h9:ev.oneCell'=true:=hve.oneCell rfl;have hv':v=.string ⟨#[80,97,114,115,101,73,110,116]⟩\/v=.string s\/v=ev:=by simpa using hv
   rcases hv' with rfl | rfl | rfl
   ·rfl
   ·rfl
   ·exact h9
  refine VR.mk_tup (.cons (.int _ _ hnum) (.cons (.iface _ _ _ ?_) .nil))
  have:=VR.eptr (E:={ E with Z:=fun b=>E.Z b\/b=N }) (w:=w') _ 0 N 0 _ rfl (Or.inr rfl) hagg fun j c hj=>by
   have hj:(#[Value.string ⟨#[80,97,114,115,101,73,110,116]⟩,.string s,ev])[j]? = some c:=hj;show w'.cell? ⟨N,0+j,none⟩=some c
   simp only [World.cell?,hcell,Nat.zero_add];exact hj
  exact this
 have hif:∀{te:Nat} {x:AV} {ev:Value},VR E w (.iface te x) ev->ev=.nilIface\/∃te pe,ev=.iface te pe:=fun h=>by
  cases h with
  | iface t v cv h=>exact .inr ⟨_,_,rfl⟩
 split at hv
 ·rename_i n hok;cases hv;refine (h0 s (by omega) n hok w).mono fun e w' h=>?_
  obtain ⟨rfl,hbl⟩:=h;obtain ⟨k1,k2,k3⟩:=zGW hr hbl nx;have hbn:=Lib.parseIntB_bounds hok;exact ⟨_,E,rfl,k1,k2,VR.mk_tup (.cons (.int _ _ ⟨hbn.1,Int.le_of_lt_add_one hbn.2⟩) (.cons .niliface .nil))⟩
 ·rename_i hra;cases hv;obtain ⟨ev,c1,c2,_⟩:=zNK hg hGr;refine (h2 s hsz hra ev w c1 (hif c2)).mono fun e w' h=>?_
  obtain ⟨N,rfl,m1,m2,m3⟩:=h;exact herr (hb2 _) c2 m1 m2 m3
 ·rename_i hno hnr;cases hv;obtain ⟨ev,c1,c2,_⟩:=zNK hg hGs;refine (h1 s hsz (fun v e=>hno v e) (fun e=>hnr e) ev w c1 (hif c2)).mono fun e w' h=>?_
  obtain ⟨N,rfl,m1,m2,m3⟩:=h;exact herr (by unfold has;decide) c2 m1 m2 m3
end
end Go.Sy
namespace Go.Sy
open Go.RowKit
def cut1 (c:Nat):List Nat->List Nat×List Nat×Bool
 | []=>([],[],false)
 | x::r=>match Nat.beq x c with
  | true=>([],r,true)
  | false=>match cut1 c r with
   | (a,b,ok)=>(x::a,b,ok)
def zw (c:Nat):List Nat->List (List Nat)
 | []=>[[]]
 | x::r=>match Nat.beq x c with
  | true=>[]::zw c r
  | false=>match zw c r with
   | h::t=>(x::h)::t
   | []=>[[x]]
def cutG:List AV->Option AV
 | [.str s,.str [c]]=>match Nat.blt s.length 4294967281&&Nat.blt c 256 with
  | true=>some (.tup [.str (cut1 c s).1,.str (cut1 c s).2.1,.bool (cut1 c s).2.2])
  | false=>none
 | _=>none
def zOY:List AV->Option AV
 | [.str s,.str [c]]=>match Nat.blt s.length 4294967281&&Nat.blt c 256 with
  | true=>some (.lst 1 ((zw c s).map .str))
  | false=>none
 | _=>none
theorem zPZ (a c:UInt8):Nat.beq a.toNat c.toNat=(a==c):=by
 by_cases h:a=c
 ·subst h;simp
 ·have:a.toNat≠c.toNat:=fun e=>h (UInt8.toNat_inj.1 e)
  have h1:Nat.beq a.toNat c.toNat=false:=by
   cases hb:Nat.beq a.toNat c.toNat with
   | false=>rfl
   | true=>exact absurd (zb hb) this
  rw [h1];simp [h]
theorem zG8 (a c:UInt8) (r:List UInt8):Lib.index (a::r) [c]=if a=c then 0 else if Lib.index r [c]=-1 then -1 else Lib.index r [c]+1:=by
 rw [Lib.index];by_cases h:a=c
 ·subst h;simp [List.isPrefixOf]
 ·have:([c]:List UInt8).isPrefixOf (a::r)=false:=by simp [List.isPrefixOf,Ne.symm h]
  rw [this];simp [h]
theorem zP0 (c:UInt8):∀s:List UInt8,cut1 c.toNat (s.map UInt8.toNat)=((Lib.cut s [c]).1.map UInt8.toNat,(Lib.cut s [c]).2.1.map UInt8.toNat,(Lib.cut s [c]).2.2)
 | []=>by simp [cut1,Lib.cut,Lib.index]
 | a::r=>by
  have ih:=zP0 c r;have hge:=Lib.index_ge r [c];rw [List.map_cons,cut1,zPZ];by_cases h:a=c
  ·subst h;unfold Lib.cut;rw [zG8];simp
  ·have hb:(a==c)=false:=by simpa using h
   rw [hb];simp only [ih];unfold Lib.cut;rw [zG8,if_neg h];by_cases hm:Lib.index r [c]=-1
   ·rw [if_pos hm,hm];simp
   ·rw [if_neg hm];obtain ⟨j,hj⟩:∃j:Nat,Lib.index r [c]=j:=⟨(Lib.index r [c]).toNat,by omega⟩
    rw [hj];have e1:(0:Int)<=(j:Int):=by omega
    have e2:(0:Int)<=(j:Int)+1:=by omega
    have e3:((j:Int)+1).toNat=j+1:=by omega
    rw [if_pos e1,if_pos e2,e3];simp
theorem zNN (c:UInt8):∀s:List UInt8,zw c.toNat (s.map UInt8.toNat)=(Lib.splitK [c] 0 (s.count c) s).map (·.map UInt8.toNat)
 | []=>by simp [zw,Lib.splitK]
 | a::r=>by
  have ih:=zNN c r;have hge:=Lib.index_ge r [c];rw [List.map_cons,zw,zPZ];by_cases h:a=c
  ·subst h;have hc:(a::r).count a=r.count a+1:=by simp
   rw [hc,Lib.splitK,zG8];simp [ih]
  ·have hb:(a==c)=false:=by simpa using h
   have hc:(a::r).count c=r.count c:=List.count_cons_of_ne (by simpa using h)
   rw [hb,hc];simp only [ih];cases hk:r.count c with
   | zero=>simp [Lib.splitK]
   | succ k=>
    have hm:Lib.index r [c]≠-1:=fun e=>by
     have h1:Lib.count r [c]=0:=Lib.count_miss e;rw [Lib.count_one] at h1;omega
    obtain ⟨j,hj⟩:∃j:Nat,Lib.index r [c]=j:=⟨(Lib.index r [c]).toNat,by omega⟩
    rw [Lib.splitK,Lib.splitK,zG8,if_neg h,if_neg hm,hj];have e3:((j:Int)+1).toNat=j+1:=by omega
    have e4:¬((j:Int)+1==-1)=true:=by simp;omega
    have e5:¬((j:Int)==-1)=true:=by simp
    rw [if_neg e4,if_neg e5,e3];simp [Nat.add_right_comm]
theorem zNO (sep:List UInt8):∀(k:Nat) (s:List UInt8),∀x∈Lib.splitK sep 0 k s,x.length<=s.length
 | 0,s,x,h=>by
  rw [List.mem_singleton.1 h];exact Nat.le_refl _
 | k+1,s,x,h=>by
  rw [Lib.splitK] at h;split at h
  ·rw [List.mem_singleton.1 h];exact Nat.le_refl _
  ·rcases List.mem_cons.1 h with rfl | h
   ·rw [List.length_take];omega
   ·have:=zNO sep k _ x h;rw [List.length_drop] at this;omega
section
variable {P:Program} {G:Cx} {E:Env} {w w':World} {H:Heap}
theorem zOZ {g:Nat} {m:Int} (hG:G.glob g=some (.eptr (.agg [.int .i64 m]) 0)) (hg:GR G E w):w.cell? ⟨g,0,none⟩=some (.int .i64 m):=by
 obtain ⟨hv,_⟩:=hg g _ hG;generalize hpp:Value.pointer (some ⟨g,0,none⟩)=pv at hv;cases hv with
 | eptr e off b o cv hfl hz hvv hcc=>
  have h1:=Option.some.inj (Value.pointer.inj hpp);have e1:g=b:=congrArg Addr.block h1;have e2:0=o+0:=congrArg Addr.off h1;subst e1;have e3:o=0:=by omega
  subst e3;obtain ⟨vs,rfl,h2,h3⟩:=hvv.of_agg;have hlen:0<vs.size:=by have:=h2.1;simp at this;omega
  have h4:=(h2.2 0 (.int .i64 m) (vs[0]'hlen) rfl (by simp [hlen])).of_int
  have h6:=hcc 0 (.int .i64 m) (by simp only [Value.cells];rw [Array.getElem?_eq_getElem hlen];exact congrArg some h4.1)
  simpa using h6
theorem zO0 {cargs:Array Value} {s:List Nat} {c:Nat} (hva:VRs E w [.str s,.str [c]] cargs.toList):∃(a:ByteArray) (u:UInt8),cargs=#[.string a,.string ⟨#[u]⟩]/\a.data.toList.map UInt8.toNat=s/\u.toNat=c/\s.length<=zf:=by
 obtain ⟨c1,cr,hc,hvc,hrest⟩:=hva.of_cons;obtain ⟨c2,cr2,hc2,hvc2,hrest2⟩:=hrest.of_cons;have hcr:=hrest2.of_nil;subst hcr;have hca:cargs=#[c1,c2]:=by apply Array.toList_inj.1;rw [hc,hc2]
 subst hca;cases hvc with
 | str l a h hl=>
  cases hvc2 with
  | str l2 b h2 hl2=>
   obtain ⟨⟨lb⟩⟩:=b;have h2:lb.map UInt8.toNat=[c]:=h2
   match lb,h2 with
   | [u],h2=>
    exact ⟨a,u,rfl,h,by simpa using h2,hl⟩
theorem zUv {f:FuncId} {fn:Func} {body:Code} {g:Nat} {m:Int} (hf:P.funcs[f]? = some fn) (hb:fn.body=some body) (hn:(fn.name == "runtime.NumGoroutine")=false) (hG:G.glob g=some (.eptr (.agg [.int .i64 m]) 0))
  (h0:∀(s sep:ByteArray) (w:World) (hs:s.size<4294967281) (hm:w.cell? ⟨g,0,none⟩=some (.int .i64 m)),Calls P f #[.string s,.string sep] w fun e w'=>e=.returned (.tuple #[.string ⟨(Lib.cut s.data.toList sep.data.toList).1.toArray⟩,.string ⟨(Lib.cut s.data.toList sep.data.toList).2.1.toArray⟩,.bool (Lib.cut s.data.toList sep.data.toList).2.2])/\∃n,w'=w.drewN n):zBv P G f cutG:=by
 intro args v ha hv;unfold cutG at hv;split at hv
 rotate_left
 ·cases hv
 rename_i s c;split at hv
 rotate_left
 ·cases hv
 rename_i hb2;rw [Bool.and_eq_true,Nat.blt_eq,Nat.blt_eq] at hb2;cases hv;refine ⟨⟨fn,body,hf,hb,hn⟩,.tup _ fun e he=>?_,fun H nx E w cargs hr hva hg hfr=>?_⟩
 ·simp only [List.mem_cons,List.not_mem_nil,or_false] at he;rcases he with rfl | rfl | rfl
  ·exact .str _
  ·exact .str _
  ·exact .bool _
 obtain ⟨a,u,rfl,rfl,rfl,hl⟩:=zO0 hva;rw [List.length_map] at hb2;refine (h0 a ⟨#[u]⟩ w (by show a.data.size<_;rw [←Array.length_toList];exact hb2.1) (zOZ hG hg)).mono fun e w' h=>?_
 obtain ⟨rfl,k,rfl⟩:=h;rw [zP0];have hle:(Lib.cut a.data.toList [u]).1.length<=a.data.toList.length/\(Lib.cut a.data.toList [u]).2.1.length<=a.data.toList.length:=by
  unfold Lib.cut;split
  ·exact ⟨by rw [List.length_take];omega,by rw [List.length_drop];omega⟩
  ·exact ⟨Nat.le_refl _,Nat.zero_le _⟩
 obtain ⟨k1,k2,_⟩:=zGW hr (w':=w.drewN k) ⟨rfl,rfl,rfl,Nat.le_refl _,fun _ _=>rfl⟩ nx
 refine ⟨_,E,rfl,k1,k2,?_⟩
 have hmx:∀l:List UInt8,l.length<=a.data.toList.length->(l.map UInt8.toNat).length<=zf:=fun l h=>by rw [List.length_map];rw [List.length_map] at hl;omega
 refine .tup _ _ rfl fun i x v hx hv=>?_
 match i,hx,hv with
 | 0,hx,hv=>cases hx;cases hv;exact .str _ _ rfl (hmx _ hle.1)
 | 1,hx,hv=>cases hx;cases hv;exact .str _ _ rfl (hmx _ hle.2)
 | 2,hx,hv=>cases hx;cases hv;exact .bool _
 | i+3,hx,_=>simp at hx
theorem zRQ {f:FuncId} {fn:Func} {body:Code} {g:Nat} {m:Int} {ty:TypeId} (hf:P.funcs[f]? = some fn) (hb:fn.body=some body) (hn:(fn.name == "runtime.NumGoroutine")=false) (hG:G.glob g=some (.eptr (.agg [.int .i64 m]) 0))
  (h0:∀(s sep:ByteArray) (w:World) (hs:s.size<4294967281) (hm:w.cell? ⟨g,0,none⟩=some (.int .i64 m)) (h1:1<=sep.size),Calls P f #[.string s,.string sep] w fun e w'=>
   e=.returned (.slice (some ⟨w.heap.size,0,none⟩) (Lib.countB s sep+1) (Lib.countB s sep+1))/\w'=w.alloc (.cells ((Lib.splitB sep 0 (Lib.countB s sep) s).map Value.string).toArray ty)):zBv P G f zOY:=by
 intro args v ha hv;unfold zOY at hv;split at hv
 rotate_left
 ·cases hv
 rename_i s c;split at hv
 rotate_left
 ·cases hv
 rename_i hb2;rw [Bool.and_eq_true,Nat.blt_eq,Nat.blt_eq] at hb2;cases hv;refine ⟨⟨fn,body,hf,hb,hn⟩,.lst _ _ fun e he=>?_,fun H nx E w cargs hr hva hg hfr=>?_⟩
 ·obtain ⟨l,_,rfl⟩:=List.mem_map.1 he;exact .str _
 obtain ⟨a,u,rfl,rfl,rfl,hl⟩:=zO0 hva;rw [List.length_map] at hb2;have hsz:a.size<4294967281:=by show a.data.size<_;rw [←Array.length_toList];exact hb2.1
 refine (h0 a ⟨#[u]⟩ w hsz (zOZ hG hg) (Nat.le_refl _)).mono fun e w' h=>?_
 obtain ⟨rfl,rfl⟩:=h;have hle:=Lib.countB_le ⟨#[u]⟩ (Nat.le_refl _) a.size a (Nat.le_refl _);have hlen:=Lib.splitB_all ⟨#[u]⟩ (Nat.le_refl _) 0 _ a rfl;have hdata:=Lib.splitB_data ⟨#[u]⟩ 0 (Lib.countB a ⟨#[u]⟩) a;have hcnt:Lib.countB a ⟨#[u]⟩=a.data.toList.count u:=Lib.count_one u _;generalize hsp:Lib.splitB ⟨#[u]⟩ 0 (Lib.countB a ⟨#[u]⟩) a=sp at *;have hres:(zw u.toNat (a.data.toList.map UInt8.toNat)).map AV.str=sp.map fun x=>AV.str (x.data.toList.map UInt8.toNat):=by
  rw [zNN,←hcnt,←hdata,List.map_map,List.map_map];rfl
 rw [hres];have hbel:Below w.heap.size w (w.alloc (.cells (sp.map Value.string).toArray ty)):=(Below.refl _ _).alloc (Nat.le_refl _) _;obtain ⟨k1,k2,_⟩:=zNM hr hbel nx;refine ⟨_,_,rfl,k1,k2,?_⟩
 have hblk:(w.alloc (.cells (sp.map Value.string).toArray ty)).heap[w.heap.size]? = some (.cells (sp.map Value.string).toArray ty (0,0)):=by
  show (w.heap.push _)[w.heap.size]? = _
  simp
 have hel:∀(i:Nat) x,sp[i]? = some x->(x.data.toList.map UInt8.toNat).length<=zf:=fun i x hx=>by
  have hm:x.data.toList∈Lib.splitK [u] 0 (Lib.countB a ⟨#[u]⟩) a.data.toList:=by
   have h1:x.data.toList∈sp.map (·.data.toList):=List.mem_map_of_mem (List.mem_of_getElem? hx);rw [hdata] at h1;exact h1
  have:=zNO [u] _ _ _ hm;rw [List.length_map] at hl ⊢;omega
 have hlm:(sp.map fun x=>AV.str (x.data.toList.map UInt8.toNat)).length=Lib.countB a ⟨#[u]⟩+1:=by rw [List.length_map,hlen]
 rw [←hlm];refine .lst _ w.heap.size 0 _ 1 (fun i=>.string (sp.getD i ByteArray.empty)) (.inr ⟨Nat.le_refl _,by show _<(w.heap.push _).size;simp⟩) (Nat.le_refl _) (by rw [hlm];unfold zf;omega) (fun i e he=>?_) (fun i e he=>?_) fun i hi=>?_
 ·rw [List.getElem?_map] at he;cases hx:sp[i]? with
  | none=>rw [hx] at he;cases he
  | some x=>rw [hx] at he;cases he;rfl
 ·rw [List.getElem?_map] at he;cases hx:sp[i]? with
  | none=>rw [hx] at he;cases he
  | some x=>
   rw [hx] at he;cases he;have:sp.getD i ByteArray.empty=x:=by rw [List.getD_eq_getElem?_getD,hx];rfl
   rw [this];exact .str _ _ rfl (hel i x hx)
 ·rw [List.length_map] at hi;refine ⟨rfl,fun j cc hj=>?_⟩
  have hj0:j=0:=by
   have:=(Array.getElem?_eq_some_iff.1 hj).1;simp [Value.cells] at this;omega
  subst hj0;have hc:cc=.string (sp.getD i ByteArray.empty):=by simpa [Value.cells] using hj.symm
  subst hc;have e1:(w.alloc (.cells (sp.map Value.string).toArray ty)).cell? ⟨w.heap.size,0+i*1+0,none⟩=(sp.map Value.string).toArray[0+i*1+0]?:=by
   unfold World.cell?;rw [hblk];rfl
  rw [e1];simp [hi,List.getD_eq_getElem?_getD]
end
end Go.Sy
namespace Go.Sy
open Go.RowKit
def zQF:List AV->Option AV
 | [.lst sz es,.str sep]=>zJp [.lst sz es,.str sep] []
 | _=>none
section
variable {P:Program} {G:Cx}
theorem zSU {f:FuncId} {fn:Func} {body:Code} (hf:P.funcs[f]? = some fn) (hb:fn.body=some body) (hn:(fn.name == "runtime.NumGoroutine")=false)
  (h0:∀(a:Option Addr) (c:Nat) (sep:ByteArray) (w:World),Calls P f #[.slice a 0 c,.string sep] w fun e w'=>e=.returned (.string ⟨#[]⟩)/\w'=w)
  (h1:∀(bk o c:Nat) (xs:List ByteArray) (sep:ByteArray) (w:World),(∀(j:Nat) x,xs[j]? = some x->w.cell? ⟨bk,o+j,none⟩=some (.string x))->bk<w.heap.size->xs.length<=140737488355328->xs.length<=c →
   (Lib.join (xs.map (·.data.toList)) sep.data.toList).length<=140737488355328 →
   Calls P f #[.slice (some ⟨bk,o,none⟩) xs.length c,.string sep] w fun e w'=>e=.returned (.string ⟨(Lib.join (xs.map (·.data.toList)) sep.data.toList).toArray⟩)/\Below w.heap.size w w'):zBv P G f zQF:=by
 intro args v ha hv;unfold zQF at hv;split at hv
 rotate_left
 ·cases hv
 rename_i sz es sep;refine ⟨⟨fn,body,hf,hb,hn⟩,?_,fun H nx E w cargs hr hva hg hfr=>?_⟩
 ·unfold zJp at hv
  repeat' split at hv
  all_goals first | (cases hv;exact .str _) | (cases hv;done)
 ·have hv':zJp [.lst sz es,.str sep] H=some v:=hv;refine (zQu h0 h1 _ H v hv' E w cargs hr hva).mono fun e w' ⟨cv,e1,hbel,e2⟩=>?_
  obtain ⟨k1,k2,k3⟩:=zNM hr hbel nx;exact ⟨cv,_,e1,k1,k2,k3 e2⟩
end
end Go.Sy
namespace Go.Sy
open Go.RowKit
theorem zQG {P:Program} {g t u:Nat} {zero:Array Value} {W:World} {m:Int} (h:W.ShapedOpen P) (hg:g<P.globals.size) (h0:((begin P (fun _ _=>0) default).world.heap[g]?).bind Obj.row? = some (zero,t)) (hz:zero.size=1) (hb:P.buildable t=true)
  (hu:P.cellTypes P.depth t=some [u]) (hk:P.underlying u=some (.int .i64)) (hm:W.cell? ⟨g,0,none⟩=some (.int .i64 m)):(∃c t e,W.heap[g]? = some (.cells c t e)/\c.size=1)/\has .i64 m:=by
 obtain ⟨cs,hcs,hsz,hrow⟩:=h.1 g zero t hg h0;obtain ⟨ts,h1,_,h3⟩:=hrow hb;rw [hu] at h1;cases h1;have hc:cs[0]? = some (.int .i64 m):=by
  simpa [World.cell?,hcs] using hm
 obtain ⟨v,hv,hok⟩:=h3 0 _ hc;have hv':v=u:=by simpa using hv.symm
 subst hv';unfold Cell.ok at hok;rw [hk] at hok;exact ⟨⟨cs,_,_,hcs,by rw [←hz];exact hsz⟩,hok.2⟩
end Go.Sy
namespace Go.Sy
open Go.RowKit
theorem TabOK.at {P:Program} {G:Cx} {f:Nat} {g:List AV->Option AV} {tb:TbF} {th:TbH} (h:TabOK P G ((f,g)::tb) th):zBv P G f g:=fun args v ha hv=>h.v _ (.head _) args v ha hv
end Go.Sy
