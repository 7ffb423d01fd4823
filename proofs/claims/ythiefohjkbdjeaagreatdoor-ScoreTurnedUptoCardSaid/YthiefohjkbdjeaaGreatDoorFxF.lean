/- A LIBRARY: WHAT A FUNCTION'S CODE RECKONS, AS A LEAN FUNCTION, AND THAT ITS WORD IS THE MODEL'S: part 6 of 6. No condition. -/
import Derived.Test.YthiefohjkbdjeaaGreatDoorFxE
import Derived.Carry
import Derived.WideShapes
import Derived.Lib.AtoiAll
import Derived.Lib.ItoaNum
import Derived.Lib.Bytealg
import Derived.Lib.IndexLaws
import Derived.Lib.ParseIntBTie
import Derived.Lib.ItoaLen
import Derived.Lib.AppendIntMem
import Derived.Lib.LaidTab
import Derived.Shelf.Small.Bits
import Derived.Shelf.Strconv.Itoa4
import Derived.DataReads
import Derived.ChangeArms
import Derived.Sort.AssemblyPlain
import Derived.Shelf.GgSortFunc.InsertionK
set_option linter.unusedVariables false
set_option linter.unusedSimpArgs false
namespace Go.Sy
open Go.ChangeShapes Go.RowKit
section
variable {P:Program} {w:World} {r:Reach} {b:Nat} {t:TypeId} {v:Value}
theorem zQu (h:Cell.ok P w r b t v):v.oneCell'=true:=by
 unfold Cell.ok at h;split at h <;> first | rfl | exact h.elim
theorem zMr (h:Cell.okWide P w r b t v):v.oneCell'=true:=by
 unfold Cell.okWide at h;split at h <;> first | rfl | exact zQu h
theorem zQv {P:Program} {w:World} {r:Reach} {b:Nat} {t:TypeId} {v:Value} (h:Value.okWide P w r b t v) (hs:∀fs,P.underlying t≠some (.struct fs)) (ha:∀n e,P.underlying t≠some (.array n e)):v.oneCell'=true:=by
 unfold Value.okWide at h;split at h
 ·rename_i fs e;exact absurd e (hs fs)
 ·rename_i n x e;exact absurd e (ha n x)
 ·exact zMr h
theorem zI3 {H:Type} {enc:TypeId×Value->H} {P:Program} {t:TypeId} (hl:laidOutB P=true) (hr:P.readableRec t=true) (hrow:t<P.types.size) {W W':World} {v:Value} {d:DataW H} {ps:List MemPlace} {sp:Nat->Bool}
  (h:DataW.Trod enc P W 0 (fun _=>true) true t v d ps) (hb:Kept W W') (hlt:∀x∈ps,x.block<W.heap.size) (hs:∀x∈ps,sp x.block=true):DataW.Trod enc P W' 0 sp true t v d ps:=
 WideElems.Trod_stays hl hr hrow h (fun x hx=>hb.below.same (hlt x hx)) hs
end
end Go.Sy
namespace Go.Sy
open Go.ChangeShapes Go.RowKit
section
variable {P:Program} {w:World} {r:Reach} {b:Nat} {t u:TypeId} {v:Value} {E:Env}
theorem zSu {k:IntKind} (hu:P.underlying u=some (.int k)) (h:Cell.okWide P w r b u v):∃n:Int,v=.int k n/\has k n:=by
 unfold Cell.okWide at h;rw [hu] at h;have h:Cell.ok P w r b u v:=by
  cases v <;> exact h
 unfold Cell.ok at h;rw [hu] at h;cases v with
 | int k' n=>
  obtain ⟨rfl,h2⟩:=h;exact ⟨n,rfl,h2⟩
 | _=>exact h.elim
theorem zPv (hs:∀fs,P.underlying t≠some (.struct fs)) (ha:∀n e,P.underlying t≠some (.array n e)) (h:Value.okWide P w r b t v):Cell.okWide P w r b t v:=by
 unfold Value.okWide at h;split at h
 ·rename_i fs e;exact absurd e (hs fs)
 ·rename_i n x e;exact absurd e (ha n x)
 ·exact h
def lets (s:ByteArray):List Nat:=s.data.toList.map UInt8.toNat
theorem VR.lets {s:ByteArray} (h:s.size<=zh):VR E w (.str (Sy.lets s)) (.string s):=.str _ s rfl (by
 have:(Sy.lets s).length=s.size:=by
  unfold Sy.lets;rw [List.length_map,Array.length_toList];rfl
 omega)
theorem zUL {s:ByteArray}:∀b∈lets s,b<256:=by
 intro b hb;obtain ⟨x,_,rfl⟩:=List.mem_map.1 hb;exact UInt8.toNat_lt x
theorem zNh {G:Cx} {f:FuncId} {fn:Func} {body:Code} (hf:P.funcs[f]? = some fn) (hb:fn.body=some body) (hn:(fn.name == "runtime.NumGoroutine")=false) {g:List AV->Option AV}
  (h:∀args v,g args=some v->∀(E:Env) (w:World) (cargs:Array Value),HR E [] w->VRs E w args cargs.toList->GR G E w->Calls P f cargs w fun e w'=>∃cv,e=.returned cv/\Below w.heap.size w w'/\VR E w v cv) (hp:∀args v,g args=some v->args.all (z3 40)=true/\z3 40 v=true) (hG:zLj G):zOv P G f g:=by
 intro args v hv;refine ⟨⟨fn,body,hf,hb,hn⟩,zPo hG (hp _ _ hv).1 (hp _ _ hv).2 (n:=0) ?_⟩
 intro E w cargs hr hva hg _;refine (h args v hv E w cargs hr hva hg).mono fun e w' h1=>?_
 obtain ⟨cv,rfl,h2,h3⟩:=h1;obtain ⟨k1,k2,k3⟩:=zHt hr h2 0;exact ⟨cv,E,rfl,k1,k2,k3 h3⟩
end
end Go.Sy
namespace Go.Sy
open Go.RowKit
section
variable {P:Program} {G:Cx} {E:Env} {w w':World} {H:Heap}
theorem zPw {N:Nat} (hr:HR E H w) (hb:Below w.heap.size w w') (hN:w.heap.size<=N) (hlt:N<w'.heap.size) (a:Nat):
  HR { E with Z:=fun b=>E.Z b\/b=N } H w'/\Tr E H w { E with Z:=fun b=>E.Z b\/b=N } H w' a a/\∀{v cv},VR E w v cv->VR { E with Z:=fun b=>E.Z b\/b=N } w' v cv:=by
 have hS:Shapes w w':=fun b c e f h=>⟨c,f,(hb.block b (Array.getElem?_eq_some_iff.1 h).1).trans h,rfl⟩
 have hm:∀{v cv},VR E w v cv->VR { E with Z:=fun b=>E.Z b\/b=N } w' v cv:=fun hv=>
  VR.mono (E:=E) (E':={ E with Z:=fun b=>E.Z b\/b=N }) (fun _ h=>⟨h,rfl⟩) (fun b h=>⟨.inl h,hb.block b (hr.zlt b h)⟩) hS hv
 refine ⟨⟨hr.nodup,hr.dom,hr.inj,fun p hp=>(hr.obj p hp).mono (hb.block _ (hr.lt hp)) hm,fun p hp hz=>?_,fun b h=>?_⟩,
  ⟨Nat.le_refl _,fun _ _=>rfl,fun h=>⟨.inl,fun h=>h.elim id fun ⟨x,y⟩=>by omega⟩,fun _ h=>.inl h,fun x h=>?_,fun p hp=>.inl ⟨p,hp,rfl⟩,hb.tape,hb.os,hb.output,hb.size,fun x hx _=>hb.block x hx,hS,rfl⟩,hm⟩
 ·rcases hz with hz | hz
  ·exact hr.nz p hp hz
  ·have:=hr.lt hp;have e:E.ρ p.1=N:=hz;omega
 ·rcases h with h | h
  ·exact Nat.lt_of_lt_of_le (hr.zlt b h) hb.size
  ·rw [h];exact hlt
 ·rcases h with h | h
  ·exact .inl h
  ·exact .inr (.inr (by rw [h];exact hN))
def decN (i:Nat):List Nat:=(Lib.decDigits i).map UInt8.toNat
def zJE:List AV->Option AV
 | [.int .i64 (.ofNat i)]=>match Nat.blt i 100 with
  | true=>some (.str (decN i))
  | false=>none
 | _=>none
theorem zRB {f:FuncId} {fn:Func} {body:Code} (hf:P.funcs[f]? = some fn) (hb:fn.body=some body) (hn:(fn.name == "runtime.NumGoroutine")=false)
  (h0:∀(i:Nat) (hi:i<100) (w:World),Calls P f #[.int .i64 i] w fun e w'=>e=.returned (.string ⟨(Lib.decDigits i).toArray⟩)/\w'=w) (hG:zLj G):zOv P G f zJE:=by
 refine zNh hf hb hn (fun args v hv E w cargs hr hva hg=>?_) (fun args v hv=>?_) hG
 ·unfold zJE at hv;split at hv
  rotate_left
  ·cases hv
  rename_i i;split at hv
  rotate_left
  ·cases hv
  rename_i hi;have hi:i<100:=by simpa [Nat.blt_eq] using hi
  cases hv;obtain ⟨c,cr,hc,hvc,hrest⟩:=hva.of_cons;have hcr:=hrest.of_nil;subst hcr;have hca:cargs=#[c]:=by apply Array.toList_inj.1;simpa using hc
  subst hca;obtain ⟨rfl,_⟩:=hvc.of_int;refine (h0 i hi w).mono fun e w' h=>?_
  obtain ⟨rfl,rfl⟩:=h;refine ⟨_,rfl,Below.refl _ _,.str _ _ (by simp [decN]) ?_⟩
  have:(Lib.decDigits i).length<=2:=by
   rw [Lib.decDigits];split
   ·simp
   ·rw [Lib.decDigits];split
    ·simp
    ·omega
  unfold decN zh;rw [List.length_map];omega
 ·unfold zJE at hv;split at hv
  ·split at hv
   ·cases hv;exact ⟨rfl,rfl⟩
   ·cases hv
  ·cases hv
theorem zM6 {g:Nat} {x:AV} {w:World} (hg:GR G E w) (hG:G.glob g=some (.eptr (.agg [x]) 0)):∃ev,w.cell? ⟨g,0,none⟩=some ev/\VR E w x ev/\ev.oneCell'=true:=by
 have:=(hg g _ hG).1;generalize hpp:Value.pointer (some ⟨g,0,none⟩)=pv at this;cases this with
 | eptr e off b o cv hfl hz hvv hcc=>
  have e1:g=b/\0=o+0:=by
   have h1:=Option.some.inj (Value.pointer.inj hpp);exact ⟨congrArg Addr.block h1,congrArg Addr.off h1⟩
  obtain ⟨e1,e2⟩:=e1;obtain ⟨vs,rfl,h2,h3⟩:=hvv.of_agg;obtain ⟨u,us,hu,h4,h5⟩:=h2.of_cons;have h6:=h5.of_nil;subst h6;have h7:vs[0]? = some u:=by
   have:vs.toList[0]? = some u:=by rw [hu];rfl
   simpa using this
  have h8:=hcc 0 u (by simpa [Value.cells] using h7)
  have e3:o=0:=by omega
  subst e3;exact ⟨u,by rw [e1];exact h8,h4,h3 u (by rw [hu];exact .head _)⟩
theorem zM7 {s:ByteArray}:(s.data.toList.map UInt8.toNat).map UInt8.ofNat=s.data.toList:=by
 rw [List.map_map];have:(UInt8.ofNat∘UInt8.toNat)=id:=by funext x;simp
 rw [this,List.map_id]
end
end Go.Sy
namespace Go.Sy
open Go.RowKit
section
variable {P:Program} {G:Cx} {E:Env} {w w':World} {H:Heap}
theorem zCV.of_pure {f:Nat} {g:List AV->Option AV} (h:zOv P G f g) (hp:∀args v,(∀a∈args,PP a)->g args=some v->PP v):zCV P G f g:=fun args v ha hv=>⟨(h args v hv).1,hp args v ha hv,(h args v hv).2⟩
def idxG:List AV->Option AV
 | [.str s,.int .u8 c]=>some (.int .i64 (Lib.indexByte (s.map UInt8.ofNat) c.toNat.toUInt8))
 | _=>none
theorem zQw (c:UInt8) (l:List UInt8):Lib.indexByte l c<9223372036854775808\/9223372036854775808<=l.length:=by
 by_cases h:Lib.indexByte l c<0
 ·left;omega
 ·obtain ⟨o,ho⟩:=Int.eq_ofNat_of_zero_le (show 0<=Lib.indexByte l c by omega)
  have:=(Lib.indexByte_some ho).1;have:=(List.getElem?_eq_some_iff.1 this).1;omega
theorem zUM {f:FuncId} {fn:Func} {body:Code} (hf:P.funcs[f]? = some fn) (hb:fn.body=some body) (hn:(fn.name == "runtime.NumGoroutine")=false)
  (h0:∀(s:ByteArray) (c:Int) (w:World),Calls P f #[.string s,.int .u8 c] w fun e w'=>e=.returned (.int .i64 (Lib.indexByte s.data.toList c.toNat.toUInt8))/\w'=w):zCV P G f idxG:=by
 intro args v ha hv;unfold idxG at hv;split at hv
 rotate_left
 ·cases hv
 rename_i l c;cases hv;refine ⟨⟨fn,body,hf,hb,hn⟩,.int _ _,fun H nx E w cargs hr hva hg hfr=>?_⟩
 obtain ⟨c1,cr,hc,hvc,hrest⟩:=hva.of_cons;obtain ⟨c2,cr2,hc2,hvc2,hrest2⟩:=hrest.of_cons;have hcr:=hrest2.of_nil;subst hcr;have hca:cargs=#[c1,c2]:=by apply Array.toList_inj.1;rw [hc,hc2]
 subst hca;obtain ⟨s,rfl,hs,hl⟩:∃s:ByteArray,c1=.string s/\s.data.toList.map UInt8.toNat=l/\l.length<=zh:=by
  cases hvc with
  | str l s' h hl=>exact ⟨s',rfl,h,hl⟩
 obtain ⟨rfl,_⟩:=hvc2.of_int;subst hs;rw [zM7];refine (h0 s c w).mono fun e w' h=>?_
 obtain ⟨rfl,rfl⟩:=h;refine ⟨_,E,rfl,hr,.refl nx,.int _ _ ?_⟩
 have h1:=Lib.indexByte_ge s.data.toList c.toNat.toUInt8;have h2:=zQw c.toNat.toUInt8 s.data.toList;rw [List.length_map] at hl;unfold zh at hl;unfold has;show -9223372036854775808<=_/\_<=9223372036854775807
 omega
theorem zSv {f:FuncId} {fn:Func} {body:Code} (hf:P.funcs[f]? = some fn) (hb:fn.body=some body) (hn:(fn.name == "runtime.NumGoroutine")=false)
  (h0:∀(i:Nat) (hi:i<100) (w:World),Calls P f #[.int .i64 i] w fun e w'=>e=.returned (.string ⟨(Lib.decDigits i).toArray⟩)/\w'=w) (hG:zLj G):zCV P G f zJE:=.of_pure (zRB hf hb hn h0 hG) fun args v _ hv=>by
 unfold zJE at hv;split at hv
 ·split at hv
  ·cases hv;exact .str _
  ·cases hv
 ·cases hv
def fmtG:List AV->Option AV
 | [.int .i64 n,.int .i64 b]=>match b==10&&decide (-9223372036854775808<=n/\n<=9223372036854775807) with
  | true=>some (.str ((Lib.itoa n).map UInt8.toNat))
  | false=>none
 | _=>none
theorem zVX {n:String} {g:Nat} {zs:List Int} {k:IntKind} (hn:P.globalNamed n=some g) (hG:G.glob g=some (.eptr (.agg (zs.map fun z=>.int k z)) 0)) (hg:GR G E w):Lib.TabIs P w n k zs:=by
 obtain ⟨hv,hx⟩:=hg g _ hG;obtain ⟨c,t,e,hb,hsz⟩:=hx _ _ rfl;unfold Lib.TabIs World.var?;rw [hn];show (match w.heap[g]? with | some (.cells cs _ _)=>some cs | _=>none)=_
 rw [hb];refine congrArg some ?_
 generalize hpp:Value.pointer (some ⟨g,0,none⟩)=pv at hv;cases hv with
 | eptr e off b o cv hfl hz hvv hcc=>
  have e1:g=b/\0=o+0:=by
   have h1:=Option.some.inj (Value.pointer.inj hpp);exact ⟨congrArg Addr.block h1,congrArg Addr.off h1⟩
  obtain ⟨rfl,e2⟩:=e1;have e3:o=0:=by omega
  subst e3;obtain ⟨vs,rfl,h2,h3⟩:=hvv.of_agg;have hlen:vs.size=zs.length:=by
   have:=h2.1;simp at this;omega
  apply Array.ext
  ·rw [hsz];simp
  ·intro i hi1 hi2;have hi3:i<zs.length:=by simpa using hi2
   have hvi:vs[i]? = some (.int k zs[i]):=by
    have h4:=(h2.2 i (.int k zs[i]) (vs[i]'(by omega)) (by rw [List.getElem?_map,List.getElem?_eq_getElem hi3];rfl) (by simp [hlen,hi3]))
    have h5:=h4.of_int;rw [Array.getElem?_eq_getElem (by omega)]
    exact congrArg some h5.1
   have h6:=hcc i (.int k zs[i]) (by simpa [Value.cells] using hvi)
   have h7:w.cell? ⟨g,0+i,none⟩=c[i]?:=by simp [World.cell?,hb,Nat.zero_add]
   rw [h7,Array.getElem?_eq_getElem hi1] at h6;have h8:=Option.some.inj h6
   simpa using h8
theorem zUN {f:FuncId} {fn:Func} {body:Code} {g:Nat} (hf:P.funcs[f]? = some fn) (hb:fn.body=some body) (hn:(fn.name == "runtime.NumGoroutine")=false)
  (hgn:P.globalNamed "internal/strconv.uint64pow10"=some g) (hG:G.glob g=some (.eptr (.agg (Lib.pow10Tab.map fun z=>.int .u64 z)) 0))
  (h0:∀(n:Int) (h0:-9223372036854775808<=n) (h1:n<=9223372036854775807) (w:World) (htab:Lib.TabIs P w "internal/strconv.uint64pow10" .u64 Lib.pow10Tab),Calls P f #[.int .i64 n,.int .i64 10] w fun e w'=>e=.returned (.string ⟨(Lib.itoa n).toArray⟩)/\∃k os,w'=Sort.grow (w.drewN k) os):zCV P G f fmtG:=by
 intro args v ha hv;unfold fmtG at hv;split at hv
 rotate_left
 ·cases hv
 rename_i n b;split at hv
 rotate_left
 ·cases hv
 rename_i hb2;cases hv;rw [Bool.and_eq_true] at hb2;obtain rfl:b=10:=by simpa using hb2.1
 have hr2:=of_decide_eq_true hb2.2;refine ⟨⟨fn,body,hf,hb,hn⟩,.str _,fun H nx E w cargs hr hva hg hfr=>?_⟩
 obtain ⟨c1,cr,hc,hvc,hrest⟩:=hva.of_cons;obtain ⟨c2,cr2,hc2,hvc2,hrest2⟩:=hrest.of_cons;have hcr:=hrest2.of_nil;subst hcr;have hca:cargs=#[c1,c2]:=by apply Array.toList_inj.1;rw [hc,hc2]
 subst hca;obtain ⟨rfl,_⟩:=hvc.of_int;obtain ⟨rfl,_⟩:=hvc2.of_int;refine (h0 n hr2.1 hr2.2 w (zVX hgn hG hg)).mono fun e w' h=>?_
 obtain ⟨rfl,k,os,rfl⟩:=h;obtain ⟨k1,k2,k3⟩:=zHt hr (Lib.below_grow _ _ (Nat.le_refl _) k os) nx;refine ⟨_,E,rfl,k1,k2,.str _ _ (by simp) ?_⟩
 have:=Lib.itoa_length_le n hr2.1 hr2.2;rw [List.length_map];unfold zh;omega
theorem zRC (hr:HR E H w) (hb:Below w.heap.size w w') (a:Nat):
  HR { E with Z:=fun b=>E.Z b\/(w.heap.size<=b/\b<w'.heap.size) } H w'/\Tr E H w { E with Z:=fun b=>E.Z b\/(w.heap.size<=b/\b<w'.heap.size) } H w' a a/\∀{v cv},VR E w v cv->VR { E with Z:=fun b=>E.Z b\/(w.heap.size<=b/\b<w'.heap.size) } w' v cv:=by
 have hS:Shapes w w':=fun b c e f h=>⟨c,f,(hb.block b (Array.getElem?_eq_some_iff.1 h).1).trans h,rfl⟩
 have hm:∀{v cv},VR E w v cv->VR { E with Z:=fun b=>E.Z b\/(w.heap.size<=b/\b<w'.heap.size) } w' v cv:=fun hv=>
  VR.mono (E:=E) (E':={ E with Z:=fun b=>E.Z b\/(w.heap.size<=b/\b<w'.heap.size) }) (fun _ h=>⟨h,rfl⟩) (fun b h=>⟨.inl h,hb.block b (hr.zlt b h)⟩) hS hv
 refine ⟨⟨hr.nodup,hr.dom,hr.inj,fun p hp=>(hr.obj p hp).mono (hb.block _ (hr.lt hp)) hm,fun p hp hz=>?_,fun b h=>?_⟩,
  ⟨Nat.le_refl _,fun _ _=>rfl,fun h=>⟨.inl,fun h=>h.elim id fun ⟨x,y⟩=>by omega⟩,fun _ h=>.inl h,fun x h=>?_,fun p hp=>.inl ⟨p,hp,rfl⟩,hb.tape,hb.os,hb.output,hb.size,fun x hx _=>hb.block x hx,hS,rfl⟩,hm⟩
 ·rcases hz with hz | hz
  ·exact hr.nz p hp hz
  ·have:=hr.lt hp;have e:w.heap.size<=E.ρ p.1:=hz.1;omega
 ·rcases h with h | h
  ·exact Nat.lt_of_lt_of_le (hr.zlt b h) hb.size
  ·exact h.2
 ·rcases h with h | h
  ·exact .inl h
  ·exact .inr (.inr h.1)
def zNA (T:Nat) (es er:AV):List AV->Option AV
 | [.str s,.int .i64 b,.int .i64 z]=>match Nat.ble s.length 281474976710656&&(b==10&&z==64) with
  | true=>match Lib.parseIntB 64 (s.map UInt8.ofNat) with
   | .ok v=>some (.tup [.int .i64 v,.niliface])
   | .range=>some (.tup [.int .i64 (Lib.intSat 64 (s.map UInt8.ofNat)),.iface T (.eptr (.agg [.str [80,97,114,115,101,73,110,116],.str s,er]) 0)])
   | _=>some (.tup [.int .i64 0,.iface T (.eptr (.agg [.str [80,97,114,115,101,73,110,116],.str s,es]) 0)])
  | false=>none
 | _=>none
theorem zSw {f:FuncId} {fn:Func} {body:Code} {T gs gr ty ps pr:Nat} {es er:AV} (hf:P.funcs[f]? = some fn) (hb:fn.body=some body) (hn:(fn.name == "runtime.NumGoroutine")=false) (hGP:GPP G)
  (hGs:G.glob gs=some (.eptr (.agg [.iface ps es]) 0)) (hGr:G.glob gr=some (.eptr (.agg [.iface pr er]) 0))
  (h0:∀(s:ByteArray) (hmax:s.size<=9223372036854775806) (v:Int) (h:Lib.parseIntB 64 s.data.toList=.ok v) (w:World),Calls P f #[.string s,.int .i64 10,.int .i64 64] w fun e w'=>e=.returned (.tuple #[.int .i64 v,.nilIface])/\Below w.heap.size w w')
  (h1:∀(s:ByteArray) (hlim:s.size<=281474976710656) (h:∀v,Lib.parseIntB 64 s.data.toList≠.ok v) (h':Lib.parseIntB 64 s.data.toList≠.range) (ev:Value) (w:World) (hv:w.cell? ⟨gs,0,none⟩=some ev) (hev:ev=.nilIface\/∃te pe,ev=.iface te pe),
   Calls P f #[.string s,.int .i64 10,.int .i64 64] w fun e w'=>∃N,e=.returned (.tuple #[.int .i64 (0),.iface T (.pointer (some ⟨N,0,none⟩))])/\w.heap.size<=N/\w'.heap[N]? = some (.cells #[.string ⟨#[80,97,114,115,101,73,110,116]⟩,.string s,ev] ty (0,0))/\Below w.heap.size w w')
  (h2:∀(s:ByteArray) (hlim:s.size<=281474976710656) (h:Lib.parseIntB 64 s.data.toList=.range) (ev:Value) (w:World) (hv:w.cell? ⟨gr,0,none⟩=some ev) (hev:ev=.nilIface\/∃te pe,ev=.iface te pe),
   Calls P f #[.string s,.int .i64 10,.int .i64 64] w fun e w'=>∃N,e=.returned (.tuple #[.int .i64 (Lib.intSat 64 s.data.toList),.iface T (.pointer (some ⟨N,0,none⟩))])/\w.heap.size<=N/\w'.heap[N]? = some (.cells #[.string ⟨#[80,97,114,115,101,73,110,116]⟩,.string s,ev] ty (0,0))/\Below w.heap.size w w'):zCV P G f (zNA T (.iface ps es) (.iface pr er)):=by
 have hb2:∀l,has .i64 (Lib.intSat 64 l):=fun l=>by unfold Lib.intSat has;split <;> decide
 have pes:PP (.iface ps es):=by
  have:=hGP gs _ hGs;cases this with
  | eptr e off h=>cases h with
   | agg cs h=>exact h _ (.head _)
 have per:PP (.iface pr er):=by
  have:=hGP gr _ hGr;cases this with
  | eptr e off h=>cases h with
   | agg cs h=>exact h _ (.head _)
 intro args v ha hv;unfold zNA at hv;split at hv
 rotate_left
 ·cases hv
 rename_i l b z;split at hv
 rotate_left
 ·cases hv
 rename_i hle;simp only [Bool.and_eq_true] at hle;obtain ⟨hle,e10,e64⟩:=hle;obtain rfl:b=10:=by simpa using e10
 obtain rfl:z=64:=by simpa using e64
 have hpv:PP v:=by
  have hpe:∀{n:Int} {e:AV},PP e->PP (.tup [.int .i64 n,.iface T (.eptr (.agg [.str [80,97,114,115,101,73,110,116],.str l,e]) 0)]):=fun he=>.tup _ fun x hx=>by
   rcases List.mem_cons.1 hx with rfl | hx
   ·exact .int _ _
   ·rcases List.mem_cons.1 hx with rfl | hx
    ·refine .iface _ _ (.eptr _ _ (.agg _ fun y hy=>?_))
     rcases List.mem_cons.1 hy with rfl | hy
     ·exact .str _
     ·rcases List.mem_cons.1 hy with rfl | hy
      ·exact .str _
      ·rcases List.mem_cons.1 hy with rfl | hy
       ·exact he
       ·cases hy
    ·cases hx
  split at hv
  ·cases hv;exact .tup _ fun x hx=>by
    rcases List.mem_cons.1 hx with rfl | hx
    ·exact .int _ _
    ·rcases List.mem_cons.1 hx with rfl | hx
     ·exact .niliface
     ·cases hx
  ·cases hv;exact hpe per
  ·cases hv;exact hpe pes
 refine ⟨⟨fn,body,hf,hb,hn⟩,hpv,fun H nx E w cargs hr hva hg hfr=>?_⟩
 obtain ⟨c,cr,hc,hvc,hrest⟩:=hva.of_cons;obtain ⟨c2,cr2,hc2,hvc2,hrest2⟩:=hrest.of_cons;obtain ⟨c3,cr3,hc3,hvc3,hrest3⟩:=hrest2.of_cons;have hcr:=hrest3.of_nil;subst hcr;have hca:cargs=#[c,c2,c3]:=by apply Array.toList_inj.1;rw [hc,hc2,hc3]
 subst hca;obtain ⟨rfl,_⟩:=hvc2.of_int;obtain ⟨rfl,_⟩:=hvc3.of_int;obtain ⟨s,rfl,hs,hl⟩:∃s:ByteArray,c=.string s/\s.data.toList.map UInt8.toNat=l/\l.length<=zh:=by
  cases hvc with
  | str l s' h hl=>exact ⟨s',rfl,h,hl⟩
 subst hs;rw [zM7] at hv;have hsz:s.size<=281474976710656:=by
  have h3:=Nat.le_of_ble_eq_true hle;rw [List.length_map,Array.length_toList] at h3;exact h3
 have herr:∀{N:Nat} {w':World} {ev:Value} {te:Nat} {x:AV} {num:Int},has .i64 num->VR E w (.iface te x) ev->w.heap.size<=N->w'.heap[N]? = some (.cells #[.string ⟨#[80,97,114,115,101,73,110,116]⟩,.string s,ev] ty (0,0))->Below w.heap.size w w' →
   ∃cv E',(Ending.returned (.tuple #[.int .i64 num,.iface T (.pointer (some ⟨N,0,none⟩))]):Ending)=.returned cv/\HR E' H w'/\Tr E H w E' H w' nx nx ∧
    VR E' w' (.tup [.int .i64 num,.iface T (.eptr (.agg [.str [80,97,114,115,101,73,110,116],.str (s.data.toList.map UInt8.toNat),.iface te x]) 0)]) cv:=by
  intro N w' ev te x num hnum hve hN hcell hbl;have hlt:=(Array.getElem?_eq_some_iff.1 hcell).1;obtain ⟨k1,k2,k3⟩:=zPw hr hbl hN hlt nx;refine ⟨_,_,rfl,k1,k2,?_⟩
  have hagg:VR { E with Z:=fun b=>E.Z b\/b=N } w' (.agg [.str [80,97,114,115,101,73,110,116],.str (s.data.toList.map UInt8.toNat),.iface te x]) (.agg #[.string ⟨#[80,97,114,115,101,73,110,116]⟩,.string s,ev]):=by
   refine VR.mk_agg (.cons (.str _ _ rfl (by decide)) (.cons (.str _ _ rfl hl) (.cons (k3 hve) .nil))) fun v hv=>?_
   have h9:ev.oneCell'=true:=hve.oneCell rfl;have hv':v=.string ⟨#[80,97,114,115,101,73,110,116]⟩\/v=.string s\/v=ev:=by simpa using hv
   rcases hv' with rfl | rfl | rfl
   ·rfl
   ·rfl
   ·exact h9
  refine VR.mk_tup (.cons (.int _ _ hnum) (.cons (.iface _ _ _ ?_) .nil))
  have:=VR.eptr (E:={ E with Z:=fun b=>E.Z b\/b=N }) (w:=w') _ 0 N 0 _ rfl (Or.inr rfl) hagg fun j c hj=>by
   have hj:(#[Value.string ⟨#[80,97,114,115,101,73,110,116]⟩,.string s,ev])[j]? = some c:=hj;show w'.cell? ⟨N,0+j,none⟩=some c
   simp only [World.cell?,hcell,Nat.zero_add];exact hj
  exact this
 have hif:∀{te:Nat} {x:AV} {ev:Value},VR E w (.iface te x) ev->ev=.nilIface\/∃te pe,ev=.iface te pe:=fun h=>by
  cases h with
  | iface t v cv h=>exact .inr ⟨_,_,rfl⟩
 split at hv
 ·rename_i n hok;cases hv;refine (h0 s (by omega) n hok w).mono fun e w' h=>?_
  obtain ⟨rfl,hbl⟩:=h;obtain ⟨k1,k2,k3⟩:=zHt hr hbl nx;have hbn:=Lib.parseIntB_bounds hok;exact ⟨_,E,rfl,k1,k2,VR.mk_tup (.cons (.int _ _ ⟨hbn.1,Int.le_of_lt_add_one hbn.2⟩) (.cons .niliface .nil))⟩
 ·rename_i hra;cases hv;obtain ⟨ev,c1,c2,_⟩:=zM6 hg hGr;refine (h2 s hsz hra ev w c1 (hif c2)).mono fun e w' h=>?_
  obtain ⟨N,rfl,m1,m2,m3⟩:=h;exact herr (hb2 _) c2 m1 m2 m3
 ·rename_i hno hnr;cases hv;obtain ⟨ev,c1,c2,_⟩:=zM6 hg hGs;refine (h1 s hsz (fun v e=>hno v e) (fun e=>hnr e) ev w c1 (hif c2)).mono fun e w' h=>?_
  obtain ⟨N,rfl,m1,m2,m3⟩:=h;exact herr (by unfold has;decide) c2 m1 m2 m3
end
end Go.Sy
namespace Go.Sy
open Go.RowKit
inductive CD where
 | bool | int (k:IntKind) | str
 | sl (es:List CD) (one:Bool)
structure BK (H:Type) where
 f:DataW H->Nat
 all:List (DataW H)->Nat
 str:∀b,f (.lit (.string b))=b.length+1
 pos:∀d,1<=f d
 slice:∀a b,f (.slice a b)=all a+all b+1
 agg:∀p,f (.agg p)=all p+1
 nil:all []=0
 cons:∀d r,all (d::r)=f d+all r
theorem BK.mem {H:Type} (B:BK H) {d:DataW H}:∀{l:List (DataW H)},d∈l->B.f d<=B.all l
 | _::r,h=>by
  rw [B.cons];rcases List.mem_cons.1 h with rfl | h
  ·omega
  ·have:=B.mem h;omega
theorem BK.len {H:Type} (B:BK H):∀l:List (DataW H),l.length<=B.all l
 | []=>Nat.zero_le _
 | d::r=>by rw [B.cons,List.length_cons];have:=B.pos d;have:=B.len r;omega
mutual
inductive CD.Ok (N:Nat):CD->AV->Prop
 | bool (b:Bool):CD.Ok N .bool (.bool b)
 | int (k:IntKind) (n:Int) (h:has k n):CD.Ok N (.int k) (.int k n)
 | str (l:List Nat) (h:∀x∈l,x<256) (hl:l.length<=zh) (hn:l.length<=N):CD.Ok N .str (.str l)
 | one (e:CD) (xs:List AV) (h:∀x∈xs,CD.Ok N e x) (hn:xs.length<=N):CD.Ok N (.sl [e] true) (.lst 1 xs)
 | agg (es:List CD) (xs:List (List AV)) (h:∀x∈xs,CD.Oks N es x) (hn:xs.length<=N):CD.Ok N (.sl es false) (.lst es.length (xs.map .agg))
inductive CD.Oks (N:Nat):List CD->List AV->Prop
 | nil:CD.Oks N [] []
 | cons {c:CD} {cs:List CD} {a:AV} {as_:List AV} (h:CD.Ok N c a) (hs:CD.Oks N cs as_):CD.Oks N (c::cs) (a::as_)
end
mutual
theorem CD.Ok.mono {N M:Nat} (hm:N<=M):∀{c:CD} {a:AV},CD.Ok N c a->CD.Ok M c a
 | _,_,.bool b=>.bool b
 | _,_,.int k n h=>.int k n h
 | _,_,.str l h hl hn=>.str l h hl (Nat.le_trans hn hm)
 | _,_,.one e xs h hn=>.one e xs (fun x hx=>CD.Ok.mono hm (h x hx)) (Nat.le_trans hn hm)
 | _,_,.agg es xs h hn=>.agg es xs (fun x hx=>CD.Oks.mono hm (h x hx)) (Nat.le_trans hn hm)
theorem CD.Oks.mono {N M:Nat} (hm:N<=M):∀{c:List CD} {a:List AV},CD.Oks N c a->CD.Oks M c a
 | _,_,.nil=>.nil
 | _,_,.cons h hs=>.cons (CD.Ok.mono hm h) (CD.Oks.mono hm hs)
end
theorem CD.Oks.append {N:Nat} {cs ds:List CD}:∀{l m:List AV},CD.Oks N cs l->CD.Oks N ds m->CD.Oks N (cs++ds) (l++m):=by
 induction cs with
 | nil=>intro l m h k;cases h;exact k
 | cons c cs ih=>intro l m h k;cases h with | cons h1 h2=>exact .cons h1 (ih h2 k)
def zVY (P:Program) (t:TypeId):Bool:=match P.underlying t with
 | some (.struct _)=>false
 | some (.array _ _)=>false
 | _=>true
def zHI (rd:TypeId->Option (List CD)) (P:Program):Nat->List Field->Option (List CD)
 | _,[]=>some []
 | off,f::r=>match rd f.type with
  | none=>none
  | some cs=>match Nat.beq f.offset off&&Nat.beq (P.cellsOf f.type) cs.length with
   | false=>none
   | true=>match zHI rd P (off+cs.length) r with
    | none=>none
    | some ds=>some (cs++ds)
def cdOf (P:Program):Nat->TypeId->Option (List CD)
 | 0,_=>none
 | n+1,t=>match P.underlying t with
  | some .bool=>some [.bool]
  | some (.int k)=>some [.int k]
  | some .string=>some [.str]
  | some (.slice e)=>match cdOf P n e with
   | none=>none
   | some es=>match Nat.beq (P.cellsOf e) es.length&&Nat.ble 1 es.length with
    | false=>none
    | true=>match zVY P e with
     | true=>match es with
      | [c]=>some [.sl [c] true]
      | _=>none
     | false=>some [.sl es false]
  | some (.struct fs)=>match zHI (cdOf P n) P 0 fs.toList with
   | none=>none
   | some cs=>match Nat.beq (P.cellsOf t) cs.length with
    | true=>some cs
    | false=>none
  | _=>none
section
variable {H:Type} (B:BK H) {N M:Nat} {enc:TypeId×Value->H} {P:Program} {W:World} {E:Env} {base:Nat} {sp:Nat->Bool} {hd:Bool}
structure RD (N:Nat) (E:Env) (W:World) (cds:List CD) (cs:List Value):Prop where
 len:cs.length=cds.length
 ex:∃avs,CD.Oks N cds avs/\VRs E W avs cs/\(∀a∈avs,a.flat=true)
 one:∀c∈cs,c.oneCell'=true
theorem RD.mono (hm:N<=M) {cds:List CD} {cs:List Value} (h:RD N E W cds cs):RD M E W cds cs:=
 let ⟨l,⟨a,h1,h2,h3⟩,o⟩:=h
 ⟨l,⟨a,h1.mono hm,h2,h3⟩,o⟩
theorem RD.single {c:CD} {a:AV} {v:Value} (h1:CD.Ok N c a) (h2:VR E W a v) (h3:a.flat=true) (h4:v.oneCell'=true):RD N E W [c] [v]:=
 ⟨rfl,⟨[a],.cons h1 .nil,.cons h2 .nil,fun x hx=>by simp at hx;subst hx;exact h3⟩,fun x hx=>by simp at hx;subst hx;exact h4⟩
theorem RD.append {cs ds:List CD} {u v:List Value} (h:RD N E W cs u) (k:RD N E W ds v):RD N E W (cs++ds) (u++v):=by
 obtain ⟨l1,⟨a,a1,a2,a3⟩,o1⟩:=h;obtain ⟨l2,⟨b,b1,b2,b3⟩,o2⟩:=k;refine ⟨by simp [l1,l2],⟨a++b,a1.append b1,?_,fun x hx=>?_⟩,fun x hx=>?_⟩
 ·have:∀{a:List AV} {u:List Value},VRs E W a u->VRs E W (a++b) (u++v):=by
   intro a
   induction a with
   | nil=>intro u h;have:=h.of_nil;subst this;exact b2
   | cons x a ih=>intro u h;obtain ⟨y,r,rfl,h1,h2⟩:=h.of_cons;exact .cons h1 (ih h2)
  exact this a2
 ·rcases List.mem_append.1 hx with h | h
  ·exact a3 x h
  ·exact b3 x h
 ·rcases List.mem_append.1 hx with h | h
  ·exact o1 x h
  ·exact o2 x h
theorem zM8 {n fuel:Nat} (ih:∀t cds cs x,cdOf P n t=some cds->DataW.trod enc P W base sp hd fuel t cs=some x->RD (B.f x.1) E W cds cs):
  ∀(fs:List Field) (off:Nat) (cds:List CD) (cs:List Value),zHI (cdOf P n) P off fs=some cds →
   (∀f∈fs,∃x,DataW.trod enc P W base sp hd fuel f.type ((cs.drop f.offset).take (P.cellsOf f.type))=some x/\B.f x.1<=N)->RD N E W cds ((cs.drop off).take cds.length)
 | [],off,cds,cs,h,_=>by
  cases h;exact ⟨by simp,⟨[],.nil,by simpa using VRs.nil,fun x hx=>by cases hx⟩,fun x hx=>by simp at hx⟩
 | f::r,off,cds,cs,h,hm=>by
  unfold zHI at h;split at h
  ·cases h
  rename_i c1 e1;split at h
  ·cases h
  rename_i e2;rw [Bool.and_eq_true] at e2;have a1:=zb e2.1;have a2:=zb e2.2;split at h
  ·cases h
  rename_i c2 e3;cases h;obtain ⟨x,hy,hN⟩:=hm f (List.mem_cons_self ..);have r1:=(ih _ _ _ _ e1 hy).mono hN;have r2:=zM8 ih r _ _ cs e3 fun g hg=>hm g (List.mem_cons_of_mem _ hg)
  rw [a1,a2] at r1;have:(cs.drop off).take (c1++c2).length=(cs.drop off).take c1.length++(cs.drop (off+c1.length)).take c2.length:=by
   rw [List.length_append,List.take_add,List.drop_drop]
  rw [this];exact r1.append r2
theorem zUO {a:Addr} {i:Nat} (h:a.spot=none):a.add i=⟨a.block,a.off+i,none⟩:=by
 obtain ⟨b,o,s⟩:=a;simp only at h;subst h;unfold Addr.add;split
 ·rename_i e;subst e;rfl
 ·rfl
theorem zJF (hZ:∀b,b<W.heap.size->E.Z b):∀(n fuel:Nat) (t:TypeId) (cds:List CD) (cs:List Value) (x:DataW H×List MemPlace),cdOf P n t=some cds →
  DataW.trod enc P W base sp hd fuel t cs=some x->RD (B.f x.1) E W cds cs
 | 0,_,_,_,_,_,h,_=>by cases h
 | n+1,fuel,t,cds,cs,x,h,hr=>by
  unfold cdOf at h;split at h
  ·rename_i hu;cases h;obtain ⟨b,rfl,_⟩:=DataW.trod_bool hu hr;exact .single (.bool b) (.bool b) rfl rfl
  ·rename_i k hu;cases h;obtain ⟨m,rfl,_,hw⟩:=DataW.trod_int hu hr;have hh:has k m:=by
    simp only [Lit.wf,Bool.and_eq_true,decide_eq_true_eq] at hw;exact hw
   exact .single (.int k m hh) (.int k m hh) rfl rfl
  ·rename_i hu;cases h;obtain ⟨s,rfl,rfl,hw⟩:=DataW.trod_string hu hr;have hl:s.size<=zh:=by unfold maxLen at hw;unfold zh;exact hw
   have hlen:(lets s).length=s.size:=by
    unfold lets;rw [List.length_map,Array.length_toList];rfl
   exact .single (.str (lets s) zUL (by rw [hlen];exact hl) (by rw [B.str];unfold lets;rw [List.length_map];omega)) (VR.lets hl) rfl rfl
  ·rename_i e hu;split at h
   ·cases h
   rename_i es hes;split at h
   ·cases h
   rename_i hsz;rw [Bool.and_eq_true] at hsz;have hsz1:=zb hsz.1;have hsz2:=Nat.le_of_ble_eq_true hsz.2;rcases DataW.trod_slice hu hr with ⟨rfl,_⟩ | ⟨a,len,cap,elems,rest,m,rfl,rfl,rfl,_,hlc,hcm,hel,hat,_,_⟩
   ·split at h
    ·split at h
     ·cases h;exact .single (.one _ [] (fun x hx=>by cases hx) (Nat.zero_le _)) (.lst0 _ _ _ (Nat.zero_le _)) rfl rfl
     ·cases h
    ·cases h;exact .single (.agg _ [] (fun x hx=>by cases hx) (Nat.zero_le _)) (.lst0 _ _ _ (Nat.zero_le _)) rfl rfl
   have hbe:∀{i:Nat} {y:DataW H×List MemPlace},elems[i]? = some y->B.f y.1<=B.f (.slice (elems.map (·.1)) (rest.map (·.1))):=fun {i y} h=>by
    have:=B.mem (List.mem_map.2 ⟨y,List.mem_of_getElem? h,rfl⟩:y.1∈elems.map (·.1));rw [B.slice];omega
   have hbl:len<=B.f (.slice (elems.map (·.1)) (rest.map (·.1))):=by
    have:=B.len (elems.map (·.1));rw [List.length_map,hel] at this;rw [B.slice];omega
   have hE:∀i,i<len->∃q:List Value×List AV,q.1.length=es.length/\CD.Oks (B.f (.slice (elems.map (·.1)) (rest.map (·.1)))) es q.2/\VRs E W q.2 q.1/\(∀a∈q.2,a.flat=true)/\(∀c∈q.1,c.oneCell'=true) ∧
     (∀j,j<es.length->W.cell? (a.add (i*es.length+j))=q.1[j]?):=fun i hi=>by
    have h1:=hat i hi;have h2:∃y,elems[i]? = some y:=⟨_,List.getElem?_eq_getElem (by rw [hel];exact hi)⟩
    obtain ⟨y,hy⟩:=h2;rw [hy,Option.bind_eq_some_iff] at h1;obtain ⟨ci,hc,ht⟩:=h1;obtain ⟨_,c1,c2⟩:=World.cells?_some hc;obtain ⟨l1,⟨avs,l2,l3,l4⟩,l5⟩:=(zJF hZ n m e es ci y hes ht).mono (hbe hy);refine ⟨(ci,avs),l1,l2,l3,l4,l5,fun j hj=>?_⟩
    have h3:=c2 j (by rw [hsz1];exact hj)
    rw [←h3,hsz1];congr 1;unfold Addr.add;split <;> split <;> split <;> simp_all <;> omega
   have hC:∃g:Nat->List Value×List AV,∀i,i<len->(g i).1.length=es.length/\CD.Oks (B.f (.slice (elems.map (·.1)) (rest.map (·.1)))) es (g i).2/\VRs E W (g i).2 (g i).1/\(∀a∈(g i).2,a.flat=true)/\(∀c∈(g i).1,c.oneCell'=true) ∧
     (∀j,j<es.length->W.cell? (a.add (i*es.length+j))=(g i).1[j]?):=by
    refine ⟨fun i=>if h:i<len then (hE i h).choose else ([],[]),fun i hi=>?_⟩
    simp only [dif_pos hi];exact (hE i hi).choose_spec
   obtain ⟨g,hg⟩:=hC;have hcap:cap<=zh:=by unfold maxLen at hcm;unfold zh;exact hcm
   have hsp:0<len->a.spot=none/\a.block<W.heap.size:=fun hpos=>by
    obtain ⟨g1,_,_,_,_,g6⟩:=hg 0 hpos;have h0:=g6 0 (by omega)
    have h1:∃y,(g 0).1[0]? = some y:=⟨_,List.getElem?_eq_getElem (by omega)⟩
    obtain ⟨y,hy⟩:=h1;have:W.cell? a=some y:=by rw [←hy,←h0];simp [Addr.add]
    unfold World.cell? at this;split at this
    ·rename_i c _ _ hb;split at this
     ·cases this
     ·rename_i hs;exact ⟨by simpa using hs,(Array.getElem?_eq_some_iff.1 hb).1⟩
    ·cases this
   have fin:∀(f:Nat->Value) (xs:List AV),xs.length=len->(∀(i:Nat) y,xs[i]? = some y->y.flat=true/\VR E W y (f i))->(∀i,i<len->(f i).cells.toList=(g i).1)->VR E W (.lst es.length xs) (.slice (some a) len cap):=by
    intro f xs hx hy hcel;by_cases h0:len=0
    ·have:xs=[]:=List.eq_nil_of_length_eq_zero (by omega)
     subst this;subst h0;exact .lst0 _ _ _ hcap
    ·obtain ⟨s1,s2⟩:=hsp (by omega)
     obtain ⟨ab,ao,as'⟩:=a;simp only at s1 s2;subst s1;subst hx;refine .lst xs ab ao cap es.length f (hZ _ s2) hlc hcap (fun i y h=>by have:=(hy i y h).1;cases y <;> first | rfl | exact this) (fun i y h=>(hy i y h).2) fun i hi=>?_
     obtain ⟨g1,_,_,_,_,g6⟩:=hg i hi;have hc:=hcel i hi;refine ⟨by rw [←Array.length_toList,hc,g1],fun j c hj=>?_⟩
     have hj':(g i).1[j]? = some c:=by rw [←hc];simpa using hj
     have hjl:j<es.length:=by rw [←g1];exact (List.getElem?_eq_some_iff.1 hj').1
     have:=g6 j hjl;rw [hj',zUO rfl] at this
     simpa [Nat.add_assoc] using this
   split at h
   ·split at h
    ·rename_i c;cases h;have h1:∀i,i<len->∃v av,(g i).1=[v]/\(g i).2=[av]/\CD.Ok (B.f (.slice (elems.map (·.1)) (rest.map (·.1)))) c av/\VR E W av v/\av.flat=true/\v.oneCell'=true:=fun i hi=>by
      obtain ⟨g1,g2,g3,g4,g5,_⟩:=hg i hi;cases hq:(g i).2 with
      | nil=>rw [hq] at g2;cases g2
      | cons av r=>
       rw [hq] at g2 g3 g4;cases g2 with
       | cons k1 k2=>
        cases k2;obtain ⟨v,r',e1,e2,e3⟩:=g3.of_cons;have:=e3.of_nil;subst this;rw [e1] at g5;exact ⟨v,av,e1,rfl,k1,e2,g4 _ (List.mem_cons_self ..),g5 _ (List.mem_cons_self ..)⟩
     refine .single (.one c ((List.range len).map fun i=>((g i).2).headD .nilptr) (fun x hx=>?_) (by rw [List.length_map,List.length_range];exact hbl)) (fin (fun i=>((g i).1).headD undef) _ (by simp) (fun i y hy=>?_) fun i hi=>?_) rfl rfl
     ·obtain ⟨i,hi,rfl⟩:=List.mem_map.1 hx;obtain ⟨v,av,e1,e2,e3,_⟩:=h1 i (by simpa using hi)
      rw [e2];exact e3
     ·rw [List.getElem?_map] at hy;cases hi:(List.range len)[i]? with
      | none=>rw [hi] at hy;cases hy
      | some k=>
       rw [hi] at hy;obtain ⟨hlt,rfl⟩:=List.getElem?_eq_some_iff.1 hi;simp only [List.getElem_range,Option.map_some,Option.some.injEq] at hy;obtain ⟨v,av,e1,e2,e3,e4,e5,_⟩:=h1 i (by simpa using hlt)
       rw [e2] at hy;simp only [List.headD_cons] at hy;subst hy;rw [e1];exact ⟨e5,e4⟩
     ·obtain ⟨v,av,e1,e2,e3,e4,e5,e6⟩:=h1 i hi;rw [e1];simp only [List.headD_cons];cases v <;> first | rfl | (simp [Value.oneCell'] at e6)
    ·cases h
   ·cases h;refine .single (a:=.lst es.length (((List.range len).map fun i=>(g i).2).map .agg)) (.agg es _ (fun x hx=>?_) (by rw [List.length_map,List.length_range];exact hbl)) (fin (fun i=>.agg (g i).1.toArray) _ (by simp) (fun i y hy=>?_) fun i hi=>by simp [Value.cells]) rfl rfl
    ·obtain ⟨i,hi,rfl⟩:=List.mem_map.1 hx;exact (hg i (by simpa using hi)).2.1
    ·rw [List.getElem?_map,List.getElem?_map] at hy;cases hi:(List.range len)[i]? with
     | none=>rw [hi] at hy;cases hy
     | some k=>
      rw [hi] at hy;obtain ⟨hlt,rfl⟩:=List.getElem?_eq_some_iff.1 hi;simp only [List.getElem_range,Option.map_some,Option.some.injEq] at hy;subst hy;obtain ⟨g1,g2,g3,g4,g5,_⟩:=hg i (by simpa using hlt)
      exact ⟨rfl,VR.mk_agg (by simpa using g3) (by simpa using g5)⟩
  ·rename_i fs hu;split at h
   ·cases h
   rename_i cs' hf;split at h
   rotate_left
   ·cases h
   rename_i hc;cases h;have hc:=zb hc;obtain ⟨xs,m,rfl,rfl,hl,hxl,hat⟩:=DataW.trod_struct hu hr;have:=zM8 B (fuel:=m) (N:=B.f (.agg (xs.map (·.1)))) (fun t cds cs x=>zJF hZ n m t cds cs x) fs.toList 0 cds cs hf fun f hfm=>by
    obtain ⟨i,hi⟩:=List.getElem?_of_mem hfm;have h1:=hat i f (by simpa using hi)
    have:∃y,xs[i]? = some y:=⟨_,List.getElem?_eq_getElem (by rw [hxl];simpa using (List.getElem?_eq_some_iff.1 hi).1)⟩
    obtain ⟨y,hy⟩:=this;exact ⟨y,h1.trans hy,by have:=B.mem (List.mem_map.2 ⟨y,List.mem_of_getElem? hy,rfl⟩:y.1∈xs.map (·.1));rw [B.agg];omega⟩
   rw [←hc,←hl] at this
   simpa using this
  ·cases h
end
end Go.Sy
namespace Go.Sy
open Go.RowKit
mutual
theorem CD.Ok.pp {N:Nat}:∀{c:CD} {a:AV},CD.Ok N c a->PP a
 | _,_,.bool b=>.bool b
 | _,_,.int k n h=>.int k n
 | _,_,.str l h hl hn=>.str l
 | _,_,.one e xs h hn=>.lst _ _ fun x hx=>CD.Ok.pp (h x hx)
 | _,_,.agg es xs h hn=>.lst _ _ fun x hx=>by
   obtain ⟨y,hy,rfl⟩:=List.mem_map.1 hx;exact .agg _ (CD.Oks.pp (h y hy))
theorem CD.Oks.pp {N:Nat}:∀{c:List CD} {a:List AV},CD.Oks N c a->∀x∈a,PP x
 | _,_,.nil=>fun x hx=>by cases hx
 | _,_,.cons h hs=>fun x hx=>by
   rcases List.mem_cons.1 hx with rfl | hx
   ·exact CD.Ok.pp h
   ·exact CD.Oks.pp hs x hx
end
theorem zQx {P:Program} {w:World} {r:Reach} {b:Nat} {t:TypeId} {v:Value} {fs:Array Field} (ht:P.underlying t=some (.struct fs)) (h:Value.okWide P w r b t v):∃cs:Array Value,v=.agg cs:=by
 unfold Value.okWide at h;rw [ht] at h;obtain ⟨cs,rfl,_⟩:=h;exact ⟨cs,rfl⟩
theorem TabOK.at {P:Program} {G:Cx} {f:Nat} {g:List AV->Option AV} {tb:TbF} {th:TbH} (h:TabOK P G ((f,g)::tb) th):zCV P G f g:=fun args v ha hv=>h.v _ (.head _) args v ha hv
end Go.Sy
namespace Go.Sy
open Go.Sort
section
variable {α:Type} (lt:α->α->Bool)
def insS (x:α):List α->List α
 | []=>[x]
 | y::r=>match lt x y with
  | true=>x::y::r
  | false=>y::insS x r
def isort:List α->List α
 | []=>[]
 | x::r=>insS lt x (isort r)
def totL:List α->Bool
 | []=>true
 | x::r=>(r.all fun y=>lt x y||lt y x)&&totL r
variable {lt}
theorem zI4 {x:α}:∀{l:List α},(insS lt x l).Perm (x::l)
 | []=>.refl _
 | y::r=>by
  unfold insS;split
  ·exact .refl _
  ·exact (zI4.cons y).trans (.swap x y r)
theorem zBj:∀{l:List α},(isort lt l).Perm l
 | []=>.refl _
 | x::r=>zI4.trans (zBj.cons x)
theorem zI5:∀{l:List α},totL lt l=true->l.Pairwise fun x y=>lt x y=true\/lt y x=true
 | [],_=>.nil
 | x::r,h=>by
  simp only [totL,Bool.and_eq_true,List.all_eq_true,Bool.or_eq_true] at h;exact .cons h.1 (zI5 h.2)
theorem zKl (hO:SWO lt) {x:α}:∀{l:List α},(∀y∈l,lt x y=true\/lt y x=true)->l.Pairwise (fun a b=>lt a b=true)->(insS lt x l).Pairwise fun a b=>lt a b=true
 | [],_,_=>.cons (fun y hy=>by cases hy) .nil
 | y::r,ht,hp=>by
  cases hp with
  | cons h1 h2=>
   unfold insS;split
   ·rename_i e;refine .cons (fun z hz=>?_) (.cons h1 h2)
    rcases List.mem_cons.1 hz with rfl | hz
    ·exact e
    ·exact hO.trans _ _ _ e (h1 z hz)
   ·rename_i e;refine .cons (fun z hz=>?_) (zKl hO (fun z hz=>ht z (.tail _ hz)) h2)
    rcases List.mem_cons.1 (zI4.mem_iff.1 hz) with rfl | hz
    ·rcases ht y (.head _) with h | h
     ·rw [h] at e;cases e
     ·exact h
    ·exact h1 z hz
theorem zEq (hO:SWO lt):∀{l:List α},totL lt l=true->(isort lt l).Pairwise fun a b=>lt a b=true
 | [],_=>.nil
 | x::r,h=>by
  have h':=zI5 h;simp only [totL,Bool.and_eq_true] at h;cases h' with
  | cons h1 _=>exact zKl hO (fun y hy=>h1 y (zBj.mem_iff.1 hy)) (zEq hO h.2)
theorem zLB (hO:SWO lt) {a b:List α} (h1:a.Pairwise fun x y=>lt x y=true) (h2:b.Pairwise fun x y=>lt x y=true) (p:a.Perm b):a=b:=
 p.eq_of_pairwise (fun x y _ _ e1 e2=>by
  have:=hO.trans _ _ _ e1 e2;rw [hO.irrefl] at this;cases this) h1 h2
theorem zNi (hO:SWO lt) {a b:List α} (ha:totL lt a=true) (hb:totL lt b=true) (p:a.Perm b):isort lt a=isort lt b:=
 zLB hO (zEq hO ha) (zEq hO hb) (zBj.trans (p.trans zBj.symm))
theorem zRD [Inhabited α] (hO:SWO lt) {d:List α} (ht:totL lt d=true) (lim:Nat) (wb wp:Bool):(pdq lt d.toArray 0 d.length lim wb wp).toList=isort lt d:=by
 obtain ⟨⟨e1,_,e3⟩,e4⟩:=pdq_sorts lt hO d.toArray 0 d.length lim wb wp (Nat.zero_le _) (by simp) (.inl rfl)
 generalize pdq lt d.toArray 0 d.length lim wb wp=q at *;have hs:q.size=d.length:=by simpa using e1
 have ep:q.toList.Perm d:=by
  have h1:q.extract 0 d.length=q:=by rw [←hs];exact Array.extract_size
  have h2:d.toArray.extract 0 d.length=d.toArray:=by
   have:d.length=d.toArray.size:=by simp
   rw [this];exact Array.extract_size
  rw [h1,h2] at e3;exact e3
 refine zLB hO ?_ (zEq hO ht) (ep.trans zBj.symm)
 have hp:=ep.symm.pairwise (zI5 ht) fun h=>h.symm
 rw [List.pairwise_iff_getElem] at hp ⊢;intro i j hi hj hij;rcases hp i j hi hj hij with h | h
 ·exact h
 ·have:=e4 i j (Nat.zero_le _) hij (by rw [←hs];simpa using hj)
  rw [getElem!_pos q i (by simpa using hi),getElem!_pos q j (by simpa using hj)] at this
  simp only [Array.getElem_toList] at h;rw [h] at this;cases this
end
end Go.Sy
namespace Go.Sy
open Go.RowKit Go.Sort Go.Proofs
structure Cod (α:Type) (k:Nat) where
 av:α->List AV
 enc:α->List Value
 dec:List AV->Option α
 k0:0<k
 hav:∀x,(av x).length=k
 henc:∀x,(enc x).length=k
 pp:∀x,∀a∈av x,PP a
 dav:∀{l:List AV} {x:α},dec l=some x->l=av x
 back:∀{E:Env} {w:World} {vs:List Value} {x:α},dec (av x)=some x->VRs E w (av x) vs->vs=enc x
section
variable {α:Type} {k:Nat} (C:Cod α k)
def Cod.el (x:α):AV:=.agg (C.av x)
def Cod.decL:List AV->Option (List α)
 | []=>some []
 | .agg l::r=>match C.dec l with
  | some x=>match Cod.decL r with
   | some d=>some (x::d)
   | none=>none
  | none=>none
 | _::_=>none
variable {C}
theorem Cod.decL_eq:∀{es:List AV} {d:List α},C.decL es=some d->es=d.map C.el/\∀x∈d,C.dec (C.av x)=some x
 | [],d,h=>by cases h;exact ⟨rfl,fun x hx=>by cases hx⟩
 | e::r,d,h=>by
  unfold Cod.decL at h;split at h
  ·rename_i he;cases he
  ·rename_i l r' he;cases he;split at h
   ·rename_i x hx;split at h
    ·rename_i d' hd;cases h;obtain ⟨h1,h2⟩:=Cod.decL_eq hd;have e:=C.dav hx;subst e;refine ⟨by rw [h1];rfl,fun y hy=>?_⟩
     rcases List.mem_cons.1 hy with rfl | hy
     ·exact hx
     ·exact h2 y hy
    ·cases h
   ·cases h
  ·cases h
theorem Cod.el_PP {d:List α}:∀e∈d.map C.el,PP e:=fun e he=>by
 obtain ⟨x,_,rfl⟩:=List.mem_map.1 he;exact .agg _ (C.pp x)
theorem Cod.flat (d:List α):flatten k (d.map C.el)=some (d.flatMap C.av):=by
 induction d with
 | nil=>rfl
 | cons x d ih=>
  have h1:cellsOf (C.el x) k=some (C.av x):=by
   unfold cellsOf Cod.el;simp [AV.cells,AV.flat,C.hav x]
  show (match cellsOf (C.el x) k with
   | some c=>match flatten k (d.map C.el) with
    | some cs=>some (c++cs)
    | none=>none
   | none=>none)=_
  rw [h1,ih];rfl
theorem Cod.flat_len (d:List α):(d.flatMap C.av).length=d.length*k:=by
 induction d with
 | nil=>simp
 | cons x d ih=>rw [List.flatMap_cons,List.length_append,C.hav x,ih,List.length_cons,Nat.succ_mul,Nat.add_comm]
theorem zJG {β:Type} {f:α->List β} (hf:∀x,(f x).length=k) (k0:0<k):∀(d:List α) (t:Nat),t<d.length*k->∃x,d[t / k]? = some x/\(d.flatMap f)[t]? = (f x)[t % k]?
 | [],t,h=>by simp at h
 | x::d,t,h=>by
  rw [List.flatMap_cons];by_cases ht:t<k
  ·refine ⟨x,by rw [Nat.div_eq_of_lt ht];rfl,?_⟩
   rw [List.getElem?_append_left (by rw [hf];exact ht),Nat.mod_eq_of_lt ht]
  ·have hk:k<=t:=by omega
   obtain ⟨t',rfl⟩:∃t',t=t'+k:=⟨t-k,by omega⟩
   have h':t'<d.length*k:=by rw [List.length_cons,Nat.succ_mul] at h;omega
   obtain ⟨y,h1,h2⟩:=zJG hf k0 d t' h';refine ⟨y,by rw [Nat.add_div_right _ k0];exact h1,?_⟩
   rw [List.getElem?_append_right (by rw [hf];omega),hf,Nat.add_sub_cancel,Nat.add_mod_right]
   exact h2
theorem zOT [Inhabited α] {enc:α->List Value} (henc:∀x,(enc x).length=k) (k0:0<k) (d:List α) {t:Nat} (h:t<d.length*k):∃x,d[t / k]? = some x/\∃v,(enc x)[t % k]? = some v/\(Go.Sort.flatK enc k d.toArray)[t]! = v:=by
 obtain ⟨x,h1,h2⟩:=zJG henc k0 d t h;have hm:t % k<(enc x).length:=by rw [henc];exact Nat.mod_lt _ k0
 refine ⟨x,h1,_,List.getElem?_eq_getElem hm,?_⟩
 rw [get_flatK _ _ _ t (by simpa using h)]
 have hx:d.toArray[t / k]! = x:=by
  rw [getElem!_def];simp [h1]
 rw [hx];exact getElem!_pos (enc x) (t % k) hm
variable (C)
def zLC (lt:α->α->Bool) (es:List AV):Option (List AV):=match C.decL es with
 | some d=>match totL lt d&&Nat.blt d.length 4611686018427387904 with
  | true=>some ((isort lt d).map C.el)
  | false=>none
 | none=>none
def zLD (g:Nat) (lt:α->α->Bool) (args:List AV) (H:Heap) (V:Vecs):Option (AV×Heap×Vecs):=match args with
 | [.sym 0,.func (.func g') [] []]=>match Nat.beq g g' with
  | true=>match H with
   | []=>match V with
    | [(0,.vec sz es)]=>match Nat.beq k sz with
     | true=>match zLC C lt es with
      | some es'=>some (.tup [],[],[(0,.vec k es')])
      | none=>none
     | false=>none
    | _=>none
   | _=>none
  | false=>none
 | _=>none
variable {C}
theorem zLE {g:Nat} {lt:α->α->Bool} {args:List AV} {H H2:Heap} {V V2:Vecs} {v:AV} (h:zLD C g lt args H V=some (v,H2,V2)):
  args=[.sym 0,.func (.func g) [] []]/\H=[]/\H2=[]/\v=.tup []/\∃d,V=[(0,.vec k (d.map C.el))]/\V2=[(0,.vec k ((isort lt d).map C.el))]/\totL lt d=true/\d.length<4611686018427387904/\∀x∈d,C.dec (C.av x)=some x:=by
 unfold zLD at h;split at h
 rotate_left
 ·cases h
 split at h
 rotate_left
 ·cases h
 rename_i hg;split at h
 rotate_left
 ·cases h
 split at h
 rotate_left
 ·cases h
 split at h
 rotate_left
 ·cases h
 rename_i hk;split at h
 rotate_left
 ·cases h
 rename_i es' hes;cases h;unfold zLC at hes;split at hes
 rotate_left
 ·cases hes
 rename_i d hd;split at hes
 rotate_left
 ·cases hes
 rename_i hb;cases hes;rw [Bool.and_eq_true] at hb;obtain ⟨h1,h2⟩:=Cod.decL_eq hd;subst h1;have e1:=zb hg;have e2:=zb hk;subst e1;subst e2;exact ⟨rfl,rfl,rfl,rfl,d,rfl,rfl,hb.1,by simpa [Nat.blt_eq] using hb.2,h2⟩
theorem zSx {E:Env} {w:World} {c:Array Value} {cs:List AV} {d:List α} (hor:∀(i:Nat) x,cs[i]? = some x->∃v,c[i]? = some v/\v.oneCell'=true/\VR E w x v) (hcs:d.flatMap C.av=cs.take (d.length*k)) (hdec:∀x∈d,C.dec (C.av x)=some x)
  {j i:Nat} {x:α} (hj:d[j]? = some x) (hi:i<k):∃a v,(C.av x)[i]? = some a/\(C.enc x)[i]? = some v/\c[j*k+i]? = some v/\v.oneCell'=true/\VR E w a v:=by
 have k0:=C.k0;have hjl:j<d.length:=(List.getElem?_eq_some_iff.1 hj).1;have at_:∀i a,i<k->(C.av x)[i]? = some a->∃v,c[j*k+i]? = some v/\v.oneCell'=true/\VR E w a v:=fun i a hi ha=>by
  have h1:j*k+i<d.length*k:=by
   have:=Nat.mul_le_mul_right k (show j+1<=d.length from hjl)
   rw [Nat.succ_mul] at this;omega
  obtain ⟨y,q1,q2⟩:=zJG C.hav k0 d (j*k+i) h1;have e1:(j*k+i) / k=j:=by rw [Nat.mul_comm,Nat.mul_add_div k0,Nat.div_eq_of_lt hi,Nat.add_zero]
  have e2:(j*k+i) % k=i:=by rw [Nat.mul_comm,Nat.mul_add_mod,Nat.mod_eq_of_lt hi]
  rw [e1,hj] at q1;cases q1;rw [e2,hcs,List.getElem?_take_of_lt h1,ha] at q2;exact hor _ _ q2
 have hb:(List.range k).map (fun i=>c.getD (j*k+i) undef)=C.enc x:=by
  refine C.back (E:=E) (w:=w) (hdec x (List.mem_of_getElem? hj)) ⟨by rw [C.hav];simp,fun i a v ha hv=>?_⟩
  have hi:i<k:=by have:=(List.getElem?_eq_some_iff.1 ha).1;rw [C.hav] at this;exact this
  obtain ⟨v',r1,_,r3⟩:=at_ i a hi ha;rw [List.getElem?_map,List.getElem?_range hi] at hv;simp only [Option.map_some,Option.some.injEq,Array.getD_eq_getD_getElem?,r1,Option.getD_some] at hv;rw [←hv];exact r3
 have hil:i<(C.av x).length:=by rw [C.hav];exact hi
 have ha:=List.getElem?_eq_getElem hil;obtain ⟨v,r1,r2,r3⟩:=at_ i _ hi ha;refine ⟨_,v,ha,?_,r1,r2,r3⟩
 rw [←hb,List.getElem?_map,List.getElem?_range hi];simp [Array.getD_eq_getD_getElem?,r1]
theorem Vecs.get_one {j:Nat} {vi vi':VI} (h:Vecs.get [(0,vi)] j=some vi'):j=0/\vi'=vi:=by
 rw [Vecs.get_cons] at h;split at h
 ·rename_i e;cases h;exact ⟨e.symm,rfl⟩
 ·cases h
theorem zSy [Inhabited α] {P:Program} {G:Cx} {f g:Nat} {lt:α->α->Bool} (hG:GPP G) (hO:SWO lt) (hen:Enters P f)
  (hsort:∀(blk cap:Nat) (d:Array α) (w:World),HoldsK C.enc k w blk 0 d->blk<w.heap.size->d.size<4611686018427387904 →
   Calls P f #[.slice (some ⟨blk,0,none⟩) d.size cap,.func (.func g) #[] #[]] w fun e w'=>e=.returned (.tuple #[])/\∃n os,w'=sortWorldK C.enc k w blk 0 n (pdq lt d 0 d.size (Lib.bitLen d.size) true true) os)
  (hnone:∀(p:Option Addr) (cap:Nat) (fv:Value) (w:World),Calls P f #[.slice p 0 cap,fv] w fun e w'=>e=.returned (.tuple #[])/\w'=w):
  FOK P G ⟨f,[(0,0)],zLD C g lt⟩:=by
 have k0:=C.k0;refine ⟨HOK.ofI rfl hen fun args H V v H2 V2 hpre hv=>?_,fun args H V v H2 V2 hc hw hk hv=>?_⟩
 rotate_left
 ·obtain ⟨rfl,rfl,rfl,rfl,d,rfl,rfl,_⟩:=zLE hv;intro j vi hj;obtain ⟨rfl,rfl⟩:=Vecs.get_one hj;exact ⟨Nat.zero_lt_one,Cod.el_PP⟩
 obtain ⟨rfl,rfl,rfl,rfl,d,rfl,rfl,ht,hsz,hdec⟩:=zLE hv;have hlen:(isort lt d).length=d.length:=zBj.length_eq;refine ⟨⟨.tup _ fun e he=>(by cases he),rfl,fun p hp=>(by cases hp),fun j vi hj=>?_⟩,rfl,rfl,fun j vi hj=>?_,fun E w β cargs s hvs hcp=>?_⟩
 ·obtain ⟨rfl,rfl⟩:=Vecs.get_one hj;rfl
 ·obtain ⟨rfl,rfl⟩:=Vecs.get_one hj;exact ⟨k,_,_,rfl,rfl,by simp [hlen]⟩
 obtain ⟨l⟩:=cargs;obtain ⟨hl,hvs⟩:=hvs
 match l,hl with
 | [c0,c1],_=>
 have h0:VR E w (.sym 0) c0:=hvs 0 _ _ rfl rfl;have h1:VR E w (.func (.func g) [] []) c1:=hvs 1 _ _ rfl rfl;have hc0:c0=E.σ 0:=by cases h0;assumption
 have hc1:c1=.func (.func g) #[] #[]:=by
  cases h1 with
  | func _ _ _ vf vc q1 q2=>
   have e1:vf=#[]:=Array.eq_empty_of_size_eq_zero q1.symm;have e2:vc=#[]:=Array.eq_empty_of_size_eq_zero q2.symm;rw [e1,e2]
 subst hc0;subst hc1;obtain ⟨_,hpp,hvok⟩:=s.vok 0 _ rfl;have triv:∀(p:Option Addr) (cap:Nat),d=[]->E.σ 0=.slice p 0 cap->Calls P f #[E.σ 0,.func (.func g) #[] #[]] w fun e w'=>∃cv E',e=.returned cv/\VR E' w' (.tup []) cv/\E'.σ=E.σ/\SR G 0 E' w' { tmps:=#[],defers:=[] } β ⟨[],[],[(0,.vec k ((isort lt d).map C.el))],0,[(0,VI.vec k (d.map C.el))].length⟩/\Kp E.Z (BS E β [] [(0,.vec k (d.map C.el))]) w E'.Z (BS E' β [] [(0,.vec k ((isort lt d).map C.el))]) w':=fun p cap hd he=>by
  subst hd;rw [he];refine (hnone p cap _ w).mono fun e w' hh=>?_
  obtain ⟨rfl,rfl⟩:=hh;exact ⟨_,E,rfl,.tup _ _ rfl fun i x v hx=>(by simp at hx),rfl,s,Kp.refl⟩
 rcases hvok with ⟨e1,e2,e3⟩ | ⟨b,str,cs,cp,ex,e1,hor,hrow,hppc,hle,hfl⟩
 ·exact triv none 0 (List.map_eq_nil_iff.1 e3) e2
 rw [List.length_map] at hrow hle hfl;rcases hrow with ⟨a,q1,q2,_⟩ | ⟨cap,q1,q2,q3,q4,q5,q6,c0,e0,f0,q7,q8⟩
 ·have hd0:d=[]:=List.eq_nil_of_length_eq_zero q2;exact triv (some a) 0 hd0 q1
 rw [Cod.flat] at hfl;have hcs:d.flatMap C.av=cs.take (d.length*k):=Option.some.inj hfl;obtain ⟨c,e,fz,hb,hcl,hfz,hcell⟩:=hor;have hblt:b<w.heap.size:=(Array.getElem?_eq_some_iff.1 hb).1;have hcz:d.length*k<=c.size:=Nat.le_trans hle hcl;have rv:=fun {j i:Nat} {x:α} (hj:d[j]? = some x) (hi:i<k)=>zSx (C:=C) hcell hcs hdec hj hi
 have holds:HoldsK C.enc k w b 0 d.toArray:=fun t htl=>by
  rw [size_flatK] at htl;have htl:t<d.length*k:=by simpa using htl
  obtain ⟨x,r1,v,r2,r3⟩:=zOT C.henc k0 d htl;obtain ⟨a,v',s1,s2,s3,s4,s5⟩:=rv r1 (Nat.mod_lt t k0);rw [r2] at s2;cases s2;have et:t / k*k+t % k=t:=by rw [Nat.mul_comm];exact Nat.div_add_mod t k
  rw [et] at s3;refine ⟨?_,?_⟩
  ·simp only [World.cell?,hb,Nat.zero_add];rw [r3]
   simpa using s3
  ·simp only [World.frozen?,hb,Nat.zero_add];have htc:t<c.size:=by omega
   obtain ⟨lo,hi⟩:=fz;rcases hfz with h | ⟨_,h⟩
   ·have h:hi=lo:=h;subst h;by_cases hh:hi<=t
    ·have:¬t<hi:=by omega
     simp [this]
    ·simp [hh]
   ·have h:c.size<=lo:=h;have:¬lo<=t:=by omega
    simp [this]
 have hcall:=hsort b cap d.toArray w holds hblt (by simpa using hsz)
 rw [q1];rw [List.size_toArray] at hcall;refine hcall.mono fun ee w' hh=>?_
 obtain ⟨rfl,m,os,hw'⟩:=hh;have hq:=zRD hO ht (Lib.bitLen d.length) true true;have hq:pdq lt d.toArray 0 d.length (Lib.bitLen d.length) true true=(isort lt d).toArray:=by rw [←hq]
 rw [hq] at hw';generalize hF:Go.Sort.flatK C.enc k (isort lt d).toArray=F at *;have hFs:F.size=d.length*k:=by rw [←hF,size_flatK];simp [hlen]
 have hheap:w'.heap=(w.heap.modify b (onCells (putCells id 0 F)))++os:=by
  rw [hw'];unfold sortWorldK grow putRowK putRow mapBlock Sort.ahead;rw [hF]
 have hsize:w.heap.size<=w'.heap.size:=by rw [hheap];simp
 have hold:∀x,x<w.heap.size->x≠b->w'.heap[x]? = w.heap[x]?:=fun x hx hne=>by
  rw [hheap,Array.getElem?_append_left (by simpa using hx),Array.getElem?_modify,if_neg (fun h=>hne h.symm)]
 have hb':w'.heap[b]? = some (.cells (putCells id 0 F c) e fz):=by
  rw [hheap,Array.getElem?_append_left (by simpa using hblt),Array.getElem?_modify,if_pos rfl,hb]
  rfl
 have hcs':(putCells id 0 F c).size=c.size:=by simp [putCells]
 have hshapes:Shapes w w':=fun x c1 e1 f1 h=>by
  by_cases hx:x=b
  ·subst hx;rw [hb] at h;cases h;exact ⟨_,_,hb',hcs'⟩
  ·exact ⟨c1,f1,by rw [hold x (Array.getElem?_eq_some_iff.1 h).1 hx];exact h,rfl⟩
 obtain ⟨nz,_⟩:=s.bz 0 _ b rfl rfl e1;have hZ:∀x,E.Z x->E.Z x/\w'.heap[x]? = w.heap[x]?:=fun x hx=>⟨hx,hold x (s.hr.zlt x hx) fun h=>nz (h▸hx)⟩
 have hvt:VR E w' (.tup []) (.tuple #[]):=.tup _ _ rfl fun i x v hx=>(by simp at hx)
 have hppl:∀y∈(isort lt d).flatMap C.av,PP y:=fun y hy=>by
  obtain ⟨x,_,hx⟩:=List.mem_flatMap.1 hy;exact C.pp x y hx
 have hll:((isort lt d).flatMap C.av).length=d.length*k:=by rw [Cod.flat_len,hlen]
 have hor':OR E w' b (.cells str ((isort lt d).flatMap C.av++cs.drop (d.length*k))):=by
  refine ⟨_,_,_,hb',?_,?_,fun i x hx=>?_⟩
  ·rw [hcs',List.length_append,hll,List.length_drop];omega
  ·rw [hcs'];exact hfz
  ·by_cases hi:i<d.length*k
   ·rw [List.getElem?_append_left (by rw [hll];exact hi)] at hx
    have hi':i<(isort lt d).length*k:=by rw [hlen];exact hi
    obtain ⟨y,r1,v,r2,r3⟩:=zOT C.henc k0 (isort lt d) hi';obtain ⟨y',r4,r5⟩:=zJG C.hav k0 (isort lt d) i hi';rw [r1] at r4;cases r4;have hy:y∈d:=zBj.mem_iff.1 (List.mem_of_getElem? r1);obtain ⟨j,hj⟩:=List.getElem?_of_mem hy;obtain ⟨a,v',s1,s2,s3,s4,s5⟩:=rv hj (Nat.mod_lt i k0);rw [r2] at s2;cases s2;rw [r5,s1] at hx;cases hx;refine ⟨v,?_,s4,s5.pp hZ (hppl _ (List.mem_of_getElem? (r5.trans s1)))⟩
    have hic:i<c.size:=by omega
    rw [putCells,Array.getElem?_mapIdx,Array.getElem?_eq_getElem hic,Option.map_some,if_pos ⟨Nat.zero_le _,by omega⟩,Nat.sub_zero,←hF,r3]
    rfl
   ·rw [List.getElem?_append_right (by rw [hll];omega),hll,List.getElem?_drop] at hx
    have ei:d.length*k+(i-d.length*k)=i:=by omega
    rw [ei] at hx;obtain ⟨v,r1,r2,r3⟩:=hcell i x hx;refine ⟨v,?_,r2,r3.pp hZ (hppc x (List.mem_of_getElem? hx))⟩
    rw [putCells,Array.getElem?_mapIdx,r1,Option.map_some,if_neg (by omega)]
 refine ⟨_,E,rfl,hvt,rfl,⟨⟨.nil,fun p hp=>(by cases hp),fun p hp=>(by cases hp),fun p hp=>(by cases hp),fun p hp=>(by cases hp),fun x hx=>Nat.lt_of_lt_of_le (s.hr.zlt x hx) hsize⟩,⟨rfl,fun t v h=>(by cases h)⟩,fun g u hg=>⟨VR.pp (E:=E) (E':=E) (w:=w) (w':=w') hZ (s.hg g u hg).1 (hG g u hg),(s.hg g u hg).2.mono hshapes⟩,s.dom,fun t v h=>(by cases h),fun p hp=>(by cases hp),fun j vi hj=>?_,fun j j2 i off hj=>?_,fun j vi b hj ho hb=>?_,fun j j' vi vi' b h1 h2 h3 h4 h5 h6=>?_⟩,?_⟩
 ·obtain ⟨rfl,rfl⟩:=Vecs.get_one hj;refine ⟨Nat.zero_lt_one,Cod.el_PP,.inr ⟨b,str,_,cp,ex,e1,hor',?_,?_,?_,?_⟩⟩
  ·rw [List.length_map,hlen];refine RowV.mono (w:=w) (.inr ⟨cap,q1,q2,q3,q4,q5,q6,c0,e0,f0,q7,q8⟩) hshapes
  ·intro y hy;rcases List.mem_append.1 hy with hy | hy
   ·exact hppl y hy
   ·exact hppc y (List.mem_of_mem_drop hy)
  ·rw [List.length_map,hlen,List.length_append,hll];omega
  ·rw [List.length_map,Cod.flat,hlen,List.take_append_of_le_length (by rw [hll];exact Nat.le_refl _),List.take_of_length_le (by rw [hll];exact Nat.le_refl _)]
 ·obtain ⟨_,h⟩:=Vecs.get_one hj;cases h
 ·obtain ⟨rfl,rfl⟩:=Vecs.get_one hj;exact s.bz 0 _ b rfl rfl hb
 ·rw [(Vecs.get_one h1).1,(Vecs.get_one h2).1]
 ·refine ⟨fun _ h=>h,fun _ h=>.inl h,fun x hx=>?_,?_,?_,?_,hsize,fun x hx hbx=>?_,hshapes⟩
  ·rcases hx with ⟨p,hp,_⟩ | ⟨j,vi,h1,h2,h3⟩
   ·cases hp
   ·obtain ⟨rfl,rfl⟩:=Vecs.get_one h1;exact .inl (.inr ⟨0,_,rfl,rfl,h3⟩)
  ·rw [hw'];rfl
  ·rw [hw'];rfl
  ·rw [hw'];rfl
  ·exact hold x hx fun h=>hbx (.inr ⟨0,_,rfl,rfl,h▸e1⟩)
end
end Go.Sy
