/- A LIBRARY: WHAT A FUNCTION'S CODE RECKONS, AS A LEAN FUNCTION, AND THAT ITS WORD IS THE MODEL'S: part 6 of 6. No condition. -/
import Derived.Test.YtdeeimaahdgeaaaGreatDoorFxE
import Derived.Carry
import Derived.WideShapes
import Derived.Lib.AtoiAll
import Derived.Lib.ItoaNum
import Derived.Lib.Bytealg
import Derived.Lib.IndexLaws
import Derived.Lib.ParseIntBTie
import Derived.Lib.ItoaLen
import Derived.Lib.AppendIntMem
import Derived.Lib.LaidTab
import Derived.Shelf.Small.Bits
import Derived.Shelf.Strconv.Itoa4
import Derived.Lib.SplitLaws
import Derived.Lib.IndexMore
import Derived.DataReads
import Derived.ChangeArms
import Derived.Sort.AssemblyPlain
import Derived.Shelf.GgSortFunc.InsertionK
set_option linter.unusedVariables false
set_option linter.unusedSimpArgs false
namespace Go.Sy
open Go.ChangeShapes Go.RowKit
section
variable {P:Program} {w:World} {r:Reach} {b:Nat} {t:TypeId} {v:Value}
theorem zLW {H:Type} {enc:TypeId×Value->H} {P:Program} {t:TypeId} (i:laidOutB P=true) (j:P.readableRec t=true) (a:t<P.types.size) {W f:World} {v:Value} {d:DataW H} {c:List MemPlace} {sp:Nat->Bool}
  (h:DataW.Trod enc P W 0 (λ _=>true) true t v d c) (g:Kept W f) (e:∀x∈c,x.block<W.heap.size) (k:∀x∈c,sp x.block=true):DataW.Trod enc P f 0 sp true t v d c:=
 WideElems.Trod_stays i j a h (λ x l=>g.below.same (e x l)) k
end
end Go.Sy
namespace Go.Sy
open Go.ChangeShapes Go.RowKit
section
variable {P:Program} {w:World} {r:Reach} {b:Nat} {t u:TypeId} {v:Value} {E:Env}
def lets (s:ByteArray):List Nat:=s.data.toList.map UInt8.toNat
theorem VR.lets {s:ByteArray} (h:s.size<=zc):VR E w (.str (Sy.lets s)) (.string s):=.str _ s rfl (by
 have:(Sy.lets s).length=s.size:=by
  unfold Sy.lets;rw [Qb,Array.length_toList];rfl
 omega)
theorem zVt {s:ByteArray}:∀b∈lets s,b<256:=by
 intro b a;obtain ⟨x,_,rfl⟩:=Qf.1 a;exact UInt8.toNat_lt x
theorem zPg {G:Cx} {f:FuncId} {fn:Func} {a:Code} (s:P.funcs[f]? = some fn) (m:fn.body=some a) (z:(fn.name == "runtime.NumGoroutine")=false) {g:List AV->Option AV}
  (h:∀args v,g args=some v->∀(E:Env) (w:World) (cargs:Array Value),HR E [] w->VRs E w args cargs.toList->GR G E w->Calls P f cargs w λ e w'=>∃cv,e=.returned cv/\Below w.heap.size w w'/\VR E w v cv) (i:∀args v,g args=some v->args.all (zAV 40)=true/\zAV 40 v=true) (y:zNH G):zPP P G f g:=by
 intro args v d;refine ⟨⟨fn,a,s,m,z⟩,zQM y (i _ _ d).1 (i _ _ d).2 (n:=0) ?_⟩
 intro E w cargs j c o _;refine (h args v d E w cargs j c o).mono λ e w' q=>?_
 obtain ⟨cv,rfl,l,x⟩:=q;obtain ⟨k,A,p⟩:=zIq j l 0;exact ⟨cv,E,rfl,k,A,p x⟩
end
end Go.Sy
namespace Go.Sy
open Go.RowKit
section
variable {P:Program} {G:Cx} {E:Env} {w w':World} {H:Heap}
theorem zQT {N:Nat} (g:HR E H w) (d:Below w.heap.size w w') (q:w.heap.size<=N) (l:N<w'.heap.size) (a:Nat):
  HR { E with Z:=λ b=>E.Z b\/b=N } H w'/\Tr E H w { E with Z:=λ b=>E.Z b\/b=N } H w' a a/\∀{v j},VR E w v j->VR { E with Z:=λ b=>E.Z b\/b=N } w' v j:=by
 have n:Shapes w w':=λ b c e f h=>⟨c,f,(d.block b (Array.getElem?_eq_some_iff.1 h).1).trans h,rfl⟩
 have m:∀{v j},VR E w v j->VR { E with Z:=λ b=>E.Z b\/b=N } w' v j:=λ s=>
  VR.mono (E:=E) (E':={ E with Z:=λ b=>E.Z b\/b=N }) (λ _ h=>⟨h,rfl⟩) (λ b h=>⟨.inl h,d.block b (g.wg b h)⟩) n s
 refine ⟨⟨g.nodup,g.qC,g.inj,λ p i=>(g.obj p i).mono (d.block _ (g.lt i)) m,λ p i k=>?_,λ b h=>?_⟩,
  ⟨QB _,λ _ _=>rfl,λ h=>⟨.inl,λ h=>h.elim id λ⟨x,y⟩=>by omega⟩,λ _ h=>.inl h,λ x h=>?_,λ p i=>.inl ⟨p,i,rfl⟩,d.tape,d.os,d.output,d.size,λ x o _=>d.block x o,n,rfl⟩,m⟩
 ·rcases k with k | k
  ·exact g.nz p i k
  ·have:=g.lt i;have e:E.ρ p.1=N:=k;omega
 ·rcases h with h | h
  ·exact QZ (g.wg b h) d.size
  ·rw [h];exact l
 ·rcases h with h | h
  ·exact .inl h
  ·exact .inr (.inr (by rw [h];exact q))
def decN (i:Nat):List Nat:=(Lib.decDigits i).map UInt8.toNat
def zJN:List AV->Option AV
 | [.int .i64 (.ofNat i)]=>match Nat.blt i 100 with
  | true=>some (.str (decN i))
  | false=>none
 | _=>none
theorem zS9 {f:FuncId} {fn:Func} {j:Code} (s:P.funcs[f]? = some fn) (q:fn.body=some j) (y:(fn.name == "runtime.NumGoroutine")=false)
  (p:∀(i:Nat) (k:i<100) (w:World),Calls P f #[.int .i64 i] w λ e w'=>e=.returned (.string ⟨(Lib.decDigits i).toArray⟩)/\w'=w) (x:zNH G):zPP P G f zJN:=by
 refine zPg s q y (λ args v a E w g C n z=>?_) (λ args v a=>?_) x
 ·unfold zJN at a;split at a
  rotate_left
  ·cases a
  rename_i i;split at a
  rotate_left
  ·cases a
  rename_i k;have k:i<100:=by simpa [Ql] using k
  cases a;obtain ⟨c,A,hc,l,d⟩:=n.of_cons;have o:=d.of_nil;subst o;have m:g=#[c]:=by apply Array.toList_inj.1;simpa using hc
  subst m;obtain ⟨rfl,_⟩:=l.of_int;refine (p i k w).mono λ e w' h=>?_
  obtain ⟨rfl,rfl⟩:=h;refine ⟨_,rfl,Below.refl _ _,.str _ _ (by simp [decN]) ?_⟩
  have:(Lib.decDigits i).length<=2:=by
   rw [Lib.decDigits];split
   ·simp
   ·rw [Lib.decDigits];split
    ·simp
    ·omega
  unfold decN zc;rw [Qb];omega
 ·unfold zJN at a;split at a
  ·split at a
   ·cases a;exact ⟨rfl,rfl⟩
   ·cases a
  ·cases a
theorem zOW {g:Nat} {x:AV} {w:World} (m:GR G E w) (z:G.wG g=some (.qe (.agg [x]) 0)):∃c,w.cell? ⟨g,0,none⟩=some c/\VR E w x c/\c.oneCell'=true:=by
 have:=(m g _ z).1;generalize d:Value.pointer (some ⟨g,0,none⟩)=F at this;cases this with
 | qe e off b o D s J h a=>
  have f:g=b/\0=o+0:=by
   have j:=Qu (Value.pointer.inj d);exact ⟨congrArg Addr.block j,congrArg Addr.off j⟩
  obtain ⟨f,I⟩:=f;obtain ⟨i,rfl,l,y⟩:=h.qV;obtain ⟨u,K,k,n,q⟩:=l.of_cons;have A:=q.of_nil;subst A;have p:i[0]? = some u:=by
   have:i.toList[0]? = some u:=by rw [k];rfl
   simpa using this
  have h8:=a 0 u (by simpa [Value.cells] using p)
  have C:o=0:=by omega
  subst C;exact ⟨u,by rw [f];exact h8,n,y u (by rw [k];exact .head _)⟩
theorem zOX {s:ByteArray}:(s.data.toList.map UInt8.toNat).map UInt8.ofNat=s.data.toList:=by
 rw [List.map_map];have:(UInt8.ofNat∘UInt8.toNat)=id:=by funext x;simp
 rw [this,List.map_id]
end
end Go.Sy
namespace Go.Sy
open Go.RowKit
section
variable {P:Program} {G:Cx} {E:Env} {w w':World} {H:Heap}
theorem zCO.qo {f:Nat} {g:List AV->Option AV} (h:zPP P G f g) (d:∀args v,(∀a∈args,PP a)->g args=some v->PP v):zCO P G f g:=λ args v e c=>⟨(h args v c).1,d args v e c,(h args v c).2⟩
def idxG:List AV->Option AV
 | [.str s,.int .u8 c]=>some (.int .i64 (Lib.indexByte (s.map UInt8.ofNat) c.toNat.toUInt8))
 | _=>none
theorem zR3 (c:UInt8) (l:List UInt8):Lib.indexByte l c<9223372036854775808\/9223372036854775808<=l.length:=by
 by_cases h:Lib.indexByte l c<0
 ·left;omega
 ·obtain ⟨o,a⟩:=Int.eq_ofNat_of_zero_le (show 0<=Lib.indexByte l c by omega)
  have:=(Lib.indexByte_some a).1;have:=(QD.1 this).1;omega
theorem zVu {f:FuncId} {fn:Func} {d:Code} (F:P.funcs[f]? = some fn) (C:fn.body=some d) (L:(fn.name == "runtime.NumGoroutine")=false)
  (D:∀(s:ByteArray) (c:Int) (w:World),Calls P f #[.string s,.int .u8 c] w λ e w'=>e=.returned (.int .i64 (Lib.indexByte s.data.toList c.toNat.toUInt8))/\w'=w):zCO P G f idxG:=by
 intro args v U m;unfold idxG at m;split at m
 rotate_left
 ·cases m
 rename_i l c;cases m;refine ⟨⟨fn,d,F,C,L⟩,.int _ _,λ H J E w i I p R A=>?_⟩
 obtain ⟨y,T,hc,n,g⟩:=p.of_cons;obtain ⟨c2,O,q,j,a⟩:=g.of_cons;have x:=a.of_nil;subst x;have o:i=#[y,c2]:=by apply Array.toList_inj.1;rw [hc,q]
 subst o;obtain ⟨s,rfl,K,k⟩:∃s:ByteArray,y=.string s/\s.data.toList.map UInt8.toNat=l/\l.length<=zc:=by
  cases n with
  | str l z h k=>exact ⟨z,rfl,h,k⟩
 obtain ⟨rfl,_⟩:=j.of_int;subst K;rw [zOX];refine (D s c w).mono λ e w' h=>?_
 obtain ⟨rfl,rfl⟩:=h;refine ⟨_,E,rfl,I,.refl J,.int _ _ ?_⟩
 have S:=Lib.indexByte_ge s.data.toList c.toNat.toUInt8;have Q:=zR3 c.toNat.toUInt8 s.data.toList;rw [Qb] at k;unfold zc at k;unfold has;show -9223372036854775808<=_/\_<=9223372036854775807
 omega
theorem zT8 {f:FuncId} {fn:Func} {c:Code} (d:P.funcs[f]? = some fn) (g:fn.body=some c) (k:(fn.name == "runtime.NumGoroutine")=false)
  (h:∀(i:Nat) (l:i<100) (w:World),Calls P f #[.int .i64 i] w λ e w'=>e=.returned (.string ⟨(Lib.decDigits i).toArray⟩)/\w'=w) (j:zNH G):zCO P G f zJN:=.qo (zS9 d g k h j) λ args v _ a=>by
 unfold zJN at a;split at a
 ·split at a
  ·cases a;exact .str _
  ·cases a
 ·cases a
def fmtG:List AV->Option AV
 | [.int .i64 n,.int .i64 b]=>match b==10&&decide (-9223372036854775808<=n/\n<=9223372036854775807) with
  | true=>some (.str ((Lib.itoa n).map UInt8.toNat))
  | false=>none
 | _=>none
theorem zWs {n:String} {g:Nat} {a:List Int} {k:IntKind} (S:P.globalNamed n=some g) (T:G.wG g=some (.qe (.agg (a.map λ z=>.int k z)) 0)) (I:GR G E w):Lib.TabIs P w n k a:=by
 obtain ⟨F,R⟩:=I g _ T;obtain ⟨c,t,e,A,s⟩:=R _ _ rfl;unfold Lib.TabIs World.var?;rw [S];show (match w.heap[g]? with | some (.cells K _ _)=>some K | _=>none)=_
 rw [A];refine congrArg some ?_
 generalize q:Value.pointer (some ⟨g,0,none⟩)=Y at F;cases F with
 | qe e off b o X Q hz x l=>
  have U:g=b/\0=o+0:=by
   have C:=Qu (Value.pointer.inj q);exact ⟨congrArg Addr.block C,congrArg Addr.off C⟩
  obtain ⟨rfl,e2⟩:=U;have V:o=0:=by omega
  subst V;obtain ⟨m,rfl,y,h3⟩:=x.qV;have d:m.size=a.length:=by
   have:=y.1;simp at this;omega
  apply Array.ext
  ·rw [s];simp
  ·intro i h p;have f:i<a.length:=by simpa using p
   have j:m[i]? = some (.int k a[i]):=by
    have J:=(y.2 i (.int k a[i]) (m[i]'(by omega)) (by rw [Qj,QE f];rfl) (by simp [d,f]))
    have O:=J.of_int;rw [Qe (by omega)]
    exact congrArg some O.1
   have D:=l i (.int k a[i]) (by simpa [Value.cells] using j)
   have L:w.cell? ⟨g,0+i,none⟩=c[i]?:=by simp [World.cell?,A,QV]
   rw [L,Qe h] at D;have h8:=Qu D
   simpa using h8
theorem zVv {f:FuncId} {fn:Func} {d:Code} {g:Nat} (Q:P.funcs[f]? = some fn) (K:fn.body=some d) (T:(fn.name == "runtime.NumGoroutine")=false)
  (A:P.globalNamed "internal/strconv.uint64pow10"=some g) (S:G.wG g=some (.qe (.agg (Lib.pow10Tab.map λ z=>.int .u64 z)) 0))
  (F:∀(n:Int) (F:-9223372036854775808<=n) (h1:n<=9223372036854775807) (w:World) (D:Lib.TabIs P w "internal/strconv.uint64pow10" .u64 Lib.pow10Tab),Calls P f #[.int .i64 n,.int .i64 10] w λ e w'=>e=.returned (.string ⟨(Lib.itoa n).toArray⟩)/\∃k s,w'=Sort.grow (w.drewN k) s):zCO P G f fmtG:=by
 intro args v ha m;unfold fmtG at m;split at m
 rotate_left
 ·cases m
 rename_i n b;split at m
 rotate_left
 ·cases m
 rename_i i;cases m;rw [QA] at i;obtain rfl:b=10:=by simpa using i.1
 have a:=QO i.2;refine ⟨⟨fn,d,Q,K,T⟩,.str _,λ H X E w l R x L J=>?_⟩
 obtain ⟨O,cr,hc,p,j⟩:=x.of_cons;obtain ⟨c2,V,y,o,c⟩:=j.of_cons;have C:=c.of_nil;subst C;have q:l=#[O,c2]:=by apply Array.toList_inj.1;rw [hc,y]
 subst q;obtain ⟨rfl,_⟩:=p.of_int;obtain ⟨rfl,_⟩:=o.of_int;refine (F n a.1 a.2 w (zWs A S L)).mono λ e w' h=>?_
 obtain ⟨rfl,k,s,rfl⟩:=h;obtain ⟨I,U,Y⟩:=zIq R (Lib.below_grow _ _ (QB _) k s) X;refine ⟨_,E,rfl,I,U,.str _ _ (by simp) ?_⟩
 have:=Lib.itoa_length_le n a.1 a.2;rw [Qb];unfold zc;omega
theorem zOY (g:HR E H w) (d:Below w.heap.size w w') (a:Nat):
  HR { E with Z:=λ b=>E.Z b\/(w.heap.size<=b/\b<w'.heap.size) } H w'/\Tr E H w { E with Z:=λ b=>E.Z b\/(w.heap.size<=b/\b<w'.heap.size) } H w' a a/\∀{v j},VR E w v j->VR { E with Z:=λ b=>E.Z b\/(w.heap.size<=b/\b<w'.heap.size) } w' v j:=by
 have m:Shapes w w':=λ b c e f h=>⟨c,f,(d.block b (Array.getElem?_eq_some_iff.1 h).1).trans h,rfl⟩
 have l:∀{v j},VR E w v j->VR { E with Z:=λ b=>E.Z b\/(w.heap.size<=b/\b<w'.heap.size) } w' v j:=λ o=>
  VR.mono (E:=E) (E':={ E with Z:=λ b=>E.Z b\/(w.heap.size<=b/\b<w'.heap.size) }) (λ _ h=>⟨h,rfl⟩) (λ b h=>⟨.inl h,d.block b (g.wg b h)⟩) m o
 refine ⟨⟨g.nodup,g.qC,g.inj,λ p i=>(g.obj p i).mono (d.block _ (g.lt i)) l,λ p i k=>?_,λ b h=>?_⟩,
  ⟨QB _,λ _ _=>rfl,λ h=>⟨.inl,λ h=>h.elim id λ⟨x,y⟩=>by omega⟩,λ _ h=>.inl h,λ x h=>?_,λ p i=>.inl ⟨p,i,rfl⟩,d.tape,d.os,d.output,d.size,λ x n _=>d.block x n,m,rfl⟩,l⟩
 ·rcases k with k | k
  ·exact g.nz p i k
  ·have:=g.lt i;have e:w.heap.size<=E.ρ p.1:=k.1;omega
 ·rcases h with h | h
  ·exact QZ (g.wg b h) d.size
  ·exact h.2
 ·rcases h with h | h
  ·exact .inl h
  ·exact .inr (.inr h.1)
def zNX (T:Nat) (es er:AV):List AV->Option AV
 | [.str s,.int .i64 b,.int .i64 z]=>match Nat.ble s.length 281474976710656&&(b==10&&z==64) with
  | true=>match Lib.parseIntB 64 (s.map UInt8.ofNat) with
   | .ok v=>some (.qf [.int .i64 v,.qd])
   | .range=>some (.qf [.int .i64 (Lib.intSat 64 (s.map UInt8.ofNat)),.iface T (.qe (.agg [.str [80,97,114,115,101,73,110,116],.str s,er]) 0)])
   | _=>some (.qf [.int .i64 0,.iface T (.qe (.agg [.str [80,97,114,115,101,73,110,116],.str s,es]) 0)])
  | false=>none
 | _=>none
theorem zT9 {f:FuncId} {fn:Func} {A:Code} {T gs gr ty ps pr:Nat} {es er:AV} (hf:P.funcs[f]? = some fn) (hb:fn.body=some A) (hn:(fn.name == "runtime.NumGoroutine")=false) (J:GPP G)
  (U:G.wG gs=some (.qe (.agg [.iface ps es]) 0)) (S:G.wG gr=some (.qe (.agg [.iface pr er]) 0))
  (h0:∀(s:ByteArray) (a6:s.size<=9223372036854775806) (v:Int) (h:Lib.parseIntB 64 s.data.toList=.ok v) (w:World),Calls P f #[.string s,.int .i64 10,.int .i64 64] w λ e w'=>e=.returned (.tuple #[.int .i64 v,.nilIface])/\Below w.heap.size w w')
  (h1:∀(s:ByteArray) (aa:s.size<=281474976710656) (h:∀v,Lib.parseIntB 64 s.data.toList≠.ok v) (h':Lib.parseIntB 64 s.data.toList≠.range) (a:Value) (w:World) (d:w.cell? ⟨gs,0,none⟩=some a) (aw:a=.nilIface\/∃g pe,a=.iface g pe),
   Calls P f #[.string s,.int .i64 10,.int .i64 64] w λ e w'=>∃N,e=.returned (.tuple #[.int .i64 (0),.iface T (.pointer (some ⟨N,0,none⟩))])/\w.heap.size<=N/\w'.heap[N]? = some (.cells #[.string ⟨#[80,97,114,115,101,73,110,116]⟩,.string s,a] ty (0,0))/\Below w.heap.size w w')
  (h2:∀(s:ByteArray) (aa:s.size<=281474976710656) (h:Lib.parseIntB 64 s.data.toList=.range) (a:Value) (w:World) (d:w.cell? ⟨gr,0,none⟩=some a) (aw:a=.nilIface\/∃g pe,a=.iface g pe),
   Calls P f #[.string s,.int .i64 10,.int .i64 64] w λ e w'=>∃N,e=.returned (.tuple #[.int .i64 (Lib.intSat 64 s.data.toList),.iface T (.pointer (some ⟨N,0,none⟩))])/\w.heap.size<=N/\w'.heap[N]? = some (.cells #[.string ⟨#[80,97,114,115,101,73,110,116]⟩,.string s,a] ty (0,0))/\Below w.heap.size w w'):zCO P G f (zNX T (.iface ps es) (.iface pr er)):=by
 have aj:∀l,has .i64 (Lib.intSat 64 l):=λ l=>by unfold Lib.intSat has;split <;> decide
 have ay:PP (.iface ps es):=by
  have:=J gs _ U;cases this with
  | qe e off h=>cases h with
   | agg cs h=>exact h _ (.head _)
 have au:PP (.iface pr er):=by
  have:=J gr _ S;cases this with
  | qe e off h=>cases h with
   | agg cs h=>exact h _ (.head _)
 intro args v ha d;unfold zNX at d;split at d
 rotate_left
 ·cases d
 rename_i l b z;split at d
 rotate_left
 ·cases d
 rename_i p;simp only [QA] at p;obtain ⟨p,ar,ak⟩:=p;obtain rfl:b=10:=by simpa using ar
 obtain rfl:z=64:=by simpa using ak
 have az:PP v:=by
  have Y:∀{n:Int} {e:AV},PP e->PP (.qf [.int .i64 n,.iface T (.qe (.agg [.str [80,97,114,115,101,73,110,116],.str l,e]) 0)]):=λ he=>.qf _ λ x i=>by
   rcases QH.1 i with rfl | i
   ·exact .int _ _
   ·rcases QH.1 i with rfl | i
    ·refine .iface _ _ (.qe _ _ (.agg _ λ y D=>?_))
     rcases QH.1 D with rfl | D
     ·exact .str _
     ·rcases QH.1 D with rfl | D
      ·exact .str _
      ·rcases QH.1 D with rfl | D
       ·exact he
       ·cases D
    ·cases i
  split at d
  ·cases d;exact .qf _ λ x i=>by
    rcases QH.1 i with rfl | i
    ·exact .int _ _
    ·rcases QH.1 i with rfl | i
     ·exact .qd
     ·cases i
  ·cases d;exact Y au
  ·cases d;exact Y ay
 refine ⟨⟨fn,A,hf,hb,hn⟩,az,λ H nx E w F hr aq hg a8=>?_⟩
 obtain ⟨c,cr,hc,ao,C⟩:=aq.of_cons;obtain ⟨c2,a7,ai,K,m⟩:=C.of_cons;obtain ⟨c3,ba,al,X,o⟩:=m.of_cons;have a1:=o.of_nil;subst a1;have ad:F=#[c,c2,c3]:=by apply Array.toList_inj.1;rw [hc,ai,al]
 subst ad;obtain ⟨rfl,_⟩:=K.of_int;obtain ⟨rfl,_⟩:=X.of_int;obtain ⟨s,rfl,hs,hl⟩:∃s:ByteArray,c=.string s/\s.data.toList.map UInt8.toNat=l/\l.length<=zc:=by
  cases ao with
  | str l s' h hl=>exact ⟨s',rfl,h,hl⟩
 subst hs;rw [zOX] at d;have L:s.size<=281474976710656:=by
  have h3:=QM p;rw [Qb,Array.length_toList] at h3;exact h3
 have q:∀{N:Nat} {w':World} {a:Value} {g:Nat} {x:AV} {num:Int},has .i64 num->VR E w (.iface g x) a->w.heap.size<=N->w'.heap[N]? = some (.cells #[.string ⟨#[80,97,114,115,101,73,110,116]⟩,.string s,a] ty (0,0))->Below w.heap.size w w' →
   ∃cv E',(Ending.returned (.tuple #[.int .i64 num,.iface T (.pointer (some ⟨N,0,none⟩))]):Ending)=.returned cv/\HR E' H w'/\Tr E H w E' H w' nx nx ∧
    VR E' w' (.qf [.int .i64 num,.iface T (.qe (.agg [.str [80,97,114,115,101,73,110,116],.str (s.data.toList.map UInt8.toNat),.iface g x]) 0)]) cv:=by
  intro N w' a g x num ab R hN k I;have ah:=(Array.getElem?_eq_some_iff.1 k).1;obtain ⟨k1,k2,k3⟩:=zQT hr I hN ah nx;refine ⟨_,_,rfl,k1,k2,?_⟩
  have V:VR { E with Z:=λ b=>E.Z b\/b=N } w' (.agg [.str [80,97,114,115,101,73,110,116],.str (s.data.toList.map UInt8.toNat),.iface g x]) (.agg #[.string ⟨#[80,97,114,115,101,73,110,116]⟩,.string s,a]):=by
   refine VR.qM (.cons (.str _ _ rfl (by decide)) (.cons (.str _ _ rfl hl) (.cons (k3 R) .nil))) λ v d=>?_
   have h9:a.oneCell'=true:=R.wJ rfl;have ax:v=.string ⟨#[80,97,114,115,101,73,110,116]⟩\/v=.string s\/v=a:=by simpa using d
   rcases ax with rfl | rfl | rfl
   ·rfl
   ·rfl
   ·exact h9
  refine VR.qJ (.cons (.int _ _ ab) (.cons (.iface _ _ _ ?_) .nil))
  have:=VR.qe (E:={ E with Z:=λ b=>E.Z b\/b=N }) (w:=w') _ 0 N 0 _ rfl (Or.inr rfl) V λ j c hj=>by
   have hj:(#[Value.string ⟨#[80,97,114,115,101,73,110,116]⟩,.string s,a])[j]? = some c:=hj;show w'.cell? ⟨N,0+j,none⟩=some c
   simp only [World.cell?,k,QV];exact hj
  exact this
 have Q:∀{g:Nat} {x:AV} {a:Value},VR E w (.iface g x) a->a=.nilIface\/∃g pe,a=.iface g pe:=λ h=>by
  cases h with
  | iface t v cv h=>exact .inr ⟨_,_,rfl⟩
 split at d
 ·rename_i n O;cases d;refine (h0 s (by omega) n O w).mono λ e w' h=>?_
  obtain ⟨rfl,I⟩:=h;obtain ⟨k1,k2,k3⟩:=zIq hr I nx;have ac:=Lib.parseIntB_bounds O;exact ⟨_,E,rfl,k1,k2,VR.qJ (.cons (.int _ _ ⟨ac.1,Int.le_of_lt_add_one ac.2⟩) (.cons .qd .nil))⟩
 ·rename_i ae;cases d;obtain ⟨a,c1,c2,_⟩:=zOW hg S;refine (h2 s L ae a w c1 (Q c2)).mono λ e w' h=>?_
  obtain ⟨N,rfl,m1,m2,m3⟩:=h;exact q (aj _) c2 m1 m2 m3
 ·rename_i ag af;cases d;obtain ⟨a,c1,c2,_⟩:=zOW hg U;refine (h1 s L (λ v e=>ag v e) (λ e=>af e) a w c1 (Q c2)).mono λ e w' h=>?_
  obtain ⟨N,rfl,m1,m2,m3⟩:=h;exact q (by unfold has;decide) c2 m1 m2 m3
end
end Go.Sy
namespace Go.Sy
open Go.RowKit
def cut1 (c:Nat):List Nat->List Nat×List Nat×Bool
 | []=>([],[],false)
 | x::r=>match Nat.beq x c with
  | true=>([],r,true)
  | false=>match cut1 c r with
   | (a,b,ok)=>(x::a,b,ok)
def zI5 (c:Nat):List Nat->List (List Nat)
 | []=>[[]]
 | x::r=>match Nat.beq x c with
  | true=>[]::zI5 c r
  | false=>match zI5 c r with
   | h::t=>(x::h)::t
   | []=>[[x]]
def cutG:List AV->Option AV
 | [.str s,.str [c]]=>match Nat.blt s.length 4294967281&&Nat.blt c 256 with
  | true=>some (.qf [.str (cut1 c s).1,.str (cut1 c s).2.1,.bool (cut1 c s).2.2])
  | false=>none
 | _=>none
def zQd:List AV->Option AV
 | [.str s,.str [c]]=>match Nat.blt s.length 4294967281&&Nat.blt c 256 with
  | true=>some (.qp 1 ((zI5 c s).map .str))
  | false=>none
 | _=>none
theorem zRh (a c:UInt8):Nat.beq a.toNat c.toNat=(a==c):=by
 by_cases h:a=c
 ·subst h;simp
 ·have:a.toNat≠c.toNat:=λ e=>h (UInt8.toNat_inj.1 e)
  have d:Nat.beq a.toNat c.toNat=false:=by
   cases hb:Nat.beq a.toNat c.toNat with
   | false=>rfl
   | true=>exact absurd (zb hb) this
  rw [d];simp [h]
theorem zIC (a c:UInt8) (r:List UInt8):Lib.index (a::r) [c]=if a=c then 0 else if Lib.index r [c]=-1 then -1 else Lib.index r [c]+1:=by
 rw [Lib.index];by_cases h:a=c
 ·subst h;simp [List.isPrefixOf]
 ·have:([c]:List UInt8).isPrefixOf (a::r)=false:=by simp [List.isPrefixOf,Ne.symm h]
  rw [this];simp [h]
theorem zRi (c:UInt8):∀s:List UInt8,cut1 c.toNat (s.map UInt8.toNat)=((Lib.cut s [c]).1.map UInt8.toNat,(Lib.cut s [c]).2.1.map UInt8.toNat,(Lib.cut s [c]).2.2)
 | []=>by simp [cut1,Lib.cut,Lib.index]
 | a::r=>by
  have k:=zRi c r;have e:=Lib.index_ge r [c];rw [Qd,cut1,zRh];by_cases h:a=c
  ·subst h;unfold Lib.cut;rw [zIC];simp
  ·have l:(a==c)=false:=by simpa using h
   rw [l];simp only [k];unfold Lib.cut;rw [zIC,if_neg h];by_cases d:Lib.index r [c]=-1
   ·rw [if_pos d,d];simp
   ·rw [if_neg d];obtain ⟨j,i⟩:∃j:Nat,Lib.index r [c]=j:=⟨(Lib.index r [c]).toNat,by omega⟩
    rw [i];have f:(0:Int)<=(j:Int):=by omega
    have m:(0:Int)<=(j:Int)+1:=by omega
    have g:((j:Int)+1).toNat=j+1:=by omega
    rw [if_pos f,if_pos m,g];simp
theorem zOZ (c:UInt8):∀s:List UInt8,zI5 c.toNat (s.map UInt8.toNat)=(Lib.splitK [c] 0 (s.count c) s).map (·.map UInt8.toNat)
 | []=>by simp [zI5,Lib.splitK]
 | a::r=>by
  have d:=zOZ c r;have f:=Lib.index_ge r [c];rw [Qd,zI5,zRh];by_cases h:a=c
  ·subst h;have hc:(a::r).count a=r.count a+1:=by simp
   rw [hc,Lib.splitK,zIC];simp [d]
  ·have i:(a==c)=false:=by simpa using h
   have hc:(a::r).count c=r.count c:=List.count_cons_of_ne (by simpa using h)
   rw [i,hc];simp only [d];cases hk:r.count c with
   | zero=>simp [Lib.splitK]
   | succ k=>
    have m:Lib.index r [c]≠-1:=λ e=>by
     have l:Lib.count r [c]=0:=Lib.count_miss e;rw [Lib.count_one] at l;omega
    obtain ⟨j,o⟩:∃j:Nat,Lib.index r [c]=j:=⟨(Lib.index r [c]).toNat,by omega⟩
    rw [Lib.splitK,Lib.splitK,zIC,if_neg h,if_neg m,o];have n:((j:Int)+1).toNat=j+1:=by omega
    have p:¬((j:Int)+1==-1)=true:=by simp;omega
    have g:¬((j:Int)==-1)=true:=by simp
    rw [if_neg p,if_neg g,n];simp [Nat.add_right_comm]
theorem zO0 (sep:List UInt8):∀(k:Nat) (s:List UInt8),∀x∈Lib.splitK sep 0 k s,x.length<=s.length
 | 0,s,x,h=>by
  rw [Qc.1 h];exact QB _
 | k+1,s,x,h=>by
  rw [Lib.splitK] at h;split at h
  ·rw [Qc.1 h];exact QB _
  ·rcases QH.1 h with rfl | h
   ·rw [Qm];omega
   ·have:=zO0 sep k _ x h;rw [Qr] at this;omega
section
variable {P:Program} {G:Cx} {E:Env} {w w':World} {H:Heap}
theorem zQe {g:Nat} {m:Int} (q:G.wG g=some (.qe (.agg [.int .i64 m]) 0)) (l:GR G E w):w.cell? ⟨g,0,none⟩=some (.int .i64 m):=by
 obtain ⟨k,_⟩:=l g _ q;generalize d:Value.pointer (some ⟨g,0,none⟩)=A at k;cases k with
 | qe e off b o z p D f c=>
  have j:=Qu (Value.pointer.inj d);have x:g=b:=congrArg Addr.block j;have C:0=o+0:=congrArg Addr.off j;subst x;have y:o=0:=by omega
  subst y;obtain ⟨i,rfl,h,F⟩:=f.qV;have a:0<i.size:=by have:=h.1;simp at this;omega
  have n:=(h.2 0 (.int .i64 m) (i[0]'a) rfl (by simp [a])).of_int
  have s:=c 0 (.int .i64 m) (by simp only [Value.cells];rw [Qe a];exact congrArg some n.1)
  simpa using s
theorem zQf {cargs:Array Value} {s:List Nat} {c:Nat} (k:VRs E w [.str s,.str [c]] cargs.toList):∃(a:ByteArray) (u:UInt8),cargs=#[.string a,.string ⟨#[u]⟩]/\a.data.toList.map UInt8.toNat=s/\u.toNat=c/\s.length<=zc:=by
 obtain ⟨q,z,hc,i,e⟩:=k.of_cons;obtain ⟨c2,y,m,f,d⟩:=e.of_cons;have n:=d.of_nil;subst n;have j:cargs=#[q,c2]:=by apply Array.toList_inj.1;rw [hc,m]
 subst j;cases i with
 | str l a h x=>
  cases f with
  | str A b g p=>
   obtain ⟨⟨o⟩⟩:=b;have g:o.map UInt8.toNat=[c]:=g
   match o,g with
   | [u],g=>
    exact ⟨a,u,rfl,h,by simpa using g,x⟩
theorem zVw {f:FuncId} {fn:Func} {o:Code} {g:Nat} {m:Int} (L:P.funcs[f]? = some fn) (I:fn.body=some o) (S:(fn.name == "runtime.NumGoroutine")=false) (T:G.wG g=some (.qe (.agg [.int .i64 m]) 0))
  (J:∀(s sep:ByteArray) (w:World) (V:s.size<4294967281) (hm:w.cell? ⟨g,0,none⟩=some (.int .i64 m)),Calls P f #[.string s,.string sep] w λ e w'=>e=.returned (.tuple #[.string ⟨(Lib.cut s.data.toList sep.data.toList).1.toArray⟩,.string ⟨(Lib.cut s.data.toList sep.data.toList).2.1.toArray⟩,.bool (Lib.cut s.data.toList sep.data.toList).2.2])/\∃n,w'=w.drewN n):zCO P G f cutG:=by
 intro args v X d;unfold cutG at d;split at d
 rotate_left
 ·cases d
 rename_i s c;split at d
 rotate_left
 ·cases d
 rename_i p;rw [QA,Ql,Ql] at p;cases d;refine ⟨⟨fn,o,L,I,S⟩,.qf _ λ e C=>?_,λ H R E w A Q z K F=>?_⟩
 ·simp only [QH,List.not_mem_nil,or_false] at C;rcases C with rfl | rfl | rfl
  ·exact .str _
  ·exact .str _
  ·exact .bool _
 obtain ⟨a,u,rfl,rfl,rfl,O⟩:=zQf z;rw [Qb] at p;refine (J a ⟨#[u]⟩ w (by show a.data.size<_;rw [←Array.length_toList];exact p.1) (zQe T K)).mono λ e w' h=>?_
 obtain ⟨rfl,k,rfl⟩:=h;rw [zRi];have y:(Lib.cut a.data.toList [u]).1.length<=a.data.toList.length/\(Lib.cut a.data.toList [u]).2.1.length<=a.data.toList.length:=by
  unfold Lib.cut;split
  ·exact ⟨by rw [Qm];omega,by rw [Qr];omega⟩
  ·exact ⟨QB _,QR _⟩
 obtain ⟨D,U,_⟩:=zIq Q (w':=w.drewN k) ⟨rfl,rfl,rfl,QB _,λ _ _=>rfl⟩ R
 refine ⟨_,E,rfl,D,U,?_⟩
 have q:∀l:List UInt8,l.length<=a.data.toList.length->(l.map UInt8.toNat).length<=zc:=λ l h=>by rw [Qb];rw [Qb] at O;omega
 refine .qf _ _ rfl λ i x v j d=>?_
 match i,j,d with
 | 0,j,d=>cases j;cases d;exact .str _ _ rfl (q _ y.1)
 | 1,j,d=>cases j;cases d;exact .str _ _ rfl (q _ y.2)
 | 2,j,d=>cases j;cases d;exact .bool _
 | i+3,j,_=>simp at j
theorem zTa {f:FuncId} {fn:Func} {o:Code} {g:Nat} {m:Int} {ty:TypeId} (hf:P.funcs[f]? = some fn) (X:fn.body=some o) (hn:(fn.name == "runtime.NumGoroutine")=false) (hG:G.wG g=some (.qe (.agg [.int .i64 m]) 0))
  (Y:∀(s sep:ByteArray) (w:World) (hs:s.size<4294967281) (hm:w.cell? ⟨g,0,none⟩=some (.int .i64 m)) (J:1<=sep.size),Calls P f #[.string s,.string sep] w λ e w'=>
   e=.returned (.slice (some ⟨w.heap.size,0,none⟩) (Lib.countB s sep+1) (Lib.countB s sep+1))/\w'=w.alloc (.cells ((Lib.splitB sep 0 (Lib.countB s sep) s).map Value.string).toArray ty)):zCO P G f zQd:=by
 intro args v ha q;unfold zQd at q;split at q
 rotate_left
 ·cases q
 rename_i s c;split at q
 rotate_left
 ·cases q
 rename_i p;rw [QA,Ql,Ql] at p;cases q;refine ⟨⟨fn,o,hf,X,hn⟩,.qp _ _ λ e d=>?_,λ H nx E w Q hr K hg U=>?_⟩
 ·obtain ⟨l,_,rfl⟩:=Qf.1 d;exact .str _
 obtain ⟨a,u,rfl,rfl,rfl,hl⟩:=zQf K;rw [Qb] at p;have L:a.size<4294967281:=by show a.data.size<_;rw [←Array.length_toList];exact p.1
 refine (Y a ⟨#[u]⟩ w L (zQe hG hg) (QB _)).mono λ e w' h=>?_
 obtain ⟨rfl,rfl⟩:=h;have ab:=Lib.countB_le ⟨#[u]⟩ (QB _) a.size a (QB _);have z:=Lib.splitB_all ⟨#[u]⟩ (QB _) 0 _ a rfl;have k:=Lib.splitB_data ⟨#[u]⟩ 0 (Lib.countB a ⟨#[u]⟩) a;have y:Lib.countB a ⟨#[u]⟩=a.data.toList.count u:=Lib.count_one u _;generalize aa:Lib.splitB ⟨#[u]⟩ 0 (Lib.countB a ⟨#[u]⟩) a=sp at *;have A:(zI5 u.toNat (a.data.toList.map UInt8.toNat)).map AV.str=sp.map λ x=>AV.str (x.data.toList.map UInt8.toNat):=by
  rw [zOZ,←y,←k,List.map_map,List.map_map];rfl
 rw [A];have D:Below w.heap.size w (w.alloc (.cells (sp.map Value.string).toArray ty)):=(Below.refl _ _).alloc (QB _) _;obtain ⟨T,k2,_⟩:=zOY hr D nx;refine ⟨_,_,rfl,T,k2,?_⟩
 have F:(w.alloc (.cells (sp.map Value.string).toArray ty)).heap[w.heap.size]? = some (.cells (sp.map Value.string).toArray ty (0,0)):=by
  show (w.heap.push _)[w.heap.size]? = _
  simp
 have I:∀(i:Nat) x,sp[i]? = some x->(x.data.toList.map UInt8.toNat).length<=zc:=λ i x n=>by
  have hm:x.data.toList∈Lib.splitK [u] 0 (Lib.countB a ⟨#[u]⟩) a.data.toList:=by
   have J:x.data.toList∈sp.map (·.data.toList):=List.mem_map_of_mem (QF n);rw [k] at J;exact J
  have:=zO0 [u] _ _ _ hm;rw [Qb] at hl ⊢;omega
 have C:(sp.map λ x=>AV.str (x.data.toList.map UInt8.toNat)).length=Lib.countB a ⟨#[u]⟩+1:=by rw [Qb,z]
 rw [←C];refine .qp _ w.heap.size 0 _ 1 (λ i=>.string (sp.getD i ByteArray.empty)) (.inr ⟨QB _,by show _<(w.heap.push _).size;simp⟩) (QB _) (by rw [C];unfold zc;omega) (λ i e d=>?_) (λ i e d=>?_) λ i R=>?_
 ·rw [Qj] at d;cases n:sp[i]? with
  | none=>rw [n] at d;cases d
  | some x=>rw [n] at d;cases d;rfl
 ·rw [Qj] at d;cases n:sp[i]? with
  | none=>rw [n] at d;cases d
  | some x=>
   rw [n] at d;cases d;have:sp.getD i ByteArray.empty=x:=by rw [List.getD_eq_getElem?_getD,n];rfl
   rw [this];exact .str _ _ rfl (I i x n)
 ·rw [Qb] at R;refine ⟨rfl,λ j V S=>?_⟩
  have O:j=0:=by
   have:=(Array.getElem?_eq_some_iff.1 S).1;simp [Value.cells] at this;omega
  subst O;have hc:V=.string (sp.getD i ByteArray.empty):=by simpa [Value.cells] using S.symm
  subst hc;have e1:(w.alloc (.cells (sp.map Value.string).toArray ty)).cell? ⟨w.heap.size,0+i*1+0,none⟩=(sp.map Value.string).toArray[0+i*1+0]?:=by
   unfold World.cell?;rw [F];rfl
  rw [e1];simp [R,List.getD_eq_getElem?_getD]
end
end Go.Sy
namespace Go.Sy
open Go.RowKit
def zR4:List AV->Option AV
 | [.qp c a,.str sep]=>zKD [.qp c a,.str sep] []
 | _=>none
section
variable {P:Program} {G:Cx}
theorem zUa {f:FuncId} {fn:Func} {d:Code} (F:P.funcs[f]? = some fn) (s:fn.body=some d) (K:(fn.name == "runtime.NumGoroutine")=false)
  (z:∀(a:Option Addr) (c:Nat) (sep:ByteArray) (w:World),Calls P f #[.slice a 0 c,.string sep] w λ e w'=>e=.returned (.string ⟨#[]⟩)/\w'=w)
  (C:∀(m o c:Nat) (xs:List ByteArray) (sep:ByteArray) (w:World),(∀(j:Nat) x,xs[j]? = some x->w.cell? ⟨m,o+j,none⟩=some (.string x))->m<w.heap.size->xs.length<=140737488355328->xs.length<=c →
   (Lib.join (xs.map (·.data.toList)) sep.data.toList).length<=140737488355328 →
   Calls P f #[.slice (some ⟨m,o,none⟩) xs.length c,.string sep] w λ e w'=>e=.returned (.string ⟨(Lib.join (xs.map (·.data.toList)) sep.data.toList).toArray⟩)/\Below w.heap.size w w'):zCO P G f zR4:=by
 intro args v S g;unfold zR4 at g;split at g
 rotate_left
 ·cases g
 rename_i I J sep;refine ⟨⟨fn,d,F,s,K⟩,?_,λ H Q E w h n l R q=>?_⟩
 ·unfold zKD at g
  repeat' split at g
  all_goals first | (cases g;exact .str _) | (cases g;done)
 ·have k:zKD [.qp I J,.str sep] H=some v:=g;refine (zRT z C _ H v k E w h n l).mono λ e w' ⟨y,O,i,D⟩=>?_
  obtain ⟨p,L,A⟩:=zOY n i Q;exact ⟨y,_,O,p,L,A D⟩
end
end Go.Sy
namespace Go.Sy
open Go.RowKit
theorem zR5 {P:Program} {g t u:Nat} {zero:Array Value} {W:World} {m:Int} (h:W.ShapedOpen P) (p:g<P.globals.size) (n:((begin P (λ _ _=>0) default).world.heap[g]?).bind Obj.row? = some (zero,t)) (s:zero.size=1) (o:P.buildable t=true)
  (x:P.cellTypes P.depth t=some [u]) (q:P.underlying u=some (.int .i64)) (hm:W.cell? ⟨g,0,none⟩=some (.int .i64 m)):(∃c t e,W.heap[g]? = some (.cells c t e)/\c.size=1)/\has .i64 m:=by
 obtain ⟨k,d,j,f⟩:=h.1 g zero t p n;obtain ⟨A,l,_,y⟩:=f o;rw [x] at l;cases l;have hc:k[0]? = some (.int .i64 m):=by
  simpa [World.cell?,d] using hm
 obtain ⟨v,z,a⟩:=y 0 _ hc;have i:v=u:=by simpa using z.symm
 subst i;unfold Cell.ok at a;rw [q] at a;exact ⟨⟨k,_,_,d,by rw [←s];exact j⟩,a.2⟩
inductive CD where
 | bool | int (k:IntKind) | str
 | sl (es:List CD) (one:Bool)
structure BK (H:Type) where
 f:DataW H->Nat
 all:List (DataW H)->Nat
 str:∀b,f (.lit (.string b))=b.length+1
 pos:∀d,1<=f d
 slice:∀a b,f (.slice a b)=all a+all b+1
 agg:∀p,f (.agg p)=all p+1
 nil:all []=0
 cons:∀d r,all (d::r)=f d+all r
theorem BK.mem {H:Type} (B:BK H) {d:DataW H}:∀{l:List (DataW H)},d∈l->B.f d<=B.all l
 | _::r,h=>by
  rw [B.cons];rcases QH.1 h with rfl | h
  ·omega
  ·have:=B.mem h;omega
theorem BK.len {H:Type} (B:BK H):∀l:List (DataW H),l.length<=B.all l
 | []=>QR _
 | d::r=>by rw [B.cons,QK];have:=B.pos d;have:=B.len r;omega
mutual
inductive CD.Ok (N:Nat):CD->AV->Prop
 | bool (b:Bool):CD.Ok N .bool (.bool b)
 | int (k:IntKind) (n:Int) (h:has k n):CD.Ok N (.int k) (.int k n)
 | str (l:List Nat) (h:∀x∈l,x<256) (hl:l.length<=zc) (hn:l.length<=N):CD.Ok N .str (.str l)
 | one (e:CD) (xs:List AV) (h:∀x∈xs,CD.Ok N e x) (hn:xs.length<=N):CD.Ok N (.sl [e] true) (.qp 1 xs)
 | agg (es:List CD) (xs:List (List AV)) (h:∀x∈xs,CD.wH N es x) (hn:xs.length<=N):CD.Ok N (.sl es false) (.qp es.length (xs.map .agg))
inductive CD.wH (N:Nat):List CD->List AV->Prop
 | nil:CD.wH N [] []
 | cons {c:CD} {cs:List CD} {a:AV} {as_:List AV} (h:CD.Ok N c a) (hs:CD.wH N cs as_):CD.wH N (c::cs) (a::as_)
end
mutual
theorem CD.Ok.mono {N M:Nat} (hm:N<=M):∀{c:CD} {a:AV},CD.Ok N c a->CD.Ok M c a
 | _,_,.bool b=>.bool b
 | _,_,.int k n h=>.int k n h
 | _,_,.str l h i d=>.str l h i (Qk d hm)
 | _,_,.one e f h d=>.one e f (λ x g=>CD.Ok.mono hm (h x g)) (Qk d hm)
 | _,_,.agg j f h d=>.agg j f (λ x g=>CD.wH.mono hm (h x g)) (Qk d hm)
theorem CD.wH.mono {N M:Nat} (hm:N<=M):∀{c:List CD} {a:List AV},CD.wH N c a->CD.wH M c a
 | _,_,.nil=>.nil
 | _,_,.cons h d=>.cons (CD.Ok.mono hm h) (CD.wH.mono hm d)
end
theorem CD.wH.append {N:Nat} {cs ds:List CD}:∀{l m:List AV},CD.wH N cs l->CD.wH N ds m->CD.wH N (cs++ds) (l++m):=by
 induction cs with
 | nil=>intro l m h k;cases h;exact k
 | cons c cs a=>intro l m h k;cases h with | cons e d=>exact .cons e (a d k)
def zWt (P:Program) (t:TypeId):Bool:=match P.underlying t with
 | some (.struct _)=>false
 | some (.array _ _)=>false
 | _=>true
def zKQ (c:TypeId->Option (List CD)) (P:Program):Nat->List Field->Option (List CD)
 | _,[]=>some []
 | off,f::r=>match c f.type with
  | none=>none
  | some a=>match Nat.beq f.offset off&&Nat.beq (P.cellsOf f.type) a.length with
   | false=>none
   | true=>match zKQ c P (off+a.length) r with
    | none=>none
    | some d=>some (a++d)
def cdOf (P:Program):Nat->TypeId->Option (List CD)
 | 0,_=>none
 | n+1,t=>match P.underlying t with
  | some .bool=>some [.bool]
  | some (.int k)=>some [.int k]
  | some .string=>some [.str]
  | some (.slice e)=>match cdOf P n e with
   | none=>none
   | some a=>match Nat.beq (P.cellsOf e) a.length&&Nat.ble 1 a.length with
    | false=>none
    | true=>match zWt P e with
     | true=>match a with
      | [c]=>some [.sl [c] true]
      | _=>none
     | false=>some [.sl a false]
  | some (.struct f)=>match zKQ (cdOf P n) P 0 f.toList with
   | none=>none
   | some d=>match Nat.beq (P.cellsOf t) d.length with
    | true=>some d
    | false=>none
  | _=>none
section
variable {H:Type} (B:BK H) {N M:Nat} {enc:TypeId×Value->H} {P:Program} {W:World} {E:Env} {base:Nat} {sp:Nat->Bool} {hd:Bool}
structure RD (N:Nat) (E:Env) (W:World) (cds:List CD) (cs:List Value):Prop where
 len:cs.length=cds.length
 ex:∃avs,CD.wH N cds avs/\VRs E W avs cs/\(∀a∈avs,a.flat=true)
 one:∀c∈cs,c.oneCell'=true
theorem RD.mono (hm:N<=M) {c:List CD} {cs:List Value} (h:RD N E W c cs):RD M E W c cs:=
 let ⟨l,⟨a,h1,h2,h3⟩,o⟩:=h
 ⟨l,⟨a,h1.mono hm,h2,h3⟩,o⟩
theorem RD.single {c:CD} {a:AV} {v:Value} (g:CD.Ok N c a) (e:VR E W a v) (h:a.flat=true) (f:v.oneCell'=true):RD N E W [c] [v]:=
 ⟨rfl,⟨[a],.cons g .nil,.cons e .nil,λ x d=>by simp at d;subst d;exact h⟩,λ x d=>by simp at d;subst d;exact f⟩
theorem RD.append {cs ds:List CD} {u v:List Value} (h:RD N E W cs u) (k:RD N E W ds v):RD N E W (cs++ds) (u++v):=by
 obtain ⟨m,⟨a,l,a2,a3⟩,o1⟩:=h;obtain ⟨n,⟨b,d,j,f⟩,i⟩:=k;refine ⟨by simp [m,n],⟨a++b,l.append d,?_,λ x c=>?_⟩,λ x c=>?_⟩
 ·have:∀{a:List AV} {u:List Value},VRs E W a u->VRs E W (a++b) (u++v):=by
   intro a
   induction a with
   | nil=>intro u h;have:=h.of_nil;subst this;exact j
   | cons x a o=>intro u h;obtain ⟨y,r,rfl,g,e⟩:=h.of_cons;exact .cons g (o e)
  exact this a2
 ·rcases QI.1 c with h | h
  ·exact a3 x h
  ·exact f x h
 ·rcases QI.1 c with h | h
  ·exact o1 x h
  ·exact i x h
theorem zO1 {n fuel:Nat} (l:∀t a cs x,cdOf P n t=some a->DataW.trod enc P W base sp hd fuel t cs=some x->RD (B.f x.1) E W a cs):
  ∀(j:List Field) (off:Nat) (a:List CD) (cs:List Value),zKQ (cdOf P n) P off j=some a →
   (∀f∈j,∃x,DataW.trod enc P W base sp hd fuel f.type ((cs.drop f.offset).take (P.cellsOf f.type))=some x/\B.f x.1<=N)->RD N E W a ((cs.drop off).take a.length)
 | [],off,a,cs,h,_=>by
  cases h;exact ⟨by simp,⟨[],.nil,by simpa using VRs.nil,λ x e=>by cases e⟩,λ x e=>by simp at e⟩
 | f::r,off,a,cs,h,k=>by
  unfold zKQ at h;split at h
  ·cases h
  rename_i d q;split at h
  ·cases h
  rename_i c;rw [QA] at c;have y:=zb c.1;have a2:=zb c.2;split at h
  ·cases h
  rename_i c2 s;cases h;obtain ⟨x,o,z⟩:=k f (List.mem_cons_self ..);have i:=(l _ _ _ _ q o).mono z;have p:=zO1 l r _ _ cs s λ g m=>k g (List.mem_cons_of_mem _ m)
  rw [y,a2] at i;have:(cs.drop off).take (d++c2).length=(cs.drop off).take d.length++(cs.drop (off+d.length)).take c2.length:=by
   rw [QC,List.take_add,List.drop_drop]
  rw [this];exact i.append p
theorem zVx {a:Addr} {i:Nat} (h:a.spot=none):a.add i=⟨a.block,a.off+i,none⟩:=by
 obtain ⟨b,o,s⟩:=a;simp only at h;subst h;unfold Addr.add;split
 ·rename_i e;subst e;rfl
 ·rfl
theorem zOk (hZ:∀b,b<W.heap.size->E.Z b):∀(n fuel:Nat) (t:TypeId) (A:List CD) (cs:List Value) (x:DataW H×List MemPlace),cdOf P n t=some A →
  DataW.trod enc P W base sp hd fuel t cs=some x->RD (B.f x.1) E W A cs
 | 0,_,_,_,_,_,h,_=>by cases h
 | n+1,fuel,t,A,cs,x,h,hr=>by
  unfold cdOf at h;split at h
  ·rename_i I;cases h;obtain ⟨b,rfl,_⟩:=DataW.trod_bool I hr;exact .single (.bool b) (.bool b) rfl rfl
  ·rename_i k I;cases h;obtain ⟨m,rfl,_,hw⟩:=DataW.trod_int I hr;have hh:has k m:=by
    simp only [Lit.wf,QA,decide_eq_true_eq] at hw;exact hw
   exact .single (.int k m hh) (.int k m hh) rfl rfl
  ·rename_i I;cases h;obtain ⟨s,rfl,rfl,hw⟩:=DataW.trod_string I hr;have hl:s.size<=zc:=by unfold maxLen at hw;unfold zc;exact hw
   have T:(lets s).length=s.size:=by
    unfold lets;rw [Qb,Array.length_toList];rfl
   exact .single (.str (lets s) zVt (by rw [T];exact hl) (by rw [B.str];unfold lets;rw [Qb];omega)) (VR.lets hl) rfl rfl
  ·rename_i e I;split at h
   ·cases h
   rename_i z ak;split at h
   ·cases h
   rename_i L;rw [QA] at L;have K:=zb L.1;have ar:=QM L.2;rcases DataW.trod_slice I hr with ⟨rfl,_⟩ | ⟨a,len,cap,d,p,m,rfl,rfl,rfl,_,ai,ac,ad,R,_,_⟩
   ·split at h
    ·split at h
     ·cases h;exact .single (.one _ [] (λ x F=>by cases F) (QR _)) (.wb _ _ _ (QR _)) rfl rfl
     ·cases h
    ·cases h;exact .single (.agg _ [] (λ x F=>by cases F) (QR _)) (.wb _ _ _ (QR _)) rfl rfl
   have aq:∀{i:Nat} {y:DataW H×List MemPlace},d[i]? = some y->B.f y.1<=B.f (.slice (d.map (·.1)) (p.map (·.1))):=λ{i y} h=>by
    have:=B.mem (Qf.2 ⟨y,QF h,rfl⟩:y.1∈d.map (·.1));rw [B.slice];omega
   have aa:len<=B.f (.slice (d.map (·.1)) (p.map (·.1))):=by
    have:=B.len (d.map (·.1));rw [Qb,ad] at this;rw [B.slice];omega
   have hE:∀i,i<len->∃q:List Value×List AV,q.1.length=z.length/\CD.wH (B.f (.slice (d.map (·.1)) (p.map (·.1)))) z q.2/\VRs E W q.2 q.1/\(∀a∈q.2,a.flat=true)/\(∀c∈q.1,c.oneCell'=true) ∧
     (∀j,j<z.length->W.cell? (a.add (i*z.length+j))=q.1[j]?):=λ i l=>by
    have D:=R i l;have h2:∃y,d[i]? = some y:=⟨_,QE (by rw [ad];exact l)⟩
    obtain ⟨y,o⟩:=h2;rw [o,Option.bind_eq_some_iff] at D;obtain ⟨ci,hc,ht⟩:=D;obtain ⟨_,c1,c2⟩:=World.cells?_some hc;obtain ⟨l1,⟨ag,l2,l3,l4⟩,l5⟩:=(zOk hZ n m e z ci y ak ht).mono (aq o);refine ⟨(ci,ag),l1,l2,l3,l4,l5,λ j hj=>?_⟩
    have h3:=c2 j (by rw [K];exact hj)
    rw [←h3,K];congr 1;unfold Addr.add;split <;> split <;> split <;> simp_all <;> omega
   have hC:∃g:Nat->List Value×List AV,∀i,i<len->(g i).1.length=z.length/\CD.wH (B.f (.slice (d.map (·.1)) (p.map (·.1)))) z (g i).2/\VRs E W (g i).2 (g i).1/\(∀a∈(g i).2,a.flat=true)/\(∀c∈(g i).1,c.oneCell'=true) ∧
     (∀j,j<z.length->W.cell? (a.add (i*z.length+j))=(g i).1[j]?):=by
    refine ⟨λ i=>if h:i<len then (hE i h).choose else ([],[]),λ i l=>?_⟩
    simp only [dif_pos l];exact (hE i l).choose_spec
   obtain ⟨g,X⟩:=hC;have J:cap<=zc:=by unfold maxLen at ac;unfold zc;exact ac
   have al:0<len->a.spot=none/\a.block<W.heap.size:=λ Y=>by
    obtain ⟨g1,_,_,_,_,g6⟩:=X 0 Y;have h0:=g6 0 (by omega)
    have D:∃y,(g 0).1[0]? = some y:=⟨_,QE (by omega)⟩
    obtain ⟨y,o⟩:=D;have:W.cell? a=some y:=by rw [←o,←h0];simp [Addr.add]
    unfold World.cell? at this;split at this
    ·rename_i c _ _ hb;split at this
     ·cases this
     ·rename_i hs;exact ⟨by simpa using hs,(Array.getElem?_eq_some_iff.1 hb).1⟩
    ·cases this
   have V:∀(f:Nat->Value) (C:List AV),C.length=len->(∀(i:Nat) y,C[i]? = some y->y.flat=true/\VR E W y (f i))->(∀i,i<len->(f i).cells.toList=(g i).1)->VR E W (.qp z.length C) (.slice (some a) len cap):=by
    intro f C F o U;by_cases h0:len=0
    ·have:C=[]:=List.eq_nil_of_length_eq_zero (by omega)
     subst this;subst h0;exact .wb _ _ _ J
    ·obtain ⟨s1,s2⟩:=al (by omega)
     obtain ⟨ab,ao,aw⟩:=a;simp only at s1 s2;subst s1;subst F;refine .qp C ab ao cap z.length f (hZ _ s2) ai J (λ i y h=>by have:=(o i y h).1;cases y <;> first | rfl | exact this) (λ i y h=>(o i y h).2) λ i l=>?_
     obtain ⟨g1,_,_,_,_,g6⟩:=X i l;have hc:=U i l;refine ⟨by rw [←Array.length_toList,hc,g1],λ j c hj=>?_⟩
     have ae:(g i).1[j]? = some c:=by rw [←hc];simpa using hj
     have af:j<z.length:=by rw [←g1];exact (QD.1 ae).1
     have:=g6 j af;rw [ae,zVx rfl] at this
     simpa [Nat.add_assoc] using this
   split at h
   ·split at h
    ·rename_i c;cases h;have D:∀i,i<len->∃v av,(g i).1=[v]/\(g i).2=[av]/\CD.Ok (B.f (.slice (d.map (·.1)) (p.map (·.1)))) c av/\VR E W av v/\av.flat=true/\v.oneCell'=true:=λ i l=>by
      obtain ⟨g1,g2,g3,g4,g5,_⟩:=X i l;cases hq:(g i).2 with
      | nil=>rw [hq] at g2;cases g2
      | cons av r=>
       rw [hq] at g2 g3 g4;cases g2 with
       | cons k1 k2=>
        cases k2;obtain ⟨v,r',O,S,e3⟩:=g3.of_cons;have:=e3.of_nil;subst this;rw [O] at g5;exact ⟨v,av,O,rfl,k1,S,g4 _ (List.mem_cons_self ..),g5 _ (List.mem_cons_self ..)⟩
     refine .single (.one c ((List.range len).map λ i=>((g i).2).headD .ql) (λ x F=>?_) (by rw [Qb,List.length_range];exact aa)) (V (λ i=>((g i).1).headD undef) _ (by simp) (λ i y o=>?_) λ i l=>?_) rfl rfl
     ·obtain ⟨i,l,rfl⟩:=Qf.1 F;obtain ⟨v,av,O,S,e3,_⟩:=D i (by simpa using l)
      rw [S];exact e3
     ·rw [Qj] at o;cases l:(List.range len)[i]? with
      | none=>rw [l] at o;cases o
      | some k=>
       rw [l] at o;obtain ⟨Q,rfl⟩:=QD.1 l;simp only [List.getElem_range,Option.map_some,QJ] at o;obtain ⟨v,av,O,S,e3,e4,e5,_⟩:=D i (by simpa using Q)
       rw [S] at o;simp only [List.headD_cons] at o;subst o;rw [O];exact ⟨e5,e4⟩
     ·obtain ⟨v,av,O,S,e3,e4,e5,e6⟩:=D i l;rw [O];simp only [List.headD_cons];cases v <;> first | rfl | (simp [Value.oneCell'] at e6)
    ·cases h
   ·cases h;refine .single (a:=.qp z.length (((List.range len).map λ i=>(g i).2).map .agg)) (.agg z _ (λ x F=>?_) (by rw [Qb,List.length_range];exact aa)) (V (λ i=>.agg (g i).1.toArray) _ (by simp) (λ i y o=>?_) λ i l=>by simp [Value.cells]) rfl rfl
    ·obtain ⟨i,l,rfl⟩:=Qf.1 F;exact (X i (by simpa using l)).2.1
    ·rw [Qj,Qj] at o;cases l:(List.range len)[i]? with
     | none=>rw [l] at o;cases o
     | some k=>
      rw [l] at o;obtain ⟨Q,rfl⟩:=QD.1 l;simp only [List.getElem_range,Option.map_some,QJ] at o;subst o;obtain ⟨g1,g2,g3,g4,g5,_⟩:=X i (by simpa using Q)
      exact ⟨rfl,VR.qM (by simpa using g3) (by simpa using g5)⟩
  ·rename_i fs I;split at h
   ·cases h
   rename_i au hf;split at h
   rotate_left
   ·cases h
   rename_i hc;cases h;have hc:=zb hc;obtain ⟨C,m,rfl,rfl,hl,ah,R⟩:=DataW.trod_struct I hr;have:=zO1 B (fuel:=m) (N:=B.f (.agg (C.map (·.1)))) (λ t A cs x=>zOk hZ n m t A cs x) fs.toList 0 A cs hf λ f aj=>by
    obtain ⟨i,l⟩:=List.getElem?_of_mem aj;have D:=R i f (by simpa using l)
    have:∃y,C[i]? = some y:=⟨_,QE (by rw [ah];simpa using (QD.1 l).1)⟩
    obtain ⟨y,o⟩:=this;exact ⟨y,D.trans o,by have:=B.mem (Qf.2 ⟨y,QF o,rfl⟩:y.1∈C.map (·.1));rw [B.agg];omega⟩
   rw [←hc,←hl] at this
   simpa using this
  ·cases h
end
end Go.Sy
namespace Go.Sy
open Go.RowKit
mutual
theorem CD.Ok.pp {N:Nat}:∀{c:CD} {a:AV},CD.Ok N c a->PP a
 | _,_,.bool b=>.bool b
 | _,_,.int k n h=>.int k n
 | _,_,.str l h j f=>.str l
 | _,_,.one e i h f=>.qp _ _ λ x d=>CD.Ok.pp (h x d)
 | _,_,.agg m i h f=>.qp _ _ λ x d=>by
   obtain ⟨y,g,rfl⟩:=Qf.1 d;exact .agg _ (CD.wH.pp (h y g))
theorem CD.wH.pp {N:Nat}:∀{c:List CD} {a:List AV},CD.wH N c a->∀x∈a,PP x
 | _,_,.nil=>λ x d=>by cases d
 | _,_,.cons h e=>λ x d=>by
   rcases QH.1 d with rfl | d
   ·exact CD.Ok.pp h
   ·exact CD.wH.pp e x d
end
theorem zR6 {P:Program} {w:World} {r:Reach} {b:Nat} {t:TypeId} {v:Value} {a:Array Field} (c:P.underlying t=some (.struct a)) (h:Value.okWide P w r b t v):∃cs:Array Value,v=.agg cs:=by
 unfold Value.okWide at h;rw [c] at h;obtain ⟨cs,rfl,_⟩:=h;exact ⟨cs,rfl⟩
theorem TabOK.at {P:Program} {G:Cx} {f:Nat} {g:List AV->Option AV} {a:TbF} {th:TbH} (h:TabOK P G ((f,g)::a) th):zCO P G f g:=λ args v d c=>h.v _ (.head _) args v d c
end Go.Sy
