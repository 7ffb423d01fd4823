/- A LIBRARY: WHAT A FUNCTION'S CODE RECKONS, AS A LEAN FUNCTION, AND THAT ITS WORD IS THE MODEL'S: part 6 of 6. No condition. -/
import Derived.Test.YtdeeimaahdgeaaaGreatDoorFxE
import Derived.Carry
import Derived.WideShapes
import Derived.Lib.AtoiAll
import Derived.Lib.ItoaNum
import Derived.Lib.Bytealg
import Derived.Lib.IndexLaws
import Derived.Lib.ParseIntBTie
import Derived.Lib.ItoaLen
import Derived.Lib.AppendIntMem
import Derived.Lib.LaidTab
import Derived.Shelf.Small.Bits
import Derived.Shelf.Strconv.Itoa4
import Derived.Lib.SplitLaws
import Derived.Lib.IndexMore
import Derived.DataReads
import Derived.ChangeArms
import Derived.Sort.AssemblyPlain
import Derived.Shelf.GgSortFunc.InsertionK
set_option linter.unusedVariables false
set_option linter.unusedSimpArgs false
namespace Go.Sy
open Go.ChangeShapes Go.RowKit
section
variable {P:Program} {w:World} {r:Reach} {b:Nat} {t:TypeId} {v:Value}
theorem zVn {H:Type} {a:TypeId×Value->H} {P:Program} {t:TypeId} (j:laidOutB P=true) (k:P.readableRec t=true) (c:t<P.types.size) {W g:World} {v:Value} {d:DataW H} {ps:List MemPlace} {f:Nat->Bool}
  (h:DataW.Trod a P W 0 (λ _=>true) true t v d ps) (i:Kept W g) (e:∀x∈ps,x.block<W.heap.size) (l:∀x∈ps,f x.block=true):DataW.Trod a P g 0 f true t v d ps:=
 WideElems.Trod_stays j k c h (λ x m=>i.below.same (e x m)) l
end
end Go.Sy
namespace Go.Sy
open Go.ChangeShapes Go.RowKit
section
variable {P:Program} {w:World} {r:Reach} {b:Nat} {t u:TypeId} {v:Value} {E:Env}
def lets (s:ByteArray):List Nat:=s.data.toList.map UInt8.toNat
theorem VR.lets {s:ByteArray} (h:s.size<=ze):VR E w (.str (Sy.lets s)) (.string s):=.str _ s rfl (by
 have:(Sy.lets s).length=s.size:=by
  unfold Sy.lets;rw [QO,Array.length_toList];rfl
 omega)
theorem zRp {G:Cx} {f:FuncId} {fn:Func} {a:Code} (s:P.funcs[f]? = some fn) (m:fn.body=some a) (z:(fn.name == "runtime.NumGoroutine")=false) {g:List AV->Option AV}
  (h:∀args v,g args=some v->∀(E:Env) (w:World) (cargs:Array Value),HR E [] w->VRs E w args cargs.toList->GR G E w->Calls P f cargs w λ e w'=>∃cv,e=.returned cv/\Below w.heap.size w w'/\VR E w v cv) (i:∀args v,g args=some v->args.all (zA5 40)=true/\zA5 40 v=true) (y:zPG G):zRY P G f g:=by
 intro args v d;refine ⟨⟨fn,a,s,m,z⟩,zS2 y (i _ _ d).1 (i _ _ d).2 (n:=0) ?_⟩
 intro E w cargs j c o _;refine (h args v d E w cargs j c o).mono λ e w' q=>?_
 obtain ⟨cv,rfl,l,x⟩:=q;obtain ⟨k,A,p⟩:=zJW j l 0;exact ⟨cv,E,rfl,k,A,p x⟩
end
end Go.Sy
namespace Go.Sy
open Go.RowKit
section
variable {P:Program} {G:Cx} {E:Env} {w w':World} {H:Heap}
theorem zS9 {N:Nat} (g:HR E H w) (d:Below w.heap.size w w') (q:w.heap.size<=N) (l:N<w'.heap.size) (a:Nat):
  HR { E with Z:=λ b=>E.Z b\/b=N } H w'/\Tr E H w { E with Z:=λ b=>E.Z b\/b=N } H w' a a/\∀{v j},VR E w v j->VR { E with Z:=λ b=>E.Z b\/b=N } w' v j:=by
 have n:Shapes w w':=λ b c e f h=>⟨c,f,(d.block b (Array.getElem?_eq_some_iff.1 h).1).trans h,rfl⟩
 have m:∀{v j},VR E w v j->VR { E with Z:=λ b=>E.Z b\/b=N } w' v j:=λ s=>
  VR.mono (E:=E) (E':={ E with Z:=λ b=>E.Z b\/b=N }) (λ _ h=>⟨h,rfl⟩) (λ b h=>⟨.inl h,d.block b (g.we b h)⟩) n s
 refine ⟨⟨g.nodup,g.qC,g.inj,λ p i=>(g.obj p i).mono (d.block _ (g.lt i)) m,λ p i k=>?_,λ b h=>?_⟩,
  ⟨QA _,λ _ _=>rfl,λ h=>⟨.inl,λ h=>h.elim id λ⟨x,y⟩=>by omega⟩,λ _ h=>.inl h,λ x h=>?_,λ p i=>.inl ⟨p,i,rfl⟩,d.tape,d.os,d.output,d.size,λ x o _=>d.block x o,n,rfl⟩,m⟩
 ·rcases k with k | k
  ·exact g.nz p i k
  ·have:=g.lt i;have e:E.ρ p.1=N:=k;omega
 ·rcases h with h | h
  ·exact Qb (g.we b h) d.size
  ·rw [h];exact l
 ·rcases h with h | h
  ·exact .inl h
  ·exact .inr (.inr (by rw [h];exact q))
def decN (i:Nat):List Nat:=(Lib.decDigits i).map UInt8.toNat
def zOi:List AV->Option AV
 | [.int .i64 (.ofNat i)]=>match Nat.blt i 100 with
  | true=>some (.str (decN i))
  | false=>none
 | _=>none
theorem zVo {f:FuncId} {fn:Func} {j:Code} (q:P.funcs[f]? = some fn) (p:fn.body=some j) (x:(fn.name == "runtime.NumGoroutine")=false)
  (h0:∀(i:Nat) (k:i<100) (w:World),Calls P f #[.int .i64 i] w λ e w'=>e=.returned (.string ⟨(Lib.decDigits i).toArray⟩)/\w'=w) (s:zPG G):zRY P G f zOi:=by
 refine zRp q p x (λ args v a E w g A n y=>?_) (λ args v a=>?_) s
 ·unfold zOi at a;split at a
  rotate_left
  ·cases a
  rename_i i;split at a
  rotate_left
  ·cases a
  rename_i k;have k:i<100:=by simpa [Qm] using k
  cases a;obtain ⟨c,z,hc,l,d⟩:=n.of_cons;have o:=d.of_nil;subst o;have m:g=#[c]:=by apply Array.toList_inj.1;simpa using hc
  subst m;obtain ⟨rfl,_⟩:=l.of_int;refine (h0 i k w).mono λ e w' h=>?_
  obtain ⟨rfl,rfl⟩:=h;refine ⟨_,rfl,Below.refl _ _,.str _ _ (by simp [decN]) ?_⟩
  have:(Lib.decDigits i).length<=2:=by
   rw [Lib.decDigits];split
   ·simp
   ·rw [Lib.decDigits];split
    ·simp
    ·omega
  unfold decN ze;rw [QO];omega
 ·unfold zOi at a;split at a
  ·split at a
   ·cases a;exact ⟨rfl,rfl⟩
   ·cases a
  ·cases a
theorem zQ3 {g:Nat} {x:AV} {w:World} (m:GR G E w) (z:G.wJ g=some (.qf (.agg [x]) 0)):∃c,w.cell? ⟨g,0,none⟩=some c/\VR E w x c/\c.oneCell'=true:=by
 have:=(m g _ z).1;generalize d:Value.pointer (some ⟨g,0,none⟩)=D at this;cases this with
 | qf e off b o C s I h a=>
  have f:g=b/\0=o+0:=by
   have j:=Qg (Value.pointer.inj d);exact ⟨congrArg Addr.block j,congrArg Addr.off j⟩
  obtain ⟨f,F⟩:=f;obtain ⟨i,rfl,l,y⟩:=h.qW;obtain ⟨u,J,k,n,q⟩:=l.of_cons;have A:=q.of_nil;subst A;have p:i[0]? = some u:=by
   have:i.toList[0]? = some u:=by rw [k];rfl
   simpa using this
  have h8:=a 0 u (by simpa [Value.cells] using p)
  have B:o=0:=by omega
  subst B;exact ⟨u,by rw [f];exact h8,n,y u (by rw [k];exact .head _)⟩
theorem zQ4 {s:ByteArray}:(s.data.toList.map UInt8.toNat).map UInt8.ofNat=s.data.toList:=by
 rw [List.map_map];have:(UInt8.ofNat∘UInt8.toNat)=id:=by funext x;simp
 rw [this,List.map_id]
end
end Go.Sy
namespace Go.Sy
open Go.RowKit
section
variable {P:Program} {G:Cx} {E:Env} {w w':World} {H:Heap}
theorem zC6.qp {f:Nat} {g:List AV->Option AV} (h:zRY P G f g) (d:∀args v,(∀a∈args,PP a)->g args=some v->PP v):zC6 P G f g:=λ args v e c=>⟨(h args v c).1,d args v e c,(h args v c).2⟩
def idxG:List AV->Option AV
 | [.str s,.int .u8 c]=>some (.int .i64 (Lib.indexByte (s.map UInt8.ofNat) c.toNat.toUInt8))
 | _=>none
theorem zUd (c:UInt8) (l:List UInt8):Lib.indexByte l c<9223372036854775808\/9223372036854775808<=l.length:=by
 by_cases h:Lib.indexByte l c<0
 ·left;omega
 ·obtain ⟨o,a⟩:=Int.eq_ofNat_of_zero_le (show 0<=Lib.indexByte l c by omega)
  have:=(Lib.indexByte_some a).1;have:=(QD.1 this).1;omega
theorem zXO {f:FuncId} {fn:Func} {d:Code} (C:P.funcs[f]? = some fn) (B:fn.body=some d) (J:(fn.name == "runtime.NumGoroutine")=false)
  (h0:∀(s:ByteArray) (c:Int) (w:World),Calls P f #[.string s,.int .u8 c] w λ e w'=>e=.returned (.int .i64 (Lib.indexByte s.data.toList c.toNat.toUInt8))/\w'=w):zC6 P G f idxG:=by
 intro args v Q m;unfold idxG at m;split at m
 rotate_left
 ·cases m
 rename_i l c;cases m;refine ⟨⟨fn,d,C,B,J⟩,.int _ _,λ H F E w i D p M A=>?_⟩
 obtain ⟨y,O,hc,n,g⟩:=p.of_cons;obtain ⟨c2,K,q,j,a⟩:=g.of_cons;have x:=a.of_nil;subst x;have o:i=#[y,c2]:=by apply Array.toList_inj.1;rw [hc,q]
 subst o;obtain ⟨s,rfl,I,k⟩:∃s:ByteArray,y=.string s/\s.data.toList.map UInt8.toNat=l/\l.length<=ze:=by
  cases n with
  | str l z h k=>exact ⟨z,rfl,h,k⟩
 obtain ⟨rfl,_⟩:=j.of_int;subst I;rw [zQ4];refine (h0 s c w).mono λ e w' h=>?_
 obtain ⟨rfl,rfl⟩:=h;refine ⟨_,E,rfl,D,.refl F,.int _ _ ?_⟩
 have N:=Lib.indexByte_ge s.data.toList c.toNat.toUInt8;have L:=zUd c.toNat.toUInt8 s.data.toList;rw [QO] at k;unfold ze at k;unfold has;show -9223372036854775808<=_/\_<=9223372036854775807
 omega
theorem zWl {f:FuncId} {fn:Func} {c:Code} (d:P.funcs[f]? = some fn) (g:fn.body=some c) (j:(fn.name == "runtime.NumGoroutine")=false)
  (h0:∀(i:Nat) (k:i<100) (w:World),Calls P f #[.int .i64 i] w λ e w'=>e=.returned (.string ⟨(Lib.decDigits i).toArray⟩)/\w'=w) (h:zPG G):zC6 P G f zOi:=.qp (zVo d g j h0 h) λ args v _ a=>by
 unfold zOi at a;split at a
 ·split at a
  ·cases a;exact .str _
  ·cases a
 ·cases a
def fmtG:List AV->Option AV
 | [.int .i64 n,.int .i64 b]=>match b==10&&decide (-9223372036854775808<=n/\n<=9223372036854775807) with
  | true=>some (.str ((Lib.itoa n).map UInt8.toNat))
  | false=>none
 | _=>none
theorem zYO {n:String} {g:Nat} {a:List Int} {k:IntKind} (O:P.globalNamed n=some g) (Q:G.wJ g=some (.qf (.agg (a.map λ z=>.int k z)) 0)) (F:GR G E w):Lib.TabIs P w n k a:=by
 obtain ⟨D,N⟩:=F g _ Q;obtain ⟨c,t,e,A,s⟩:=N _ _ rfl;unfold Lib.TabIs World.var?;rw [O];show (match w.heap[g]? with | some (.cells J _ _)=>some J | _=>none)=_
 rw [A];refine congrArg some ?_
 generalize q:Value.pointer (some ⟨g,0,none⟩)=U at D;cases D with
 | qf e off b o T M W x l=>
  have R:g=b/\0=o+0:=by
   have B:=Qg (Value.pointer.inj q);exact ⟨congrArg Addr.block B,congrArg Addr.off B⟩
  obtain ⟨rfl,V⟩:=R;have S:o=0:=by omega
  subst S;obtain ⟨m,rfl,y,X⟩:=x.qW;have d:m.size=a.length:=by
   have:=y.1;simp at this;omega
  apply Array.ext
  ·rw [s];simp
  ·intro i h p;have f:i<a.length:=by simpa using p
   have j:m[i]? = some (.int k a[i]):=by
    have I:=(y.2 i (.int k a[i]) (m[i]'(by omega)) (by rw [Ql,QC f];rfl) (by simp [d,f]))
    have L:=I.of_int;rw [Qf (by omega)]
    exact congrArg some L.1
   have C:=l i (.int k a[i]) (by simpa [Value.cells] using j)
   have K:w.cell? ⟨g,0+i,none⟩=c[i]?:=by simp [World.cell?,A,QR]
   rw [K,Qf h] at C;have h8:=Qg C
   simpa using h8
theorem zXP {f:FuncId} {fn:Func} {d:Code} {g:Nat} (L:P.funcs[f]? = some fn) (I:fn.body=some d) (O:(fn.name == "runtime.NumGoroutine")=false)
  (A:P.globalNamed "internal/strconv.uint64pow10"=some g) (N:G.wJ g=some (.qf (.agg (Lib.pow10Tab.map λ z=>.int .u64 z)) 0))
  (h0:∀(n:Int) (h0:-9223372036854775808<=n) (h1:n<=9223372036854775807) (w:World) (C:Lib.TabIs P w "internal/strconv.uint64pow10" .u64 Lib.pow10Tab),Calls P f #[.int .i64 n,.int .i64 10] w λ e w'=>e=.returned (.string ⟨(Lib.itoa n).toArray⟩)/\∃k s,w'=Sort.grow (w.drewN k) s):zC6 P G f fmtG:=by
 intro args v V m;unfold fmtG at m;split at m
 rotate_left
 ·cases m
 rename_i n b;split at m
 rotate_left
 ·cases m
 rename_i i;cases m;rw [QB] at i;obtain rfl:b=10:=by simpa using i.1
 have a:=QS i.2;refine ⟨⟨fn,d,L,I,O⟩,.str _,λ H S E w l M x J F=>?_⟩
 obtain ⟨K,U,hc,p,j⟩:=x.of_cons;obtain ⟨c2,R,y,o,c⟩:=j.of_cons;have B:=c.of_nil;subst B;have q:l=#[K,c2]:=by apply Array.toList_inj.1;rw [hc,y]
 subst q;obtain ⟨rfl,_⟩:=p.of_int;obtain ⟨rfl,_⟩:=o.of_int;refine (h0 n a.1 a.2 w (zYO A N J)).mono λ e w' h=>?_
 obtain ⟨rfl,k,s,rfl⟩:=h;obtain ⟨D,Q,T⟩:=zJW M (Lib.below_grow _ _ (QA _) k s) S;refine ⟨_,E,rfl,D,Q,.str _ _ (by simp) ?_⟩
 have:=Lib.itoa_length_le n a.1 a.2;rw [QO];unfold ze;omega
theorem zQ5 (g:HR E H w) (d:Below w.heap.size w w') (a:Nat):
  HR { E with Z:=λ b=>E.Z b\/(w.heap.size<=b/\b<w'.heap.size) } H w'/\Tr E H w { E with Z:=λ b=>E.Z b\/(w.heap.size<=b/\b<w'.heap.size) } H w' a a/\∀{v j},VR E w v j->VR { E with Z:=λ b=>E.Z b\/(w.heap.size<=b/\b<w'.heap.size) } w' v j:=by
 have m:Shapes w w':=λ b c e f h=>⟨c,f,(d.block b (Array.getElem?_eq_some_iff.1 h).1).trans h,rfl⟩
 have l:∀{v j},VR E w v j->VR { E with Z:=λ b=>E.Z b\/(w.heap.size<=b/\b<w'.heap.size) } w' v j:=λ o=>
  VR.mono (E:=E) (E':={ E with Z:=λ b=>E.Z b\/(w.heap.size<=b/\b<w'.heap.size) }) (λ _ h=>⟨h,rfl⟩) (λ b h=>⟨.inl h,d.block b (g.we b h)⟩) m o
 refine ⟨⟨g.nodup,g.qC,g.inj,λ p i=>(g.obj p i).mono (d.block _ (g.lt i)) l,λ p i k=>?_,λ b h=>?_⟩,
  ⟨QA _,λ _ _=>rfl,λ h=>⟨.inl,λ h=>h.elim id λ⟨x,y⟩=>by omega⟩,λ _ h=>.inl h,λ x h=>?_,λ p i=>.inl ⟨p,i,rfl⟩,d.tape,d.os,d.output,d.size,λ x n _=>d.block x n,m,rfl⟩,l⟩
 ·rcases k with k | k
  ·exact g.nz p i k
  ·have:=g.lt i;have e:w.heap.size<=E.ρ p.1:=k.1;omega
 ·rcases h with h | h
  ·exact Qb (g.we b h) d.size
  ·exact h.2
 ·rcases h with h | h
  ·exact .inl h
  ·exact .inr (.inr h.1)
def zPW (T:Nat) (es er:AV):List AV->Option AV
 | [.str s,.int .i64 b,.int .i64 z]=>match Nat.ble s.length 281474976710656&&(b==10&&z==64) with
  | true=>match Lib.parseIntB 64 (s.map UInt8.ofNat) with
   | .ok v=>some (.qc [.int .i64 v,.qe])
   | .range=>some (.qc [.int .i64 (Lib.intSat 64 (s.map UInt8.ofNat)),.iface T (.qf (.agg [.str [80,97,114,115,101,73,110,116],.str s,er]) 0)])
   | _=>some (.qc [.int .i64 0,.iface T (.qf (.agg [.str [80,97,114,115,101,73,110,116],.str s,es]) 0)])
  | false=>none
 | _=>none
theorem zWm {f:FuncId} {fn:Func} {A:Code} {T gs gr ty ps pr:Nat} {es er:AV} (hf:P.funcs[f]? = some fn) (hb:fn.body=some A) (hn:(fn.name == "runtime.NumGoroutine")=false) (I:GPP G)
  (R:G.wJ gs=some (.qf (.agg [.iface ps es]) 0)) (Q:G.wJ gr=some (.qf (.agg [.iface pr er]) 0))
  (h0:∀(s:ByteArray) (az:s.size<=9223372036854775806) (v:Int) (h:Lib.parseIntB 64 s.data.toList=.ok v) (w:World),Calls P f #[.string s,.int .i64 10,.int .i64 64] w λ e w'=>e=.returned (.tuple #[.int .i64 v,.nilIface])/\Below w.heap.size w w')
  (h1:∀(s:ByteArray) (X:s.size<=281474976710656) (h:∀v,Lib.parseIntB 64 s.data.toList≠.ok v) (h':Lib.parseIntB 64 s.data.toList≠.range) (a:Value) (w:World) (d:w.cell? ⟨gs,0,none⟩=some a) (ar:a=.nilIface\/∃g W,a=.iface g W),
   Calls P f #[.string s,.int .i64 10,.int .i64 64] w λ e w'=>∃N,e=.returned (.tuple #[.int .i64 (0),.iface T (.pointer (some ⟨N,0,none⟩))])/\w.heap.size<=N/\w'.heap[N]? = some (.cells #[.string ⟨#[80,97,114,115,101,73,110,116]⟩,.string s,a] ty (0,0))/\Below w.heap.size w w')
  (h2:∀(s:ByteArray) (X:s.size<=281474976710656) (h:Lib.parseIntB 64 s.data.toList=.range) (a:Value) (w:World) (d:w.cell? ⟨gr,0,none⟩=some a) (ar:a=.nilIface\/∃g W,a=.iface g W),
   Calls P f #[.string s,.int .i64 10,.int .i64 64] w λ e w'=>∃N,e=.returned (.tuple #[.int .i64 (Lib.intSat 64 s.data.toList),.iface T (.pointer (some ⟨N,0,none⟩))])/\w.heap.size<=N/\w'.heap[N]? = some (.cells #[.string ⟨#[80,97,114,115,101,73,110,116]⟩,.string s,a] ty (0,0))/\Below w.heap.size w w'):zC6 P G f (zPW T (.iface ps es) (.iface pr er)):=by
 have ah:∀l,has .i64 (Lib.intSat 64 l):=λ l=>by unfold Lib.intSat has;split <;> decide
 have aw:PP (.iface ps es):=by
  have:=I gs _ R;cases this with
  | qf e off h=>cases h with
   | agg cs h=>exact h _ (.head _)
 have aq:PP (.iface pr er):=by
  have:=I gr _ Q;cases this with
  | qf e off h=>cases h with
   | agg cs h=>exact h _ (.head _)
 intro args v ha d;unfold zPW at d;split at d
 rotate_left
 ·cases d
 rename_i l b z;split at d
 rotate_left
 ·cases d
 rename_i p;simp only [QB] at p;obtain ⟨p,ao,ai⟩:=p;obtain rfl:b=10:=by simpa using ao
 obtain rfl:z=64:=by simpa using ai
 have ax:PP v:=by
  have V:∀{n:Int} {e:AV},PP e->PP (.qc [.int .i64 n,.iface T (.qf (.agg [.str [80,97,114,115,101,73,110,116],.str l,e]) 0)]):=λ he=>.qc _ λ x i=>by
   rcases QJ.1 i with rfl | i
   ·exact .int _ _
   ·rcases QJ.1 i with rfl | i
    ·refine .iface _ _ (.qf _ _ (.agg _ λ y C=>?_))
     rcases QJ.1 C with rfl | C
     ·exact .str _
     ·rcases QJ.1 C with rfl | C
      ·exact .str _
      ·rcases QJ.1 C with rfl | C
       ·exact he
       ·cases C
    ·cases i
  split at d
  ·cases d;exact .qc _ λ x i=>by
    rcases QJ.1 i with rfl | i
    ·exact .int _ _
    ·rcases QJ.1 i with rfl | i
     ·exact .qe
     ·cases i
  ·cases d;exact V aq
  ·cases d;exact V aw
 refine ⟨⟨fn,A,hf,hb,hn⟩,ax,λ H nx E w D hr al hg a6=>?_⟩
 obtain ⟨c,cr,hc,ak,B⟩:=al.of_cons;obtain ⟨c2,a1,ag,J,m⟩:=B.of_cons;obtain ⟨c3,a7,aj,U,o⟩:=m.of_cons;have ay:=o.of_nil;subst ay;have ab:D=#[c,c2,c3]:=by apply Array.toList_inj.1;rw [hc,ag,aj]
 subst ab;obtain ⟨rfl,_⟩:=J.of_int;obtain ⟨rfl,_⟩:=U.of_int;obtain ⟨s,rfl,hs,hl⟩:∃s:ByteArray,c=.string s/\s.data.toList.map UInt8.toNat=l/\l.length<=ze:=by
  cases ak with
  | str l s' h hl=>exact ⟨s',rfl,h,hl⟩
 subst hs;rw [zQ4] at d;have K:s.size<=281474976710656:=by
  have h3:=QM p;rw [QO,Array.length_toList] at h3;exact h3
 have q:∀{N:Nat} {w':World} {a:Value} {g:Nat} {x:AV} {num:Int},has .i64 num->VR E w (.iface g x) a->w.heap.size<=N->w'.heap[N]? = some (.cells #[.string ⟨#[80,97,114,115,101,73,110,116]⟩,.string s,a] ty (0,0))->Below w.heap.size w w' →
   ∃cv E',(Ending.returned (.tuple #[.int .i64 num,.iface T (.pointer (some ⟨N,0,none⟩))]):Ending)=.returned cv/\HR E' H w'/\Tr E H w E' H w' nx nx ∧
    VR E' w' (.qc [.int .i64 num,.iface T (.qf (.agg [.str [80,97,114,115,101,73,110,116],.str (s.data.toList.map UInt8.toNat),.iface g x]) 0)]) cv:=by
  intro N w' a g x num Y O hN k F;have af:=(Array.getElem?_eq_some_iff.1 k).1;obtain ⟨k1,k2,k3⟩:=zS9 hr F hN af nx;refine ⟨_,_,rfl,k1,k2,?_⟩
  have S:VR { E with Z:=λ b=>E.Z b\/b=N } w' (.agg [.str [80,97,114,115,101,73,110,116],.str (s.data.toList.map UInt8.toNat),.iface g x]) (.agg #[.string ⟨#[80,97,114,115,101,73,110,116]⟩,.string s,a]):=by
   refine VR.qR (.cons (.str _ _ rfl (by decide)) (.cons (.str _ _ rfl hl) (.cons (k3 O) .nil))) λ v d=>?_
   have h9:a.oneCell'=true:=O.wL rfl;have au:v=.string ⟨#[80,97,114,115,101,73,110,116]⟩\/v=.string s\/v=a:=by simpa using d
   rcases au with rfl | rfl | rfl
   ·rfl
   ·rfl
   ·exact h9
  refine VR.qJ (.cons (.int _ _ Y) (.cons (.iface _ _ _ ?_) .nil))
  have:=VR.qf (E:={ E with Z:=λ b=>E.Z b\/b=N }) (w:=w') _ 0 N 0 _ rfl (Or.inr rfl) S λ j c hj=>by
   have hj:(#[Value.string ⟨#[80,97,114,115,101,73,110,116]⟩,.string s,a])[j]? = some c:=hj;show w'.cell? ⟨N,0+j,none⟩=some c
   simp only [World.cell?,k,QR];exact hj
  exact this
 have M:∀{g:Nat} {x:AV} {a:Value},VR E w (.iface g x) a->a=.nilIface\/∃g W,a=.iface g W:=λ h=>by
  cases h with
  | iface t v cv h=>exact .inr ⟨_,_,rfl⟩
 split at d
 ·rename_i n L;cases d;refine (h0 s (by omega) n L w).mono λ e w' h=>?_
  obtain ⟨rfl,F⟩:=h;obtain ⟨k1,k2,k3⟩:=zJW hr F nx;have aa:=Lib.parseIntB_bounds L;exact ⟨_,E,rfl,k1,k2,VR.qJ (.cons (.int _ _ ⟨aa.1,Int.le_of_lt_add_one aa.2⟩) (.cons .qe .nil))⟩
 ·rename_i ac;cases d;obtain ⟨a,c1,c2,_⟩:=zQ3 hg Q;refine (h2 s K ac a w c1 (M c2)).mono λ e w' h=>?_
  obtain ⟨N,rfl,m1,m2,m3⟩:=h;exact q (ah _) c2 m1 m2 m3
 ·rename_i ae ad;cases d;obtain ⟨a,c1,c2,_⟩:=zQ3 hg R;refine (h1 s K (λ v e=>ae v e) (λ e=>ad e) a w c1 (M c2)).mono λ e w' h=>?_
  obtain ⟨N,rfl,m1,m2,m3⟩:=h;exact q (by unfold has;decide) c2 m1 m2 m3
end
end Go.Sy
namespace Go.Sy
open Go.RowKit
def cut1 (c:Nat):List Nat->List Nat×List Nat×Bool
 | []=>([],[],false)
 | x::r=>match Nat.beq x c with
  | true=>([],r,true)
  | false=>match cut1 c r with
   | (a,b,ok)=>(x::a,b,ok)
def zDP (c:Nat):List Nat->List (List Nat)
 | []=>[[]]
 | x::r=>match Nat.beq x c with
  | true=>[]::zDP c r
  | false=>match zDP c r with
   | h::t=>(x::h)::t
   | []=>[[x]]
def cutG:List AV->Option AV
 | [.str s,.str [c]]=>match Nat.blt s.length 4294967281&&Nat.blt c 256 with
  | true=>some (.qc [.str (cut1 c s).1,.str (cut1 c s).2.1,.bool (cut1 c s).2.2])
  | false=>none
 | _=>none
def zSm:List AV->Option AV
 | [.str s,.str [c]]=>match Nat.blt s.length 4294967281&&Nat.blt c 256 with
  | true=>some (.ql 1 ((zDP c s).map .str))
  | false=>none
 | _=>none
theorem zTu (a c:UInt8):Nat.beq a.toNat c.toNat=(a==c):=by
 by_cases h:a=c
 ·subst h;simp
 ·have:a.toNat≠c.toNat:=λ e=>h (UInt8.toNat_inj.1 e)
  have d:Nat.beq a.toNat c.toNat=false:=by
   cases hb:Nat.beq a.toNat c.toNat with
   | false=>rfl
   | true=>exact absurd (zb hb) this
  rw [d];simp [h]
theorem zJ8 (a c:UInt8) (r:List UInt8):Lib.index (a::r) [c]=if a=c then 0 else if Lib.index r [c]=-1 then -1 else Lib.index r [c]+1:=by
 rw [Lib.index];by_cases h:a=c
 ·subst h;simp [List.isPrefixOf]
 ·have:([c]:List UInt8).isPrefixOf (a::r)=false:=by simp [List.isPrefixOf,Ne.symm h]
  rw [this];simp [h]
theorem zTv (c:UInt8):∀s:List UInt8,cut1 c.toNat (s.map UInt8.toNat)=((Lib.cut s [c]).1.map UInt8.toNat,(Lib.cut s [c]).2.1.map UInt8.toNat,(Lib.cut s [c]).2.2)
 | []=>by simp [cut1,Lib.cut,Lib.index]
 | a::r=>by
  have k:=zTv c r;have e:=Lib.index_ge r [c];rw [Qd,cut1,zTu];by_cases h:a=c
  ·subst h;unfold Lib.cut;rw [zJ8];simp
  ·have l:(a==c)=false:=by simpa using h
   rw [l];simp only [k];unfold Lib.cut;rw [zJ8,if_neg h];by_cases d:Lib.index r [c]=-1
   ·rw [if_pos d,d];simp
   ·rw [if_neg d];obtain ⟨j,i⟩:∃j:Nat,Lib.index r [c]=j:=⟨(Lib.index r [c]).toNat,by omega⟩
    rw [i];have f:(0:Int)<=(j:Int):=by omega
    have m:(0:Int)<=(j:Int)+1:=by omega
    have g:((j:Int)+1).toNat=j+1:=by omega
    rw [if_pos f,if_pos m,g];simp
theorem zQ6 (c:UInt8):∀s:List UInt8,zDP c.toNat (s.map UInt8.toNat)=(Lib.splitK [c] 0 (s.count c) s).map (·.map UInt8.toNat)
 | []=>by simp [zDP,Lib.splitK]
 | a::r=>by
  have d:=zQ6 c r;have f:=Lib.index_ge r [c];rw [Qd,zDP,zTu];by_cases h:a=c
  ·subst h;have hc:(a::r).count a=r.count a+1:=by simp
   rw [hc,Lib.splitK,zJ8];simp [d]
  ·have i:(a==c)=false:=by simpa using h
   have hc:(a::r).count c=r.count c:=List.count_cons_of_ne (by simpa using h)
   rw [i,hc];simp only [d];cases hk:r.count c with
   | zero=>simp [Lib.splitK]
   | succ k=>
    have m:Lib.index r [c]≠-1:=λ e=>by
     have l:Lib.count r [c]=0:=Lib.count_miss e;rw [Lib.count_one] at l;omega
    obtain ⟨j,o⟩:∃j:Nat,Lib.index r [c]=j:=⟨(Lib.index r [c]).toNat,by omega⟩
    rw [Lib.splitK,Lib.splitK,zJ8,if_neg h,if_neg m,o];have n:((j:Int)+1).toNat=j+1:=by omega
    have p:¬((j:Int)+1==-1)=true:=by simp;omega
    have g:¬((j:Int)==-1)=true:=by simp
    rw [if_neg p,if_neg g,n];simp [Nat.add_right_comm]
theorem zQ7 (sep:List UInt8):∀(k:Nat) (s:List UInt8),∀x∈Lib.splitK sep 0 k s,x.length<=s.length
 | 0,s,x,h=>by
  rw [Qc.1 h];exact QA _
 | k+1,s,x,h=>by
  rw [Lib.splitK] at h;split at h
  ·rw [Qc.1 h];exact QA _
  ·rcases QJ.1 h with rfl | h
   ·rw [Qe];omega
   ·have:=zQ7 sep k _ x h;rw [Qk] at this;omega
section
variable {P:Program} {G:Cx} {E:Env} {w w':World} {H:Heap}
theorem zSn {g:Nat} {m:Int} (q:G.wJ g=some (.qf (.agg [.int .i64 m]) 0)) (l:GR G E w):w.cell? ⟨g,0,none⟩=some (.int .i64 m):=by
 obtain ⟨k,_⟩:=l g _ q;generalize d:Value.pointer (some ⟨g,0,none⟩)=A at k;cases k with
 | qf e off b o z p C f c=>
  have j:=Qg (Value.pointer.inj d);have x:g=b:=congrArg Addr.block j;have B:0=o+0:=congrArg Addr.off j;subst x;have y:o=0:=by omega
  subst y;obtain ⟨i,rfl,h,D⟩:=f.qW;have a:0<i.size:=by have:=h.1;simp at this;omega
  have n:=(h.2 0 (.int .i64 m) (i[0]'a) rfl (by simp [a])).of_int
  have s:=c 0 (.int .i64 m) (by simp only [Value.cells];rw [Qf a];exact congrArg some n.1)
  simpa using s
theorem zSo {cargs:Array Value} {s:List Nat} {c:Nat} (k:VRs E w [.str s,.str [c]] cargs.toList):∃(a:ByteArray) (u:UInt8),cargs=#[.string a,.string ⟨#[u]⟩]/\a.data.toList.map UInt8.toNat=s/\u.toNat=c/\s.length<=ze:=by
 obtain ⟨q,z,hc,i,e⟩:=k.of_cons;obtain ⟨c2,y,m,f,d⟩:=e.of_cons;have n:=d.of_nil;subst n;have j:cargs=#[q,c2]:=by apply Array.toList_inj.1;rw [hc,m]
 subst j;cases i with
 | str l a h x=>
  cases f with
  | str A b g p=>
   obtain ⟨⟨o⟩⟩:=b;have g:o.map UInt8.toNat=[c]:=g
   match o,g with
   | [u],g=>
    exact ⟨a,u,rfl,h,by simpa using g,x⟩
theorem zXQ {f:FuncId} {fn:Func} {o:Code} {g:Nat} {m:Int} (J:P.funcs[f]? = some fn) (F:fn.body=some o) (N:(fn.name == "runtime.NumGoroutine")=false) (O:G.wJ g=some (.qf (.agg [.int .i64 m]) 0))
  (h0:∀(s sep:ByteArray) (w:World) (R:s.size<4294967281) (hm:w.cell? ⟨g,0,none⟩=some (.int .i64 m)),Calls P f #[.string s,.string sep] w λ e w'=>e=.returned (.tuple #[.string ⟨(Lib.cut s.data.toList sep.data.toList).1.toArray⟩,.string ⟨(Lib.cut s.data.toList sep.data.toList).2.1.toArray⟩,.bool (Lib.cut s.data.toList sep.data.toList).2.2])/\∃n,w'=w.drewN n):zC6 P G f cutG:=by
 intro args v S d;unfold cutG at d;split at d
 rotate_left
 ·cases d
 rename_i s c;split at d
 rotate_left
 ·cases d
 rename_i p;rw [QB,Qm,Qm] at p;cases d;refine ⟨⟨fn,o,J,F,N⟩,.qc _ λ e B=>?_,λ H M E w A L z I D=>?_⟩
 ·simp only [QJ,List.not_mem_nil,or_false] at B;rcases B with rfl | rfl | rfl
  ·exact .str _
  ·exact .str _
  ·exact .bool _
 obtain ⟨a,u,rfl,rfl,rfl,K⟩:=zSo z;rw [QO] at p;refine (h0 a ⟨#[u]⟩ w (by show a.data.size<_;rw [←Array.length_toList];exact p.1) (zSn O I)).mono λ e w' h=>?_
 obtain ⟨rfl,k,rfl⟩:=h;rw [zTv];have y:(Lib.cut a.data.toList [u]).1.length<=a.data.toList.length/\(Lib.cut a.data.toList [u]).2.1.length<=a.data.toList.length:=by
  unfold Lib.cut;split
  ·exact ⟨by rw [Qe];omega,by rw [Qk];omega⟩
  ·exact ⟨QA _,QP _⟩
 obtain ⟨C,Q,_⟩:=zJW L (w':=w.drewN k) ⟨rfl,rfl,rfl,QA _,λ _ _=>rfl⟩ M
 refine ⟨_,E,rfl,C,Q,?_⟩
 have q:∀l:List UInt8,l.length<=a.data.toList.length->(l.map UInt8.toNat).length<=ze:=λ l h=>by rw [QO];rw [QO] at K;omega
 refine .qc _ _ rfl λ i x v j d=>?_
 match i,j,d with
 | 0,j,d=>cases j;cases d;exact .str _ _ rfl (q _ y.1)
 | 1,j,d=>cases j;cases d;exact .str _ _ rfl (q _ y.2)
 | 2,j,d=>cases j;cases d;exact .bool _
 | i+3,j,_=>simp at j
theorem zVp {f:FuncId} {fn:Func} {p:Code} {g:Nat} {m:Int} {ty:TypeId} (V:P.funcs[f]? = some fn) (T:fn.body=some p) (Y:(fn.name == "runtime.NumGoroutine")=false) (hG:G.wJ g=some (.qf (.agg [.int .i64 m]) 0))
  (h0:∀(s sep:ByteArray) (w:World) (hs:s.size<4294967281) (hm:w.cell? ⟨g,0,none⟩=some (.int .i64 m)) (h1:1<=sep.size),Calls P f #[.string s,.string sep] w λ e w'=>
   e=.returned (.slice (some ⟨w.heap.size,0,none⟩) (Lib.countB s sep+1) (Lib.countB s sep+1))/\w'=w.alloc (.cells ((Lib.splitB sep 0 (Lib.countB s sep) s).map Value.string).toArray ty)):zC6 P G f zSm:=by
 intro args v ha y;unfold zSm at y;split at y
 rotate_left
 ·cases y
 rename_i s c;split at y
 rotate_left
 ·cases y
 rename_i q;rw [QB,Qm,Qm] at q;cases y;refine ⟨⟨fn,p,V,T,Y⟩,.ql _ _ λ e k=>?_,λ H nx E w M X J U R=>?_⟩
 ·obtain ⟨l,_,rfl⟩:=Qo.1 k;exact .str _
 obtain ⟨a,u,rfl,rfl,rfl,W⟩:=zSo J;rw [QO] at q;have K:a.size<4294967281:=by show a.data.size<_;rw [←Array.length_toList];exact q.1
 refine (h0 a ⟨#[u]⟩ w K (zSn hG U) (QA _)).mono λ e w' h=>?_
 obtain ⟨rfl,rfl⟩:=h;have ab:=Lib.countB_le ⟨#[u]⟩ (QA _) a.size a (QA _);have A:=Lib.splitB_all ⟨#[u]⟩ (QA _) 0 _ a rfl;have n:=Lib.splitB_data ⟨#[u]⟩ 0 (Lib.countB a ⟨#[u]⟩) a;have z:Lib.countB a ⟨#[u]⟩=a.data.toList.count u:=Lib.count_one u _;generalize aa:Lib.splitB ⟨#[u]⟩ 0 (Lib.countB a ⟨#[u]⟩) a=d at *;have B:(zDP u.toNat (a.data.toList.map UInt8.toNat)).map AV.str=d.map λ x=>AV.str (x.data.toList.map UInt8.toNat):=by
  rw [zQ6,←z,←n,List.map_map,List.map_map];rfl
 rw [B];have D:Below w.heap.size w (w.alloc (.cells (d.map Value.string).toArray ty)):=(Below.refl _ _).alloc (QA _) _;obtain ⟨Q,k2,_⟩:=zQ5 X D nx;refine ⟨_,_,rfl,Q,k2,?_⟩
 have F:(w.alloc (.cells (d.map Value.string).toArray ty)).heap[w.heap.size]? = some (.cells (d.map Value.string).toArray ty (0,0)):=by
  show (w.heap.push _)[w.heap.size]? = _
  simp
 have I:∀(i:Nat) x,d[i]? = some x->(x.data.toList.map UInt8.toNat).length<=ze:=λ i x o=>by
  have hm:x.data.toList∈Lib.splitK [u] 0 (Lib.countB a ⟨#[u]⟩) a.data.toList:=by
   have h1:x.data.toList∈d.map (·.data.toList):=List.mem_map_of_mem (QE o);rw [n] at h1;exact h1
  have:=zQ7 [u] _ _ _ hm;rw [QO] at W ⊢;omega
 have C:(d.map λ x=>AV.str (x.data.toList.map UInt8.toNat)).length=Lib.countB a ⟨#[u]⟩+1:=by rw [QO,A]
 rw [←C];refine .ql _ w.heap.size 0 _ 1 (λ i=>.string (d.getD i ByteArray.empty)) (.inr ⟨QA _,by show _<(w.heap.push _).size;simp⟩) (QA _) (by rw [C];unfold ze;omega) (λ i e k=>?_) (λ i e k=>?_) λ i N=>?_
 ·rw [Ql] at k;cases o:d[i]? with
  | none=>rw [o] at k;cases k
  | some x=>rw [o] at k;cases k;rfl
 ·rw [Ql] at k;cases o:d[i]? with
  | none=>rw [o] at k;cases k
  | some x=>
   rw [o] at k;cases k;have:d.getD i ByteArray.empty=x:=by rw [List.getD_eq_getElem?_getD,o];rfl
   rw [this];exact .str _ _ rfl (I i x o)
 ·rw [QO] at N;refine ⟨rfl,λ j S O=>?_⟩
  have L:j=0:=by
   have:=(Array.getElem?_eq_some_iff.1 O).1;simp [Value.cells] at this;omega
  subst L;have hc:S=.string (d.getD i ByteArray.empty):=by simpa [Value.cells] using O.symm
  subst hc;have e1:(w.alloc (.cells (d.map Value.string).toArray ty)).cell? ⟨w.heap.size,0+i*1+0,none⟩=(d.map Value.string).toArray[0+i*1+0]?:=by
   unfold World.cell?;rw [F];rfl
  rw [e1];simp [N,List.getD_eq_getElem?_getD]
end
end Go.Sy
namespace Go.Sy
open Go.RowKit
def zUe:List AV->Option AV
 | [.ql c a,.str sep]=>zPF [.ql c a,.str sep] []
 | _=>none
section
variable {P:Program} {G:Cx}
theorem zWn {f:FuncId} {fn:Func} {d:Code} (B:P.funcs[f]? = some fn) (s:fn.body=some d) (F:(fn.name == "runtime.NumGoroutine")=false)
  (h0:∀(a:Option Addr) (c:Nat) (sep:ByteArray) (w:World),Calls P f #[.slice a 0 c,.string sep] w λ e w'=>e=.returned (.string ⟨#[]⟩)/\w'=w)
  (h1:∀(m o c:Nat) (xs:List ByteArray) (sep:ByteArray) (w:World),(∀(j:Nat) x,xs[j]? = some x->w.cell? ⟨m,o+j,none⟩=some (.string x))->m<w.heap.size->xs.length<=140737488355328->xs.length<=c →
   (Lib.join (xs.map (·.data.toList)) sep.data.toList).length<=140737488355328 →
   Calls P f #[.slice (some ⟨m,o,none⟩) xs.length c,.string sep] w λ e w'=>e=.returned (.string ⟨(Lib.join (xs.map (·.data.toList)) sep.data.toList).toArray⟩)/\Below w.heap.size w w'):zC6 P G f zUe:=by
 intro args v M g;unfold zUe at g;split at g
 rotate_left
 ·cases g
 rename_i C D sep;refine ⟨⟨fn,d,B,s,F⟩,?_,λ H K E w h n l L q=>?_⟩
 ·unfold zPF at g
  repeat' split at g
  all_goals first | (cases g;exact .str _) | (cases g;done)
 ·have k:zPF [.ql C D,.str sep] H=some v:=g;refine (zT3 h0 h1 _ H v k E w h n l).mono λ e w' ⟨y,J,i,A⟩=>?_
  obtain ⟨p,I,z⟩:=zQ5 n i K;exact ⟨y,_,J,p,I,z A⟩
end
end Go.Sy
namespace Go.Sy
open Go.RowKit
theorem zUf {P:Program} {g t u:Nat} {zero:Array Value} {W:World} {m:Int} (h:W.ShapedOpen P) (o:g<P.globals.size) (h0:((begin P (λ _ _=>0) default).world.heap[g]?).bind Obj.row? = some (zero,t)) (q:zero.size=1) (n:P.buildable t=true)
  (s:P.cellTypes P.depth t=some [u]) (p:P.underlying u=some (.int .i64)) (hm:W.cell? ⟨g,0,none⟩=some (.int .i64 m)):(∃c t e,W.heap[g]? = some (.cells c t e)/\c.size=1)/\has .i64 m:=by
 obtain ⟨k,d,j,f⟩:=h.1 g zero t o h0;obtain ⟨z,l,_,x⟩:=f n;rw [s] at l;cases l;have hc:k[0]? = some (.int .i64 m):=by
  simpa [World.cell?,d] using hm
 obtain ⟨v,y,a⟩:=x 0 _ hc;have i:v=u:=by simpa using y.symm
 subst i;unfold Cell.ok at a;rw [p] at a;exact ⟨⟨k,_,_,d,by rw [←q];exact j⟩,a.2⟩
theorem TabOK.at {P:Program} {G:Cx} {f:Nat} {g:List AV->Option AV} {a:TbF} {th:TbH} (h:TabOK P G ((f,g)::a) th):zC6 P G f g:=λ args v d c=>h.v _ (.head _) args v d c
end Go.Sy
