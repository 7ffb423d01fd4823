/- A LIBRARY: WHAT A FUNCTION'S CODE RECKONS, AS A LEAN FUNCTION, AND THAT ITS WORD IS THE MODEL'S: part 6 of 6. No condition. -/
import Derived.Test.YtjfcepbllmdfcaaGreatDoorFxE
import Derived.Carry
import Derived.WideShapes
import Derived.Lib.AtoiAll
import Derived.Lib.ItoaNum
import Derived.Lib.Bytealg
import Derived.Lib.IndexLaws
import Derived.Lib.ParseIntBTie
import Derived.Lib.ItoaLen
import Derived.Lib.AppendIntMem
import Derived.Lib.LaidTab
import Derived.Shelf.Small.Bits
import Derived.Shelf.Strconv.Itoa4
import Derived.Lib.AtoiAllCases
import Derived.Lib.SplitLaws
import Derived.Lib.IndexMore
import Derived.DataReads
import Derived.ChangeArms
import Derived.Sort.AssemblyPlain
import Derived.Shelf.GgSortFunc.InsertionK
set_option linter.unusedVariables false
set_option linter.unusedSimpArgs false
namespace Go.Sy
open Go.ChangeShapes Go.RowKit
section
variable{P:Program}{w:World}{r:Reach}{b:Nat}{t:TypeId}{v:Value}
theorem zXK(h:Cell.ok P w r b t v):v.oneCell'=true:=by
 unfold Cell.ok at h;split at h<;>first|rfl|exact h.elim
theorem zS8(h:Cell.okWide P w r b t v):v.oneCell'=true:=by
 unfold Cell.okWide at h;split at h<;>first|rfl|exact zXK h
theorem zXL{P:Program}{w:World}{r:Reach}{b:Nat}{t:TypeId}{v:Value}(h:Value.okWide P w r b t v)(d:∀a,P.underlying t≠some (.struct a))(c:∀n e,P.underlying t≠some (.array n e)):v.oneCell'=true:=by
 unfold Value.okWide at h;split at h
 .rename_i a e;exact absurd e (d a)
 .rename_i n x e;exact absurd e (c n x)
 .exact zS8 h
theorem zT2{H:Type}{enc:TypeId×Value->H}{P:Program}{t:TypeId}(g:laidOutB P=true)(i:P.readableRec t=true)(a:t<P.types.size){W f:World}{v:Value}{d:DataW H}{c:List MemPlace}{sp:Nat->Bool}
  (h:DataW.Trod enc P W 0 (λ_=>true) true t v d c) (hb:Kept W f) (e:∀x∈c,x.block<W.heap.size) (j:∀x∈c,sp x.block=true):DataW.Trod enc P f 0 sp true t v d c:=
 WideElems.Trod_stays g i a h (λx k=>hb.below.same (e x k)) j
end
section
variable{P:Program}{w:World}{r:Reach}{b:Nat}{t u:TypeId}{v:Value}{E:Env}
def lets(s:ByteArray):JV:=s.data.toList.map UInt8.toNat
theorem VR.lets{s:ByteArray}(h:s.size<=zh):VR E w (.str (Sy.lets s)) (.string s):=.str _ s rfl (by
 have:(Sy.lets s).length=s.size:=by
  unfold Sy.lets;rw[QG,Array.length_toList];rfl
 omega)
theorem zcE{s:ByteArray}:∀b∈lets s,b<256:=by
 intro b hb;obtain⟨x,_,rfl⟩:=QR.1 hb;exact UInt8.toNat_lt x
theorem zUj {G:Cx} {f:FuncId} {fn:Func} {a:Code} (o:P.funcs[f]?=some fn) (hb:fn.body=some a) (q:(fn.name == "runtime.NumGoroutine")=false) {g:JE->JF}
  (h:∀args v,g args=some v->∀(E:Env)(w:World)(cargs:JB),HR E [] w->VRs E w args cargs.toList->GR G E w->Calls P f cargs w λe w'=>∃cv,e=.returned cv/\Below w.heap.size w w'/\VR E w v cv) (i:∀args v,g args=some v->args.all (zAF 40)=true/\zAF 40 v=true) (p:zSk G):zU0 P G f g:=by
 intro args v d;refine⟨⟨fn,a,o,hb,q⟩,zWg p (i _ _ d).1 (i _ _ d).2 (n:=0) ?_⟩
 intro E w cargs j c l _;refine(h args v d E w cargs j c l).mono λe w' h1=>?_
 obtain⟨cv,rfl,h2,h3⟩:=h1;obtain⟨k,s,m⟩:=zIn j h2 0;exact⟨cv,E,rfl,k,s,m h3⟩
end
end Go.Sy
namespace Go.Sy
open Go.RowKit
section
variable{P:Program}{G:Cx}{E:Env}{w w':World}{H:Heap}
theorem zQ7{N:Nat}(d:HR E H w)(hb:Below w.heap.size w w')(o:w.heap.size<=N)(k:N<w'.heap.size)(a:Nat):
  HR { E with Z:=λb=>E.Z b\/b=N } H w'/\Tr E H w { E with Z:=λb=>E.Z b\/b=N } H w' a a/\∀{v i},VR E w v i->VR { E with Z:=λb=>E.Z b\/b=N } w' v i:=by
 have m:zAw w w':=λb c e f h=>⟨c,f,(hb.block b (Array.getElem?_eq_some_iff.1 h).1).trans h,rfl⟩
 have l:∀{v i},VR E w v i->VR { E with Z:=λb=>E.Z b\/b=N } w' v i:=λq=>
  VR.mono (E:=E) (E':={ E with Z:=λb=>E.Z b\/b=N }) (λ_ h=>⟨h,rfl⟩) (λb h=>⟨.inl h,hb.block b (d.wi b h)⟩) m q
 refine⟨⟨d.nodup,d.qy,d.inj,λp g=>(d.obj p g).mono (hb.block _ (d.lt g)) l,λp g j=>?_,λb h=>?_⟩,
  ⟨QB _,λ_ _=>rfl,λh=>⟨.inl,λh=>h.elim id λ⟨x,y⟩=>by omega⟩,λ_ h=>.inl h,λx h=>?_,λp g=>.inl ⟨p,g,rfl⟩,hb.tape,hb.os,hb.output,hb.size,λx n _=>hb.block x n,m,rfl⟩,l⟩
 .rcases j with j|j
  .exact d.nz p g j
  .have:=d.lt g;have e:E.ρ p.1=N:=j;omega
 .rcases h with h|h
  .exact QW (d.wi b h) hb.size
  .rw[h];exact k
 .rcases h with h|h
  .exact .inl h
  .exact .inr (.inr (by rw[h];exact o))
def zRU(i:Nat):JV:=(Lib.decDigits i).map UInt8.toNat
def zL3:JE->JF
 |[.int .i64 (.ofNat i)]=>match Nat.blt i 100 with
  |true=>some (.str (zRU i))
  |false=>none
 |_=>none
theorem zZo {f:FuncId} {fn:Func} {j:Code} (p:P.funcs[f]?=some fn) (hb:fn.body=some j) (s:(fn.name == "runtime.NumGoroutine")=false)
  (o:∀(i:Nat)(hi:i<100)(w:World),Calls P f #[.int .i64 i] w λe w'=>e=.returned (.string ⟨(Lib.decDigits i).toArray⟩)/\w'=w) (q:zSk G):zU0 P G f zL3:=by
 refine zUj p hb s (λargs v a E w g z m x=>?_) (λargs v a=>?_) q
 .unfold zL3 at a;split at a
  rotate_left
  .cases a
  rename_i i;split at a
  rotate_left
  .cases a
  rename_i hi;have hi:i<100:=by simpa[Qi]using hi
  cases a;obtain⟨c,y,hc,k,d⟩:=m.of_cons;have n:=d.of_nil;subst n;have l:g=#[c]:=by apply Array.toList_inj.1;simpa using hc
  subst l;obtain⟨rfl,_⟩:=k.of_int;refine(o i hi w).mono λe w' h=>?_
  obtain⟨rfl,rfl⟩:=h;refine⟨_,rfl,Below.refl _ _,.str _ _ (by simp[zRU]) ?_⟩
  have:(Lib.decDigits i).length<=2:=by
   rw[Lib.decDigits];split
   .simp
   .rw[Lib.decDigits];split
    .simp
    .omega
  unfold zRU zh;rw[QG];omega
 .unfold zL3 at a;split at a
  .split at a
   .cases a;exact⟨rfl,rfl⟩
   .cases a
  .cases a
theorem zL4{g:Nat}{x:AV}{w:World}(j:GR G E w)(n:G.wN g=some (.qc (.agg [x]) 0)):∃c,w.cell? ⟨g,0,none⟩=some c/\VR E w x c/\c.oneCell'=true:=by
 have:=(j g _ n).1;generalize d:Value.pointer (some ⟨g,0,none⟩)=y at this;cases this with
 |qc e off b o s m A h a=>
  have f:g=b/\0=o+0:=by
   have h1:=Qt (Value.pointer.inj d);exact⟨congrArg Addr.block h1,congrArg Addr.off h1⟩
  obtain⟨f,z⟩:=f;obtain⟨i,rfl,h2,h3⟩:=h.qY;obtain⟨u,C,hu,h4,l⟩:=h2.of_cons;have p:=l.of_nil;subst p;have k:i[0]?=some u:=by
   have:i.toList[0]?=some u:=by rw[hu];rfl
   simpa using this
  have h8:=a 0 u (by simpa[Value.cells]using k)
  have q:o=0:=by omega
  subst q;exact⟨u,by rw[f];exact h8,h4,h3 u (by rw[hu];exact .head _)⟩
theorem zPB{s:ByteArray}:(s.data.toList.map UInt8.toNat).map UInt8.ofNat=s.data.toList:=by
 rw[List.map_map];have:(UInt8.ofNat∘UInt8.toNat)=id:=by funext x;simp
 rw[this,List.map_id]
end
section
variable{P:Program}{G:Cx}{E:Env}{w w':World}{H:Heap}
theorem zB4.qq{f:Nat}{g:JE->JF}(h:zU0 P G f g)(d:∀args v,(∀a∈args,PP a)->g args=some v->PP v):zB4 P G f g:=λargs v e c=>⟨(h args v c).1,d args v e c,(h args v c).2⟩
def zbA:JE->JF
 |[.str s,.int .u8 c]=>some (.int .i64 (Lib.indexByte (s.map UInt8.ofNat) c.toNat.toUInt8))
 |_=>none
theorem zXM(c:UInt8)(l:List UInt8):Lib.indexByte l c<9223372036854775808\/9223372036854775808<=l.length:=by
 by_cases h:Lib.indexByte l c<0
 .left;omega
 .obtain⟨o,a⟩:=Int.eq_ofNat_of_zero_le (show 0<=Lib.indexByte l c by omega)
  have:=(Lib.indexByte_some a).1;have:=(QC.1 this).1;omega
theorem zcF {f:FuncId} {fn:Func} {d:Code} (D:P.funcs[f]?=some fn) (hb:fn.body=some d) (K:(fn.name == "runtime.NumGoroutine")=false)
  (C:∀(s:ByteArray)(c:Int)(w:World),Calls P f #[.string s,.int .u8 c] w λe w'=>e=.returned (.int .i64 (Lib.indexByte s.data.toList c.toNat.toUInt8))/\w'=w):zB4 P G f zbA:=by
 intro args v R m;unfold zbA at m;split at m
 rotate_left
 .cases m
 rename_i l c;cases m;refine⟨⟨fn,d,D,hb,K⟩,.int _ _,λH I E w i F p O A=>?_⟩
 obtain⟨y,Q,hc,n,g⟩:=p.of_cons;obtain⟨c2,L,q,j,a⟩:=g.of_cons;have x:=a.of_nil;subst x;have o:i=#[y,c2]:=by apply Array.toList_inj.1;rw[hc,q]
 subst o;obtain⟨s,rfl,J,k⟩:∃s:ByteArray,y=.string s/\s.data.toList.map UInt8.toNat=l/\l.length<=zh:=by
  cases n with
  |str l z h k=>exact⟨z,rfl,h,k⟩
 obtain⟨rfl,_⟩:=j.of_int;subst J;rw[zPB];refine(C s c w).mono λe w' h=>?_
 obtain⟨rfl,rfl⟩:=h;refine⟨_,E,rfl,F,.refl I,.int _ _ ?_⟩
 have h1:=Lib.indexByte_ge s.data.toList c.toNat.toUInt8;have h2:=zXM c.toNat.toUInt8 s.data.toList;rw[QG]at k;unfold zh at k;unfold has;show -9223372036854775808<=_/\_<=9223372036854775807
 omega
theorem zaH {f:FuncId} {fn:Func} {c:Code} (d:P.funcs[f]?=some fn) (hb:fn.body=some c) (j:(fn.name == "runtime.NumGoroutine")=false)
  (g:∀(i:Nat)(hi:i<100)(w:World),Calls P f #[.int .i64 i] w λe w'=>e=.returned (.string ⟨(Lib.decDigits i).toArray⟩)/\w'=w) (h:zSk G):zB4 P G f zL3:=.qq (zZo d hb j g h) λargs v _ a=>by
 unfold zL3 at a;split at a
 .split at a
  .cases a;exact .str _
  .cases a
 .cases a
def fmtG:JE->JF
 |[.int .i64 n,.int .i64 b]=>match b==10&&decide (-9223372036854775808<=n/\n<=9223372036854775807)with
  |true=>some (.str ((Lib.itoa n).map UInt8.toNat))
  |false=>none
 |_=>none
theorem zep{n:String}{g:Nat}{a:List Int}{k:IntKind}(L:P.globalNamed n=some g)(O:G.wN g=some (.qc (.agg (a.map λz=>.int k z)) 0))(C:GR G E w):Lib.TabIs P w n k a:=by
 obtain⟨A,K⟩:=C g _ O;obtain⟨c,t,e,hb,s⟩:=K _ _ rfl;unfold Lib.TabIs World.var?;rw[L];show(match w.heap[g]? with|some (.cells D _ _)=>some D|_=>none)=_
 rw[hb];refine congrArg some ?_
 generalize q:Value.pointer (some ⟨g,0,none⟩)=T at A;cases A with
 |qc e off b o S J V x l=>
  have Q:g=b/\0=o+0:=by
   have h1:=Qt (Value.pointer.inj q);exact⟨congrArg Addr.block h1,congrArg Addr.off h1⟩
  obtain⟨rfl,U⟩:=Q;have R:o=0:=by omega
  subst R;obtain⟨m,rfl,h2,h3⟩:=x.qY;have d:m.size=a.length:=by
   have:=h2.1;simp at this;omega
  apply Array.ext
  .rw[s];simp
  .intro i h p;have f:i<a.length:=by simpa using p
   have j:m[i]?=some (.int k a[i]):=by
    have h4:=(h2.2 i (.int k a[i]) (m[i]'(by omega)) (by rw[Qb,QD f];rfl) (by simp[d,f]))
    have I:=h4.of_int;rw[Qf (by omega)]
    exact congrArg some I.1
   have y:=l i (.int k a[i]) (by simpa[Value.cells]using j)
   have F:w.cell? ⟨g,0+i,none⟩=c[i]?:=by simp[World.cell?,hb,Qa]
   rw[F,Qf h]at y;have h8:=Qt y
   simpa using h8
theorem zcG {f:FuncId} {fn:Func} {d:Code} {g:Nat} (L:P.funcs[f]?=some fn) (hb:fn.body=some d) (R:(fn.name == "runtime.NumGoroutine")=false)
  (y:P.globalNamed "internal/strconv.uint64pow10"=some g) (Q:G.wN g=some (.qc (.agg (Lib.pow10Tab.map λz=>.int .u64 z)) 0))
  (D:∀(n:Int)(D:-9223372036854775808<=n)(h1:n<=9223372036854775807)(w:World) (C:Lib.TabIs P w "internal/strconv.uint64pow10" .u64 Lib.pow10Tab),Calls P f #[.int .i64 n,.int .i64 10] w λe w'=>e=.returned (.string ⟨(Lib.itoa n).toArray⟩)/\∃k q,w'=Sort.grow (w.drewN k) q):zB4 P G f fmtG:=by
 intro args v Y l;unfold fmtG at l;split at l
 rotate_left
 .cases l
 rename_i n b;split at l
 rotate_left
 .cases l
 rename_i we;cases l;rw[QA]at we;obtain rfl:b=10:=by simpa using we.1
 have a:=Qm we.2;refine⟨⟨fn,d,L,hb,R⟩,.str _,λH U E w j O s J I=>?_⟩
 obtain⟨K,X,hc,o,i⟩:=s.of_cons;obtain⟨c2,T,x,m,c⟩:=i.of_cons;have A:=c.of_nil;subst A;have p:j=#[K,c2]:=by apply Array.toList_inj.1;rw[hc,x]
 subst p;obtain⟨rfl,_⟩:=o.of_int;obtain⟨rfl,_⟩:=m.of_int;refine(D n a.1 a.2 w (zep y Q J)).mono λe w' h=>?_
 obtain⟨rfl,k,q,rfl⟩:=h;obtain⟨F,S,V⟩:=zIn O (Lib.below_grow _ _ (QB _) k q) U;refine⟨_,E,rfl,F,S,.str _ _ (by simp) ?_⟩
 have:=Lib.itoa_length_le n a.1 a.2;rw[QG];unfold zh;omega
theorem zT3(d:HR E H w)(hb:Below w.heap.size w w')(a:Nat):
  HR { E with Z:=λb=>E.Z b\/(w.heap.size<=b/\b<w'.heap.size) } H w'/\Tr E H w { E with Z:=λb=>E.Z b\/(w.heap.size<=b/\b<w'.heap.size) } H w' a a/\∀{v i},VR E w v i->VR { E with Z:=λb=>E.Z b\/(w.heap.size<=b/\b<w'.heap.size) } w' v i:=by
 have l:zAw w w':=λb c e f h=>⟨c,f,(hb.block b (Array.getElem?_eq_some_iff.1 h).1).trans h,rfl⟩
 have k:∀{v i},VR E w v i->VR { E with Z:=λb=>E.Z b\/(w.heap.size<=b/\b<w'.heap.size) } w' v i:=λn=>
  VR.mono (E:=E) (E':={ E with Z:=λb=>E.Z b\/(w.heap.size<=b/\b<w'.heap.size) }) (λ_ h=>⟨h,rfl⟩) (λb h=>⟨.inl h,hb.block b (d.wi b h)⟩) l n
 refine⟨⟨d.nodup,d.qy,d.inj,λp g=>(d.obj p g).mono (hb.block _ (d.lt g)) k,λp g j=>?_,λb h=>?_⟩,
  ⟨QB _,λ_ _=>rfl,λh=>⟨.inl,λh=>h.elim id λ⟨x,y⟩=>by omega⟩,λ_ h=>.inl h,λx h=>?_,λp g=>.inl ⟨p,g,rfl⟩,hb.tape,hb.os,hb.output,hb.size,λx m _=>hb.block x m,l,rfl⟩,k⟩
 .rcases j with j|j
  .exact d.nz p g j
  .have:=d.lt g;have e:w.heap.size<=E.ρ p.1:=j.1;omega
 .rcases h with h|h
  .exact QW (d.wi b h) hb.size
  .exact h.2
 .rcases h with h|h
  .exact .inl h
  .exact .inr (.inr h.1)
def zUA(T:Nat)(es er:AV):JE->JF
 |[.str s,.int .i64 b,.int .i64 z]=>match Nat.ble s.length 281474976710656&&(b==10&&z==64)with
  |true=>match Lib.parseIntB 64 (s.map UInt8.ofNat)with
   |.ok v=>some (.qd [.int .i64 v,.qe])
   |.range=>some (.qd [.int .i64 (Lib.intSat 64 (s.map UInt8.ofNat)),.iface T (.qc (.agg [.str [80,97,114,115,101,73,110,116],.str s,er]) 0)])
   |_=>some (.qd [.int .i64 0,.iface T (.qc (.agg [.str [80,97,114,115,101,73,110,116],.str s,es]) 0)])
  |false=>none
 |_=>none
theorem zaI {f:FuncId} {fn:Func} {A:Code} {T gs gr ty ps pr:Nat} {es er:AV} (hf:P.funcs[f]?=some fn) (hb:fn.body=some A) (hn:(fn.name == "runtime.NumGoroutine")=false) (J:GPP G)
  (U:G.wN gs=some (.qc (.agg [.iface ps es]) 0)) (S:G.wN gr=some (.qc (.agg [.iface pr er]) 0))
  (h0:∀(s:ByteArray)(a7:s.size<=9223372036854775806)(v:Int)(h:Lib.parseIntB 64 s.data.toList=.ok v)(w:World),Calls P f #[.string s,.int .i64 10,.int .i64 64] w λe w'=>e=.returned (.tuple #[.int .i64 v,.nilIface])/\Below w.heap.size w w')
  (h1:∀(s:ByteArray)(aa:s.size<=281474976710656)(h:∀v,Lib.parseIntB 64 s.data.toList≠.ok v)(h':Lib.parseIntB 64 s.data.toList≠.range)(a:Value)(w:World)(d:w.cell? ⟨gs,0,none⟩=some a)(aw:a=.nilIface\/∃g pe,a=.iface g pe),
   Calls P f #[.string s,.int .i64 10,.int .i64 64] w λe w'=>∃N,e=.returned (.tuple #[.int .i64 (0),.iface T (.pointer (some ⟨N,0,none⟩))])/\w.heap.size<=N/\w'.heap[N]?=some (.cells #[.string ⟨#[80,97,114,115,101,73,110,116]⟩,.string s,a] ty (0,0))/\Below w.heap.size w w')
  (h2:∀(s:ByteArray)(aa:s.size<=281474976710656)(h:Lib.parseIntB 64 s.data.toList=.range)(a:Value)(w:World)(d:w.cell? ⟨gr,0,none⟩=some a)(aw:a=.nilIface\/∃g pe,a=.iface g pe),
   Calls P f #[.string s,.int .i64 10,.int .i64 64] w λe w'=>∃N,e=.returned (.tuple #[.int .i64 (Lib.intSat 64 s.data.toList),.iface T (.pointer (some ⟨N,0,none⟩))])/\w.heap.size<=N/\w'.heap[N]?=some (.cells #[.string ⟨#[80,97,114,115,101,73,110,116]⟩,.string s,a] ty (0,0))/\Below w.heap.size w w'):zB4 P G f (zUA T (.iface ps es) (.iface pr er)):=by
 have we:∀l,has .i64 (Lib.intSat 64 l):=λl=>by unfold Lib.intSat has;split<;>decide
 have ay:PP (.iface ps es):=by
  have:=J gs _ U;cases this with
  |qc e off h=>cases h with
   |agg cs h=>exact h _ (.head _)
 have au:PP (.iface pr er):=by
  have:=J gr _ S;cases this with
  |qc e off h=>cases h with
   |agg cs h=>exact h _ (.head _)
 intro args v ha d;unfold zUA at d;split at d
 rotate_left
 .cases d
 rename_i l b z;split at d
 rotate_left
 .cases d
 rename_i p;simp only[QA]at p;obtain⟨p,ar,aj⟩:=p;obtain rfl:b=10:=by simpa using ar
 obtain rfl:z=64:=by simpa using aj
 have az:PP v:=by
  have Y:∀{n:Int}{e:AV},PP e->PP (.qd [.int .i64 n,.iface T (.qc (.agg [.str [80,97,114,115,101,73,110,116],.str l,e]) 0)]):=λhe=>.qd _ λx i=>by
   rcases QJ.1 i with rfl|i
   .exact .int _ _
   .rcases QJ.1 i with rfl|i
    .refine .iface _ _ (.qc _ _ (.agg _ λy D=>?_))
     rcases QJ.1 D with rfl|D
     .exact .str _
     .rcases QJ.1 D with rfl|D
      .exact .str _
      .rcases QJ.1 D with rfl|D
       .exact he
       .cases D
    .cases i
  split at d
  .cases d;exact .qd _ λx i=>by
    rcases QJ.1 i with rfl|i
    .exact .int _ _
    .rcases QJ.1 i with rfl|i
     .exact .qe
     .cases i
  .cases d;exact Y au
  .cases d;exact Y ay
 refine⟨⟨fn,A,hf,hb,hn⟩,az,λH nx E w F hr aq hg ba=>?_⟩
 obtain⟨c,cr,hc,ao,C⟩:=aq.of_cons;obtain⟨c2,a8,ai,K,m⟩:=C.of_cons;obtain⟨c3,bb,ak,X,o⟩:=m.of_cons;have a6:=o.of_nil;subst a6;have ad:F=#[c,c2,c3]:=by apply Array.toList_inj.1;rw[hc,ai,ak]
 subst ad;obtain⟨rfl,_⟩:=K.of_int;obtain⟨rfl,_⟩:=X.of_int;obtain⟨s,rfl,hs,hl⟩:∃s:ByteArray,c=.string s/\s.data.toList.map UInt8.toNat=l/\l.length<=zh:=by
  cases ao with
  |str l s' h hl=>exact⟨s',rfl,h,hl⟩
 subst hs;rw[zPB]at d;have L:s.size<=281474976710656:=by
  have h3:=QM p;rw[QG,Array.length_toList]at h3;exact h3
 have q:∀{N:Nat}{w':World}{a:Value}{g:Nat}{x:AV}{num:Int},has .i64 num->VR E w (.iface g x) a->w.heap.size<=N->w'.heap[N]?=some (.cells #[.string ⟨#[80,97,114,115,101,73,110,116]⟩,.string s,a] ty (0,0))->Below w.heap.size w w' →
   ∃cv E',(Ending.returned (.tuple #[.int .i64 num,.iface T (.pointer (some ⟨N,0,none⟩))]):Ending)=.returned cv/\HR E' H w'/\Tr E H w E' H w' nx nx ∧
    VR E' w' (.qd [.int .i64 num,.iface T (.qc (.agg [.str [80,97,114,115,101,73,110,116],.str (s.data.toList.map UInt8.toNat),.iface g x]) 0)]) cv:=by
  intro N w' a g x num ab R hN k I;have ah:=(Array.getElem?_eq_some_iff.1 k).1;obtain⟨k1,k2,k3⟩:=zQ7 hr I hN ah nx;refine⟨_,_,rfl,k1,k2,?_⟩
  have V:VR { E with Z:=λb=>E.Z b\/b=N } w' (.agg [.str [80,97,114,115,101,73,110,116],.str (s.data.toList.map UInt8.toNat),.iface g x]) (.agg #[.string ⟨#[80,97,114,115,101,73,110,116]⟩,.string s,a]):=by
   refine VR.qP (.cons (.str _ _ rfl (by decide)) (.cons (.str _ _ rfl hl) (.cons (k3 R) .nil))) λv d=>?_
   have h9:a.oneCell'=true:=R.wQ rfl;have ax:v=.string ⟨#[80,97,114,115,101,73,110,116]⟩\/v=.string s\/v=a:=by simpa using d
   rcases ax with rfl|rfl|rfl
   .rfl
   .rfl
   .exact h9
  refine VR.qG (.cons (.int _ _ ab) (.cons (.iface _ _ _ ?_) .nil))
  have:=VR.qc (E:={ E with Z:=λb=>E.Z b\/b=N }) (w:=w') _ 0 N 0 _ rfl (Or.inr rfl) V λj c hj=>by
   have hj:(#[Value.string ⟨#[80,97,114,115,101,73,110,116]⟩,.string s,a])[j]?=some c:=hj;show w'.cell? ⟨N,0+j,none⟩=some c
   simp only[World.cell?,k,Qa];exact hj
  exact this
 have Q:∀{g:Nat}{x:AV}{a:Value},VR E w (.iface g x) a->a=.nilIface\/∃g pe,a=.iface g pe:=λh=>by
  cases h with
  |iface t v cv h=>exact .inr ⟨_,_,rfl⟩
 split at d
 .rename_i n O;cases d;refine(h0 s (by omega) n O w).mono λe w' h=>?_
  obtain⟨rfl,I⟩:=h;obtain⟨k1,k2,k3⟩:=zIn hr I nx;have ac:=Lib.parseIntB_bounds O;exact⟨_,E,rfl,k1,k2,VR.qG (.cons (.int _ _ ⟨ac.1,Int.le_of_lt_add_one ac.2⟩) (.cons .qe .nil))⟩
 .rename_i ae;cases d;obtain⟨a,c1,c2,_⟩:=zL4 hg S;refine(h2 s L ae a w c1 (Q c2)).mono λe w' h=>?_
  obtain⟨N,rfl,m1,m2,m3⟩:=h;exact q (we _) c2 m1 m2 m3
 .rename_i ag af;cases d;obtain⟨a,c1,c2,_⟩:=zL4 hg U;refine(h1 s L (λv e=>ag v e) (λe=>af e) a w c1 (Q c2)).mono λe w' h=>?_
  obtain⟨N,rfl,m1,m2,m3⟩:=h;exact q (by unfold has;decide) c2 m1 m2 m3
end
variable{P:Program}{G:Cx}{E:Env}{w w':World}{H:Heap}
def zYo(T:Nat)(es er:AV):JE->JF
 |[.str s]=>match Nat.ble s.length 281474976710656 with
  |true=>match Lib.atoiAll (s.map UInt8.ofNat)with
   |.ok v=>some (.qd [.int .i64 v,.qe])
   |.range=>some (.qd [.int .i64 (Lib.atoiSat (s.map UInt8.ofNat)),.iface T (.qc (.agg [.str [65,116,111,105],.str s,er]) 0)])
   |_=>some (.qd [.int .i64 0,.iface T (.qc (.agg [.str [65,116,111,105],.str s,es]) 0)])
  |false=>none
 |_=>none
theorem zaJ {f:FuncId} {fn:Func} {o:Code} {T gs gr ty ps pr:Nat} {es er:AV} (hf:P.funcs[f]?=some fn) (hb:fn.body=some o) (hn:(fn.name == "runtime.NumGoroutine")=false) (C:GPP G)
  (L:G.wN gs=some (.qc (.agg [.iface ps es]) 0)) (K:G.wN gr=some (.qc (.agg [.iface pr er]) 0))
  (h0:∀(s:ByteArray)(ar:s.size<=9223372036854775806)(v:Int)(h:Lib.atoiAll s.data.toList=.ok v)(w:World),Calls P f #[.string s] w λe w'=>e=.returned (.tuple #[.int .i64 v,.nilIface])/\Below w.heap.size w w')
  (h1:∀(s:ByteArray)(S:s.size<=281474976710656)(h:∀v,Lib.atoiAll s.data.toList≠.ok v)(h':Lib.atoiAll s.data.toList≠.range)(a:Value)(w:World)(d:w.cell? ⟨gs,0,none⟩=some a)(ah:a=.nilIface\/∃g R,a=.iface g R),
   Calls P f #[.string s] w λe w'=>∃N,e=.returned (.tuple #[.int .i64 (0),.iface T (.pointer (some ⟨N,0,none⟩))])/\w.heap.size<=N/\w'.heap[N]?=some (.cells #[.string ⟨#[65,116,111,105]⟩,.string s,a] ty (0,0))/\Below w.heap.size w w')
  (h2:∀(s:ByteArray)(S:s.size<=281474976710656)(h:Lib.atoiAll s.data.toList=.range)(a:Value)(w:World)(d:w.cell? ⟨gr,0,none⟩=some a)(ah:a=.nilIface\/∃g R,a=.iface g R),
   Calls P f #[.string s] w λe w'=>∃N,e=.returned (.tuple #[.int .i64 (Lib.atoiSat s.data.toList),.iface T (.pointer (some ⟨N,0,none⟩))])/\w.heap.size<=N/\w'.heap[N]?=some (.cells #[.string ⟨#[65,116,111,105]⟩,.string s,a] ty (0,0))/\Below w.heap.size w w'):zB4 P G f (zYo T (.iface ps es) (.iface pr er)):=by
 have we:∀l,has .i64 (Lib.atoiSat l):=λl=>Lib.atoiSat_bounds l
 have aj:PP (.iface ps es):=by
  have:=C gs _ L;cases this with
  |qc e off h=>cases h with
   |agg cs h=>exact h _ (.head _)
 have ag:PP (.iface pr er):=by
  have:=C gr _ K;cases this with
  |qc e off h=>cases h with
   |agg cs h=>exact h _ (.head _)
 intro args v ha d;unfold zYo at d;split at d
 rotate_left
 .cases d
 rename_i l;split at d
 rotate_left
 .cases d
 rename_i ad;have ak:PP v:=by
  have Q:∀{n:Int}{e:AV},PP e->PP (.qd [.int .i64 n,.iface T (.qc (.agg [.str [65,116,111,105],.str l,e]) 0)]):=λhe=>.qd _ λx i=>by
   rcases QJ.1 i with rfl|i
   .exact .int _ _
   .rcases QJ.1 i with rfl|i
    .refine .iface _ _ (.qc _ _ (.agg _ λy q=>?_))
     rcases QJ.1 q with rfl|q
     .exact .str _
     .rcases QJ.1 q with rfl|q
      .exact .str _
      .rcases QJ.1 q with rfl|q
       .exact he
       .cases q
    .cases i
  split at d
  .cases d;exact .qd _ λx i=>by
    rcases QJ.1 i with rfl|i
    .exact .int _ _
    .rcases QJ.1 i with rfl|i
     .exact .qe
     .cases i
  .cases d;exact Q ag
  .cases d;exact Q aj
 refine⟨⟨fn,o,hf,hb,hn⟩,ak,λH V E w z hr af hg au=>?_⟩
 obtain⟨c,cr,hc,ae,p⟩:=af.of_cons;have ao:=p.of_nil;subst ao;have X:z=#[c]:=by apply Array.toList_inj.1;rw[hc]
 subst X;obtain⟨s,rfl,hs,hl⟩:∃s:ByteArray,c=.string s/\s.data.toList.map UInt8.toNat=l/\l.length<=zh:=by
  cases ae with
  |str l s' h hl=>exact⟨s',rfl,h,hl⟩
 subst hs;rw[zPB]at d;have D:s.size<=281474976710656:=by
  have h3:=QM ad;rw[QG,Array.length_toList]at h3;exact h3
 have m:∀{N:Nat}{w':World}{a:Value}{g:Nat}{x:AV}{num:Int},has .i64 num->VR E w (.iface g x) a->w.heap.size<=N->w'.heap[N]?=some (.cells #[.string ⟨#[65,116,111,105]⟩,.string s,a] ty (0,0))->Below w.heap.size w w' →
   ∃cv E',(Ending.returned (.tuple #[.int .i64 num,.iface T (.pointer (some ⟨N,0,none⟩))]):Ending)=.returned cv/\HR E' H w'/\Tr E H w E' H w' V V ∧
    VR E' w' (.qd [.int .i64 num,.iface T (.qc (.agg [.str [65,116,111,105],.str (s.data.toList.map UInt8.toNat),.iface g x]) 0)]) cv:=by
  intro N w' a g x num U J hN k A;have ac:=(Array.getElem?_eq_some_iff.1 k).1;obtain⟨k1,k2,k3⟩:=zQ7 hr A hN ac V;refine⟨_,_,rfl,k1,k2,?_⟩
  have O:VR { E with Z:=λb=>E.Z b\/b=N } w' (.agg [.str [65,116,111,105],.str (s.data.toList.map UInt8.toNat),.iface g x]) (.agg #[.string ⟨#[65,116,111,105]⟩,.string s,a]):=by
   refine VR.qP (.cons (.str _ _ rfl (by decide)) (.cons (.str _ _ rfl hl) (.cons (k3 J) .nil))) λv d=>?_
   have h9:a.oneCell'=true:=J.wQ rfl;have ai:v=.string ⟨#[65,116,111,105]⟩\/v=.string s\/v=a:=by simpa using d
   rcases ai with rfl|rfl|rfl
   .rfl
   .rfl
   .exact h9
  refine VR.qG (.cons (.int _ _ U) (.cons (.iface _ _ _ ?_) .nil))
  have:=VR.qc (E:={ E with Z:=λb=>E.Z b\/b=N }) (w:=w') _ 0 N 0 _ rfl (Or.inr rfl) O λj c hj=>by
   have hj:(#[Value.string ⟨#[65,116,111,105]⟩,.string s,a])[j]?=some c:=hj;show w'.cell? ⟨N,0+j,none⟩=some c
   simp only[World.cell?,k,Qa];exact hj
  exact this
 have I:∀{g:Nat}{x:AV}{a:Value},VR E w (.iface g x) a->a=.nilIface\/∃g R,a=.iface g R:=λh=>by
  cases h with
  |iface t v cv h=>exact .inr ⟨_,_,rfl⟩
 split at d
 .rename_i n F;cases d;refine(h0 s (by omega) n F w).mono λe w' h=>?_
  obtain⟨rfl,A⟩:=h;obtain⟨k1,k2,k3⟩:=zIn hr A V;have aq:=Lib.atoiAll_bounds F;exact⟨_,E,rfl,k1,k2,VR.qG (.cons (.int _ _ aq) (.cons .qe .nil))⟩
 .rename_i Y;cases d;obtain⟨a,c1,c2,_⟩:=zL4 hg K;refine(h2 s D Y a w c1 (I c2)).mono λe w' h=>?_
  obtain⟨N,rfl,m1,m2,m3⟩:=h;exact m (we _) c2 m1 m2 m3
 .rename_i ab aa;cases d;obtain⟨a,c1,c2,_⟩:=zL4 hg L;refine(h1 s D (λv e=>ab v e) (λe=>aa e) a w c1 (I c2)).mono λe w' h=>?_
  obtain⟨N,rfl,m1,m2,m3⟩:=h;exact m (by unfold has;decide) c2 m1 m2 m3
end Go.Sy
namespace Go.Sy
open Go.RowKit
def cut1(c:Nat):JV->JV×JV×Bool
 |[]=>([],[],false)
 |x::r=>match Nat.beq x c with
  |true=>([],r,true)
  |false=>match cut1 c r with
   |(a,b,ok)=>(x::a,b,ok)
def zG7(c:Nat):JV->List JV
 |[]=>[[]]
 |x::r=>match Nat.beq x c with
  |true=>[]::zG7 c r
  |false=>match zG7 c r with
   |h::t=>(x::h)::t
   |[]=>[[x]]
def zV2:JE->JF
 |[.str s,.str [c]]=>match Nat.blt s.length 4294967281&&Nat.blt c 256 with
  |true=>some (.qd [.str (cut1 c s).1,.str (cut1 c s).2.1,.bool (cut1 c s).2.2])
  |false=>none
 |_=>none
def zVr:JE->JF
 |[.str s,.str [c]]=>match Nat.blt s.length 4294967281&&Nat.blt c 256 with
  |true=>some (.qf 1 ((zG7 c s).map .str))
  |false=>none
 |_=>none
theorem zWQ(a c:UInt8):Nat.beq a.toNat c.toNat=(a==c):=by
 by_cases h:a=c
 .subst h;simp
 .have:a.toNat≠c.toNat:=λe=>h (UInt8.toNat_inj.1 e)
  have h1:Nat.beq a.toNat c.toNat=false:=by
   cases hb:Nat.beq a.toNat c.toNat with
   |false=>rfl
   |true=>exact absurd (zb hb) this
  rw[h1];simp[h]
theorem zKw(a c:UInt8)(r:List UInt8):Lib.index (a::r) [c]=if a=c then 0 else if Lib.index r [c]=-1 then -1 else Lib.index r [c]+1:=by
 rw[Lib.index];by_cases h:a=c
 .subst h;simp[List.isPrefixOf]
 .have:([c]:List UInt8).isPrefixOf (a::r)=false:=by simp[List.isPrefixOf,Ne.symm h]
  rw[this];simp[h]
theorem zWR(c:UInt8):∀s:List UInt8,cut1 c.toNat (s.map UInt8.toNat)=((Lib.cut s [c]).1.map UInt8.toNat,(Lib.cut s [c]).2.1.map UInt8.toNat,(Lib.cut s [c]).2.2)
 |[]=>by simp[cut1,Lib.cut,Lib.index]
 |a::r=>by
  have k:=zWR c r;have e:=Lib.index_ge r [c];rw[QZ,cut1,zWQ];by_cases h:a=c
  .subst h;unfold Lib.cut;rw[zKw];simp
  .have hb:(a==c)=false:=by simpa using h
   rw[hb];simp only[k];unfold Lib.cut;rw[zKw,if_neg h];by_cases d:Lib.index r [c]=-1
   .rw[if_pos d,d];simp
   .rw[if_neg d];obtain⟨j,i⟩:∃j:Nat,Lib.index r [c]=j:=⟨(Lib.index r [c]).toNat,by omega⟩
    rw[i];have f:(0:Int)<=(j:Int):=by omega
    have l:(0:Int)<=(j:Int)+1:=by omega
    have g:((j:Int)+1).toNat=j+1:=by omega
    rw[if_pos f,if_pos l,g];simp
theorem zT4(c:UInt8):∀s:List UInt8,zG7 c.toNat (s.map UInt8.toNat)=(Lib.splitK [c] 0 (s.count c) s).map (·.map UInt8.toNat)
 |[]=>by simp[zG7,Lib.splitK]
 |a::r=>by
  have d:=zT4 c r;have f:=Lib.index_ge r [c];rw[QZ,zG7,zWQ];by_cases h:a=c
  .subst h;have hc:(a::r).count a=r.count a+1:=by simp
   rw[hc,Lib.splitK,zKw];simp[d]
  .have hb:(a==c)=false:=by simpa using h
   have hc:(a::r).count c=r.count c:=List.count_cons_of_ne (by simpa using h)
   rw[hb,hc];simp only[d];cases hk:r.count c with
   |zero=>simp[Lib.splitK]
   |succ k=>
    have i:Lib.index r [c]≠-1:=λe=>by
     have h1:Lib.count r [c]=0:=Lib.count_miss e;rw[Lib.count_one]at h1;omega
    obtain⟨j,m⟩:∃j:Nat,Lib.index r [c]=j:=⟨(Lib.index r [c]).toNat,by omega⟩
    rw[Lib.splitK,Lib.splitK,zKw,if_neg h,if_neg i,m];have l:((j:Int)+1).toNat=j+1:=by omega
    have n:¬((j:Int)+1==-1)=true:=by simp;omega
    have g:¬((j:Int)==-1)=true:=by simp
    rw[if_neg n,if_neg g,l];simp[Nat.add_right_comm]
theorem zT5(sep:List UInt8):∀(k:Nat)(s:List UInt8),∀x∈Lib.splitK sep 0 k s,x.length<=s.length
 |0,s,x,h=>by
  rw[QU.1 h];exact QB _
 |k+1,s,x,h=>by
  rw[Lib.splitK]at h;split at h
  .rw[QU.1 h];exact QB _
  .rcases QJ.1 h with rfl|h
   .rw[Qj];omega
   .have:=zT5 sep k _ x h;rw[Qn]at this;omega
section
variable{P:Program}{G:Cx}{E:Env}{w w':World}{H:Heap}
theorem zVs{g:Nat}{m:Int}(l:G.wN g=some (.qc (.agg [.int .i64 m]) 0))(j:GR G E w):w.cell? ⟨g,0,none⟩=some (.int .i64 m):=by
 obtain⟨i,_⟩:=j g _ l;generalize d:Value.pointer (some ⟨g,0,none⟩)=x at i;cases i with
 |qc e off b o s k z f c=>
  have h1:=Qt (Value.pointer.inj d);have p:g=b:=congrArg Addr.block h1;have y:0=o+0:=congrArg Addr.off h1;subst p;have q:o=0:=by omega
  subst q;obtain⟨h,rfl,h2,h3⟩:=f.qY;have a:0<h.size:=by have:=h2.1;simp at this;omega
  have h4:=(h2.2 0 (.int .i64 m) (h[0]'a) rfl (by simp[a])).of_int
  have n:=c 0 (.int .i64 m) (by simp only[Value.cells];rw[Qf a];exact congrArg some h4.1)
  simpa using n
theorem zVt{cargs:JB}{s:JV}{c:Nat}(j:VRs E w [.str s,.str [c]] cargs.toList):∃(a:ByteArray) (u:UInt8),cargs=#[.string a,.string ⟨#[u]⟩]/\a.data.toList.map UInt8.toNat=s/\u.toNat=c/\s.length<=zh:=by
 obtain⟨p,y,hc,g,e⟩:=j.of_cons;obtain⟨c2,x,k,f,d⟩:=e.of_cons;have m:=d.of_nil;subst m;have i:cargs=#[p,c2]:=by apply Array.toList_inj.1;rw[hc,k]
 subst i;cases g with
 |str l a h q=>
  cases f with
  |str z b h2 o=>
   obtain⟨⟨n⟩⟩:=b;have h2:n.map UInt8.toNat=[c]:=h2
   match n,h2 with
   |[u],h2=>
    exact⟨a,u,rfl,h,by simpa using h2,q⟩
theorem zcH {f:FuncId} {fn:Func} {o:Code} {g:Nat} {m:Int} (J:P.funcs[f]?=some fn) (hb:fn.body=some o) (Q:(fn.name == "runtime.NumGoroutine")=false) (R:G.wN g=some (.qc (.agg [.int .i64 m]) 0))
  (F:∀(s sep:ByteArray)(w:World)(T:s.size<4294967281)(hm:w.cell? ⟨g,0,none⟩=some (.int .i64 m)),Calls P f #[.string s,.string sep] w λe w'=>e=.returned (.tuple #[.string ⟨(Lib.cut s.data.toList sep.data.toList).1.toArray⟩,.string ⟨(Lib.cut s.data.toList sep.data.toList).2.1.toArray⟩,.bool (Lib.cut s.data.toList sep.data.toList).2.2])/\∃n,w'=w.drewN n):zB4 P G f zV2:=by
 intro args v U d;unfold zV2 at d;split at d
 rotate_left
 .cases d
 rename_i s c;split at d
 rotate_left
 .cases d
 rename_i we;rw[QA,Qi,Qi]at we;cases d;refine⟨⟨fn,o,J,hb,Q⟩,.qd _ λe A=>?_,λH O E w z L y I D=>?_⟩
 .simp only[QJ,List.not_mem_nil,or_false]at A;rcases A with rfl|rfl|rfl
  .exact .str _
  .exact .str _
  .exact .bool _
 obtain⟨a,u,rfl,rfl,rfl,K⟩:=zVt y;rw[QG]at we;refine(F a ⟨#[u]⟩ w (by show a.data.size<_;rw[←Array.length_toList];exact we.1) (zVs R I)).mono λe w' h=>?_
 obtain⟨rfl,k,rfl⟩:=h;rw[zWR];have q:(Lib.cut a.data.toList [u]).1.length<=a.data.toList.length/\(Lib.cut a.data.toList [u]).2.1.length<=a.data.toList.length:=by
  unfold Lib.cut;split
  .exact⟨by rw[Qj];omega,by rw[Qn];omega⟩
  .exact⟨QB _,QN _⟩
 obtain⟨C,S,_⟩:=zIn L (w':=w.drewN k) ⟨rfl,rfl,rfl,QB _,λ_ _=>rfl⟩ O
 refine⟨_,E,rfl,C,S,?_⟩
 have p:∀l:List UInt8,l.length<=a.data.toList.length->(l.map UInt8.toNat).length<=zh:=λl h=>by rw[QG];rw[QG]at K;omega
 refine .qd _ _ rfl λi x v j d=>?_
 match i,j,d with
 |0,j,d=>cases j;cases d;exact .str _ _ rfl (p _ q.1)
 |1,j,d=>cases j;cases d;exact .str _ _ rfl (p _ q.2)
 |2,j,d=>cases j;cases d;exact .bool _
 |i+3,j,_=>simp at j
theorem zZp {f:FuncId} {fn:Func} {o:Code} {g:Nat} {m:Int} {ty:TypeId} (V:P.funcs[f]?=some fn) (hb:fn.body=some o) (hn:(fn.name == "runtime.NumGoroutine")=false) (hG:G.wN g=some (.qc (.agg [.int .i64 m]) 0))
  (T:∀(s sep:ByteArray)(w:World)(hs:s.size<4294967281)(hm:w.cell? ⟨g,0,none⟩=some (.int .i64 m))(h1:1<=sep.size),Calls P f #[.string s,.string sep] w λe w'=>
   e=.returned (.slice (some ⟨w.heap.size,0,none⟩) (Lib.countB s sep+1) (Lib.countB s sep+1))/\w'=w.alloc (.cells ((Lib.splitB sep 0 (Lib.countB s sep) s).map Value.string).toArray ty)):zB4 P G f zVr:=by
 intro args v ha p;unfold zVr at p;split at p
 rotate_left
 .cases p
 rename_i s c;split at p
 rotate_left
 .cases p
 rename_i we;rw[QA,Qi,Qi]at we;cases p;refine⟨⟨fn,o,V,hb,hn⟩,.qf _ _ λe d=>?_,λH nx E w L Y I U R=>?_⟩
 .obtain⟨l,_,rfl⟩:=QR.1 d;exact .str _
 obtain⟨a,u,rfl,rfl,rfl,X⟩:=zVt I;rw[QG]at we;have J:a.size<4294967281:=by show a.data.size<_;rw[←Array.length_toList];exact we.1
 refine(T a ⟨#[u]⟩ w J (zVs hG U) (QB _)).mono λe w' h=>?_
 obtain⟨rfl,rfl⟩:=h;have ab:=Lib.countB_le ⟨#[u]⟩ (QB _) a.size a (QB _);have y:=Lib.splitB_all ⟨#[u]⟩ (QB _) 0 _ a rfl;have k:=Lib.splitB_data ⟨#[u]⟩ 0 (Lib.countB a ⟨#[u]⟩) a;have q:Lib.countB a ⟨#[u]⟩=a.data.toList.count u:=Lib.count_one u _;generalize aa:Lib.splitB ⟨#[u]⟩ 0 (Lib.countB a ⟨#[u]⟩) a=sp at *;have z:(zG7 u.toNat (a.data.toList.map UInt8.toNat)).map AV.str=sp.map λx=>AV.str (x.data.toList.map UInt8.toNat):=by
  rw[zT4,←q,←k,List.map_map,List.map_map];rfl
 rw[z];have C:Below w.heap.size w (w.alloc (.cells (sp.map Value.string).toArray ty)):=(Below.refl _ _).alloc (QB _) _;obtain⟨Q,k2,_⟩:=zT3 Y C nx;refine⟨_,_,rfl,Q,k2,?_⟩
 have D:(w.alloc (.cells (sp.map Value.string).toArray ty)).heap[w.heap.size]?=some (.cells (sp.map Value.string).toArray ty (0,0)):=by
  show(w.heap.push _)[w.heap.size]? = _
  simp
 have F:∀(i:Nat) x,sp[i]?=some x->(x.data.toList.map UInt8.toNat).length<=zh:=λi x n=>by
  have hm:x.data.toList∈Lib.splitK [u] 0 (Lib.countB a ⟨#[u]⟩) a.data.toList:=by
   have h1:x.data.toList∈sp.map (·.data.toList):=List.mem_map_of_mem (QF n);rw[k]at h1;exact h1
  have:=zT5 [u] _ _ _ hm;rw[QG]at X⊢;omega
 have A:(sp.map λx=>AV.str (x.data.toList.map UInt8.toNat)).length=Lib.countB a ⟨#[u]⟩+1:=by rw[QG,y]
 rw[←A];refine .qf _ w.heap.size 0 _ 1 (λi=>.string (sp.getD i ByteArray.empty)) (.inr ⟨QB _,by show _<(w.heap.push _).size;simp⟩) (QB _) (by rw[A];unfold zh;omega) (λi e d=>?_) (λi e d=>?_) λi hi=>?_
 .rw[Qb]at d;cases n:sp[i]? with
  |none=>rw[n]at d;cases d
  |some x=>rw[n]at d;cases d;rfl
 .rw[Qb]at d;cases n:sp[i]? with
  |none=>rw[n]at d;cases d
  |some x=>
   rw[n]at d;cases d;have:sp.getD i ByteArray.empty=x:=by rw[List.getD_eq_getElem?_getD,n];rfl
   rw[this];exact .str _ _ rfl (F i x n)
 .rw[QG]at hi;refine⟨rfl,λj S O=>?_⟩
  have K:j=0:=by
   have:=(Array.getElem?_eq_some_iff.1 O).1;simp[Value.cells]at this;omega
  subst K;have hc:S=.string (sp.getD i ByteArray.empty):=by simpa[Value.cells]using O.symm
  subst hc;have e1:(w.alloc (.cells (sp.map Value.string).toArray ty)).cell? ⟨w.heap.size,0+i*1+0,none⟩=(sp.map Value.string).toArray[0+i*1+0]?:=by
   unfold World.cell?;rw[D];rfl
  rw[e1];simp[hi,List.getD_eq_getElem?_getD]
end
def zXN:JE->JF
 |[.qf c a,.str sep]=>zNw [.qf c a,.str sep] []
 |_=>none
section
variable{P:Program}{G:Cx}
theorem zaK {f:FuncId} {fn:Func} {d:Code} (C:P.funcs[f]?=some fn) (hb:fn.body=some d) (I:(fn.name == "runtime.NumGoroutine")=false)
  (y:∀(a:Option Addr)(c:Nat)(sep:ByteArray)(w:World),Calls P f #[.slice a 0 c,.string sep] w λe w'=>e=.returned (.string ⟨#[]⟩)/\w'=w)
  (h1:∀(m o c:Nat)(xs:List ByteArray)(sep:ByteArray)(w:World),(∀(j:Nat) x,xs[j]?=some x->w.cell? ⟨m,o+j,none⟩=some (.string x))->m<w.heap.size->xs.length<=140737488355328->xs.length<=c →
   (Lib.join (xs.map (·.data.toList)) sep.data.toList).length<=140737488355328 →
   Calls P f #[.slice (some ⟨m,o,none⟩) xs.length c,.string sep] w λe w'=>e=.returned (.string ⟨(Lib.join (xs.map (·.data.toList)) sep.data.toList).toArray⟩)/\Below w.heap.size w w'):zB4 P G f zXN:=by
 intro args v Q g;unfold zXN at g;split at g
 rotate_left
 .cases g
 rename_i D F sep;refine⟨⟨fn,d,C,hb,I⟩,?_,λH L E w h n l O q=>?_⟩
 .unfold zNw at g
  repeat' split at g
  all_goals first|(cases g;exact .str _)|(cases g;done)
 .have k:zNw [.qf D F,.str sep] H=some v:=g;refine(zXz y h1 _ H v k E w h n l).mono λe w' ⟨s,K,i,A⟩=>?_
  obtain⟨p,J,z⟩:=zT3 n i L;exact⟨s,_,K,p,J,z A⟩
end
theorem zXO{P:Program}{g t u:Nat}{zero:JB}{W:World}{m:Int}(h:W.ShapedOpen P)(n:g<P.globals.size)(l:((begin P (λ_ _=>0) default).world.heap[g]?).bind Obj.row?=some (zero,t))(p:zero.size=1)(hb:P.buildable t=true)
  (hu:P.cellTypes P.depth t=some [u]) (o:P.underlying u=some (.int .i64)) (hm:W.cell? ⟨g,0,none⟩=some (.int .i64 m)):(∃c t e,W.heap[g]?=some (.cells c t e)/\c.size=1)/\has .i64 m:=by
 obtain⟨k,d,j,f⟩:=h.1 g zero t n l;obtain⟨s,h1,_,h3⟩:=f hb;rw[hu]at h1;cases h1;have hc:k[0]?=some (.int .i64 m):=by
  simpa[World.cell?,d]using hm
 obtain⟨v,q,a⟩:=h3 0 _ hc;have i:v=u:=by simpa using q.symm
 subst i;unfold Cell.ok at a;rw[o]at a;exact⟨⟨k,_,_,d,by rw[←p];exact j⟩,a.2⟩
inductive CD where
 |bool|int (k:IntKind)|str
 |sl (es:List CD) (one:Bool)
structure BK(H:Type) where
 f:DataW H->Nat
 all:List (DataW H)->Nat
 str:∀b,f (.lit (.string b))=b.length+1
 pos:∀d,1<=f d
 slice:∀a b,f (.slice a b)=all a+all b+1
 agg:∀p,f (.agg p)=all p+1
 nil:all []=0
 cons:∀d r,all (d::r)=f d+all r
theorem BK.mem{H:Type}(B:BK H){d:DataW H}:∀{l:List (DataW H)},d∈l->B.f d<=B.all l
 |_::r,h=>by
  rw[B.cons];rcases QJ.1 h with rfl|h
  .omega
  .have:=B.mem h;omega
theorem BK.len{H:Type}(B:BK H):∀l:List (DataW H),l.length<=B.all l
 |[]=>QN _
 |d::r=>by rw[B.cons,QL];have:=B.pos d;have:=B.len r;omega
mutual
inductive CD.Ok(N:Nat):CD->AV->Prop
 |bool (b:Bool):CD.Ok N .bool (.bool b)
 |int (k:IntKind) (n:Int) (h:has k n):CD.Ok N (.int k) (.int k n)
 |str (l:JV) (h:∀x∈l,x<256) (hl:l.length<=zh) (hn:l.length<=N):CD.Ok N .str (.str l)
 |one (e:CD) (xs:JE) (h:∀x∈xs,CD.Ok N e x) (hn:xs.length<=N):CD.Ok N (.sl [e] true) (.qf 1 xs)
 |agg (es:List CD) (xs:List JE) (h:∀x∈xs,CD.wZ N es x) (hn:xs.length<=N):CD.Ok N (.sl es false) (.qf es.length (xs.map .agg))
inductive CD.wZ(N:Nat):List CD->JE->Prop
 |nil:CD.wZ N [] []
 |cons {c:CD} {cs:List CD} {a:AV} {as_:JE} (h:CD.Ok N c a) (hs:CD.wZ N cs as_):CD.wZ N (c::cs) (a::as_)
end
mutual
theorem CD.Ok.mono{N M:Nat}(hm:N<=M):∀{c:CD}{a:AV},CD.Ok N c a->CD.Ok M c a
 |_,_,.bool b=>.bool b
 |_,_,.int k n h=>.int k n h
 |_,_,.str l h i d=>.str l h i (Qh d hm)
 |_,_,.one e f h d=>.one e f (λx g=>CD.Ok.mono hm (h x g)) (Qh d hm)
 |_,_,.agg j f h d=>.agg j f (λx g=>CD.wZ.mono hm (h x g)) (Qh d hm)
theorem CD.wZ.mono{N M:Nat}(hm:N<=M):∀{c:List CD}{a:JE},CD.wZ N c a->CD.wZ M c a
 |_,_,.nil=>.nil
 |_,_,.cons h d=>.cons (CD.Ok.mono hm h) (CD.wZ.mono hm d)
end
theorem CD.wZ.append{N:Nat}{cs ds:List CD}:∀{l m:JE},CD.wZ N cs l->CD.wZ N ds m->CD.wZ N (cs++ds) (l++m):=by
 induction cs with
 |nil=>intro l m h k;cases h;exact k
 |cons c cs a=>intro l m h k;cases h with|cons h1 h2=>exact .cons h1 (a h2 k)
def zeq(P:Program)(t:TypeId):Bool:=match P.underlying t with
 |some (.struct _)=>false
 |some (.array _ _)=>false
 |_=>true
def zNL(c:TypeId->Option (List CD))(P:Program):Nat->List Field->Option (List CD)
 |_,[]=>some []
 |off,f::r=>match c f.type with
  |none=>none
  |some a=>match Nat.beq f.offset off&&Nat.beq (P.cellsOf f.type) a.length with
   |false=>none
   |true=>match zNL c P (off+a.length) r with
    |none=>none
    |some d=>some (a++d)
def zRV(P:Program):Nat->TypeId->Option (List CD)
 |0,_=>none
 |n+1,t=>match P.underlying t with
  |some .bool=>some [.bool]
  |some (.int k)=>some [.int k]
  |some .string=>some [.str]
  |some (.slice e)=>match zRV P n e with
   |none=>none
   |some a=>match Nat.beq (P.cellsOf e) a.length&&Nat.ble 1 a.length with
    |false=>none
    |true=>match zeq P e with
     |true=>match a with
      |[c]=>some [.sl [c] true]
      |_=>none
     |false=>some [.sl a false]
  |some (.struct f)=>match zNL (zRV P n) P 0 f.toList with
   |none=>none
   |some d=>match Nat.beq (P.cellsOf t) d.length with
    |true=>some d
    |false=>none
  |_=>none
section
variable{H:Type}(B:BK H){N M:Nat}{enc:TypeId×Value->H}{P:Program}{W:World}{E:Env}{base:Nat}{sp:Nat->Bool}{hd:Bool}
structure RD(N:Nat)(E:Env)(W:World)(cds:List CD)(cs:JC):Prop where
 len:cs.length=cds.length
 ex:∃avs,CD.wZ N cds avs/\VRs E W avs cs/\(∀a∈avs,a.flat=true)
 one:∀c∈cs,c.oneCell'=true
theorem RD.mono(hm:N<=M){c:List CD}{cs:JC}(h:RD N E W c cs):RD M E W c cs:=
 let ⟨l,⟨a,h1,h2,h3⟩,o⟩:=h
 ⟨l,⟨a,h1.mono hm,h2,h3⟩,o⟩
theorem RD.single{c:CD}{a:AV}{v:Value}(h1:CD.Ok N c a)(h2:VR E W a v)(h3:a.flat=true)(h4:v.oneCell'=true):RD N E W [c] [v]:=
 ⟨rfl,⟨[a],.cons h1 .nil,.cons h2 .nil,λx d=>by simp at d;subst d;exact h3⟩,λx d=>by simp at d;subst d;exact h4⟩
theorem RD.append{cs ds:List CD}{u v:JC}(h:RD N E W cs u)(k:RD N E W ds v):RD N E W (cs++ds) (u++v):=by
 obtain⟨i,⟨a,a1,a2,a3⟩,o1⟩:=h;obtain⟨j,⟨b,d,g,e⟩,f⟩:=k;refine⟨by simp[i,j],⟨a++b,a1.append d,?_,λx c=>?_⟩,λx c=>?_⟩
 .have:∀{a:JE}{u:JC},VRs E W a u->VRs E W (a++b) (u++v):=by
   intro a
   induction a with
   |nil=>intro u h;have:=h.of_nil;subst this;exact g
   |cons x a l=>intro u h;obtain⟨y,r,rfl,h1,h2⟩:=h.of_cons;exact .cons h1 (l h2)
  exact this a2
 .rcases QI.1 c with h|h
  .exact a3 x h
  .exact e x h
 .rcases QI.1 c with h|h
  .exact o1 x h
  .exact f x h
theorem zT6{n fuel:Nat}(l:∀t a cs x,zRV P n t=some a->DataW.trod enc P W base sp hd fuel t cs=some x->RD (B.f x.1) E W a cs):
  ∀(j:List Field)(off:Nat)(a:List CD)(cs:JC),zNL (zRV P n) P off j=some a →
   (∀f∈j,∃x,DataW.trod enc P W base sp hd fuel f.type ((cs.drop f.offset).take (P.cellsOf f.type))=some x/\B.f x.1<=N)->RD N E W a ((cs.drop off).take a.length)
 |[],off,a,cs,h,_=>by
  cases h;exact⟨by simp,⟨[],.nil,by simpa using VRs.nil,λx e=>by cases e⟩,λx e=>by simp at e⟩
 |f::r,off,a,cs,h,k=>by
  unfold zNL at h;split at h
  .cases h
  rename_i d q;split at h
  .cases h
  rename_i c;rw[QA]at c;have a1:=zb c.1;have a2:=zb c.2;split at h
  .cases h
  rename_i c2 s;cases h;obtain⟨x,o,y⟩:=k f (List.mem_cons_self ..);have i:=(l _ _ _ _ q o).mono y;have p:=zT6 l r _ _ cs s λg m=>k g (List.mem_cons_of_mem _ m)
  rw[a1,a2]at i;have:(cs.drop off).take (d++c2).length=(cs.drop off).take d.length++(cs.drop (off+d.length)).take c2.length:=by
   rw[QE,List.take_add,List.drop_drop]
  rw[this];exact i.append p
theorem zcI{a:Addr}{i:Nat}(h:a.spot=none):a.add i=⟨a.block,a.off+i,none⟩:=by
 obtain⟨b,o,s⟩:=a;simp only at h;subst h;unfold Addr.add;split
 .rename_i e;subst e;rfl
 .rfl
theorem zS9(hZ:∀b,b<W.heap.size->E.Z b):∀(n fuel:Nat)(t:TypeId)(z:List CD)(cs:JC)(x:DataW H×List MemPlace),zRV P n t=some z →
  DataW.trod enc P W base sp hd fuel t cs=some x->RD (B.f x.1) E W z cs
 |0,_,_,_,_,_,h,_=>by cases h
 |n+1,fuel,t,z,cs,x,h,hr=>by
  unfold zRV at h;split at h
  .rename_i hu;cases h;obtain⟨b,rfl,_⟩:=DataW.trod_bool hu hr;exact .single (.bool b) (.bool b) rfl rfl
  .rename_i k hu;cases h;obtain⟨m,rfl,_,Y⟩:=DataW.trod_int hu hr;have hh:has k m:=by
    simp only[Lit.wf,QA,decide_eq_true_eq]at Y;exact Y
   exact .single (.int k m hh) (.int k m hh) rfl rfl
  .rename_i hu;cases h;obtain⟨s,rfl,rfl,Y⟩:=DataW.trod_string hu hr;have hl:s.size<=zh:=by unfold maxLen at Y;unfold zh;exact Y
   have Q:(lets s).length=s.size:=by
    unfold lets;rw[QG,Array.length_toList];rfl
   exact .single (.str (lets s) zcE (by rw[Q];exact hl) (by rw[B.str];unfold lets;rw[QG];omega)) (VR.lets hl) rfl rfl
  .rename_i e hu;split at h
   .cases h
   rename_i p ah;split at h
   .cases h
   rename_i I;rw[QA]at I;have F:=zb I.1;have ak:=QM I.2;rcases DataW.trod_slice hu hr with⟨rfl,_⟩|⟨a,len,cap,d,o,m,rfl,rfl,rfl,_,af,V,X,L,_,_⟩
   .split at h
    .split at h
     .cases h;exact .single (.one _ [] (λx C=>by cases C) (QN _)) (.wj _ _ _ (QN _)) rfl rfl
     .cases h
    .cases h;exact .single (.agg _ [] (λx C=>by cases C) (QN _)) (.wj _ _ _ (QN _)) rfl rfl
   have aj:∀{i:Nat}{y:DataW H×List MemPlace},d[i]?=some y->B.f y.1<=B.f (.slice (d.map (·.1)) (o.map (·.1))):=λ{i y} h=>by
    have:=B.mem (QR.2 ⟨y,QF h,rfl⟩:y.1∈d.map (·.1));rw[B.slice];omega
   have U:len<=B.f (.slice (d.map (·.1)) (o.map (·.1))):=by
    have:=B.len (d.map (·.1));rw[QG,X]at this;rw[B.slice];omega
   have hE:∀i,i<len->∃q:JC×JE,q.1.length=p.length/\CD.wZ (B.f (.slice (d.map (·.1)) (o.map (·.1)))) p q.2/\VRs E W q.2 q.1/\(∀a∈q.2,a.flat=true)/\(∀c∈q.1,c.oneCell'=true) ∧
     (∀j,j<p.length->W.cell? (a.add (i*p.length+j))=q.1[j]?):=λi hi=>by
    have h1:=L i hi;have h2:∃y,d[i]?=some y:=⟨_,QD (by rw[X];exact hi)⟩
    obtain⟨y,l⟩:=h2;rw[l,Option.bind_eq_some_iff]at h1;obtain⟨ci,hc,ht⟩:=h1;obtain⟨_,c1,c2⟩:=World.cells?_some hc;obtain⟨l1,⟨ad,l2,l3,l4⟩,l5⟩:=(zS9 hZ n m e p ci y ah ht).mono (aj l);refine⟨(ci,ad),l1,l2,l3,l4,l5,λj hj=>?_⟩
    have h3:=c2 j (by rw[F];exact hj)
    rw[←h3,F];congr 1;unfold Addr.add;split<;>split<;>split<;>simp_all<;>omega
   have hC:∃g:Nat->JC×JE,∀i,i<len->(g i).1.length=p.length/\CD.wZ (B.f (.slice (d.map (·.1)) (o.map (·.1)))) p (g i).2/\VRs E W (g i).2 (g i).1/\(∀a∈(g i).2,a.flat=true)/\(∀c∈(g i).1,c.oneCell'=true) ∧
     (∀j,j<p.length->W.cell? (a.add (i*p.length+j))=(g i).1[j]?):=by
    refine⟨λi=>if h:i<len then(hE i h).choose else([],[]),λi hi=>?_⟩
    simp only[dif_pos hi];exact(hE i hi).choose_spec
   obtain⟨g,S⟩:=hC;have D:cap<=zh:=by unfold maxLen at V;unfold zh;exact V
   have ai:0<len->a.spot=none/\a.block<W.heap.size:=λT=>by
    obtain⟨g1,_,_,_,_,g6⟩:=S 0 T;have h0:=g6 0 (by omega)
    have h1:∃y,(g 0).1[0]?=some y:=⟨_,QD (by omega)⟩
    obtain⟨y,l⟩:=h1;have:W.cell? a=some y:=by rw[←l,←h0];simp[Addr.add]
    unfold World.cell? at this;split at this
    .rename_i c _ _ hb;split at this
     .cases this
     .rename_i hs;exact⟨by simpa using hs,(Array.getElem?_eq_some_iff.1 hb).1⟩
    .cases this
   have fin:∀(f:Nat->Value)(A:JE),A.length=len->(∀(i:Nat) y,A[i]?=some y->y.flat=true/\VR E W y (f i))->(∀i,i<len->(f i).cells.toList=(g i).1)->VR E W (.qf p.length A) (.slice (some a) len cap):=by
    intro f A C l R;by_cases h0:len=0
    .have:A=[]:=List.eq_nil_of_length_eq_zero (by omega)
     subst this;subst h0;exact .wj _ _ _ D
    .obtain⟨s1,s2⟩:=ai (by omega)
     obtain⟨ab,ao,ar⟩:=a;simp only at s1 s2;subst s1;subst C;refine .qf A ab ao cap p.length f (hZ _ s2) af D (λi y h=>by have:=(l i y h).1;cases y<;>first|rfl|exact this) (λi y h=>(l i y h).2) λi hi=>?_
     obtain⟨g1,_,_,_,_,g6⟩:=S i hi;have hc:=R i hi;refine⟨by rw[←Array.length_toList,hc,g1],λj c hj=>?_⟩
     have aa:(g i).1[j]?=some c:=by rw[←hc];simpa using hj
     have ac:j<p.length:=by rw[←g1];exact(QC.1 aa).1
     have:=g6 j ac;rw[aa,zcI rfl]at this
     simpa[Nat.add_assoc]using this
   split at h
   .split at h
    .rename_i c;cases h;have h1:∀i,i<len->∃v av,(g i).1=[v]/\(g i).2=[av]/\CD.Ok (B.f (.slice (d.map (·.1)) (o.map (·.1)))) c av/\VR E W av v/\av.flat=true/\v.oneCell'=true:=λi hi=>by
      obtain⟨g1,g2,g3,g4,g5,_⟩:=S i hi;cases hq:(g i).2 with
      |nil=>rw[hq]at g2;cases g2
      |cons av r=>
       rw[hq]at g2 g3 g4;cases g2 with
       |cons k1 k2=>
        cases k2;obtain⟨v,r',J,O,e3⟩:=g3.of_cons;have:=e3.of_nil;subst this;rw[J]at g5;exact⟨v,av,J,rfl,k1,O,g4 _ (List.mem_cons_self ..),g5 _ (List.mem_cons_self ..)⟩
     refine .single (.one c ((List.range len).map λi=>((g i).2).headD .qo) (λx C=>?_) (by rw[QG,List.length_range];exact U)) (fin (λi=>((g i).1).headD undef) _ (by simp) (λi y l=>?_) λi hi=>?_) rfl rfl
     .obtain⟨i,hi,rfl⟩:=QR.1 C;obtain⟨v,av,J,O,e3,_⟩:=h1 i (by simpa using hi)
      rw[O];exact e3
     .rw[Qb]at l;cases hi:(List.range len)[i]? with
      |none=>rw[hi]at l;cases l
      |some k=>
       rw[hi]at l;obtain⟨K,rfl⟩:=QC.1 hi;simp only[List.getElem_range,Option.map_some,QK]at l;obtain⟨v,av,J,O,e3,e4,e5,_⟩:=h1 i (by simpa using K)
       rw[O]at l;simp only[List.headD_cons]at l;subst l;rw[J];exact⟨e5,e4⟩
     .obtain⟨v,av,J,O,e3,e4,e5,e6⟩:=h1 i hi;rw[J];simp only[List.headD_cons];cases v<;>first|rfl|(simp[Value.oneCell']at e6)
    .cases h
   .cases h;refine .single (a:=.qf p.length (((List.range len).map λi=>(g i).2).map .agg)) (.agg p _ (λx C=>?_) (by rw[QG,List.length_range];exact U)) (fin (λi=>.agg (g i).1.toArray) _ (by simp) (λi y l=>?_) λi hi=>by simp[Value.cells]) rfl rfl
    .obtain⟨i,hi,rfl⟩:=QR.1 C;exact(S i (by simpa using hi)).2.1
    .rw[Qb,Qb]at l;cases hi:(List.range len)[i]? with
     |none=>rw[hi]at l;cases l
     |some k=>
      rw[hi]at l;obtain⟨K,rfl⟩:=QC.1 hi;simp only[List.getElem_range,Option.map_some,QK]at l;subst l;obtain⟨g1,g2,g3,g4,g5,_⟩:=S i (by simpa using K)
      exact⟨rfl,VR.qP (by simpa using g3) (by simpa using g5)⟩
  .rename_i fs hu;split at h
   .cases h
   rename_i aq hf;split at h
   rotate_left
   .cases h
   rename_i hc;cases h;have hc:=zb hc;obtain⟨A,m,rfl,rfl,hl,ae,L⟩:=DataW.trod_struct hu hr;have:=zT6 B (fuel:=m) (N:=B.f (.agg (A.map (·.1)))) (λt z cs x=>zS9 hZ n m t z cs x) fs.toList 0 z cs hf λf ag=>by
    obtain⟨i,hi⟩:=List.getElem?_of_mem ag;have h1:=L i f (by simpa using hi)
    have:∃y,A[i]?=some y:=⟨_,QD (by rw[ae];simpa using(QC.1 hi).1)⟩
    obtain⟨y,l⟩:=this;exact⟨y,h1.trans l,by have:=B.mem (QR.2 ⟨y,QF l,rfl⟩:y.1∈A.map (·.1));rw[B.agg];omega⟩
   rw[←hc,←hl]at this
   simpa using this
  .cases h
end
mutual
theorem CD.Ok.pp{N:Nat}:∀{c:CD}{a:AV},CD.Ok N c a->PP a
 |_,_,.bool b=>.bool b
 |_,_,.int k n h=>.int k n
 |_,_,.str l h j f=>.str l
 |_,_,.one e i h f=>.qf _ _ λx d=>CD.Ok.pp (h x d)
 |_,_,.agg m i h f=>.qf _ _ λx d=>by
   obtain⟨y,g,rfl⟩:=QR.1 d;exact .agg _ (CD.wZ.pp (h y g))
theorem CD.wZ.pp{N:Nat}:∀{c:List CD}{a:JE},CD.wZ N c a->∀x∈a,PP x
 |_,_,.nil=>λx d=>by cases d
 |_,_,.cons h e=>λx d=>by
   rcases QJ.1 d with rfl|d
   .exact CD.Ok.pp h
   .exact CD.wZ.pp e x d
end
theorem TabOK.at{P:Program}{G:Cx}{f:Nat}{g:JE->JF}{tb:TbF}{th:TbH}(h:TabOK P G ((f,g)::tb) th):zB4 P G f g:=λargs v c a=>h.v _ (.head _) args v c a
end Go.Sy
