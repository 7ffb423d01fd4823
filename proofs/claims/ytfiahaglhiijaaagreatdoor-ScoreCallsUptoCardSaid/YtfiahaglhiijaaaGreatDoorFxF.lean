/- A LIBRARY: WHAT A FUNCTION'S CODE RECKONS, AS A LEAN FUNCTION, AND THAT ITS WORD IS THE MODEL'S: part 6 of 6. No condition. -/
import Derived.Test.YtfiahaglhiijaaaGreatDoorFxE
import Derived.Carry
import Derived.WideShapes
import Derived.Lib.AtoiAll
import Derived.Lib.ItoaNum
import Derived.Lib.Bytealg
import Derived.Lib.IndexLaws
import Derived.Lib.ParseIntBTie
import Derived.Lib.ItoaLen
import Derived.Lib.AppendIntMem
import Derived.Lib.LaidTab
import Derived.Shelf.Small.Bits
import Derived.Shelf.Strconv.Itoa4
import Derived.Lib.SplitLaws
import Derived.Lib.IndexMore
import Derived.DataReads
import Derived.ChangeArms
import Derived.Sort.AssemblyPlain
import Derived.Shelf.GgSortFunc.InsertionK
set_option linter.unusedVariables false
set_option linter.unusedSimpArgs false
namespace Go.Sy
open Go.ChangeShapes Go.RowKit
section
variable{P:Program}{w:World}{r:Reach}{b:Nat}{t:TypeId}{v:Value}
theorem zaj(h:Cell.ok P w r b t v):v.oneCell'=true:=by
 unfold Cell.ok at h;split at h<;>first|rfl|exact h.elim
theorem zVo(h:Cell.okWide P w r b t v):v.oneCell'=true:=by
 unfold Cell.okWide at h;split at h<;>first|rfl|exact zaj h
theorem zgA{P:Program}{w:World}{r:Reach}{b:Nat}{t:TypeId}{v:Value}(h:Value.okWide P w r b t v)(d:∀a,P.underlying t≠some (.struct a))(c:∀n e,P.underlying t≠some (.array n e)):v.oneCell'=true:=by
 unfold Value.okWide at h;split at h
 .rename_i a e;exact absurd e (d a)
 .rename_i n x e;exact absurd e (c n x)
 .exact zVo h
theorem zhM{H:Type}{enc:TypeId×Value->H}{P:Program}{t:TypeId}(i:laidOutB P=true)(j:P.readableRec t=true)(a:t<P.types.size){W f:World}{v:Value}{d:DataW H}{c:List MemPlace}{sp:Nat->Bool}
  (h:DataW.Trod enc P W 0 (λ_=>true) true t v d c) (g:Kept W f) (e:∀x∈c,x.block<W.heap.size) (l:∀x∈c,sp x.block=true):DataW.Trod enc P f 0 sp true t v d c:=
 WideElems.Trod_stays i j a h (λx m=>g.below.same (e x m)) l
end
section
variable{P:Program}{w:World}{r:Reach}{b:Nat}{t u:TypeId}{v:Value}{E:Env}
def lets(s:ByteArray):JV:=s.data.toList.map UInt8.toNat
theorem VR.lets{s:ByteArray}(h:s.size<=zh):VR E w (.str (Sy.lets s)) (.string s):=.str _ s rfl (by
 have:(Sy.lets s).length=s.size:=by
  unfold Sy.lets;rw[QG,Array.length_toList];rfl
 omega)
theorem zeL{s:ByteArray}:∀b∈lets s,b<256:=by
 intro b a;obtain⟨x,_,rfl⟩:=Qg.1 a;exact UInt8.toNat_lt x
theorem zWz {G:Cx} {f:FuncId} {fn:Func} {a:Code} (s:P.funcs[f]?=some fn) (o:fn.body=some a) (z:(fn.name == "runtime.NumGoroutine")=false) {g:JE->JF}
  (h:∀args v,g args=some v->∀(E:Env)(w:World)(cargs:JB),HR E [] w->VRs E w args cargs.toList->GR G E w->Calls P f cargs w λe w'=>∃cv,e=.returned cv/\Below w.heap.size w w'/\VR E w v cv) (i:∀args v,g args=some v->args.all (zBL 40)=true/\zBL 40 v=true) (y:zUe G):zXk P G f g:=by
 intro args v d;refine⟨⟨fn,a,s,o,z⟩,zYJ y (i _ _ d).1 (i _ _ d).2 (n:=0) ?_⟩
 intro E w cargs j c p _;refine(h args v d E w cargs j c p).mono λe w' h1=>?_
 obtain⟨cv,rfl,m,x⟩:=h1;obtain⟨l,A,q⟩:=zPN j m 0;exact⟨cv,E,rfl,l,A,q x⟩
end
end Go.Sy
namespace Go.Sy
open Go.RowKit
section
variable{P:Program}{G:Cx}{E:Env}{w w':World}{H:Heap}
theorem zYQ{N:Nat}(g:HR E H w)(d:Below w.heap.size w w')(s:w.heap.size<=N)(m:N<w'.heap.size)(a:Nat):
  HR { E with Z:=λb=>E.Z b\/b=N } H w'/\Tr E H w { E with Z:=λb=>E.Z b\/b=N } H w' a a/\∀{v j},VR E w v j->VR { E with Z:=λb=>E.Z b\/b=N } w' v j:=by
 have o:zA7 w w':=λb c e f h=>⟨c,f,(d.block b (Array.getElem?_eq_some_iff.1 h).1).trans h,rfl⟩
 have n:∀{v j},VR E w v j->VR { E with Z:=λb=>E.Z b\/b=N } w' v j:=λz=>
  VR.mono (E:=E) (E':={ E with Z:=λb=>E.Z b\/b=N }) (λ_ h=>⟨h,rfl⟩) (λb h=>⟨.inl h,d.block b (g.wa b h)⟩) o z
 refine⟨⟨g.nodup,g.qz,g.inj,λp i=>(g.obj p i).mono (d.block _ (g.lt i)) n,λp i l=>?_,λb h=>?_⟩,
  ⟨QA _,λ_ _=>rfl,λh=>⟨.inl,λh=>h.elim id λ⟨x,y⟩=>by omega⟩,λ_ h=>.inl h,λx h=>?_,λp i=>.inl ⟨p,i,rfl⟩,d.tape,d.os,d.output,d.size,λx q _=>d.block x q,o,rfl⟩,n⟩
 .rcases l with l|l
  .exact g.nz p i l
  .have:=g.lt i;have e:E.ρ p.1=N:=l;omega
 .rcases h with h|h
  .exact Qf (g.wa b h) d.size
  .rw[h];exact m
 .rcases h with h|h
  .exact .inl h
  .exact .inr (.inr (by rw[h];exact s))
def zaM(i:Nat):JV:=(Lib.decDigits i).map UInt8.toNat
def zSm:JE->JF
 |[.int .i64 (.ofNat i)]=>match Nat.blt i 100 with
  |true=>some (.str (zaM i))
  |false=>none
 |_=>none
theorem zbE {f:FuncId} {fn:Func} {j:Code} (x:P.funcs[f]?=some fn) (s:fn.body=some j) (z:(fn.name == "runtime.NumGoroutine")=false)
  (q:∀(i:Nat)(l:i<100)(w:World),Calls P f #[.int .i64 i] w λe w'=>e=.returned (.string ⟨(Lib.decDigits i).toArray⟩)/\w'=w) (y:zUe G):zXk P G f zSm:=by
 refine zWz x s z (λargs v a E w g F o A=>?_) (λargs v a=>?_) y
 .unfold zSm at a;split at a
  rotate_left
  .cases a
  rename_i i;split at a
  rotate_left
  .cases a
  rename_i l;have l:i<100:=by simpa[Ql]using l
  cases a;obtain⟨c,D,hc,m,d⟩:=o.of_cons;have p:=d.of_nil;subst p;have n:g=#[c]:=by apply Array.toList_inj.1;simpa using hc
  subst n;obtain⟨rfl,_⟩:=m.of_int;refine(q i l w).mono λe w' h=>?_
  obtain⟨rfl,rfl⟩:=h;refine⟨_,rfl,Below.refl _ _,.str _ _ (by simp[zaM]) ?_⟩
  have:(Lib.decDigits i).length<=2:=by
   rw[Lib.decDigits];split
   .simp
   .rw[Lib.decDigits];split
    .simp
    .omega
  unfold zaM zh;rw[QG];omega
 .unfold zSm at a;split at a
  .split at a
   .cases a;exact⟨rfl,rfl⟩
   .cases a
  .cases a
theorem zWh{g:Nat}{x:AV}{w:World}(m:GR G E w)(z:G.wV g=some (.qd (.agg [x]) 0)):∃c,w.cell? ⟨g,0,none⟩=some c/\VR E w x c/\c.oneCell'=true:=by
 have:=(m g _ z).1;generalize d:Value.pointer (some ⟨g,0,none⟩)=I at this;cases this with
 |qd e off b o F s K h a=>
  have f:g=b/\0=o+0:=by
   have h1:=Qw (Value.pointer.inj d);exact⟨congrArg Addr.block h1,congrArg Addr.off h1⟩
  obtain⟨f,J⟩:=f;obtain⟨i,rfl,l,y⟩:=h.qY;obtain⟨u,us,j,n,q⟩:=l.of_cons;have A:=q.of_nil;subst A;have p:i[0]?=some u:=by
   have:i.toList[0]?=some u:=by rw[j];rfl
   simpa using this
  have h8:=a 0 u (by simpa[Value.cells]using p)
  have D:o=0:=by omega
  subst D;exact⟨u,by rw[f];exact h8,n,y u (by rw[j];exact .head _)⟩
theorem zWi{s:ByteArray}:(s.data.toList.map UInt8.toNat).map UInt8.ofNat=s.data.toList:=by
 rw[List.map_map];have:(UInt8.ofNat∘UInt8.toNat)=id:=by funext x;simp
 rw[this,List.map_id]
end
section
variable{P:Program}{G:Cx}{E:Env}{w w':World}{H:Heap}
theorem zG7.qo{f:Nat}{g:JE->JF}(h:zXk P G f g)(d:∀args v,(∀a∈args,PP a)->g args=some v->PP v):zG7 P G f g:=λargs v e c=>⟨(h args v c).1,d args v e c,(h args v c).2⟩
def zdB:JE->JF
 |[.str s,.int .u8 c]=>some (.int .i64 (Lib.indexByte (s.map UInt8.ofNat) c.toNat.toUInt8))
 |_=>none
theorem zak(c:UInt8)(l:List UInt8):Lib.indexByte l c<9223372036854775808\/9223372036854775808<=l.length:=by
 by_cases h:Lib.indexByte l c<0
 .left;omega
 .obtain⟨o,a⟩:=Int.eq_ofNat_of_zero_le (show 0<=Lib.indexByte l c by omega)
  have:=(Lib.indexByte_some a).1;have:=(QB.1 this).1;omega
theorem zeM {f:FuncId} {fn:Func} {d:Code} (I:P.funcs[f]?=some fn) (D:fn.body=some d) (O:(fn.name == "runtime.NumGoroutine")=false)
  (F:∀(s:ByteArray)(c:Int)(w:World),Calls P f #[.string s,.int .u8 c] w λe w'=>e=.returned (.int .i64 (Lib.indexByte s.data.toList c.toNat.toUInt8))/\w'=w):zG7 P G f zdB:=by
 intro args v U n;unfold zdB at n;split at n
 rotate_left
 .cases n
 rename_i l c;cases n;refine⟨⟨fn,d,I,D,O⟩,.int _ _,λH K E w i J q S A=>?_⟩
 obtain⟨c1,T,hc,o,g⟩:=q.of_cons;obtain⟨c2,Q,x,j,a⟩:=g.of_cons;have y:=a.of_nil;subst y;have p:i=#[c1,c2]:=by apply Array.toList_inj.1;rw[hc,x]
 subst p;obtain⟨s,rfl,L,m⟩:∃s:ByteArray,c1=.string s/\s.data.toList.map UInt8.toNat=l/\l.length<=zh:=by
  cases o with
  |str l z h m=>exact⟨z,rfl,h,m⟩
 obtain⟨rfl,_⟩:=j.of_int;subst L;rw[zWi];refine(F s c w).mono λe w' h=>?_
 obtain⟨rfl,rfl⟩:=h;refine⟨_,E,rfl,J,.refl K,.int _ _ ?_⟩
 have h1:=Lib.indexByte_ge s.data.toList c.toNat.toUInt8;have R:=zak c.toNat.toUInt8 s.data.toList;rw[QG]at m;unfold zh at m;unfold has;show -9223372036854775808<=_/\_<=9223372036854775807
 omega
theorem zcU {f:FuncId} {fn:Func} {c:Code} (d:P.funcs[f]?=some fn) (g:fn.body=some c) (l:(fn.name == "runtime.NumGoroutine")=false)
  (h:∀(i:Nat)(m:i<100)(w:World),Calls P f #[.int .i64 i] w λe w'=>e=.returned (.string ⟨(Lib.decDigits i).toArray⟩)/\w'=w) (j:zUe G):zG7 P G f zSm:=.qo (zbE d g l h j) λargs v _ a=>by
 unfold zSm at a;split at a
 .split at a
  .cases a;exact .str _
  .cases a
 .cases a
def fmtG:JE->JF
 |[.int .i64 n,.int .i64 b]=>match b==10&&decide (-9223372036854775808<=n/\n<=9223372036854775807)with
  |true=>some (.str ((Lib.itoa n).map UInt8.toNat))
  |false=>none
 |_=>none
theorem zfW{n:String}{g:Nat}{a:List Int}{k:IntKind}(S:P.globalNamed n=some g)(T:G.wV g=some (.qd (.agg (a.map λz=>.int k z)) 0))(I:GR G E w):Lib.TabIs P w n k a:=by
 obtain⟨F,R⟩:=I g _ T;obtain⟨c,t,e,A,s⟩:=R _ _ rfl;unfold Lib.TabIs World.var?;rw[S];show(match w.heap[g]? with|some (.cells K _ _)=>some K|_=>none)=_
 rw[A];refine congrArg some ?_
 generalize q:Value.pointer (some ⟨g,0,none⟩)=Y at F;cases F with
 |qd e off b o X Q hz x l=>
  have U:g=b/\0=o+0:=by
   have h1:=Qw (Value.pointer.inj q);exact⟨congrArg Addr.block h1,congrArg Addr.off h1⟩
  obtain⟨rfl,e2⟩:=U;have V:o=0:=by omega
  subst V;obtain⟨m,rfl,y,h3⟩:=x.qY;have d:m.size=a.length:=by
   have:=y.1;simp at this;omega
  apply Array.ext
  .rw[s];simp
  .intro i h p;have f:i<a.length:=by simpa using p
   have j:m[i]?=some (.int k a[i]):=by
    have J:=(y.2 i (.int k a[i]) (m[i]'(by omega)) (by rw[Qn,QF f];rfl) (by simp[d,f]))
    have O:=J.of_int;rw[Qi (by omega)]
    exact congrArg some O.1
   have D:=l i (.int k a[i]) (by simpa[Value.cells]using j)
   have L:w.cell? ⟨g,0+i,none⟩=c[i]?:=by simp[World.cell?,A,QY]
   rw[L,Qi h]at D;have h8:=Qw D
   simpa using h8
theorem zeN {f:FuncId} {fn:Func} {d:Code} {g:Nat} (Q:P.funcs[f]?=some fn) (L:fn.body=some d) (T:(fn.name == "runtime.NumGoroutine")=false)
  (A:P.globalNamed "internal/strconv.uint64pow10"=some g) (S:G.wV g=some (.qd (.agg (Lib.pow10Tab.map λz=>.int .u64 z)) 0))
  (I:∀(n:Int)(I:-9223372036854775808<=n)(h1:n<=9223372036854775807)(w:World) (F:Lib.TabIs P w "internal/strconv.uint64pow10" .u64 Lib.pow10Tab),Calls P f #[.int .i64 n,.int .i64 10] w λe w'=>e=.returned (.string ⟨(Lib.itoa n).toArray⟩)/\∃k s,w'=Sort.grow (w.drewN k) s):zG7 P G f fmtG:=by
 intro args v ha m;unfold fmtG at m;split at m
 rotate_left
 .cases m
 rename_i n b;split at m
 rotate_left
 .cases m
 rename_i i;cases m;rw[qr]at i;obtain rfl:b=10:=by simpa using i.1
 have a:=QP i.2;refine⟨⟨fn,d,Q,L,T⟩,.str _,λH X E w l R x O K=>?_⟩
 obtain⟨c1,cr,hc,p,j⟩:=x.of_cons;obtain⟨c2,V,y,o,c⟩:=j.of_cons;have D:=c.of_nil;subst D;have q:l=#[c1,c2]:=by apply Array.toList_inj.1;rw[hc,y]
 subst q;obtain⟨rfl,_⟩:=p.of_int;obtain⟨rfl,_⟩:=o.of_int;refine(I n a.1 a.2 w (zfW A S O)).mono λe w' h=>?_
 obtain⟨rfl,k,s,rfl⟩:=h;obtain⟨J,U,Y⟩:=zPN R (Lib.below_grow _ _ (QA _) k s) X;refine⟨_,E,rfl,J,U,.str _ _ (by simp) ?_⟩
 have:=Lib.itoa_length_le n a.1 a.2;rw[QG];unfold zh;omega
theorem zbF(g:HR E H w)(d:Below w.heap.size w w')(a:Nat):
  HR { E with Z:=λb=>E.Z b\/(w.heap.size<=b/\b<w'.heap.size) } H w'/\Tr E H w { E with Z:=λb=>E.Z b\/(w.heap.size<=b/\b<w'.heap.size) } H w' a a/\∀{v j},VR E w v j->VR { E with Z:=λb=>E.Z b\/(w.heap.size<=b/\b<w'.heap.size) } w' v j:=by
 have n:zA7 w w':=λb c e f h=>⟨c,f,(d.block b (Array.getElem?_eq_some_iff.1 h).1).trans h,rfl⟩
 have m:∀{v j},VR E w v j->VR { E with Z:=λb=>E.Z b\/(w.heap.size<=b/\b<w'.heap.size) } w' v j:=λq=>
  VR.mono (E:=E) (E':={ E with Z:=λb=>E.Z b\/(w.heap.size<=b/\b<w'.heap.size) }) (λ_ h=>⟨h,rfl⟩) (λb h=>⟨.inl h,d.block b (g.wa b h)⟩) n q
 refine⟨⟨g.nodup,g.qz,g.inj,λp i=>(g.obj p i).mono (d.block _ (g.lt i)) m,λp i l=>?_,λb h=>?_⟩,
  ⟨QA _,λ_ _=>rfl,λh=>⟨.inl,λh=>h.elim id λ⟨x,y⟩=>by omega⟩,λ_ h=>.inl h,λx h=>?_,λp i=>.inl ⟨p,i,rfl⟩,d.tape,d.os,d.output,d.size,λx o _=>d.block x o,n,rfl⟩,m⟩
 .rcases l with l|l
  .exact g.nz p i l
  .have:=g.lt i;have e:w.heap.size<=E.ρ p.1:=l.1;omega
 .rcases h with h|h
  .exact Qf (g.wa b h) d.size
  .exact h.2
 .rcases h with h|h
  .exact .inl h
  .exact .inr (.inr h.1)
def zUv(T:Nat)(es er:AV):JE->JF
 |[.str s,.int .i64 b,.int .i64 z]=>match Nat.ble s.length 281474976710656&&(b==10&&z==64)with
  |true=>match Lib.parseIntB 64 (s.map UInt8.ofNat)with
   |.ok v=>some (.qc [.int .i64 v,.qf])
   |.range=>some (.qc [.int .i64 (Lib.intSat 64 (s.map UInt8.ofNat)),.iface T (.qd (.agg [.str [80,97,114,115,101,73,110,116],.str s,er]) 0)])
   |_=>some (.qc [.int .i64 0,.iface T (.qd (.agg [.str [80,97,114,115,101,73,110,116],.str s,es]) 0)])
  |false=>none
 |_=>none
theorem zcV {f:FuncId} {fn:Func} {D:Code} {T gs gr ty ps pr:Nat} {es er:AV} (hf:P.funcs[f]?=some fn) (hb:fn.body=some D) (hn:(fn.name == "runtime.NumGoroutine")=false) (L:GPP G)
  (X:G.wV gs=some (.qd (.agg [.iface ps es]) 0)) (V:G.wV gr=some (.qd (.agg [.iface pr er]) 0))
  (h0:∀(s:ByteArray)(a8:s.size<=9223372036854775806)(v:Int)(h:Lib.parseIntB 64 s.data.toList=.ok v)(w:World),Calls P f #[.string s,.int .i64 10,.int .i64 64] w λe w'=>e=.returned (.tuple #[.int .i64 v,.nilIface])/\Below w.heap.size w w')
  (h1:∀(s:ByteArray)(ac:s.size<=281474976710656)(h:∀v,Lib.parseIntB 64 s.data.toList≠.ok v)(h':Lib.parseIntB 64 s.data.toList≠.range)(a:Value)(w:World)(d:w.cell? ⟨gs,0,none⟩=some a)(ay:a=.nilIface\/∃g pe,a=.iface g pe),
   Calls P f #[.string s,.int .i64 10,.int .i64 64] w λe w'=>∃N,e=.returned (.tuple #[.int .i64 (0),.iface T (.pointer (some ⟨N,0,none⟩))])/\w.heap.size<=N/\w'.heap[N]?=some (.cells #[.string ⟨#[80,97,114,115,101,73,110,116]⟩,.string s,a] ty (0,0))/\Below w.heap.size w w')
  (h2:∀(s:ByteArray)(ac:s.size<=281474976710656)(h:Lib.parseIntB 64 s.data.toList=.range)(a:Value)(w:World)(d:w.cell? ⟨gr,0,none⟩=some a)(ay:a=.nilIface\/∃g pe,a=.iface g pe),
   Calls P f #[.string s,.int .i64 10,.int .i64 64] w λe w'=>∃N,e=.returned (.tuple #[.int .i64 (Lib.intSat 64 s.data.toList),.iface T (.pointer (some ⟨N,0,none⟩))])/\w.heap.size<=N/\w'.heap[N]?=some (.cells #[.string ⟨#[80,97,114,115,101,73,110,116]⟩,.string s,a] ty (0,0))/\Below w.heap.size w w'):zG7 P G f (zUv T (.iface ps es) (.iface pr er)):=by
 have al:∀l,has .i64 (Lib.intSat 64 l):=λl=>by unfold Lib.intSat has;split<;>decide
 have a1:PP (.iface ps es):=by
  have:=L gs _ X;cases this with
  |qd e off h=>cases h with
   |agg cs h=>exact h _ (.head _)
 have ax:PP (.iface pr er):=by
  have:=L gr _ V;cases this with
  |qd e off h=>cases h with
   |agg cs h=>exact h _ (.head _)
 intro args v ha d;unfold zUv at d;split at d
 rotate_left
 .cases d
 rename_i l b z;split at d
 rotate_left
 .cases d
 rename_i q;simp only[qr]at q;obtain⟨q,aw,ao⟩:=q;obtain rfl:b=10:=by simpa using aw
 obtain rfl:z=64:=by simpa using ao
 have a6:PP v:=by
  have ab:∀{n:Int}{e:AV},PP e->PP (.qc [.int .i64 n,.iface T (.qd (.agg [.str [80,97,114,115,101,73,110,116],.str l,e]) 0)]):=λhe=>.qc _ λx i=>by
   rcases QH.1 i with rfl|i
   .exact .int _ _
   .rcases QH.1 i with rfl|i
    .refine .iface _ _ (.qd _ _ (.agg _ λy I=>?_))
     rcases QH.1 I with rfl|I
     .exact .str _
     .rcases QH.1 I with rfl|I
      .exact .str _
      .rcases QH.1 I with rfl|I
       .exact he
       .cases I
    .cases i
  split at d
  .cases d;exact .qc _ λx i=>by
    rcases QH.1 i with rfl|i
    .exact .int _ _
    .rcases QH.1 i with rfl|i
     .exact .qf
     .cases i
  .cases d;exact ab ax
  .cases d;exact ab a1
 refine⟨⟨fn,D,hf,hb,hn⟩,a6,λH nx E w J hr au hg bb=>?_⟩
 obtain⟨c,cr,hc,ar,F⟩:=au.of_cons;obtain⟨c2,ba,ak,O,o⟩:=F.of_cons;obtain⟨c3,bc,aq,aa,p⟩:=o.of_cons;have a7:=p.of_nil;subst a7;have af:J=#[c,c2,c3]:=by apply Array.toList_inj.1;rw[hc,ak,aq]
 subst af;obtain⟨rfl,_⟩:=O.of_int;obtain⟨rfl,_⟩:=aa.of_int;obtain⟨s,rfl,hs,hl⟩:∃s:ByteArray,c=.string s/\s.data.toList.map UInt8.toNat=l/\l.length<=zh:=by
  cases ar with
  |str l s' h hl=>exact⟨s',rfl,h,hl⟩
 subst hs;rw[zWi]at d;have Q:s.size<=281474976710656:=by
  have h3:=QS q;rw[QG,Array.length_toList]at h3;exact h3
 have A:∀{N:Nat}{w':World}{a:Value}{g:Nat}{x:AV}{num:Int},has .i64 num->VR E w (.iface g x) a->w.heap.size<=N->w'.heap[N]?=some (.cells #[.string ⟨#[80,97,114,115,101,73,110,116]⟩,.string s,a] ty (0,0))->Below w.heap.size w w' →
   ∃cv E',(Ending.returned (.tuple #[.int .i64 num,.iface T (.pointer (some ⟨N,0,none⟩))]):Ending)=.returned cv/\HR E' H w'/\Tr E H w E' H w' nx nx ∧
    VR E' w' (.qc [.int .i64 num,.iface T (.qd (.agg [.str [80,97,114,115,101,73,110,116],.str (s.data.toList.map UInt8.toNat),.iface g x]) 0)]) cv:=by
  intro N w' a g x num ad U hN m K;have aj:=(Array.getElem?_eq_some_iff.1 m).1;obtain⟨k1,k2,k3⟩:=zYQ hr K hN aj nx;refine⟨_,_,rfl,k1,k2,?_⟩
  have Y:VR { E with Z:=λb=>E.Z b\/b=N } w' (.agg [.str [80,97,114,115,101,73,110,116],.str (s.data.toList.map UInt8.toNat),.iface g x]) (.agg #[.string ⟨#[80,97,114,115,101,73,110,116]⟩,.string s,a]):=by
   refine VR.qN (.cons (.str _ _ rfl (by decide)) (.cons (.str _ _ rfl hl) (.cons (k3 U) .nil))) λv d=>?_
   have h9:a.oneCell'=true:=U.wN rfl;have az:v=.string ⟨#[80,97,114,115,101,73,110,116]⟩\/v=.string s\/v=a:=by simpa using d
   rcases az with rfl|rfl|rfl
   .rfl
   .rfl
   .exact h9
  refine VR.qK (.cons (.int _ _ ad) (.cons (.iface _ _ _ ?_) .nil))
  have:=VR.qd (E:={ E with Z:=λb=>E.Z b\/b=N }) (w:=w') _ 0 N 0 _ rfl (Or.inr rfl) Y λj c hj=>by
   have hj:(#[Value.string ⟨#[80,97,114,115,101,73,110,116]⟩,.string s,a])[j]?=some c:=hj;show w'.cell? ⟨N,0+j,none⟩=some c
   simp only[World.cell?,m,QY];exact hj
  exact this
 have S:∀{g:Nat}{x:AV}{a:Value},VR E w (.iface g x) a->a=.nilIface\/∃g pe,a=.iface g pe:=λh=>by
  cases h with
  |iface t v cv h=>exact .inr ⟨_,_,rfl⟩
 split at d
 .rename_i n R;cases d;refine(h0 s (by omega) n R w).mono λe w' h=>?_
  obtain⟨rfl,K⟩:=h;obtain⟨k1,k2,k3⟩:=zPN hr K nx;have ae:=Lib.parseIntB_bounds R;exact⟨_,E,rfl,k1,k2,VR.qK (.cons (.int _ _ ⟨ae.1,Int.le_of_lt_add_one ae.2⟩) (.cons .qf .nil))⟩
 .rename_i ag;cases d;obtain⟨a,c1,c2,_⟩:=zWh hg V;refine(h2 s Q ag a w c1 (S c2)).mono λe w' h=>?_
  obtain⟨N,rfl,m1,m2,m3⟩:=h;exact A (al _) c2 m1 m2 m3
 .rename_i ai ah;cases d;obtain⟨a,c1,c2,_⟩:=zWh hg X;refine(h1 s Q (λv e=>ai v e) (λe=>ah e) a w c1 (S c2)).mono λe w' h=>?_
  obtain⟨N,rfl,m1,m2,m3⟩:=h;exact A (by unfold has;decide) c2 m1 m2 m3
end
inductive CD where
 |bool|int (k:IntKind)|str
 |sl (es:List CD) (one:Bool)
structure BK(H:Type) where
 f:DataW H->Nat
 all:List (DataW H)->Nat
 str:∀b,f (.lit (.string b))=b.length+1
 pos:∀d,1<=f d
 slice:∀a b,f (.slice a b)=all a+all b+1
 agg:∀p,f (.agg p)=all p+1
 nil:all []=0
 cons:∀d r,all (d::r)=f d+all r
theorem BK.mem{H:Type}(B:BK H){d:DataW H}:∀{l:List (DataW H)},d∈l->B.f d<=B.all l
 |_::r,h=>by
  rw[B.cons];rcases QH.1 h with rfl|h
  .omega
  .have:=B.mem h;omega
theorem BK.len{H:Type}(B:BK H):∀l:List (DataW H),l.length<=B.all l
 |[]=>QI _
 |d::r=>by rw[B.cons,QL];have:=B.pos d;have:=B.len r;omega
mutual
inductive CD.Ok(N:Nat):CD->AV->Prop
 |bool (b:Bool):CD.Ok N .bool (.bool b)
 |int (k:IntKind) (n:Int) (h:has k n):CD.Ok N (.int k) (.int k n)
 |str (l:JV) (h:∀x∈l,x<256) (hl:l.length<=zh) (hn:l.length<=N):CD.Ok N .str (.str l)
 |one (e:CD) (xs:JE) (h:∀x∈xs,CD.Ok N e x) (hn:xs.length<=N):CD.Ok N (.sl [e] true) (.qg 1 xs)
 |agg (es:List CD) (xs:List JE) (h:∀x∈xs,CD.wI N es x) (hn:xs.length<=N):CD.Ok N (.sl es false) (.qg es.length (xs.map .agg))
inductive CD.wI(N:Nat):List CD->JE->Prop
 |nil:CD.wI N [] []
 |cons {c:CD} {cs:List CD} {a:AV} {as_:JE} (h:CD.Ok N c a) (hs:CD.wI N cs as_):CD.wI N (c::cs) (a::as_)
end
mutual
theorem CD.Ok.mono{N M:Nat}(hm:N<=M):∀{c:CD}{a:AV},CD.Ok N c a->CD.Ok M c a
 |_,_,.bool b=>.bool b
 |_,_,.int k n h=>.int k n h
 |_,_,.str l h i d=>.str l h i (Qj d hm)
 |_,_,.one e f h d=>.one e f (λx g=>CD.Ok.mono hm (h x g)) (Qj d hm)
 |_,_,.agg j f h d=>.agg j f (λx g=>CD.wI.mono hm (h x g)) (Qj d hm)
theorem CD.wI.mono{N M:Nat}(hm:N<=M):∀{c:List CD}{a:JE},CD.wI N c a->CD.wI M c a
 |_,_,.nil=>.nil
 |_,_,.cons h d=>.cons (CD.Ok.mono hm h) (CD.wI.mono hm d)
end
theorem CD.wI.append{N:Nat}{cs ds:List CD}:∀{l m:JE},CD.wI N cs l->CD.wI N ds m->CD.wI N (cs++ds) (l++m):=by
 induction cs with
 |nil=>intro l m h k;cases h;exact k
 |cons c cs a=>intro l m h k;cases h with|cons h1 d=>exact .cons h1 (a d k)
def zfX(P:Program)(t:TypeId):Bool:=match P.underlying t with
 |some (.struct _)=>false
 |some (.array _ _)=>false
 |_=>true
def zP0(c:TypeId->Option (List CD))(P:Program):Nat->List Field->Option (List CD)
 |_,[]=>some []
 |off,f::r=>match c f.type with
  |none=>none
  |some a=>match Nat.beq f.offset off&&Nat.beq (P.cellsOf f.type) a.length with
   |false=>none
   |true=>match zP0 c P (off+a.length) r with
    |none=>none
    |some d=>some (a++d)
def zR1(P:Program):Nat->TypeId->Option (List CD)
 |0,_=>none
 |n+1,t=>match P.underlying t with
  |some .bool=>some [.bool]
  |some (.int k)=>some [.int k]
  |some .string=>some [.str]
  |some (.slice e)=>match zR1 P n e with
   |none=>none
   |some a=>match Nat.beq (P.cellsOf e) a.length&&Nat.ble 1 a.length with
    |false=>none
    |true=>match zfX P e with
     |true=>match a with
      |[c]=>some [.sl [c] true]
      |_=>none
     |false=>some [.sl a false]
  |some (.struct f)=>match zP0 (zR1 P n) P 0 f.toList with
   |none=>none
   |some d=>match Nat.beq (P.cellsOf t) d.length with
    |true=>some d
    |false=>none
  |_=>none
section
variable{H:Type}(B:BK H){N M:Nat}{enc:TypeId×Value->H}{P:Program}{W:World}{E:Env}{base:Nat}{sp:Nat->Bool}{hd:Bool}
structure RD(N:Nat)(E:Env)(W:World)(cds:List CD)(cs:JC):Prop where
 len:cs.length=cds.length
 ex:∃avs,CD.wI N cds avs/\VRs E W avs cs/\(∀a∈avs,a.flat=true)
 one:∀c∈cs,c.oneCell'=true
theorem RD.mono(hm:N<=M){c:List CD}{cs:JC}(h:RD N E W c cs):RD M E W c cs:=
 let ⟨l,⟨a,h1,h2,h3⟩,o⟩:=h
 ⟨l,⟨a,h1.mono hm,h2,h3⟩,o⟩
theorem RD.single{c:CD}{a:AV}{v:Value}(h1:CD.Ok N c a)(e:VR E W a v)(g:a.flat=true)(f:v.oneCell'=true):RD N E W [c] [v]:=
 ⟨rfl,⟨[a],.cons h1 .nil,.cons e .nil,λx d=>by simp at d;subst d;exact g⟩,λx d=>by simp at d;subst d;exact f⟩
theorem RD.append{cs ds:List CD}{u v:JC}(h:RD N E W cs u)(k:RD N E W ds v):RD N E W (cs++ds) (u++v):=by
 obtain⟨l,⟨a,j,a2,a3⟩,g⟩:=h;obtain⟨m,⟨b,d,i,b3⟩,f⟩:=k;refine⟨by simp[l,m],⟨a++b,j.append d,?_,λx c=>?_⟩,λx c=>?_⟩
 .have:∀{a:JE}{u:JC},VRs E W a u->VRs E W (a++b) (u++v):=by
   intro a
   induction a with
   |nil=>intro u h;have:=h.of_nil;subst this;exact i
   |cons x a n=>intro u h;obtain⟨y,r,rfl,h1,e⟩:=h.of_cons;exact .cons h1 (n e)
  exact this a2
 .rcases QK.1 c with h|h
  .exact a3 x h
  .exact b3 x h
 .rcases QK.1 c with h|h
  .exact g x h
  .exact f x h
theorem zWj{n fuel:Nat}(l:∀t a cs x,zR1 P n t=some a->DataW.trod enc P W base sp hd fuel t cs=some x->RD (B.f x.1) E W a cs):
  ∀(i:List Field)(off:Nat)(a:List CD)(cs:JC),zP0 (zR1 P n) P off i=some a →
   (∀f∈i,∃x,DataW.trod enc P W base sp hd fuel f.type ((cs.drop f.offset).take (P.cellsOf f.type))=some x/\B.f x.1<=N)->RD N E W a ((cs.drop off).take a.length)
 |[],off,a,cs,h,_=>by
  cases h;exact⟨by simp,⟨[],.nil,by simpa using VRs.nil,λx d=>by cases d⟩,λx d=>by simp at d⟩
 |f::r,off,a,cs,h,j=>by
  unfold zP0 at h;split at h
  .cases h
  rename_i c1 q;split at h
  .cases h
  rename_i c;rw[qr]at c;have y:=zc c.1;have a2:=zc c.2;split at h
  .cases h
  rename_i c2 s;cases h;obtain⟨x,o,z⟩:=j f (List.mem_cons_self ..);have e:=(l _ _ _ _ q o).mono z;have p:=zWj l r _ _ cs s λg m=>j g (List.mem_cons_of_mem _ m)
  rw[y,a2]at e;have:(cs.drop off).take (c1++c2).length=(cs.drop off).take c1.length++(cs.drop (off+c1.length)).take c2.length:=by
   rw[QC,List.take_add,List.drop_drop]
  rw[this];exact e.append p
theorem zeO{a:Addr}{i:Nat}(h:a.spot=none):a.add i=⟨a.block,a.off+i,none⟩:=by
 obtain⟨b,o,s⟩:=a;simp only at h;subst h;unfold Addr.add;split
 .rename_i e;subst e;rfl
 .rfl
theorem zZj(hZ:∀b,b<W.heap.size->E.Z b):∀(n fuel:Nat)(t:TypeId)(A:List CD)(cs:JC)(x:DataW H×List MemPlace),zR1 P n t=some A →
  DataW.trod enc P W base sp hd fuel t cs=some x->RD (B.f x.1) E W A cs
 |0,_,_,_,_,_,h,_=>by cases h
 |n+1,fuel,t,A,cs,x,h,hr=>by
  unfold zR1 at h;split at h
  .rename_i I;cases h;obtain⟨b,rfl,_⟩:=DataW.trod_bool I hr;exact .single (.bool b) (.bool b) rfl rfl
  .rename_i k I;cases h;obtain⟨m,rfl,_,hw⟩:=DataW.trod_int I hr;have hh:has k m:=by
    simp only[Lit.wf,qr,decide_eq_true_eq]at hw;exact hw
   exact .single (.int k m hh) (.int k m hh) rfl rfl
  .rename_i I;cases h;obtain⟨s,rfl,rfl,hw⟩:=DataW.trod_string I hr;have hl:s.size<=zh:=by unfold maxLen at hw;unfold zh;exact hw
   have T:(lets s).length=s.size:=by
    unfold lets;rw[QG,Array.length_toList];rfl
   exact .single (.str (lets s) zeL (by rw[T];exact hl) (by rw[B.str];unfold lets;rw[QG];omega)) (VR.lets hl) rfl rfl
  .rename_i e I;split at h
   .cases h
   rename_i z ak;split at h
   .cases h
   rename_i L;rw[qr]at L;have K:=zc L.1;have ar:=QS L.2;rcases DataW.trod_slice I hr with⟨rfl,_⟩|⟨a,len,cap,d,p,m,rfl,rfl,rfl,_,ai,ac,ad,R,_,_⟩
   .split at h
    .split at h
     .cases h;exact .single (.one _ [] (λx F=>by cases F) (QI _)) (.wc _ _ _ (QI _)) rfl rfl
     .cases h
    .cases h;exact .single (.agg _ [] (λx F=>by cases F) (QI _)) (.wc _ _ _ (QI _)) rfl rfl
   have aq:∀{i:Nat}{y:DataW H×List MemPlace},d[i]?=some y->B.f y.1<=B.f (.slice (d.map (·.1)) (p.map (·.1))):=λ{i y} h=>by
    have:=B.mem (Qg.2 ⟨y,QE h,rfl⟩:y.1∈d.map (·.1));rw[B.slice];omega
   have aa:len<=B.f (.slice (d.map (·.1)) (p.map (·.1))):=by
    have:=B.len (d.map (·.1));rw[QG,ad]at this;rw[B.slice];omega
   have hE:∀i,i<len->∃q:JC×JE,q.1.length=z.length/\CD.wI (B.f (.slice (d.map (·.1)) (p.map (·.1)))) z q.2/\VRs E W q.2 q.1/\(∀a∈q.2,a.flat=true)/\(∀c∈q.1,c.oneCell'=true) ∧
     (∀j,j<z.length->W.cell? (a.add (i*z.length+j))=q.1[j]?):=λi l=>by
    have h1:=R i l;have h2:∃y,d[i]?=some y:=⟨_,QF (by rw[ad];exact l)⟩
    obtain⟨y,o⟩:=h2;rw[o,Option.bind_eq_some_iff]at h1;obtain⟨ci,hc,ht⟩:=h1;obtain⟨_,c1,c2⟩:=World.cells?_some hc;obtain⟨l1,⟨ag,l2,l3,l4⟩,l5⟩:=(zZj hZ n m e z ci y ak ht).mono (aq o);refine⟨(ci,ag),l1,l2,l3,l4,l5,λj hj=>?_⟩
    have h3:=c2 j (by rw[K];exact hj)
    rw[←h3,K];congr 1;unfold Addr.add;split<;>split<;>split<;>simp_all<;>omega
   have hC:∃g:Nat->JC×JE,∀i,i<len->(g i).1.length=z.length/\CD.wI (B.f (.slice (d.map (·.1)) (p.map (·.1)))) z (g i).2/\VRs E W (g i).2 (g i).1/\(∀a∈(g i).2,a.flat=true)/\(∀c∈(g i).1,c.oneCell'=true) ∧
     (∀j,j<z.length->W.cell? (a.add (i*z.length+j))=(g i).1[j]?):=by
    refine⟨λi=>if h:i<len then(hE i h).choose else([],[]),λi l=>?_⟩
    simp only[dif_pos l];exact(hE i l).choose_spec
   obtain⟨g,X⟩:=hC;have J:cap<=zh:=by unfold maxLen at ac;unfold zh;exact ac
   have al:0<len->a.spot=none/\a.block<W.heap.size:=λY=>by
    obtain⟨g1,_,_,_,_,g6⟩:=X 0 Y;have h0:=g6 0 (by omega)
    have h1:∃y,(g 0).1[0]?=some y:=⟨_,QF (by omega)⟩
    obtain⟨y,o⟩:=h1;have:W.cell? a=some y:=by rw[←o,←h0];simp[Addr.add]
    unfold World.cell? at this;split at this
    .rename_i c _ _ hb;split at this
     .cases this
     .rename_i hs;exact⟨by simpa using hs,(Array.getElem?_eq_some_iff.1 hb).1⟩
    .cases this
   have V:∀(f:Nat->Value)(D:JE),D.length=len->(∀(i:Nat) y,D[i]?=some y->y.flat=true/\VR E W y (f i))->(∀i,i<len->(f i).cells.toList=(g i).1)->VR E W (.qg z.length D) (.slice (some a) len cap):=by
    intro f D F o U;by_cases h0:len=0
    .have:D=[]:=List.eq_nil_of_length_eq_zero (by omega)
     subst this;subst h0;exact .wc _ _ _ J
    .obtain⟨s1,s2⟩:=al (by omega)
     obtain⟨ab,ao,aw⟩:=a;simp only at s1 s2;subst s1;subst F;refine .qg D ab ao cap z.length f (hZ _ s2) ai J (λi y h=>by have:=(o i y h).1;cases y<;>first|rfl|exact this) (λi y h=>(o i y h).2) λi l=>?_
     obtain⟨g1,_,_,_,_,g6⟩:=X i l;have hc:=U i l;refine⟨by rw[←Array.length_toList,hc,g1],λj c hj=>?_⟩
     have ae:(g i).1[j]?=some c:=by rw[←hc];simpa using hj
     have af:j<z.length:=by rw[←g1];exact(QB.1 ae).1
     have:=g6 j af;rw[ae,zeO rfl]at this
     simpa[Nat.add_assoc]using this
   split at h
   .split at h
    .rename_i c;cases h;have h1:∀i,i<len->∃v av,(g i).1=[v]/\(g i).2=[av]/\CD.Ok (B.f (.slice (d.map (·.1)) (p.map (·.1)))) c av/\VR E W av v/\av.flat=true/\v.oneCell'=true:=λi l=>by
      obtain⟨g1,g2,g3,g4,g5,_⟩:=X i l;cases hq:(g i).2 with
      |nil=>rw[hq]at g2;cases g2
      |cons av r=>
       rw[hq]at g2 g3 g4;cases g2 with
       |cons k1 k2=>
        cases k2;obtain⟨v,r',O,S,e3⟩:=g3.of_cons;have:=e3.of_nil;subst this;rw[O]at g5;exact⟨v,av,O,rfl,k1,S,g4 _ (List.mem_cons_self ..),g5 _ (List.mem_cons_self ..)⟩
     refine .single (.one c ((List.range len).map λi=>((g i).2).headD .qm) (λx F=>?_) (by rw[QG,List.length_range];exact aa)) (V (λi=>((g i).1).headD undef) _ (by simp) (λi y o=>?_) λi l=>?_) rfl rfl
     .obtain⟨i,l,rfl⟩:=Qg.1 F;obtain⟨v,av,O,S,e3,_⟩:=h1 i (by simpa using l)
      rw[S];exact e3
     .rw[Qn]at o;cases l:(List.range len)[i]? with
      |none=>rw[l]at o;cases o
      |some k=>
       rw[l]at o;obtain⟨Q,rfl⟩:=QB.1 l;simp only[List.getElem_range,Option.map_some,QN]at o;obtain⟨v,av,O,S,e3,e4,e5,_⟩:=h1 i (by simpa using Q)
       rw[S]at o;simp only[List.headD_cons]at o;subst o;rw[O];exact⟨e5,e4⟩
     .obtain⟨v,av,O,S,e3,e4,e5,e6⟩:=h1 i l;rw[O];simp only[List.headD_cons];cases v<;>first|rfl|(simp[Value.oneCell']at e6)
    .cases h
   .cases h;refine .single (a:=.qg z.length (((List.range len).map λi=>(g i).2).map .agg)) (.agg z _ (λx F=>?_) (by rw[QG,List.length_range];exact aa)) (V (λi=>.agg (g i).1.toArray) _ (by simp) (λi y o=>?_) λi l=>by simp[Value.cells]) rfl rfl
    .obtain⟨i,l,rfl⟩:=Qg.1 F;exact(X i (by simpa using l)).2.1
    .rw[Qn,Qn]at o;cases l:(List.range len)[i]? with
     |none=>rw[l]at o;cases o
     |some k=>
      rw[l]at o;obtain⟨Q,rfl⟩:=QB.1 l;simp only[List.getElem_range,Option.map_some,QN]at o;subst o;obtain⟨g1,g2,g3,g4,g5,_⟩:=X i (by simpa using Q)
      exact⟨rfl,VR.qN (by simpa using g3) (by simpa using g5)⟩
  .rename_i fs I;split at h
   .cases h
   rename_i au hf;split at h
   rotate_left
   .cases h
   rename_i hc;cases h;have hc:=zc hc;obtain⟨D,m,rfl,rfl,hl,ah,R⟩:=DataW.trod_struct I hr;have:=zWj B (fuel:=m) (N:=B.f (.agg (D.map (·.1)))) (λt A cs x=>zZj hZ n m t A cs x) fs.toList 0 A cs hf λf aj=>by
    obtain⟨i,l⟩:=List.getElem?_of_mem aj;have h1:=R i f (by simpa using l)
    have:∃y,D[i]?=some y:=⟨_,QF (by rw[ah];simpa using(QB.1 l).1)⟩
    obtain⟨y,o⟩:=this;exact⟨y,h1.trans o,by have:=B.mem (Qg.2 ⟨y,QE o,rfl⟩:y.1∈D.map (·.1));rw[B.agg];omega⟩
   rw[←hc,←hl]at this
   simpa using this
  .cases h
end
mutual
theorem CD.Ok.pp{N:Nat}:∀{c:CD}{a:AV},CD.Ok N c a->PP a
 |_,_,.bool b=>.bool b
 |_,_,.int k n h=>.int k n
 |_,_,.str l h j f=>.str l
 |_,_,.one e i h f=>.qg _ _ λx d=>CD.Ok.pp (h x d)
 |_,_,.agg m i h f=>.qg _ _ λx d=>by
   obtain⟨y,g,rfl⟩:=Qg.1 d;exact .agg _ (CD.wI.pp (h y g))
theorem CD.wI.pp{N:Nat}:∀{c:List CD}{a:JE},CD.wI N c a->∀x∈a,PP x
 |_,_,.nil=>λx d=>by cases d
 |_,_,.cons h e=>λx d=>by
   rcases QH.1 d with rfl|d
   .exact CD.Ok.pp h
   .exact CD.wI.pp e x d
end
theorem zgB{P:Program}{w:World}{r:Reach}{b:Nat}{t:TypeId}{v:Value}{a:Array Field}(c:P.underlying t=some (.struct a))(h:Value.okWide P w r b t v):∃cs:JB,v=.agg cs:=by
 unfold Value.okWide at h;rw[c]at h;obtain⟨cs,rfl,_⟩:=h;exact⟨cs,rfl⟩
theorem TabOK.at{P:Program}{G:Cx}{f:Nat}{g:JE->JF}{a:TbF}{th:TbH}(h:TabOK P G ((f,g)::a) th):zG7 P G f g:=λargs v d c=>h.v _ (.head _) args v d c
end Go.Sy
namespace Go.Sy
open Go.Sort
section
variable{α:Type}(lt:α->α->Bool)
def zQy(x:α):List α->List α
 |[]=>[x]
 |y::r=>match lt x y with
  |true=>x::y::r
  |false=>y::zQy x r
def isort:List α->List α
 |[]=>[]
 |x::r=>zQy lt x (isort r)
def zHQ:List α->Bool
 |[]=>true
 |x::r=>(r.all λy=>lt x y||lt y x)&&zHQ r
variable{lt}
theorem zRB{x:α}:∀{l:List α},(zQy lt x l).Perm (x::l)
 |[]=>.refl _
 |y::r=>by
  unfold zQy;split
  .exact .refl _
  .exact(zRB.cons y).trans (.swap x y r)
theorem zD3:∀{l:List α},(isort lt l).Perm l
 |[]=>.refl _
 |x::r=>zRB.trans (zD3.cons x)
theorem zOE:∀{l:List α},zHQ lt l=true->l.Pairwise λx y=>lt x y=true\/lt y x=true
 |[],_=>.nil
 |x::r,h=>by
  simp only[zHQ,qr,QD,Bool.or_eq_true]at h;exact .cons h.1 (zOE h.2)
theorem zS7(hO:SWO lt){x:α}:∀{l:List α},(∀y∈l,lt x y=true\/lt y x=true)->l.Pairwise (λa b=>lt a b=true)->(zQy lt x l).Pairwise λa b=>lt a b=true
 |[],_,_=>.cons (λy i=>by cases i) .nil
 |y::r,f,g=>by
  cases g with
  |cons h1 d=>
   unfold zQy;split
   .rename_i e;refine .cons (λz c=>?_) (.cons h1 d)
    rcases QH.1 c with rfl|c
    .exact e
    .exact hO.trans _ _ _ e (h1 z c)
   .rename_i e;refine .cons (λz c=>?_) (zS7 hO (λz c=>f z (.tail _ c)) d)
    rcases QH.1 (zRB.mem_iff.1 c)with rfl|c
    .rcases f y (.head _)with h|h
     .rw[h]at e;cases e
     .exact h
    .exact h1 z c
theorem zKB(hO:SWO lt):∀{l:List α},zHQ lt l=true->(isort lt l).Pairwise λa b=>lt a b=true
 |[],_=>.nil
 |x::r,h=>by
  have c:=zOE h;simp only[zHQ,qr]at h;cases c with
  |cons h1 _=>exact zS7 hO (λy d=>h1 y (zD3.mem_iff.1 d)) (zKB hO h.2)
theorem zUw(hO:SWO lt){a b:List α}(h1:a.Pairwise λx y=>lt x y=true)(d:b.Pairwise λx y=>lt x y=true)(p:a.Perm b):a=b:=
 p.eq_of_pairwise (λx y _ _ c e=>by
  have:=hO.trans _ _ _ c e;rw[hO.irrefl]at this;cases this) h1 d
theorem zWA(hO:SWO lt){a b:List α}(c:zHQ lt a=true)(d:zHQ lt b=true)(p:a.Perm b):isort lt a=isort lt b:=
 zUw hO (zKB hO c) (zKB hO d) (zD3.trans (p.trans zD3.symm))
theorem zeP{l:List α}(h:l.Pairwise λx y=>lt x y=true\/lt y x=true):zHQ lt l=true:=by
 induction h with
 |nil=>rfl
 |cons h1 _ a=>
  simp only[zHQ,qr,QD,Bool.or_eq_true];exact⟨h1,a⟩
theorem zbG{a b:List α}(p:a.Perm b)(c:zHQ lt a=true):zHQ lt b=true:=
 zeP (p.pairwise (zOE c) λh=>h.symm)
theorem zbH[Inhabited α](hO:SWO lt){d:List α}(l:zHQ lt d=true)(a:Nat)(e f:Bool):(pdq lt d.toArray 0 d.length a e f).toList=isort lt d:=by
 obtain⟨⟨x,_,p⟩,y⟩:=pdq_sorts lt hO d.toArray 0 d.length a e f (QI _) (by simp) (.inl rfl)
 generalize pdq lt d.toArray 0 d.length a e f=q at *;have n:q.size=d.length:=by simpa using x
 have ep:q.toList.Perm d:=by
  have h1:q.extract 0 d.length=q:=by rw[←n];exact Array.extract_size
  have s:d.toArray.extract 0 d.length=d.toArray:=by
   have:d.length=d.toArray.size:=by simp
   rw[this];exact Array.extract_size
  rw[h1,s]at p;exact p
 refine zUw hO ?_ (zKB hO l) (ep.trans zD3.symm)
 have m:=ep.symm.pairwise (zOE l) λh=>h.symm
 rw[List.pairwise_iff_getElem]at m⊢;intro i j o g c;rcases m i j o g c with h|h
 .exact h
 .have:=y i j (QI _) c (by rw[←n];simpa using g)
  rw[getElem!_pos q i (by simpa using o),getElem!_pos q j (by simpa using g)]at this
  simp only[Array.getElem_toList]at h;rw[h]at this;cases this
end
end Go.Sy
namespace Go.Sy
open Go.RowKit Go.Sort Go.Proofs
structure Cod(α:Type)(k:Nat) where
 av:α->JE
 enc:α->JC
 dec:JE->Option α
 k0:0<k
 ug:∀x,(av x).length=k
 ux:∀x,(enc x).length=k
 pp:∀x,∀a∈av x,PP a
 uY:∀{l:JE}{x:α},dec l=some x->l=av x
 back:∀{E:Env}{w:World}{vs:JC}{x:α},dec (av x)=some x->VRs E w (av x) vs->vs=enc x
section
variable{α:Type}{k:Nat}(C:Cod α k)
def Cod.el(x:α):AV:=.agg (C.av x)
def Cod.vw:JE->Option (List α)
 |[]=>some []
 |.agg l::r=>match C.dec l with
  |some x=>match Cod.vw r with
   |some d=>some (x::d)
   |none=>none
  |none=>none
 |_::_=>none
variable{C}
theorem Cod.vD:∀{es:JE}{d:List α},C.vw es=some d->es=d.map C.el/\∀x∈d,C.dec (C.av x)=some x
 |[],d,h=>by cases h;exact⟨rfl,λx a=>by cases a⟩
 |e::r,d,h=>by
  unfold Cod.vw at h;split at h
  .rename_i c;cases c
  .rename_i l i c;cases c;split at h
   .rename_i x a;split at h
    .rename_i j hd;cases h;obtain⟨h1,g⟩:=Cod.vD hd;have e:=C.uY a;subst e;refine⟨by rw[h1];rfl,λy f=>?_⟩
     rcases QH.1 f with rfl|f
     .exact a
     .exact g y f
    .cases h
   .cases h
  .cases h
theorem Cod.uf{d:List α}:∀e∈d.map C.el,PP e:=λe a=>by
 obtain⟨x,_,rfl⟩:=Qg.1 a;exact .agg _ (C.pp x)
theorem Cod.flat(d:List α):flatten k (d.map C.el)=some (d.flatMap C.av):=by
 induction d with
 |nil=>rfl
 |cons x d a=>
  have h1:cellsOf (C.el x) k=some (C.av x):=by
   unfold cellsOf Cod.el;simp[AV.cells,AV.flat,C.ug x]
  show(match cellsOf (C.el x) k with
   |some c=>match flatten k (d.map C.el)with
    |some e=>some (c++e)
    |none=>none
   |none=>none)=_
  rw[h1,a];rfl
theorem Cod.vU(d:List α):(d.flatMap C.av).length=d.length*k:=by
 induction d with
 |nil=>simp
 |cons x d a=>rw[List.flatMap_cons,QC,C.ug x,a,QL,Nat.succ_mul,Nat.add_comm]
theorem zSn{β:Type}{f:α->List β}(a:∀x,(f x).length=k)(g:0<k):∀(d:List α)(t:Nat),t<d.length*k->∃x,d[t / k]?=some x/\(d.flatMap f)[t]? = (f x)[t % k]?
 |[],t,h=>by simp at h
 |x::d,t,h=>by
  rw[List.flatMap_cons];by_cases e:t<k
  .refine⟨x,by rw[Nat.div_eq_of_lt e];rfl,?_⟩
   rw[Qs (by rw[a];exact e),Nat.mod_eq_of_lt e]
  .have hk:k<=t:=by omega
   obtain⟨c,rfl⟩:∃c,t=c+k:=⟨t-k,by omega⟩
   have i:c<d.length*k:=by rw[QL,Nat.succ_mul]at h;omega
   obtain⟨y,h1,j⟩:=zSn a g d c i;refine⟨y,by rw[Nat.add_div_right _ g];exact h1,?_⟩
   rw[List.getElem?_append_right (by rw[a];omega),a,Nat.add_sub_cancel,Nat.add_mod_right]
   exact j
theorem zXK[Inhabited α]{enc:α->JC}(a:∀x,(enc x).length=k)(e:0<k)(d:List α){t:Nat}(h:t<d.length*k):∃x,d[t / k]?=some x/\∃v,(enc x)[t % k]?=some v/\(Go.Sort.flatK enc k d.toArray)[t]! = v:=by
 obtain⟨x,h1,g⟩:=zSn a e d t h;have c:t % k<(enc x).length:=by rw[a];exact Nat.mod_lt _ e
 refine⟨x,h1,_,QF c,?_⟩
 rw[get_flatK _ _ _ t (by simpa using h)]
 have f:d.toArray[t / k]! = x:=by
  rw[getElem!_def];simp[h1]
 rw[f];exact getElem!_pos (enc x) (t % k) c
variable(C)
def zUx(lt:α->α->Bool)(es:JE):Option JE:=match C.vw es with
 |some d=>match zHQ lt d&&Nat.blt d.length 4611686018427387904 with
  |true=>some ((isort lt d).map C.el)
  |false=>none
 |none=>none
def zUy(g:Nat)(lt:α->α->Bool)(args:JE)(H:Heap)(V:Vecs):Option (AV×Heap×Vecs):=match args with
 |[.sym 0,.func (.func e) [] []]=>match Nat.beq g e with
  |true=>match H with
   |[]=>match V with
    |[(0,.vec c d)]=>match Nat.beq k c with
     |true=>match zUx C lt d with
      |some a=>some (.qc [],[],[(0,.vec k a)])
      |none=>none
     |false=>none
    |_=>none
   |_=>none
  |false=>none
 |_=>none
variable{C}
theorem zUz{g:Nat}{lt:α->α->Bool}{args:JE}{H H2:Heap}{V V2:Vecs}{v:AV}(h:zUy C g lt args H V=some (v,H2,V2)):
  args=[.sym 0,.func (.func g) [] []]/\H=[]/\H2=[]/\v=.qc []/\∃d,V=[(0,.vec k (d.map C.el))]/\V2=[(0,.vec k ((isort lt d).map C.el))]/\zHQ lt d=true/\d.length<4611686018427387904/\∀x∈d,C.dec (C.av x)=some x:=by
 unfold zUy at h;split at h
 rotate_left
 .cases h
 split at h
 rotate_left
 .cases h
 rename_i f;split at h
 rotate_left
 .cases h
 split at h
 rotate_left
 .cases h
 split at h
 rotate_left
 .cases h
 rename_i hk;split at h
 rotate_left
 .cases h
 rename_i j a;cases h;unfold zUx at a;split at a
 rotate_left
 .cases a
 rename_i d hd;split at a
 rotate_left
 .cases a
 rename_i c;cases a;rw[qr]at c;obtain⟨h1,e⟩:=Cod.vD hd;subst h1;have l:=zc f;have i:=zc hk;subst l;subst i;exact⟨rfl,rfl,rfl,rfl,d,rfl,rfl,c.1,by simpa[Ql]using c.2,e⟩
theorem zcW{E:Env}{w:World}{c:JB}{cs:JE}{d:List α}(n:∀(i:Nat) x,cs[i]?=some x->∃v,c[i]?=some v/\v.oneCell'=true/\VR E w x v)(o:d.flatMap C.av=cs.take (d.length*k))(g:∀x∈d,C.dec (C.av x)=some x)
  {j i:Nat} {x:α} (s:d[j]?=some x) (e:i<k):∃a v,(C.av x)[i]?=some a/\(C.enc x)[i]?=some v/\c[j*k+i]?=some v/\v.oneCell'=true/\VR E w a v:=by
 have z:=C.k0;have m:j<d.length:=(QB.1 s).1;have at_:∀i a,i<k->(C.av x)[i]?=some a->∃v,c[j*k+i]?=some v/\v.oneCell'=true/\VR E w a v:=λi a e f=>by
  have h1:j*k+i<d.length*k:=by
   have:=Nat.mul_le_mul_right k (show j+1<=d.length from m)
   rw[Nat.succ_mul]at this;omega
  obtain⟨y,q1,A⟩:=zSn C.ug z d (j*k+i) h1;have J:(j*k+i) / k=j:=by rw[Nat.mul_comm,Nat.mul_add_div z,Nat.div_eq_of_lt e,Nat.add_zero]
  have F:(j*k+i) % k=i:=by rw[Nat.mul_comm,Nat.mul_add_mod,Nat.mod_eq_of_lt e]
  rw[J,s]at q1;cases q1;rw[F,o,List.getElem?_take_of_lt h1,f]at A;exact n _ _ A
 have D:(List.range k).map (λi=>c.getD (j*k+i) undef)=C.enc x:=by
  refine C.back (E:=E) (w:=w) (g x (QE s)) ⟨by rw[C.ug];simp,λi a v f q=>?_⟩
  have e:i<k:=by have:=(QB.1 f).1;rw[C.ug]at this;exact this
  obtain⟨K,h,_,l⟩:=at_ i a e f;rw[Qn,List.getElem?_range e]at q;simp only[Option.map_some,QN,Array.getD_eq_getD_getElem?,h,Option.getD_some]at q;rw[←q];exact l
 have p:i<(C.av x).length:=by rw[C.ug];exact e
 have f:=QF p;obtain⟨v,h,I,l⟩:=at_ i _ e f;refine⟨_,v,f,?_,h,I,l⟩
 rw[←D,Qn,List.getElem?_range e];simp[Array.getD_eq_getD_getElem?,h]
theorem Vecs.wh{j:Nat}{vi a:VI}(h:Vecs.get [(0,vi)] j=some a):j=0/\a=vi:=by
 rw[Vecs.qh]at h;split at h
 .rename_i e;cases h;exact⟨e.symm,rfl⟩
 .cases h
theorem zcX[Inhabited α]{P:Program}{G:Cx}{f g:Nat}{lt:α->α->Bool}(hG:GPP G)(hO:SWO lt)(bb:Enters P f)
  (ag:∀(X cap:Nat)(d:Array α)(w:World),HoldsK C.enc k w X 0 d->X<w.heap.size->d.size<4611686018427387904 →
   Calls P f #[.slice (some ⟨X,0,none⟩) d.size cap,.func (.func g) #[] #[]] w λe w'=>e=.returned (.tuple #[])/\∃n os,w'=sortWorldK C.enc k w X 0 n (pdq lt d 0 d.size (Lib.bitLen d.size) true true) os)
  (af:∀(p:Option Addr)(cap:Nat)(fv:Value)(w:World),Calls P f #[.slice p 0 cap,fv] w λe w'=>e=.returned (.tuple #[])/\w'=w):
  FOK P G ⟨f,[(0,0)],zUy C g lt⟩:=by
 have k0:=C.k0;refine⟨HOK.u3 rfl bb λargs H V v H2 V2 bf hv=>?_,λargs H V v H2 V2 hc hw hk hv=>?_⟩
 rotate_left
 .obtain⟨rfl,rfl,rfl,rfl,d,rfl,rfl,_⟩:=zUz hv;intro j vi A;obtain⟨rfl,rfl⟩:=Vecs.wh A;exact⟨Nat.zero_lt_one,Cod.uf⟩
 obtain⟨rfl,rfl,rfl,rfl,d,rfl,rfl,ht,ax,ak⟩:=zUz hv;have q:(isort lt d).length=d.length:=zD3.length_eq;refine⟨⟨.inl (.qc _ λe he=>(by cases he)),rfl,λp J=>(by cases J),λj vi A=>?_⟩,rfl,rfl,.qc _ λe he=>(by cases he),λj vi A=>?_,λE w β ai s T bg=>?_⟩
 .obtain⟨rfl,rfl⟩:=Vecs.wh A;rfl
 .obtain⟨rfl,rfl⟩:=Vecs.wh A;exact⟨k,_,_,rfl,rfl,by simp[q]⟩
 obtain⟨l⟩:=ai;obtain⟨hl,T⟩:=T
 match l,hl with
 |[c0,c1],_=>
 have h0:VR E w (.sym 0) c0:=T 0 _ _ rfl rfl;have h1:VR E w (.func (.func g) [] []) c1:=T 1 _ _ rfl rfl;have a7:c0=E.σ 0:=by cases h0;assumption
 have be:c1=.func (.func g) #[] #[]:=by
  cases h1 with
  |func _ _ _ vf vc q1 q2=>
   have e1:vf=#[]:=Array.eq_empty_of_size_eq_zero q1.symm;have e2:vc=#[]:=Array.eq_empty_of_size_eq_zero q2.symm;rw[e1,e2]
 subst a7;subst be;obtain⟨_,bk,au⟩:=s.qT 0 _ rfl;have ab:∀(p:Option Addr)(cap:Nat),d=[]->E.σ 0=.slice p 0 cap->Calls P f #[E.σ 0,.func (.func g) #[] #[]] w λe w'=>∃cv E',e=.returned cv/\VR E' w' (.qc []) cv/\E'.σ=E.σ/\SR G 0 E' w' { tmps:=#[],defers:=[] } β ⟨[],[],[(0,.vec k ((isort lt d).map C.el))],0,[(0,VI.vec k (d.map C.el))].length⟩/\Kp E.Z (BS E β [] [(0,.vec k (d.map C.el))]) w E'.Z (BS E' β [] [(0,.vec k ((isort lt d).map C.el))]) w':=λp cap hd he=>by
  subst hd;rw[he];refine(af p cap _ w).mono λe w' hh=>?_
  obtain⟨rfl,rfl⟩:=hh;exact⟨_,E,rfl,.qc _ _ rfl λi x v o=>(by simp at o),rfl,s,Kp.refl⟩
 rcases au with⟨e1,e2,e3⟩|⟨b,str,cs,cp,ex,e1,a1,ad,ac,ao,ah⟩
 .exact ab none 0 (List.map_eq_nil_iff.1 e3) e2
 rw[QG]at ad ao ah;rcases ad with⟨a,q1,q2,_⟩|⟨cap,q1,q2,q3,q4,q5,q6,c0,e0,f0,q7,q8⟩
 .have a8:d=[]:=List.eq_nil_of_length_eq_zero q2;exact ab (some a) 0 a8 q1
 rw[Cod.flat]at ah;have a6:d.flatMap C.av=cs.take (d.length*k):=Qw ah;obtain⟨c,e,fz,hb,bc,aq,Q⟩:=a1;have ae:b<w.heap.size:=(Array.getElem?_eq_some_iff.1 hb).1;have bi:d.length*k<=c.size:=Qj ao bc;have rv:=λ{j i:Nat} {x:α} (A:d[j]?=some x) (hi:i<k)=>zcW (C:=C) Q a6 ak A hi
 have holds:HoldsK C.enc k w b 0 d.toArray:=λt Y=>by
  rw[size_flatK]at Y;have Y:t<d.length*k:=by simpa using Y
  obtain⟨x,r1,v,r2,r3⟩:=zXK C.ux k0 d Y;obtain⟨a,v',s1,s2,s3,s4,s5⟩:=rv r1 (Nat.mod_lt t k0);rw[r2]at s2;cases s2;have et:t / k*k+t % k=t:=by rw[Nat.mul_comm];exact Nat.div_add_mod t k
  rw[et]at s3;refine⟨?_,?_⟩
  .simp only[World.cell?,hb,QY];rw[r3]
   simpa using s3
  .simp only[World.frozen?,hb,QY];have bh:t<c.size:=by omega
   obtain⟨lo,hi⟩:=fz;rcases aq with h|⟨_,h⟩
   .have h:hi=lo:=h;subst h;by_cases hh:hi<=t
    .have:¬t<hi:=by omega
     simp[this]
    .simp[hh]
   .have h:c.size<=lo:=h;have:¬lo<=t:=by omega
    simp[this]
 have L:=ag b cap d.toArray w holds ae (by simpa using ax)
 rw[q1];rw[List.size_toArray]at L;refine L.mono λee w' hh=>?_
 obtain⟨rfl,m,os,O⟩:=hh;have hq:=zbH hO ht (Lib.bitLen d.length) true true;have hq:pdq lt d.toArray 0 d.length (Lib.bitLen d.length) true true=(isort lt d).toArray:=by rw[←hq]
 rw[hq]at O;generalize hF:Go.Sort.flatK C.enc k (isort lt d).toArray=F at *;have bj:F.size=d.length*k:=by rw[←hF,size_flatK];simp[q]
 have D:w'.heap=(w.heap.modify b (onCells (putCells id 0 F)))++os:=by
  rw[O];unfold sortWorldK grow putRowK putRow mapBlock Sort.ahead;rw[hF]
 have R:w.heap.size<=w'.heap.size:=by rw[D];simp
 have S:∀x,x<w.heap.size->x≠b->w'.heap[x]? = w.heap[x]?:=λx o aw=>by
  rw[D,Array.getElem?_append_left (by simpa using o),Array.getElem?_modify,if_neg (λh=>aw h.symm)]
 have al:w'.heap[b]?=some (.cells (putCells id 0 F c) e fz):=by
  rw[D,Array.getElem?_append_left (by simpa using ae),Array.getElem?_modify,if_pos rfl,hb]
  rfl
 have K:(putCells id 0 F c).size=c.size:=by simp[putCells]
 have z:zA7 w w':=λx c1 e1 f1 h=>by
  by_cases o:x=b
  .subst o;rw[hb]at h;cases h;exact⟨_,_,al,K⟩
  .exact⟨c1,f1,by rw[S x (Array.getElem?_eq_some_iff.1 h).1 o];exact h,rfl⟩
 obtain⟨nz,_⟩:=s.bz 0 _ b rfl rfl e1;have hZ:∀x,E.Z x->E.Z x/\w'.heap[x]? = w.heap[x]?:=λx o=>⟨o,S x (s.hr.wa x o) λh=>nz (h▸o)⟩
 have ba:VR E w' (.qc []) (.tuple #[]):=.qc _ _ rfl λi x v o=>(by simp at o)
 have aa:∀y∈(isort lt d).flatMap C.av,PP y:=λy U=>by
  obtain⟨x,_,o⟩:=List.mem_flatMap.1 U;exact C.pp x y o
 have I:((isort lt d).flatMap C.av).length=d.length*k:=by rw[Cod.vU,q]
 have ar:OR E w' b (.cells str ((isort lt d).flatMap C.av++cs.drop (d.length*k))):=by
  refine⟨_,_,_,al,?_,?_,λi x o=>?_⟩
  .rw[K,QC,I,Qp];omega
  .rw[K];exact aq
  .by_cases hi:i<d.length*k
   .rw[Qs (by rw[I];exact hi)]at o
    have aj:i<(isort lt d).length*k:=by rw[q];exact hi
    obtain⟨y,r1,v,r2,r3⟩:=zXK C.ux k0 (isort lt d) aj;obtain⟨y',r4,r5⟩:=zSn C.ug k0 (isort lt d) i aj;rw[r1]at r4;cases r4;have U:y∈d:=zD3.mem_iff.1 (QE r1);obtain⟨j,A⟩:=List.getElem?_of_mem U;obtain⟨a,v',s1,s2,s3,s4,s5⟩:=rv A (Nat.mod_lt i k0);rw[r2]at s2;cases s2;rw[r5,s1]at o;cases o;refine⟨v,?_,s4,s5.pp hZ (aa _ (QE (r5.trans s1)))⟩
    have az:i<c.size:=by omega
    rw[putCells,Array.getElem?_mapIdx,Qi az,Option.map_some,if_pos ⟨QI _,by omega⟩,Nat.sub_zero,←hF,r3]
    rfl
   .rw[List.getElem?_append_right (by rw[I];omega),I,List.getElem?_drop]at o
    have ei:d.length*k+(i-d.length*k)=i:=by omega
    rw[ei]at o;obtain⟨v,r1,r2,r3⟩:=Q i x o;refine⟨v,?_,r2,r3.pp hZ (ac x (QE o))⟩
    rw[putCells,Array.getElem?_mapIdx,r1,Option.map_some,if_neg (by omega)]
 refine⟨_,E,rfl,ba,rfl,⟨⟨.nil,λp J=>(by cases J),λp J=>(by cases J),λp J=>(by cases J),λp J=>(by cases J),λx o=>Qf (s.hr.wa x o) R⟩,⟨rfl,λt v h=>(by cases h)⟩,λg u hg=>⟨VR.pp (E:=E) (E':=E) (w:=w) (w':=w') hZ (s.hg g u hg).1 (hG g u hg),(s.hg g u hg).2.mono z⟩,s.qz,λt v h=>(by cases h),λp J=>(by cases J),λj vi A=>?_,λj j2 i off A=>?_,λj vi b A ho hb=>?_,λj j' vi bl b h1 h2 h3 h4 h5 h6=>?_⟩,?_⟩
 .obtain⟨rfl,rfl⟩:=Vecs.wh A;refine⟨Nat.zero_lt_one,Cod.uf,.inr ⟨b,str,_,cp,ex,e1,ar,?_,?_,?_,?_⟩⟩
  .rw[QG,q];refine zJj.mono (w:=w) (.inr ⟨cap,q1,q2,q3,q4,q5,q6,c0,e0,f0,q7,q8⟩) z
  .intro y U;rcases QK.1 U with U|U
   .exact aa y U
   .exact ac y (Qc U)
  .rw[QG,q,QC,I];omega
  .rw[QG,Cod.flat,q,List.take_append_of_le_length (by rw[I];exact QA _),List.take_of_length_le (by rw[I];exact QA _)]
 .obtain⟨_,h⟩:=Vecs.wh A;cases h
 .obtain⟨rfl,rfl⟩:=Vecs.wh A;exact s.bz 0 _ b rfl rfl hb
 .rw[(Vecs.wh h1).1,(Vecs.wh h2).1]
 .refine⟨λ_ h=>h,λ_ h=>.inl h,λx o=>?_,?_,?_,?_,R,λx o ay=>?_,z⟩
  .rcases o with⟨p,J,_⟩|⟨j,vi,h1,h2,h3⟩
   .cases J
   .obtain⟨rfl,rfl⟩:=Vecs.wh h1;exact .inl (.inr ⟨0,_,rfl,rfl,h3⟩)
  .rw[O];rfl
  .rw[O];rfl
  .rw[O];rfl
  .exact S x o λh=>ay (.inr ⟨0,_,rfl,rfl,h▸e1⟩)
end
end Go.Sy
