/- A LIBRARY: WHAT A FUNCTION'S CODE RECKONS, AS A LEAN FUNCTION, AND THAT ITS WORD IS THE MODEL'S: part 6 of 6. No condition. -/
import Derived.Test.YtcolommdbibghaaGreatDoorFxE
import Derived.Carry
import Derived.WideShapes
import Derived.Lib.AtoiAll
import Derived.Lib.ItoaNum
import Derived.Lib.Bytealg
import Derived.Lib.IndexLaws
import Derived.Lib.ParseIntBTie
import Derived.Lib.ItoaLen
import Derived.Lib.AppendIntMem
import Derived.Lib.LaidTab
import Derived.Shelf.Small.Bits
import Derived.Shelf.Strconv.Itoa4
import Derived.Lib.AtoiAllCases
import Derived.Lib.SplitLaws
import Derived.Lib.IndexMore
import Derived.DataReads
import Derived.ChangeArms
import Derived.Sort.AssemblyPlain
import Derived.Shelf.GgSortFunc.InsertionK
import Derived.Calls
import Derived.Lone
import Derived.StepT
import Derived.Shelf.SlSortCmp.Insertion
import Derived.Shelf.SlicesE.Kit
import Derived.Lib.SlKept
import Derived.Shelf.SlSortCmp.Insertion1
set_option linter.unusedVariables false
set_option linter.unusedSimpArgs false
namespace Go.Sy
open Go.ChangeShapes Go.RowKit
section
variable{P:Program}{w:World}{r:Reach}{b:Nat}{t:TypeId}{v:Value}
theorem zTs(h:Cell.ok P w r b t v):v.oneCell'=true:=by
 unfold Cell.ok at h;split at h<;>first|rfl|exact h.elim
theorem zOq(h:Cell.okWide P w r b t v):v.oneCell'=true:=by
 unfold Cell.okWide at h;split at h<;>first|rfl|exact zTs h
theorem zNM{P:Program}{w:World}{r:Reach}{b:Nat}{t:TypeId}{v:Value}(h:Value.okWide P w r b t v)(d:∀a,P.underlying t≠some (.struct a))(c:∀n e,P.underlying t≠some (.array n e)):v.oneCell'=true:=by
 unfold Value.okWide at h;split at h
 .rename_i a e;exact absurd e (d a)
 .rename_i n x e;exact absurd e (c n x)
 .exact zOq h
theorem zPc{H:Type}{enc:TypeId×Value->H}{P:Program}{t:TypeId}(i:laidOutB P=true)(j:P.readableRec t=true)(a:t<P.types.size){W f:World}{v:Value}{d:DataW H}{c:List MemPlace}{sp:Nat->Bool}
  (h:DataW.Trod enc P W 0 (λ_=>true) true t v d c) (g:Kept W f) (e:∀x∈c,x.block<W.heap.size) (k:∀x∈c,sp x.block=true):DataW.Trod enc P f 0 sp true t v d c:=
 WideElems.Trod_stays i j a h (λx l=>g.below.same (e x l)) k
end
section
variable{P:Program}{w:World}{r:Reach}{b:Nat}{t u:TypeId}{v:Value}{E:Env}
def lets(s:ByteArray):JV:=s.data.toList.map UInt8.toNat
theorem VR.lets{s:ByteArray}(h:s.size<=zf):VR E w (.str (Sy.lets s)) (.string s):=.str _ s rfl (by
 have:(Sy.lets s).length=s.size:=by
  unfold Sy.lets;rw[QP,Array.length_toList];rfl
 omega)
theorem zX1{s:ByteArray}:∀b∈lets s,b<256:=by
 intro b a;obtain⟨x,_,rfl⟩:=QL.1 a;exact UInt8.toNat_lt x
end
end Go.Sy
namespace Go.Sy
open Go.RowKit
section
variable{P:Program}{G:Cx}{E:Env}{w w':World}{H:Heap}
theorem zRW{N:Nat}(g:HR E H w)(d:Below w.heap.size w w')(q:w.heap.size<=N)(l:N<w'.heap.size)(a:Nat):
  HR { E with Z:=λb=>E.Z b\/b=N } H w'/\Tr E H w { E with Z:=λb=>E.Z b\/b=N } H w' a a/\∀{v j},VR E w v j->VR { E with Z:=λb=>E.Z b\/b=N } w' v j:=by
 have n:z7 w w':=λb c e f h=>⟨c,f,(d.block b (Array.getElem?_eq_some_iff.1 h).1).trans h,rfl⟩
 have m:∀{v j},VR E w v j->VR { E with Z:=λb=>E.Z b\/b=N } w' v j:=λs=>
  VR.mono (E:=E) (E':={ E with Z:=λb=>E.Z b\/b=N }) (λ_ h=>⟨h,rfl⟩) (λb h=>⟨.inl h,d.block b (g.we b h)⟩) n s
 refine⟨⟨g.nodup,g.qx,g.inj,λp i=>(g.obj p i).mono (d.block _ (g.lt i)) m,λp i k=>?_,λb h=>?_⟩,
  ⟨QA _,λ_ _=>rfl,λh=>⟨.inl,λh=>h.elim id λ⟨x,y⟩=>by omega⟩,λ_ h=>.inl h,λx h=>?_,λp i=>.inl ⟨p,i,rfl⟩,d.tape,d.os,d.output,d.size,λx o _=>d.block x o,n,rfl⟩,m⟩
 .rcases k with k|k
  .exact g.nz p i k
  .have:=g.lt i;have e:E.ρ p.1=N:=k;omega
 .rcases h with h|h
  .exact QX (g.we b h) d.size
  .rw[h];exact l
 .rcases h with h|h
  .exact .inl h
  .exact .inr (.inr (by rw[h];exact q))
theorem zPd{g:Nat}{x:AV}{w:World}(l:GR G E w)(y:G.vz g=some (.qc (.agg [x]) 0)):∃c,w.cell? ⟨g,0,none⟩=some c/\VR E w x c/\c.oneCell'=true:=by
 have:=(l g _ y).1;generalize d:Value.pointer (some ⟨g,0,none⟩)=D at this;cases this with
 |qc e off b o C q I h a=>
  have f:g=b/\0=o+0:=by
   have h1:=Qs (Value.pointer.inj d);exact⟨congrArg Addr.block h1,congrArg Addr.off h1⟩
  obtain⟨f,F⟩:=f;obtain⟨i,rfl,k,s⟩:=h.qX;obtain⟨u,J,j,m,p⟩:=k.of_cons;have z:=p.of_nil;subst z;have n:i[0]?=some u:=by
   have:i.toList[0]?=some u:=by rw[j];rfl
   simpa using this
  have h8:=a 0 u (by simpa[Value.cells]using n)
  have A:o=0:=by omega
  subst A;exact⟨u,by rw[f];exact h8,m,s u (by rw[j];exact .head _)⟩
theorem zPe{s:ByteArray}:(s.data.toList.map UInt8.toNat).map UInt8.ofNat=s.data.toList:=by
 rw[List.map_map];have:(UInt8.ofNat∘UInt8.toNat)=id:=by funext x;simp
 rw[this,List.map_id]
end
section
variable{P:Program}{G:Cx}{E:Env}{w w':World}{H:Heap}
def zWm:JE->JF
 |[.str s,.int .u8 c]=>some (.int .i64 (Lib.indexByte (s.map UInt8.ofNat) c.toNat.toUInt8))
 |_=>none
theorem zTt(c:UInt8)(l:List UInt8):Lib.indexByte l c<9223372036854775808\/9223372036854775808<=l.length:=by
 by_cases h:Lib.indexByte l c<0
 .left;omega
 .obtain⟨o,a⟩:=Int.eq_ofNat_of_zero_le (show 0<=Lib.indexByte l c by omega)
  have:=(Lib.indexByte_some a).1;have:=(QC.1 this).1;omega
theorem zX2 {f:FuncId} {fn:Func} {d:Code} (D:P.funcs[f]?=some fn) (A:fn.body=some d) (K:(fn.name == "runtime.NumGoroutine")=false)
  (C:∀(s:ByteArray)(c:Int)(w:World),Calls P f #[.string s,.int .u8 c] w λe w'=>e=.returned (.int .i64 (Lib.indexByte s.data.toList c.toNat.toUInt8))/\w'=w):zCd P G f zWm:=by
 intro args v S m;unfold zWm at m;split at m
 rotate_left
 .cases m
 rename_i l c;cases m;refine⟨⟨fn,d,D,A,K⟩,.int _ _,λH I E w i F p Q z=>?_⟩
 obtain⟨c1,R,hc,n,g⟩:=p.of_cons;obtain⟨c2,L,q,j,a⟩:=g.of_cons;have x:=a.of_nil;subst x;have o:i=#[c1,c2]:=by apply Array.toList_inj.1;rw[hc,q]
 subst o;obtain⟨s,rfl,J,k⟩:∃s:ByteArray,c1=.string s/\s.data.toList.map UInt8.toNat=l/\l.length<=zf:=by
  cases n with
  |str l y h k=>exact⟨y,rfl,h,k⟩
 obtain⟨rfl,_⟩:=j.of_int;subst J;rw[zPe];refine(C s c w).mono λe w' h=>?_
 obtain⟨rfl,rfl⟩:=h;refine⟨_,E,rfl,F,.refl I,.int _ _ ?_⟩
 have h1:=Lib.indexByte_ge s.data.toList c.toNat.toUInt8;have O:=zTt c.toNat.toUInt8 s.data.toList;rw[QP]at k;unfold zf at k;unfold has;show -9223372036854775808<=_/\_<=9223372036854775807
 omega
def fmtG:JE->JF
 |[.int .i64 n,.int .i64 b]=>match b==10&&decide (-9223372036854775808<=n/\n<=9223372036854775807)with
  |true=>some (.str ((Lib.itoa n).map UInt8.toNat))
  |false=>none
 |_=>none
theorem zZc{n:String}{g:Nat}{a:List Int}{k:IntKind}(R:P.globalNamed n=some g)(S:G.vz g=some (.qc (.agg (a.map λz=>.int k z)) 0))(F:GR G E w):Lib.TabIs P w n k a:=by
 obtain⟨D,Q⟩:=F g _ S;obtain⟨c,t,e,A,s⟩:=Q _ _ rfl;unfold Lib.TabIs World.var?;rw[R];show(match w.heap[g]? with|some (.cells J _ _)=>some J|_=>none)=_
 rw[A];refine congrArg some ?_
 generalize q:Value.pointer (some ⟨g,0,none⟩)=X at D;cases D with
 |qc e off b o V O hz x l=>
  have T:g=b/\0=o+0:=by
   have h1:=Qs (Value.pointer.inj q);exact⟨congrArg Addr.block h1,congrArg Addr.off h1⟩
  obtain⟨rfl,Y⟩:=T;have U:o=0:=by omega
  subst U;obtain⟨m,rfl,y,h3⟩:=x.qX;have d:m.size=a.length:=by
   have:=y.1;simp at this;omega
  apply Array.ext
  .rw[s];simp
  .intro i h p;have f:i<a.length:=by simpa using p
   have j:m[i]?=some (.int k a[i]):=by
    have I:=(y.2 i (.int k a[i]) (m[i]'(by omega)) (by rw[Qb,QE f];rfl) (by simp[d,f]))
    have L:=I.of_int;rw[Qe (by omega)]
    exact congrArg some L.1
   have C:=l i (.int k a[i]) (by simpa[Value.cells]using j)
   have K:w.cell? ⟨g,0+i,none⟩=c[i]?:=by simp[World.cell?,A,QS]
   rw[K,Qe h]at C;have h8:=Qs C
   simpa using h8
theorem zX3 {f:FuncId} {fn:Func} {d:Code} {g:Nat} (L:P.funcs[f]?=some fn) (J:fn.body=some d) (R:(fn.name == "runtime.NumGoroutine")=false)
  (y:P.globalNamed "internal/strconv.uint64pow10"=some g) (Q:G.vz g=some (.qc (.agg (Lib.pow10Tab.map λz=>.int .u64 z)) 0))
  (D:∀(n:Int)(D:-9223372036854775808<=n)(h1:n<=9223372036854775807)(w:World) (C:Lib.TabIs P w "internal/strconv.uint64pow10" .u64 Lib.pow10Tab),Calls P f #[.int .i64 n,.int .i64 10] w λe w'=>e=.returned (.string ⟨(Lib.itoa n).toArray⟩)/\∃k os,w'=Sort.grow (w.drewN k) os):zCd P G f fmtG:=by
 intro args v Y m;unfold fmtG at m;split at m
 rotate_left
 .cases m
 rename_i n b;split at m
 rotate_left
 .cases m
 rename_i i;cases m;rw[qr]at i;obtain rfl:b=10:=by simpa using i.1
 have a:=Qc i.2;refine⟨⟨fn,d,L,J,R⟩,.str _,λH U E w l O s K I=>?_⟩
 obtain⟨c1,X,hc,p,j⟩:=s.of_cons;obtain⟨c2,T,x,o,c⟩:=j.of_cons;have A:=c.of_nil;subst A;have q:l=#[c1,c2]:=by apply Array.toList_inj.1;rw[hc,x]
 subst q;obtain⟨rfl,_⟩:=p.of_int;obtain⟨rfl,_⟩:=o.of_int;refine(D n a.1 a.2 w (zZc y Q K)).mono λe w' h=>?_
 obtain⟨rfl,k,os,rfl⟩:=h;obtain⟨F,S,V⟩:=zNu O (Lib.below_grow _ _ (QA _) k os) U;refine⟨_,E,rfl,F,S,.str _ _ (by simp) ?_⟩
 have:=Lib.itoa_length_le n a.1 a.2;rw[QP];unfold zf;omega
def zNN(T:Nat)(es er:AV):JE->JF
 |[.str s,.int .i64 b,.int .i64 z]=>match Nat.ble s.length 281474976710656&&(b==10&&z==64)with
  |true=>match Lib.parseIntB 64 (s.map UInt8.ofNat)with
   |.ok v=>some (.qg [.int .i64 v,.qe])
   |.range=>some (.qg [.int .i64 (Lib.intSat 64 (s.map UInt8.ofNat)),.iface T (.qc (.agg [.str [80,97,114,115,101,73,110,116],.str s,er]) 0)])
   |_=>some (.qg [.int .i64 0,.iface T (.qc (.agg [.str [80,97,114,115,101,73,110,116],.str s,es]) 0)])
  |false=>none
 |_=>none
theorem zVZ {f:FuncId} {fn:Func} {A:Code} {T gs gr ty ps pr:Nat} {es er:AV} (hf:P.funcs[f]?=some fn) (hb:fn.body=some A) (hn:(fn.name == "runtime.NumGoroutine")=false) (J:GPP G)
  (U:G.vz gs=some (.qc (.agg [.iface ps es]) 0)) (S:G.vz gr=some (.qc (.agg [.iface pr er]) 0))
  (h0:∀(s:ByteArray)(a6:s.size<=9223372036854775806)(v:Int)(h:Lib.parseIntB 64 s.data.toList=.ok v)(w:World),Calls P f #[.string s,.int .i64 10,.int .i64 64] w λe w'=>e=.returned (.tuple #[.int .i64 v,.nilIface])/\Below w.heap.size w w')
  (h1:∀(s:ByteArray)(aa:s.size<=281474976710656)(h:∀v,Lib.parseIntB 64 s.data.toList≠.ok v)(h':Lib.parseIntB 64 s.data.toList≠.range)(a:Value)(w:World)(d:w.cell? ⟨gs,0,none⟩=some a)(aw:a=.nilIface\/∃g pe,a=.iface g pe),
   Calls P f #[.string s,.int .i64 10,.int .i64 64] w λe w'=>∃N,e=.returned (.tuple #[.int .i64 (0),.iface T (.pointer (some ⟨N,0,none⟩))])/\w.heap.size<=N/\w'.heap[N]?=some (.cells #[.string ⟨#[80,97,114,115,101,73,110,116]⟩,.string s,a] ty (0,0))/\Below w.heap.size w w')
  (h2:∀(s:ByteArray)(aa:s.size<=281474976710656)(h:Lib.parseIntB 64 s.data.toList=.range)(a:Value)(w:World)(d:w.cell? ⟨gr,0,none⟩=some a)(aw:a=.nilIface\/∃g pe,a=.iface g pe),
   Calls P f #[.string s,.int .i64 10,.int .i64 64] w λe w'=>∃N,e=.returned (.tuple #[.int .i64 (Lib.intSat 64 s.data.toList),.iface T (.pointer (some ⟨N,0,none⟩))])/\w.heap.size<=N/\w'.heap[N]?=some (.cells #[.string ⟨#[80,97,114,115,101,73,110,116]⟩,.string s,a] ty (0,0))/\Below w.heap.size w w'):zCd P G f (zNN T (.iface ps es) (.iface pr er)):=by
 have aj:∀l,has .i64 (Lib.intSat 64 l):=λl=>by unfold Lib.intSat has;split<;>decide
 have ay:PP (.iface ps es):=by
  have:=J gs _ U;cases this with
  |qc e off h=>cases h with
   |agg cs h=>exact h _ (.head _)
 have au:PP (.iface pr er):=by
  have:=J gr _ S;cases this with
  |qc e off h=>cases h with
   |agg cs h=>exact h _ (.head _)
 intro args v ha d;unfold zNN at d;split at d
 rotate_left
 .cases d
 rename_i l b z;split at d
 rotate_left
 .cases d
 rename_i p;simp only[qr]at p;obtain⟨p,ar,ak⟩:=p;obtain rfl:b=10:=by simpa using ar
 obtain rfl:z=64:=by simpa using ak
 have az:PP v:=by
  have Y:∀{n:Int}{e:AV},PP e->PP (.qg [.int .i64 n,.iface T (.qc (.agg [.str [80,97,114,115,101,73,110,116],.str l,e]) 0)]):=λhe=>.qg _ λx i=>by
   rcases QG.1 i with rfl|i
   .exact .int _ _
   .rcases QG.1 i with rfl|i
    .refine .iface _ _ (.qc _ _ (.agg _ λy D=>?_))
     rcases QG.1 D with rfl|D
     .exact .str _
     .rcases QG.1 D with rfl|D
      .exact .str _
      .rcases QG.1 D with rfl|D
       .exact he
       .cases D
    .cases i
  split at d
  .cases d;exact .qg _ λx i=>by
    rcases QG.1 i with rfl|i
    .exact .int _ _
    .rcases QG.1 i with rfl|i
     .exact .qe
     .cases i
  .cases d;exact Y au
  .cases d;exact Y ay
 refine⟨⟨fn,A,hf,hb,hn⟩,az,λH nx E w F hr aq hg a8=>?_⟩
 obtain⟨c,cr,hc,ao,C⟩:=aq.of_cons;obtain⟨c2,a7,ai,K,m⟩:=C.of_cons;obtain⟨c3,ba,al,X,o⟩:=m.of_cons;have a1:=o.of_nil;subst a1;have ad:F=#[c,c2,c3]:=by apply Array.toList_inj.1;rw[hc,ai,al]
 subst ad;obtain⟨rfl,_⟩:=K.of_int;obtain⟨rfl,_⟩:=X.of_int;obtain⟨s,rfl,hs,hl⟩:∃s:ByteArray,c=.string s/\s.data.toList.map UInt8.toNat=l/\l.length<=zf:=by
  cases ao with
  |str l s' h hl=>exact⟨s',rfl,h,hl⟩
 subst hs;rw[zPe]at d;have L:s.size<=281474976710656:=by
  have h3:=QN p;rw[QP,Array.length_toList]at h3;exact h3
 have q:∀{N:Nat}{w':World}{a:Value}{g:Nat}{x:AV}{num:Int},has .i64 num->VR E w (.iface g x) a->w.heap.size<=N->w'.heap[N]?=some (.cells #[.string ⟨#[80,97,114,115,101,73,110,116]⟩,.string s,a] ty (0,0))->Below w.heap.size w w' →
   ∃cv E',(Ending.returned (.tuple #[.int .i64 num,.iface T (.pointer (some ⟨N,0,none⟩))]):Ending)=.returned cv/\HR E' H w'/\Tr E H w E' H w' nx nx ∧
    VR E' w' (.qg [.int .i64 num,.iface T (.qc (.agg [.str [80,97,114,115,101,73,110,116],.str (s.data.toList.map UInt8.toNat),.iface g x]) 0)]) cv:=by
  intro N w' a g x num ab R hN k I;have ah:=(Array.getElem?_eq_some_iff.1 k).1;obtain⟨k1,k2,k3⟩:=zRW hr I hN ah nx;refine⟨_,_,rfl,k1,k2,?_⟩
  have V:VR { E with Z:=λb=>E.Z b\/b=N } w' (.agg [.str [80,97,114,115,101,73,110,116],.str (s.data.toList.map UInt8.toNat),.iface g x]) (.agg #[.string ⟨#[80,97,114,115,101,73,110,116]⟩,.string s,a]):=by
   refine VR.qT (.cons (.str _ _ rfl (by decide)) (.cons (.str _ _ rfl hl) (.cons (k3 R) .nil))) λv d=>?_
   have h9:a.oneCell'=true:=R.wW rfl;have ax:v=.string ⟨#[80,97,114,115,101,73,110,116]⟩\/v=.string s\/v=a:=by simpa using d
   rcases ax with rfl|rfl|rfl
   .rfl
   .rfl
   .exact h9
  refine VR.qI (.cons (.int _ _ ab) (.cons (.iface _ _ _ ?_) .nil))
  have:=VR.qc (E:={ E with Z:=λb=>E.Z b\/b=N }) (w:=w') _ 0 N 0 _ rfl (Or.inr rfl) V λj c hj=>by
   have hj:(#[Value.string ⟨#[80,97,114,115,101,73,110,116]⟩,.string s,a])[j]?=some c:=hj;show w'.cell? ⟨N,0+j,none⟩=some c
   simp only[World.cell?,k,QS];exact hj
  exact this
 have Q:∀{g:Nat}{x:AV}{a:Value},VR E w (.iface g x) a->a=.nilIface\/∃g pe,a=.iface g pe:=λh=>by
  cases h with
  |iface t v cv h=>exact .inr ⟨_,_,rfl⟩
 split at d
 .rename_i n O;cases d;refine(h0 s (by omega) n O w).mono λe w' h=>?_
  obtain⟨rfl,I⟩:=h;obtain⟨k1,k2,k3⟩:=zNu hr I nx;have ac:=Lib.parseIntB_bounds O;exact⟨_,E,rfl,k1,k2,VR.qI (.cons (.int _ _ ⟨ac.1,Int.le_of_lt_add_one ac.2⟩) (.cons .qe .nil))⟩
 .rename_i ae;cases d;obtain⟨a,c1,c2,_⟩:=zPd hg S;refine(h2 s L ae a w c1 (Q c2)).mono λe w' h=>?_
  obtain⟨N,rfl,m1,m2,m3⟩:=h;exact q (aj _) c2 m1 m2 m3
 .rename_i ag af;cases d;obtain⟨a,c1,c2,_⟩:=zPd hg U;refine(h1 s L (λv e=>ag v e) (λe=>af e) a w c1 (Q c2)).mono λe w' h=>?_
  obtain⟨N,rfl,m1,m2,m3⟩:=h;exact q (by unfold has;decide) c2 m1 m2 m3
end
inductive CD where
 |bool|int (k:IntKind)|str
 |sl (es:List CD) (one:Bool)
structure BK(H:Type) where
 f:DataW H->Nat
 all:List (DataW H)->Nat
 str:∀b,f (.lit (.string b))=b.length+1
 pos:∀d,1<=f d
 slice:∀a b,f (.slice a b)=all a+all b+1
 agg:∀p,f (.agg p)=all p+1
 nil:all []=0
 cons:∀d r,all (d::r)=f d+all r
theorem BK.mem{H:Type}(B:BK H){d:DataW H}:∀{l:List (DataW H)},d∈l->B.f d<=B.all l
 |_::r,h=>by
  rw[B.cons];rcases QG.1 h with rfl|h
  .omega
  .have:=B.mem h;omega
theorem BK.len{H:Type}(B:BK H):∀l:List (DataW H),l.length<=B.all l
 |[]=>QV _
 |d::r=>by rw[B.cons,QZ];have:=B.pos d;have:=B.len r;omega
mutual
inductive CD.Ok(N:Nat):CD->AV->Prop
 |bool (b:Bool):CD.Ok N .bool (.bool b)
 |int (k:IntKind) (n:Int) (h:has k n):CD.Ok N (.int k) (.int k n)
 |str (l:JV) (h:∀x∈l,x<256) (hl:l.length<=zf) (hn:l.length<=N):CD.Ok N .str (.str l)
 |one (e:CD) (xs:JE) (h:∀x∈xs,CD.Ok N e x) (hn:xs.length<=N):CD.Ok N (.sl [e] true) (.qo 1 xs)
 |agg (es:List CD) (xs:List JE) (h:∀x∈xs,CD.wT N es x) (hn:xs.length<=N):CD.Ok N (.sl es false) (.qo es.length (xs.map .agg))
inductive CD.wT(N:Nat):List CD->JE->Prop
 |nil:CD.wT N [] []
 |cons {c:CD} {cs:List CD} {a:AV} {as_:JE} (h:CD.Ok N c a) (hs:CD.wT N cs as_):CD.wT N (c::cs) (a::as_)
end
mutual
theorem CD.Ok.mono{N M:Nat}(hm:N<=M):∀{c:CD}{a:AV},CD.Ok N c a->CD.Ok M c a
 |_,_,.bool b=>.bool b
 |_,_,.int k n h=>.int k n h
 |_,_,.str l h i d=>.str l h i (QI d hm)
 |_,_,.one e f h d=>.one e f (λx g=>CD.Ok.mono hm (h x g)) (QI d hm)
 |_,_,.agg es f h d=>.agg es f (λx g=>CD.wT.mono hm (h x g)) (QI d hm)
theorem CD.wT.mono{N M:Nat}(hm:N<=M):∀{c:List CD}{a:JE},CD.wT N c a->CD.wT M c a
 |_,_,.nil=>.nil
 |_,_,.cons h d=>.cons (CD.Ok.mono hm h) (CD.wT.mono hm d)
end
theorem CD.wT.append{N:Nat}{cs ds:List CD}:∀{l m:JE},CD.wT N cs l->CD.wT N ds m->CD.wT N (cs++ds) (l++m):=by
 induction cs with
 |nil=>intro l m h k;cases h;exact k
 |cons c cs a=>intro l m h k;cases h with|cons h1 d=>exact .cons h1 (a d k)
def zZd(P:Program)(t:TypeId):Bool:=match P.underlying t with
 |some (.struct _)=>false
 |some (.array _ _)=>false
 |_=>true
def zJP(c:TypeId->Option (List CD))(P:Program):Nat->List Field->Option (List CD)
 |_,[]=>some []
 |off,f::r=>match c f.type with
  |none=>none
  |some a=>match Nat.beq f.offset off&&Nat.beq (P.cellsOf f.type) a.length with
   |false=>none
   |true=>match zJP c P (off+a.length) r with
    |none=>none
    |some d=>some (a++d)
def zLk(P:Program):Nat->TypeId->Option (List CD)
 |0,_=>none
 |n+1,t=>match P.underlying t with
  |some .bool=>some [.bool]
  |some (.int k)=>some [.int k]
  |some .string=>some [.str]
  |some (.slice e)=>match zLk P n e with
   |none=>none
   |some es=>match Nat.beq (P.cellsOf e) es.length&&Nat.ble 1 es.length with
    |false=>none
    |true=>match zZd P e with
     |true=>match es with
      |[c]=>some [.sl [c] true]
      |_=>none
     |false=>some [.sl es false]
  |some (.struct d)=>match zJP (zLk P n) P 0 d.toList with
   |none=>none
   |some a=>match Nat.beq (P.cellsOf t) a.length with
    |true=>some a
    |false=>none
  |_=>none
section
variable{H:Type}(B:BK H){N M:Nat}{enc:TypeId×Value->H}{P:Program}{W:World}{E:Env}{base:Nat}{sp:Nat->Bool}{hd:Bool}
structure RD(N:Nat)(E:Env)(W:World)(cds:List CD)(cs:JC):Prop where
 len:cs.length=cds.length
 ex:∃avs,CD.wT N cds avs/\VRs E W avs cs/\(∀a∈avs,a.flat=true)
 one:∀c∈cs,c.oneCell'=true
theorem RD.mono(hm:N<=M){c:List CD}{cs:JC}(h:RD N E W c cs):RD M E W c cs:=
 let ⟨l,⟨a,h1,h2,h3⟩,o⟩:=h
 ⟨l,⟨a,h1.mono hm,h2,h3⟩,o⟩
theorem RD.single{c:CD}{a:AV}{v:Value}(h1:CD.Ok N c a)(e:VR E W a v)(g:a.flat=true)(f:v.oneCell'=true):RD N E W [c] [v]:=
 ⟨rfl,⟨[a],.cons h1 .nil,.cons e .nil,λx d=>by simp at d;subst d;exact g⟩,λx d=>by simp at d;subst d;exact f⟩
theorem RD.append{cs ds:List CD}{u v:JC}(h:RD N E W cs u)(k:RD N E W ds v):RD N E W (cs++ds) (u++v):=by
 obtain⟨m,⟨a,l,a2,a3⟩,i⟩:=h;obtain⟨n,⟨b,d,j,f⟩,g⟩:=k;refine⟨by simp[m,n],⟨a++b,l.append d,?_,λx c=>?_⟩,λx c=>?_⟩
 .have:∀{a:JE}{u:JC},VRs E W a u->VRs E W (a++b) (u++v):=by
   intro a
   induction a with
   |nil=>intro u h;have:=h.of_nil;subst this;exact j
   |cons x a o=>intro u h;obtain⟨y,r,rfl,h1,e⟩:=h.of_cons;exact .cons h1 (o e)
  exact this a2
 .rcases QH.1 c with h|h
  .exact a3 x h
  .exact f x h
 .rcases QH.1 c with h|h
  .exact i x h
  .exact g x h
theorem zPf{n fuel:Nat}(k:∀t a cs x,zLk P n t=some a->DataW.trod enc P W base sp hd fuel t cs=some x->RD (B.f x.1) E W a cs):
  ∀(i:List Field)(off:Nat)(a:List CD)(cs:JC),zJP (zLk P n) P off i=some a →
   (∀f∈i,∃x,DataW.trod enc P W base sp hd fuel f.type ((cs.drop f.offset).take (P.cellsOf f.type))=some x/\B.f x.1<=N)->RD N E W a ((cs.drop off).take a.length)
 |[],off,a,cs,h,_=>by
  cases h;exact⟨by simp,⟨[],.nil,by simpa using VRs.nil,λx d=>by cases d⟩,λx d=>by simp at d⟩
 |f::r,off,a,cs,h,j=>by
  unfold zJP at h;split at h
  .cases h
  rename_i c1 p;split at h
  .cases h
  rename_i c;rw[qr]at c;have s:=zb c.1;have a2:=zb c.2;split at h
  .cases h
  rename_i c2 q;cases h;obtain⟨x,m,y⟩:=j f (List.mem_cons_self ..);have e:=(k _ _ _ _ p m).mono y;have o:=zPf k r _ _ cs q λg l=>j g (List.mem_cons_of_mem _ l)
  rw[s,a2]at e;have:(cs.drop off).take (c1++c2).length=(cs.drop off).take c1.length++(cs.drop (off+c1.length)).take c2.length:=by
   rw[QJ,List.take_add,List.drop_drop]
  rw[this];exact e.append o
theorem zX4{a:Addr}{i:Nat}(h:a.spot=none):a.add i=⟨a.block,a.off+i,none⟩:=by
 obtain⟨b,o,s⟩:=a;simp only at h;subst h;unfold Addr.add;split
 .rename_i e;subst e;rfl
 .rfl
theorem zLJ(hZ:∀b,b<W.heap.size->E.Z b):∀(n fuel:Nat)(t:TypeId)(z:List CD)(cs:JC)(x:DataW H×List MemPlace),zLk P n t=some z →
  DataW.trod enc P W base sp hd fuel t cs=some x->RD (B.f x.1) E W z cs
 |0,_,_,_,_,_,h,_=>by cases h
 |n+1,fuel,t,z,cs,x,h,hr=>by
  unfold zLk at h;split at h
  .rename_i D;cases h;obtain⟨b,rfl,_⟩:=DataW.trod_bool D hr;exact .single (.bool b) (.bool b) rfl rfl
  .rename_i k D;cases h;obtain⟨m,rfl,_,hw⟩:=DataW.trod_int D hr;have hh:has k m:=by
    simp only[Lit.wf,qr,decide_eq_true_eq]at hw;exact hw
   exact .single (.int k m hh) (.int k m hh) rfl rfl
  .rename_i D;cases h;obtain⟨s,rfl,rfl,hw⟩:=DataW.trod_string D hr;have hl:s.size<=zf:=by unfold maxLen at hw;unfold zf;exact hw
   have R:(lets s).length=s.size:=by
    unfold lets;rw[QP,Array.length_toList];rfl
   exact .single (.str (lets s) zX1 (by rw[R];exact hl) (by rw[B.str];unfold lets;rw[QP];omega)) (VR.lets hl) rfl rfl
  .rename_i e D;split at h
   .cases h
   rename_i es ai;split at h
   .cases h
   rename_i J;rw[qr]at J;have I:=zb J.1;have al:=QN J.2;rcases DataW.trod_slice D hr with⟨rfl,_⟩|⟨a,len,cap,d,p,m,rfl,rfl,rfl,_,ag,Y,aa,O,_,_⟩
   .split at h
    .split at h
     .cases h;exact .single (.one _ [] (λx C=>by cases C) (QV _)) (.wq _ _ _ (QV _)) rfl rfl
     .cases h
    .cases h;exact .single (.agg _ [] (λx C=>by cases C) (QV _)) (.wq _ _ _ (QV _)) rfl rfl
   have ak:∀{i:Nat}{y:DataW H×List MemPlace},d[i]?=some y->B.f y.1<=B.f (.slice (d.map (·.1)) (p.map (·.1))):=λ{i y} h=>by
    have:=B.mem (QL.2 ⟨y,QF h,rfl⟩:y.1∈d.map (·.1));rw[B.slice];omega
   have X:len<=B.f (.slice (d.map (·.1)) (p.map (·.1))):=by
    have:=B.len (d.map (·.1));rw[QP,aa]at this;rw[B.slice];omega
   have hE:∀i,i<len->∃q:JC×JE,q.1.length=es.length/\CD.wT (B.f (.slice (d.map (·.1)) (p.map (·.1)))) es q.2/\VRs E W q.2 q.1/\(∀a∈q.2,a.flat=true)/\(∀c∈q.1,c.oneCell'=true) ∧
     (∀j,j<es.length->W.cell? (a.add (i*es.length+j))=q.1[j]?):=λi l=>by
    have h1:=O i l;have h2:∃y,d[i]?=some y:=⟨_,QE (by rw[aa];exact l)⟩
    obtain⟨y,o⟩:=h2;rw[o,Option.bind_eq_some_iff]at h1;obtain⟨ci,hc,ht⟩:=h1;obtain⟨_,c1,c2⟩:=World.cells?_some hc;obtain⟨l1,⟨ae,l2,l3,l4⟩,l5⟩:=(zLJ hZ n m e es ci y ai ht).mono (ak o);refine⟨(ci,ae),l1,l2,l3,l4,l5,λj hj=>?_⟩
    have h3:=c2 j (by rw[I];exact hj)
    rw[←h3,I];congr 1;unfold Addr.add;split<;>split<;>split<;>simp_all<;>omega
   have hC:∃g:Nat->JC×JE,∀i,i<len->(g i).1.length=es.length/\CD.wT (B.f (.slice (d.map (·.1)) (p.map (·.1)))) es (g i).2/\VRs E W (g i).2 (g i).1/\(∀a∈(g i).2,a.flat=true)/\(∀c∈(g i).1,c.oneCell'=true) ∧
     (∀j,j<es.length->W.cell? (a.add (i*es.length+j))=(g i).1[j]?):=by
    refine⟨λi=>if h:i<len then(hE i h).choose else([],[]),λi l=>?_⟩
    simp only[dif_pos l];exact(hE i l).choose_spec
   obtain⟨g,U⟩:=hC;have F:cap<=zf:=by unfold maxLen at Y;unfold zf;exact Y
   have aj:0<len->a.spot=none/\a.block<W.heap.size:=λV=>by
    obtain⟨g1,_,_,_,_,g6⟩:=U 0 V;have h0:=g6 0 (by omega)
    have h1:∃y,(g 0).1[0]?=some y:=⟨_,QE (by omega)⟩
    obtain⟨y,o⟩:=h1;have:W.cell? a=some y:=by rw[←o,←h0];simp[Addr.add]
    unfold World.cell? at this;split at this
    .rename_i c _ _ hb;split at this
     .cases this
     .rename_i hs;exact⟨by simpa using hs,(Array.getElem?_eq_some_iff.1 hb).1⟩
    .cases this
   have T:∀(f:Nat->Value)(A:JE),A.length=len->(∀(i:Nat) y,A[i]?=some y->y.flat=true/\VR E W y (f i))->(∀i,i<len->(f i).cells.toList=(g i).1)->VR E W (.qo es.length A) (.slice (some a) len cap):=by
    intro f A C o S;by_cases h0:len=0
    .have:A=[]:=List.eq_nil_of_length_eq_zero (by omega)
     subst this;subst h0;exact .wq _ _ _ F
    .obtain⟨s1,s2⟩:=aj (by omega)
     obtain⟨ab,ao,ar⟩:=a;simp only at s1 s2;subst s1;subst C;refine .qo A ab ao cap es.length f (hZ _ s2) ag F (λi y h=>by have:=(o i y h).1;cases y<;>first|rfl|exact this) (λi y h=>(o i y h).2) λi l=>?_
     obtain⟨g1,_,_,_,_,g6⟩:=U i l;have hc:=S i l;refine⟨by rw[←Array.length_toList,hc,g1],λj c hj=>?_⟩
     have ac:(g i).1[j]?=some c:=by rw[←hc];simpa using hj
     have ad:j<es.length:=by rw[←g1];exact(QC.1 ac).1
     have:=g6 j ad;rw[ac,zX4 rfl]at this
     simpa[Nat.add_assoc]using this
   split at h
   .split at h
    .rename_i c;cases h;have h1:∀i,i<len->∃v av,(g i).1=[v]/\(g i).2=[av]/\CD.Ok (B.f (.slice (d.map (·.1)) (p.map (·.1)))) c av/\VR E W av v/\av.flat=true/\v.oneCell'=true:=λi l=>by
      obtain⟨g1,g2,g3,g4,g5,_⟩:=U i l;cases hq:(g i).2 with
      |nil=>rw[hq]at g2;cases g2
      |cons av r=>
       rw[hq]at g2 g3 g4;cases g2 with
       |cons k1 k2=>
        cases k2;obtain⟨v,r',K,Q,e3⟩:=g3.of_cons;have:=e3.of_nil;subst this;rw[K]at g5;exact⟨v,av,K,rfl,k1,Q,g4 _ (List.mem_cons_self ..),g5 _ (List.mem_cons_self ..)⟩
     refine .single (.one c ((List.range len).map λi=>((g i).2).headD .qj) (λx C=>?_) (by rw[QP,List.length_range];exact X)) (T (λi=>((g i).1).headD undef) _ (by simp) (λi y o=>?_) λi l=>?_) rfl rfl
     .obtain⟨i,l,rfl⟩:=QL.1 C;obtain⟨v,av,K,Q,e3,_⟩:=h1 i (by simpa using l)
      rw[Q];exact e3
     .rw[Qb]at o;cases l:(List.range len)[i]? with
      |none=>rw[l]at o;cases o
      |some k=>
       rw[l]at o;obtain⟨L,rfl⟩:=QC.1 l;simp only[List.getElem_range,Option.map_some,QK]at o;obtain⟨v,av,K,Q,e3,e4,e5,_⟩:=h1 i (by simpa using L)
       rw[Q]at o;simp only[List.headD_cons]at o;subst o;rw[K];exact⟨e5,e4⟩
     .obtain⟨v,av,K,Q,e3,e4,e5,e6⟩:=h1 i l;rw[K];simp only[List.headD_cons];cases v<;>first|rfl|(simp[Value.oneCell']at e6)
    .cases h
   .cases h;refine .single (a:=.qo es.length (((List.range len).map λi=>(g i).2).map .agg)) (.agg es _ (λx C=>?_) (by rw[QP,List.length_range];exact X)) (T (λi=>.agg (g i).1.toArray) _ (by simp) (λi y o=>?_) λi l=>by simp[Value.cells]) rfl rfl
    .obtain⟨i,l,rfl⟩:=QL.1 C;exact(U i (by simpa using l)).2.1
    .rw[Qb,Qb]at o;cases l:(List.range len)[i]? with
     |none=>rw[l]at o;cases o
     |some k=>
      rw[l]at o;obtain⟨L,rfl⟩:=QC.1 l;simp only[List.getElem_range,Option.map_some,QK]at o;subst o;obtain⟨g1,g2,g3,g4,g5,_⟩:=U i (by simpa using L)
      exact⟨rfl,VR.qT (by simpa using g3) (by simpa using g5)⟩
  .rename_i fs D;split at h
   .cases h
   rename_i aq hf;split at h
   rotate_left
   .cases h
   rename_i hc;cases h;have hc:=zb hc;obtain⟨A,m,rfl,rfl,hl,af,O⟩:=DataW.trod_struct D hr;have:=zPf B (fuel:=m) (N:=B.f (.agg (A.map (·.1)))) (λt z cs x=>zLJ hZ n m t z cs x) fs.toList 0 z cs hf λf ah=>by
    obtain⟨i,l⟩:=List.getElem?_of_mem ah;have h1:=O i f (by simpa using l)
    have:∃y,A[i]?=some y:=⟨_,QE (by rw[af];simpa using(QC.1 l).1)⟩
    obtain⟨y,o⟩:=this;exact⟨y,h1.trans o,by have:=B.mem (QL.2 ⟨y,QF o,rfl⟩:y.1∈A.map (·.1));rw[B.agg];omega⟩
   rw[←hc,←hl]at this
   simpa using this
  .cases h
end
mutual
theorem CD.Ok.pp{N:Nat}:∀{c:CD}{a:AV},CD.Ok N c a->PP a
 |_,_,.bool b=>.bool b
 |_,_,.int k n h=>.int k n
 |_,_,.str l h j f=>.str l
 |_,_,.one e i h f=>.qo _ _ λx d=>CD.Ok.pp (h x d)
 |_,_,.agg es i h f=>.qo _ _ λx d=>by
   obtain⟨y,g,rfl⟩:=QL.1 d;exact .agg _ (CD.wT.pp (h y g))
theorem CD.wT.pp{N:Nat}:∀{c:List CD}{a:JE},CD.wT N c a->∀x∈a,PP x
 |_,_,.nil=>λx d=>by cases d
 |_,_,.cons h e=>λx d=>by
   rcases QG.1 d with rfl|d
   .exact CD.Ok.pp h
   .exact CD.wT.pp e x d
end
theorem TabOK.at{P:Program}{G:Cx}{f:Nat}{g:JE->JF}{a:TbF}{th:TbH}(h:TabOK P G ((f,g)::a) th):zCd P G f g:=λargs v d c=>h.v _ (.head _) args v d c
end Go.Sy
namespace Go.Sy
open Go.Sort
section
variable{α:Type}(lt:α->α->Bool)
def zFW(x:α):List α->List α
 |[]=>[x]
 |y::r=>match lt x y with
  |true=>x::y::r
  |false=>y::zFW x r
def isort:List α->List α
 |[]=>[]
 |x::r=>zFW lt x (isort r)
variable{lt}
theorem zID{x:α}:∀{l:List α},(zFW lt x l).Perm (x::l)
 |[]=>.refl _
 |y::r=>by
  unfold zFW;split
  .exact .refl _
  .exact(zID.cons y).trans (.swap x y r)
theorem zAs:∀{l:List α},(isort lt l).Perm l
 |[]=>.refl _
 |x::r=>zID.trans (zAs.cons x)
end
end Go.Sy
namespace Go.Sy
open Go
theorem zU5{α:Type}(a:Ask α):∀w:World,w.drawn<=(w.ask a).2.drawn:=by
 induction a with
 |done a=>intro w;exact QA _
 |ask c range k d=>
  intro w;unfold World.ask;simp only[];split
  .exact d _ _
  .exact QI (QT _) (d _ { w with drawn:=w.drawn+1 })
theorem zU6(w:World)(c:Sys):w.drawn<=(w.sys c).2.drawn:=by
 have h:=zU5 (Kernel.perform c w.os) w;unfold World.sys;split
 .exact QA _
 .rename_i e;rw[e]at h;exact h
def Result.w{α:Type}:Result α->World
 |.ok _ w=>w
 |.halt _ w=>w
theorem zNO{p:Program}{w w':World}{at_:Addr}{u:TypeId}{a:Addr}{v:Value}{b:Bool}{l:List Addr}(h:w.viewStore p at_ u a v b=.ok (w',l)):w'.drawn=w.drawn:=by
 unfold World.viewStore at h;simp only[bind,Except.bind,pure,Except.pure,throw,throwThe,MonadExceptOf.throw]at h
 repeat' first
  |(cases h;done)
  |(simp only[Except.ok.injEq,Prod.mk.injEq]at h;obtain⟨rfl,_⟩:=h;rfl)
  |split at h
theorem zOr{p:Program}{w w':World}{a:Addr}{v:Value}{b:Bool}{l:List Addr}(h:w.farStore p a v b=.ok (w',l)):w'.drawn=w.drawn:=by
 unfold World.farStore at h
 repeat' first
  |(cases h;done)
  |(simp only[Except.ok.injEq]at h;subst h;rename_i e;exact zNO e)
  |split at h
theorem zPq(w:World)(a:Addr)(v:Value):(w.setCell a v).drawn=w.drawn:=rfl
theorem zRm(w:World)(a:Addr)(n:Nat):(w.freeze a n).drawn=w.drawn:=by
 unfold World.freeze
 first
 |rfl
 |(repeat' split)<;>rfl
theorem zPg{α:Type}(p:Program)(s:Sem α):∀w:World,w.drawn<=(Result.w (s.run p w)).drawn:=by
 induction s with
 |pure a=>intro w;exact QA _
 |load m a k d=>
  intro w;unfold Sem.run;split
  .exact d _ _
  .split
   .exact d _ _
   .exact QA _
 |store m a v k d=>
  intro w;cases v
  all_goals (
   unfold Sem.run
   first
   |exact QA _
   |(split
     .split
      .exact QA _
      .exact QI (Nat.le_of_eq (zPq w a _).symm) (d _)
     .split
      .rename_i e;exact QI (Nat.le_of_eq (zOr e).symm) (d _)
      .exact QA _))
 |new o k d=>intro w;unfold Sem.run;exact d _ { w with heap:=w.heap.push o }
 |shape r k d=>intro w;unfold Sem.run;exact d _ _
 |freeze a n k d=>intro w;unfold Sem.run;exact QI (Nat.le_of_eq (zRm w a n).symm) (d _)
 |frozen a k d=>intro w;unfold Sem.run;exact d _ _
 |getObj r k d=>
  intro w;unfold Sem.run;split
  .exact QA _
  .exact d _ _
  .exact QA _
 |setObj r o k d=>
  intro w;unfold Sem.run;split
  .exact QA _
  .exact d { w with heap:=w.heap.setIfInBounds r o }
  .exact QA _
 |choose q k d=>
  intro w;unfold Sem.run;split
  .exact d _ _
  .exact QI (QT _) (d _ { w with drawn:=w.drawn+1 })
 |sys c k d=>intro w;unfold Sem.run;exact QI (zU6 w c) (d _ _)
 |program k d=>intro w;unfold Sem.run;exact d _ _
 |mark m k d=>intro w;unfold Sem.run;exact d _
 |halt h=>intro w;exact QA _
theorem zAa{α:Type}{p:Program}{s:Sem α}{w w':World}{a:α}(h:s.run p w=.ok a w'):w.drawn<=w'.drawn:=by
 have:=zPg p s w;rw[h]at this;exact this
theorem zB1{α:Type}{p:Program}{s:Sem α}{w w':World}{a:Halt}(h:s.run p w=.halt a w'):w.drawn<=w'.drawn:=by
 have:=zPg p s w;rw[h]at this;exact this
def GSt(n:Nat):GStep->Prop
 |.go _ w _|.comm _ _ _ _ w _|.spawn _ _ w _|.count _ w _|.timer _ _ w _|.alone _ _ w _|.newcoro _ _ _ w _|.coroswitch _ _ _ w _|.collect _ w _|.watch _ w _=>n<=w.drawn
 |.ended _ _ _=>True
theorem GSt.after{n:Nat}{es:Array Event}{s:GStep}(h:GSt n s):GSt n (GStep.after es s):=by
 cases s<;>exact h
theorem zPr(w:World)(a:Nat)(t:ByteArray)(o:Outcome)(n:Nat):GSt n (endWith w a t o):=by
 unfold endWith;simp only[]
 repeat' first
  |trivial
  |split
theorem zGW(p:Program)(fr:Frame)(v:Value)(w:World){n:Nat}(h:n<=w.drawn):GSt n (endPrinting p fr v w):=by
 unfold endPrinting;simp only[];split
 .exact h
 .trivial
theorem zJi(p:Program)(fr:Frame)(cs:List Frame)(d:Option Dying)(m:String)(w:World){n:Nat}(h:n<=w.drawn):GSt n (endFatal p fr cs d m w):=by
 unfold endFatal;simp only[];split
 .rename_i e;exact QI h (zAa e)
 .trivial
 .trivial
theorem zPs(p:Program)(fr:Frame)(d:Dying)(f:Fatal)(w:World){n:Nat}(h:n<=w.drawn):GSt n (writeOn p fr d f w):=by
 unfold writeOn;simp only[Sem.runT_eq];split
 .trivial
 .split
  .rename_i e;simp only[Prod.mk.injEq]at e;exact QI h (zAa e.1)
  .rename_i e;simp only[Prod.mk.injEq]at e;exact QI h (zB1 e.1)
  .trivial
  .trivial
theorem zU7(p:Program)(fr:Frame)(d:Dying)(w:World){n:Nat}(h:n<=w.drawn):GSt n (die p fr d w):=by
 unfold die;simp only[Sem.runT_eq]
 repeat' first
  |trivial
  |exact h
  |exact zPs _ _ _ _ _ h
  |exact zPr _ _ _ _ _
  |(refine GSt.after ?_)
  |(rename_i e;exact QI h (zAa e))
  |(rename_i e;exact zGW _ _ _ _ (QI h (zB1 e)))
  |split
theorem zGe(p:Program)(b:Bool)(fr:Frame)(cs:List Frame)(d:Option Dying)(v:Value)(w:World){n:Nat}(h:n<=w.drawn):GSt n (doReturn p b fr cs d v w):=by
 unfold doReturn;simp only[]
 repeat' first
  |trivial
  |exact h
  |split
theorem zRX(p:Program)(fr:Frame)(cs:List Frame)(d:Option Dying)(g:Nat)(w:World){n:Nat}(h:n<=w.drawn):GSt n (early p fr cs d g w):=by
 unfold early;simp only[]
 repeat' first
  |trivial
  |exact h
  |(apply QI h;apply zAa;assumption)
  |(simp only[GSt];apply QI h;apply zAa;assumption)
  |split
theorem zLe(p:Program)(fr:Frame)(cs:List Frame)(a:Option Dying)(d:Deferred)(w:World){n:Nat}(h:n<=w.drawn):GSt n (callDeferred p fr cs a d w):=by
 unfold callDeferred;simp only[Sem.runT_eq]
 repeat' first
  |trivial
  |(refine GSt.after ?_)
  |(apply QI h;apply zAa;assumption)
  |(apply QI h;apply zB1;assumption)
  |(apply zJi;apply QI h;apply zB1;assumption)
  |(apply endThrow_drawn;apply QI h;apply zB1;assumption)
  |split
theorem zRn(p:Program)(b:Bool)(fr:Frame)(cs:List Frame)(a:Option Dying)(w:World){n:Nat}(h:n<=w.drawn):GSt n (unwind p b fr cs a w):=by
 unfold unwind;simp only[Sem.runT_eq]
 repeat' first
  |trivial
  |exact h
  |exact zLe _ _ _ _ _ _ h
  |exact zGe _ _ _ _ _ _ _ h
  |exact zGW _ _ _ _ h
  |(refine GSt.after ?_)
  |(apply QI h;apply zAa;assumption)
  |(apply zGe;apply QI h;apply zAa;assumption)
  |split
theorem zIQ(p:Program)(l:Bool)(fr:Frame)(cs:List Frame)(a:Option Dying)(s:Sem Next)(w:World){n:Nat}(h:n<=w.drawn):GSt n (stepG.apply p l fr cs a s w):=by
 unfold stepG.apply;simp only[Sem.runT_eq];have h1:(if l=true then(s.run p w,s.events p w #[])else(s.run p w,#[])).1=s.run p w:=by split<;>rfl
 refine GSt.after ?_
 rw[h1]
 repeat' first
  |trivial
  |(apply QI h;apply zAa;assumption)
  |(apply QI h;apply zB1;assumption)
  |(apply zJi;apply QI h;apply zB1;assumption)
  |(apply endThrow_drawn;apply QI h;apply zB1;assumption)
  |(apply endThrow_drawn;apply QI h;apply zAa;assumption)
  |(apply zRX;apply QI h;apply zB1;assumption)
  |split
theorem zTu(p:Program)(l:Bool)(fr:Frame)(cs:List Frame)(a:Option Dying)(w:World){n:Nat}(h:n<=w.drawn):GSt n (stepG.oper p l fr cs a w):=by
 unfold stepG.oper
 repeat' first
  |trivial
  |exact zIQ _ _ _ _ _ _ _ h
  |split
theorem zTv(p:Program)(b l:Bool)(fr:Frame)(cs:List Frame)(a:Option Dying)(w:World){n:Nat}(h:n<=w.drawn):GSt n (stepG.exec p b l fr cs a w):=by
 unfold stepG.exec;simp only[Sem.runT_eq,Option.elim]
 repeat' first
  |trivial
  |exact h
  |exact zIQ _ _ _ _ _ _ _ h
  |exact zTu _ _ _ _ _ _ h
  |(apply QI h;apply zAa;assumption)
  |(apply QI h;apply zB1;assumption)
  |(apply zGe;apply QI h;apply zAa;assumption)
  |(apply zIQ;apply QI h;apply zAa;assumption)
  |(refine GSt.after ?_)
  |split
theorem zRY(p:Program)(b l:Bool)(g:Goroutine)(w:World){n:Nat}(h:n<=w.drawn):GSt n (stepG p b g w l):=by
 unfold stepG;simp only[]
 repeat' first
  |exact zU7 _ _ _ _ h
  |exact zTv _ _ _ _ _ _ _ h
  |exact zRn _ _ _ _ _ _ h
  |split
theorem zNP{a:Rest}{cases:Array CommCase}{w w':World}(h:waitingAt a cases w=some w'):w'.drawn=w.drawn:=by
 unfold waitingAt at h
 repeat' first
  |(cases h;done)
  |(cases h;rfl)
  |split at h
theorem zLR(p:Program)(c:Rest)(gs:Array Goroutine)(i:Nat)(g:Goroutine)(cases:Array CommCase)(a:Bool)
  (shape:CommShape) (w:World) (m':Machine) {n:Nat} (d:n<=w.drawn) (h:(communicate p c gs i g cases a shape w).1=.next m'):n<=m'.world.drawn:=by
 unfold communicate at h;simp only[]at h
 repeat' first
  |(cases h;done)
  |(simp only[Stepped.next.injEq]at h;subst h;simp only[];omega)
  |split at h
 all_goals (try simp only[reduceCtorEq]at h)
 all_goals (simp only[Stepped.next.injEq]at h;subst h;simp only[])
 all_goals first
  |(rename_i e;have:=zNP e;omega)
  |(apply QI d;apply zAa;assumption)
  |(apply QI d;apply zB1;assumption)
  |(refine QI d (QI (zAa (by assumption)) (zAa (by assumption))))
  |(refine QI d (QI (zAa (by assumption)) (zB1 (by assumption))))
  |skip
theorem zNQ(p:Program)(gs:Array Goroutine)(a:Rest)(w:World)(m':Machine){n:Nat}(c:n<=w.drawn)
  (h:look p gs a w=.next m'):n<=m'.world.drawn:=by
 unfold look at h;simp only[]at h
 repeat' first
  |(cases h;done)
  |(simp only[Stepped.next.injEq]at h;subst h;simp only[];apply QI c;apply zAa;assumption)
  |split at h
theorem zLf(m:Machine)(k:Nat)(t:Timer)(a b:Nat):(retime m k t a b).2.world.drawn=m.world.drawn:=by
 unfold retime drain Machine.withTimers;cases t.chan with
 |none=>rfl
 |some c=>
  simp only[];split<;>rfl
theorem zPt{m m':Machine}{op:TimerOp}{v:Value}(h:timerOp m op=.ok (v,m')):m'.world.drawn=m.world.drawn:=by
 have d:∀{m0:Machine}{var:Addr}{f:Nat->Timer->Value×Machine},(∀k t,(f k t).2.world.drawn=m.world.drawn)->timerOp.named m0 var f=.ok (v,m')->m'.world.drawn=m.world.drawn:=by
  intro m0 var f i h;unfold timerOp.named at h;split at h
  .rename_i k _;simp only[Except.ok.injEq]at h;have:=i k (m0.rest.timers.getD k default);rw[h]at this;exact this
  .cases h
 have c:∀{m1:Machine}{var:Addr},timerOp.opened m var=some m1->m1.world.drawn=m.world.drawn:=by
  intro m1 var h;unfold timerOp.opened at h
  repeat' first
   |(cases h;done)
   |(cases h;rfl)
   |split at h
 cases op with
 |new t=>
  unfold timerOp at h;simp only[]at h
  repeat' first
   |(cases h;done)
   |(simp only[Except.ok.injEq,Prod.mk.injEq]at h;obtain⟨_,rfl⟩:=h;rfl)
   |split at h
 |stop var=>
  unfold timerOp at h;exact d (λk t=>zLf _ _ _ _ _) h
 |reset var a b=>
  unfold timerOp at h;simp only[]at h;split at h
  .rename_i m1 e;exact d (λk t=>(zLf _ _ _ _ _).trans (c e)) h
  .cases h
 |deadline g r j a=>
  unfold timerOp at h;simp only[]at h;simp only[Except.ok.injEq,Prod.mk.injEq]at h;obtain⟨_,rfl⟩:=h;rfl
theorem zTw(p:Program)(m m':Machine)(i:Nat)(b:Bool)(h:(runT p m i b).1=.next m'):m.world.drawn<=m'.world.drawn:=by
 simp only[runT]at h
 revert h
 generalize m.gs.swapAt! _ _=c;have a:=zRY p (i==0) b c.1 m.world (QA _)
 revert a
 generalize stepG p _ c.1 m.world b=s;intro a h;cases s with
 |ended o w es=>simp at h
 |comm g cases d shape w es=>exact zLR _ _ _ _ _ _ _ _ _ _ a h
 |collect g w es=>exact zNQ _ _ _ _ _ a h
 |timer g op w es=>
  simp only[]at h
  repeat' first
   |(cases h;done)
   |(simp at h;done)
   |(simp only[Stepped.next.injEq]at h;subst h;rename_i e;have:=zPt e;simp only[]at this⊢;exact QI a (Nat.le_of_eq this.symm))
   |(simp only[Stepped.next.injEq]at h;subst h;rename_i e;simp only[endThrow,dieOf,GStep.go.injEq]at e;obtain⟨_,rfl,_⟩:=e;exact a)
   |split at h
 |_=>
  simp only[]at h
  repeat' first
   |(simp at h;done)
   |(simp only[Stepped.next.injEq]at h;subst h;exact a)
   |(simp only[Stepped.next.injEq]at h;subst h;rename_i e;simp only[endThrow,dieOf,GStep.go.injEq]at e;obtain⟨_,rfl,_⟩:=e;exact a)
   |split at h
theorem zRZ(p:Program)(m m':Machine)(k:Nat)(h:serve p m k=.next m'):m.world.drawn<=m'.world.drawn:=by
 unfold serve at h;simp only[]at h
 repeat' first
  |(simp at h;done)
  |(simp only[Stepped.next.injEq]at h;subst h;exact QA _)
  |split at h
def MvD(n:Nat):Move->Prop
 |.goroutine m _=>n<=m.world.drawn
 |.machine (.next m) _=>n<=m.world.drawn
 |.machine _ _=>True
theorem zIR(p:Program)(m:Machine):MvD m.world.drawn (askOn p m):=by
 unfold askOn;simp only[];have pk:∀(m1:Machine),m.world.drawn<=m1.world.drawn->MvD m.world.drawn (match(choose (.sched (runnable m.gs m.world.os.mono).length)).run p m1.world with
   |.halt _ w=>.machine (.ended (.stuck "sched" "") w)
   |.ok k world=>
    if(runnable m.gs m.world.os.mono).length<=1 then .goroutine { m1 with world } ((runnable m.gs m.world.os.mono).getD k 0)else
    match(choose (.extern "sched.slice" 65536)).run p world with
    |.halt _ w=>.machine (.ended (.stuck "sched.slice" "") w)
    |.ok n world=>.goroutine { m1 with world,rest:={ m1.rest with slice:=if n=0 then none else some ((runnable m.gs m.world.os.mono).getD k 0,n) } } ((runnable m.gs m.world.os.mono).getD k 0)):=by
  intro m1 h1;split
  .trivial
  .rename_i c;split
   .exact QI h1 (zAa c)
   .split
    .trivial
    .rename_i a;exact QI h1 (QI (zAa c) (zAa a))
 split
 .trivial
 .rename_i c;have q1:=zAa c;split
  .generalize d:serve p _ _=e;cases e with
   |next g=>exact QI q1 (zRZ _ _ _ _ d)
   |ended o w=>trivial
  .split
   .split
    .exact q1
    .split
     .exact q1
     .repeat' first
       |trivial
       |split
   .split
    .exact pk { m with world:=_ } q1
    .split
     .trivial
     .rename_i a;exact pk { m with world:=_ } (QI q1 (zAa a))
     .rename_i a;exact QI q1 (QI (zAa a) (QA _))
     .rename_i k f a;exact pk (Machine.advanceTo { m with world:=f } _) (QI (QI q1 (zAa a)) (QA _))
theorem MvD.le{n k:Nat}{v:Move}(h:n<=k)(a:MvD k v):MvD n v:=by
 unfold MvD at *;split<;>simp_all<;>omega
theorem zTx(p:Program)(m:Machine):MvD m.world.drawn (ask p m):=by
 unfold ask;split
 .split
  .trivial
  .rename_i a;split
   .rename_i c f;exact MvD.le (zNQ _ _ _ _ _ (zAa a) f) (zIR p c)
   .rename_i d
    revert d
    generalize look p _ _ _=e;intro d;cases e with
    |next c=>exact(d c rfl).elim
    |ended o w=>trivial
  .rename_i a;exact MvD.le (zAa a) (zIR p _)
 .exact zIR p m
theorem zTy(p:Program)(m:Machine):MvD m.world.drawn (move p m):=by
 unfold move
 repeat' first
  |trivial
  |exact QA _
  |exact zTx p _
  |split
theorem zTz(p:Program)(m m':Machine)(h:step p m=.next m'):m.world.drawn<=m'.world.drawn:=by
 have a:=zTy p m;unfold step stepT at h;split at h
 .rename_i m1 i e;rw[e]at a;exact QI a (zTw _ _ _ _ _ h)
 .rename_i s c e;rw[e]at a;simp only at h;subst h;exact a
theorem zJQ(p:Program):∀(n:Nat)(m m':Machine),runN p n m=.next m'->m.world.drawn<=m'.world.drawn
 |0,m,m',h=>by cases h;exact QA _
 |n+1,m,m',h=>by
  unfold runN at h;split at h
  .rename_i m1 e;exact QI (zTz p m m1 e) (zJQ p n m1 m' h)
  .rename_i e a;exact(a m' h).elim
theorem Calls.drawn{P:Program}{f:FuncId}{args:JB}{w:World}{R:Ending->World->Prop}(h:Calls P f args w R):
  Calls P f args w λe w'=>R e w'/\(e≠.outgrown->w.drawn<=w'.drawn):=λj=>by
 obtain⟨e,w',k,h1,d,l,i⟩:=h j;refine⟨e,w',k,⟨h1,λa=>?_⟩,d,l,i⟩
 cases e with
 |outgrown=>exact absurd rfl a
 |returned v=>obtain⟨n,g⟩:=d;exact zJQ P n _ _ g
 |panicked c=>obtain⟨n,g⟩:=d;exact zJQ P n _ _ g
end Go.Sy
namespace Go.Sy
open Go.RowKit Go.Sort Go.Proofs
def zEa:AV->Bool
 |.qc _ _=>true
 |_=>false
theorem zV0{e:AV}(h:zEa e=true):cellsOf e 1=some [e]:=by
 cases e<;>first|rfl|cases h
theorem zTA:∀{es:JE},(∀e∈es,zEa e=true)->flatten 1 es=some es
 |[],_=>rfl
 |e::r,h=>by
  show(match cellsOf e 1 with
   |some c=>match flatten 1 r with
    |some a=>some (c++a)
    |none=>none
   |none=>none)=_
  rw[zV0 (h e (.head _)),zTA λx d=>h x (.tail _ d)]
  rfl
abbrev PV:=AV×{ v:Value // v.oneCell'=true }
def PV.v(x:PV):Value:=x.2.1
theorem PV.one:OneCell PV.v:=λx=>x.2.2
def PV.z:PV:=(.qj,⟨.pointer none,rfl⟩)
instance:Inhabited PV:=⟨PV.z⟩
def zGh(E:Env)(w:World)(x:PV):Prop:=PP x.1/\VR E w x.1 x.v
theorem zGh.nil{E:Env}{w:World}:zGh E w PV.z:=⟨.qj,.qj⟩
def zJZ(v:Value):{ v:Value // v.oneCell'=true }:=if h:v.oneCell'=true then⟨v,h⟩else⟨.pointer none,rfl⟩
theorem zU8{v:Value}(h:v.oneCell'=true):(zJZ v).1=v:=by unfold zJZ;rw[dif_pos h]
section
variable{P:Program}{G:Cx}{E:Env}{w:World}{β:Nat->Option Nat}{es:JE}
structure RowB(G:Cx)(E:Env)(w:World)(β:Nat->Option Nat)(es:JE)(b cap:Nat)(d:List PV):Prop where
 hσ:E.σ 0=.slice (some ⟨b,0,none⟩) es.length cap
 hlen:es.length<=cap
 uj:cap<=zf
 hblk:b<w.heap.size
 nz:¬E.Z b
 hd:d.map Prod.fst=es
 uk:∀x∈d,zGh E w x
 holds:Holds PV.v w b 0 d.toArray
 post:∀(d2:List PV)(m n:Nat)(os:Array Obj)(w':World),d2.length=es.length->m<=d2.length->(∀x∈d2,zGh E w x)->(∀x∈d2.take m,zEa x.1=true)->w'=sortWorld PV.v w b 0 n d2.toArray os →
  ∀E':Env,E'.σ 0=.slice (some ⟨b,0,none⟩) m cap->E'.D=E.D->E'.Z=E.Z->SR G 0 E' w' { tmps:=#[],defers:=[] } β ⟨[],[],[(0,.vec 1 ((d2.map Prod.fst).take m))],0,1⟩/\Kp E.Z (BS E β [] [(0,.vec 1 es)]) w E'.Z (BS E' β [] [(0,.vec 1 ((d2.map Prod.fst).take m))]) w'
theorem Vecs.qK{j:Nat}{vi a:VI}(h:Vecs.get [(0,vi)] j=some a):j=0/\a=vi:=by
 rw[Vecs.qf]at h;split at h
 .rename_i e;cases h;exact⟨e.symm,rfl⟩
 .cases h
theorem zPu(es:JE)(c:JB):((List.range es.length).map λi=>((es.getD i .qj,zJZ (c.getD i (.pointer none))):PV)).map Prod.fst=es:=by
 rw[List.map_map];apply List.ext_getElem
 .simp
 .intro i h1 a;simp at h1;simp[h1]
theorem rowB(hG:GPP G)(s:SR G 0 E w { tmps:=#[],defers:=[] } β ⟨[],[],[(0,.vec 1 es)],0,1⟩)(ar:∀e∈es,zEa e=true):
  (es=[]/\∃p cap,E.σ 0=.slice p 0 cap)\/∃b cap d,RowB G E w β es b cap d:=by
 obtain⟨_,au,ah⟩:=s.qR 0 _ rfl;rcases ah with⟨U,e2,e3⟩|⟨b,str,cs,cp,ex,U,aq,ag,Q,ad,aa⟩
 .exact .inl ⟨e3,none,0,e2⟩
 rcases ag with⟨a,q1,q2,_⟩|⟨cap,q1,q2,q3,q4,q5,q6,c0,e0,f0,q7,q8⟩
 .exact .inl ⟨List.eq_nil_of_length_eq_zero q2,some a,0,q1⟩
 refine .inr ⟨b,cap,?_⟩
 rw[zTA ar]at aa;have ab:es=cs.take (es.length*1):=Qs aa;rw[Nat.mul_one]at ab ad;obtain⟨c,e,fz,T,ax,ae,D⟩:=aq;have R:b<w.heap.size:=(Array.getElem?_eq_some_iff.1 T).1;have az:es.length<=c.size:=QI ad ax;have at_:∀i x,es[i]?=some x->∃v,c[i]?=some v/\v.oneCell'=true/\VR E w x v:=λi x f=>by
  refine D i x ?_
  have z:=(QC.1 f).1;rw[ab,List.getElem?_take_of_lt z]at f;exact f
 obtain⟨nz,_⟩:=s.bz 0 _ b rfl rfl U;have ak:∀x∈((List.range es.length).map λi=>((es.getD i .qj,zJZ (c.getD i (.pointer none))):PV)),zGh E w x:=λx f=>by
  obtain⟨i,z,rfl⟩:=QL.1 f;have z:=List.mem_range.1 z;have f:=QE z;obtain⟨v,h1,X,Y⟩:=at_ i _ f;have ev:c.getD i (.pointer none)=v:=by simp[Array.getD_eq_getD_getElem?,h1]
  have ea:es.getD i .qj=es[i]:=by simp[List.getD_eq_getElem?_getD,f]
  refine⟨?_,?_⟩
  .show PP (es.getD i .qj)
   rw[ea];exact au _ (Qi z)
  .show VR E w (es.getD i .qj) (zJZ (c.getD i (.pointer none))).1
   rw[ea,ev,zU8 X];exact Y
 refine⟨((List.range es.length).map λi=>((es.getD i .qj,zJZ (c.getD i (.pointer none))):PV)),q1,q2,q3,R,nz,zPu es c,ak,?_,?_⟩
 .intro j L;have aw:j<es.length:=by simpa using L
  have f:=QE aw;obtain⟨v,h1,X,Y⟩:=at_ j _ f;have U:(((List.range es.length).map λi=>((es.getD i .qj,zJZ (c.getD i (.pointer none))):PV)).toArray)[j]! = (es.getD j .qj,zJZ (c.getD j (.pointer none))):=by
   rw[getElem!_pos _ j L];simp
  rw[U];refine⟨?_,?_⟩
  .simp only[World.cell?,T,QS];rw[h1];have ev:c.getD j (.pointer none)=v:=by simp[Array.getD_eq_getD_getElem?,h1]
   show some v=some (zJZ (c.getD j (.pointer none))).1
   rw[ev,zU8 X]
  .simp only[World.frozen?,T,QS];have ay:j<c.size:=by omega
   obtain⟨lo,z⟩:=fz;rcases ae with h|⟨_,h⟩
   .have h:z=lo:=h;subst h;by_cases hh:z<=j
    .have:¬j<z:=by omega
     simp[this]
    .simp[hh]
   .have h:c.size<=lo:=h;have:¬lo<=j:=by omega
    simp[this]
 .intro d2 m n os w' J hm O ai C E' eσ eD eZ;generalize hF:d2.toArray=F at C;have a1:F.size=es.length:=by rw[←hF];simpa using J
  have l:w'.heap=(w.heap.modify b (onCells (putCells PV.v 0 F)))++os:=by
   rw[C];unfold sortWorld grow putRow mapBlock Sort.ahead;rfl
  have I:w.heap.size<=w'.heap.size:=by rw[l];simp
  have K:∀x,x<w.heap.size->x≠b->w'.heap[x]? = w.heap[x]?:=λx f aj=>by
   rw[l,Array.getElem?_append_left (by simpa using f),Array.getElem?_modify,if_neg (λh=>aj h.symm)]
  have ac:w'.heap[b]?=some (.cells (putCells PV.v 0 F c) e fz):=by
   rw[l,Array.getElem?_append_left (by simpa using R),Array.getElem?_modify,if_pos rfl,T]
   rfl
  have A:(putCells PV.v 0 F c).size=c.size:=by simp[putCells]
  have k:z7 w w':=λx c1 U f1 h=>by
   by_cases f:x=b
   .subst f;rw[T]at h;cases h;exact⟨_,_,ac,A⟩
   .exact⟨c1,f1,by rw[K x (Array.getElem?_eq_some_iff.1 h).1 f];exact h,rfl⟩
  have hZ:∀x,E.Z x->E'.Z x/\w'.heap[x]? = w.heap[x]?:=λx f=>⟨eZ▸f,K x (s.hr.we x f) λh=>nz (h▸f)⟩
  have S:∀y∈d2.map Prod.fst,PP y:=λy o=>by
   obtain⟨x,f,rfl⟩:=QL.1 o;exact(O x f).1
  have af:OR E' w' b (.cells str (d2.map Prod.fst++cs.drop es.length)):=by
   refine⟨_,_,_,ac,?_,?_,λi x f=>?_⟩
   .rw[A,QJ,QP,J,Qv];omega
   .rw[A];exact ae
   .by_cases z:i<es.length
    .rw[Qp (by rw[QP,J];exact z),Qb]at f
     obtain⟨y,o,rfl⟩:=Option.map_eq_some_iff.1 f;obtain⟨k1,k2⟩:=O y (QF o);refine⟨PV.v y,?_,y.2.2,k2.pp hZ k1⟩
     have ao:i<c.size:=by omega
     rw[putCells,Array.getElem?_mapIdx,Qe ao,Option.map_some,if_pos ⟨QV _,by omega⟩,Nat.sub_zero]
     congr 2;rw[getElem!_pos F i (by omega)]
     have:=(QC.1 o).2;rw[←this];simp[←hF]
    .rw[List.getElem?_append_right (by rw[QP,J];omega),QP,J,List.getElem?_drop]at f
     have ei:es.length+(i-es.length)=i:=by omega
     rw[ei]at f;obtain⟨v,r1,r2,r3⟩:=D i x f;refine⟨v,?_,r2,r3.pp hZ (Q x (QF f))⟩
     rw[putCells,Array.getElem?_mapIdx,r1,Option.map_some,if_neg (by omega)]
  have V:((d2.map Prod.fst).take m).length=m:=by rw[Qm,QP];omega
  refine⟨⟨⟨.nil,λp q=>(by cases q),λp q=>(by cases q),λp q=>(by cases q),λp q=>(by cases q),λx f=>QX (s.hr.we x (eZ▸f)) I⟩,⟨rfl,λt v h=>(by cases h)⟩,λg u hg=>⟨VR.pp (E:=E) (E':=E') (w:=w) (w':=w') hZ (s.hg g u hg).1 (hG g u hg),(s.hg g u hg).2.mono k⟩,λh hh=>s.qx h (eD▸hh),λt v h=>(by cases h),λp q=>(by cases q),λj vi L=>?_,λj j2 i off L=>?_,λj vi b L ho T=>?_,λj j' vi a6 b h1 X Y h4 h5 h6=>?_⟩,?_⟩
  .obtain⟨rfl,rfl⟩:=Vecs.qK L;refine⟨Nat.zero_lt_one,λy o=>S y (QM o),.inr ⟨b,str,_,cp,ex,U,af,?_,?_,?_,?_⟩⟩
   .rw[V,eσ];obtain⟨c',f',k1,k2⟩:=k b c0 e0 f0 q7;exact .inr ⟨cap,rfl,by omega,q3,q4,q5,q6,c',e0,f',k1,by omega⟩
   .intro y o;rcases QH.1 o with o|o
    .exact S y o
    .exact Q y (QW o)
   .rw[V,Nat.mul_one,QJ,QP];omega
   .rw[V,Nat.mul_one,zTA λy o=>?_,List.take_append_of_le_length (by rw[QP];exact hm)]
    rw[←List.map_take]at o;obtain⟨x,f,rfl⟩:=QL.1 o;exact ai x f
  .obtain⟨_,h⟩:=Vecs.qK L;cases h
  .obtain⟨rfl,rfl⟩:=Vecs.qK L;exact⟨λh=>(s.bz 0 _ b rfl rfl T).1 (eZ▸h),λp q=>by cases q⟩
  .rw[(Vecs.qK h1).1,(Vecs.qK X).1]
  .refine⟨λ_ h=>eZ▸h,λ_ h=>.inl (eZ▸h),λx f=>?_,?_,?_,?_,I,λx f al=>?_,k⟩
   .rcases f with⟨p,q,_⟩|⟨j,vi,h1,X,Y⟩
    .cases q
    .obtain⟨rfl,rfl⟩:=Vecs.qK h1;exact .inl (.inr ⟨0,_,rfl,rfl,Y⟩)
   .rw[C];rfl
   .rw[C];rfl
   .rw[C];rfl
   .exact K x f λh=>al (.inr ⟨0,_,rfl,rfl,h▸U⟩)
end
section
variable{P:Program}{G:Cx}{E:Env}{w:World}{β:Nat->Option Nat}{es:JE}
theorem zR0{w w':World}(h1:w'.tape=w.tape)(a:w'.os=w.os)(c:w'.output=w.output)(g:w.drawn<=w'.drawn)(j:w.heap.size<=w'.heap.size)(l:∀x,x<w.heap.size->w'.heap[x]? = w.heap[x]?):∃q os,w'=grow (w.drewN q) os:=by
 refine⟨w'.drawn-w.drawn,w'.heap.extract w.heap.size w'.heap.size,?_⟩
 have f:w'.heap=w.heap++w'.heap.extract w.heap.size w'.heap.size:=by
  apply Array.ext_getElem?;intro i;by_cases e:i<w.heap.size
  .rw[Array.getElem?_append_left e,l i e]
  .rw[Array.getElem?_append_right (by omega),Array.getElem?_extract]
   have k:w.heap.size+(i-w.heap.size)=i:=by omega
   rw[k];split
   .rfl
   .rw[Array.getElem?_eq_none (by omega)]
 obtain⟨h,t,d,o,u⟩:=w';obtain⟨n,m,s,y,p⟩:=w;simp only at h1 a c g j f;subst h1 a c;unfold grow World.drewN;simp only[World.mk.injEq,true_and,and_true];exact⟨f,by omega⟩
theorem zV1{f:Nat}{g:JE->JF}(h:zCd P G f g){args:JE}{v:AV}(c:∀a∈args,PP a)(A:g args=some v){cargs:JB}(k:VRs E w args cargs.toList)(l:GR G E w)(n:∀b,E.Z b->b<w.heap.size):
  Calls P f cargs w λe w'=>∃cv E',e=.returned cv/\VR E' w' v cv/\∃q os,w'=grow (w.drewN q) os:=by
 obtain⟨m,y,j⟩:=h args v c A;have s:HR E [] w:=⟨.nil,λp c=>(by cases c),λp c=>(by cases c),λp c=>(by cases c),λp c=>(by cases c),n⟩
 refine(Calls.drawn (j [] 0 E w cargs s k l λh h1 C=>by omega)).mono λe w' o=>?_
 obtain⟨⟨cv,E',rfl,_,d,i⟩,hd⟩:=o;exact⟨cv,E',rfl,i,zR0 d.tape d.os d.output (hd λh=>by cases h) d.size λx z=>d.wh x z λp c=>by cases c⟩
theorem zZe{b:Nat}{dk:Array PV}{n:Nat}{os:Array Obj}:(∀x,x<w.heap.size->x≠b->(sortWorld PV.v w b 0 n dk os).heap[x]? = w.heap[x]?)/\z7 w (sortWorld PV.v w b 0 n dk os)/\w.heap.size<=(sortWorld PV.v w b 0 n dk os).heap.size:=by
 have a:(sortWorld PV.v w b 0 n dk os).heap=(w.heap.modify b (onCells (putCells PV.v 0 dk)))++os:=by
  unfold sortWorld grow putRow mapBlock Sort.ahead;rfl
 have c:∀x,x<w.heap.size->x≠b->(sortWorld PV.v w b 0 n dk os).heap[x]? = w.heap[x]?:=λx d e=>by
  rw[a,Array.getElem?_append_left (by simpa using d),Array.getElem?_modify,if_neg (λh=>e h.symm)]
 refine⟨c,λx c1 g f1 h=>?_,by rw[a];simp⟩
 have d:=(Array.getElem?_eq_some_iff.1 h).1;by_cases f:x=b
 .subst f;refine⟨putCells PV.v 0 dk c1,f1,?_,by simp[putCells]⟩
  rw[a,Array.getElem?_append_left (by simpa using d),Array.getElem?_modify,if_pos rfl,h]
  rfl
 .exact⟨c1,f1,by rw[c x d f];exact h,rfl⟩
theorem zZf{b:Nat}(m n:Nat)(dk:Array PV)(os a:Array Obj):grow ((sortWorld PV.v w b 0 m dk os).drewN n) a=sortWorld PV.v w b 0 (m+n) dk (os++a):=by
 unfold sortWorld;show grow (grow ((putRow PV.v (Sort.ahead w m) b 0 dk).drewN n) os) a=_
 rw[grow_grow,putRow_drewN]
theorem zRo(K:GPP G){f:Nat}{g:JE->JF}(h:zCd P G f g){b cap:Nat}{d:List PV}(R:RowB G E w β es b cap d)(s:SR G 0 E w { tmps:=#[],defers:=[] } β ⟨[],[],[(0,.vec 1 es)],0,1⟩)
  (p:List PV) (c:∀x∈p,zGh E w x) {v:AV} (O:g (p.map Prod.fst)=some v) (n:Nat) (os:Array Obj) (dk:Array PV):
  Calls P f (p.map PV.v).toArray (sortWorld PV.v w b 0 n dk os) λe w'=>∃A E',e=.returned A/\VR E' w' v A/\∃q o,w'=grow ((sortWorld PV.v w b 0 n dk os).drewN q) o:=by
 obtain⟨h1,F,J⟩:=zZe (w:=w) (b:=b) (dk:=dk) (n:=n) (os:=os);have C:∀x,E.Z x->E.Z x/\(sortWorld PV.v w b 0 n dk os).heap[x]? = w.heap[x]?:=λx c=>⟨c,h1 x (s.hr.we x c) λh=>R.nz (h▸c)⟩
 refine zV1 (E:=E) h (λa k=>?_) O ⟨by simp,λi a u k y=>?_⟩ (λg u m=>⟨VR.pp (E:=E) (E':=E) (w:=w) C (s.hg g u m).1 (K g u m),(s.hg g u m).2.mono F⟩) λz I=>QX (s.hr.we z I) J
 .obtain⟨x,l,rfl⟩:=QL.1 k;exact(c x l).1
 .simp only[Qb]at k y;obtain⟨x,j,rfl⟩:=Option.map_eq_some_iff.1 k;rw[j]at y;cases y;obtain⟨D,L⟩:=c x (QF j);exact VR.pp (E:=E) (E':=E) (w:=w) C L D
def zIU(g:JE->JF):JE->Option JE
 |[]=>some []
 |e::r=>match zEa e with
  |true=>match g [e]with
   |some (.bool b)=>match zIU g r with
    |some a=>some (match b with
     |true=>a
     |false=>e::a)
    |none=>none
   |_=>none
  |false=>none
def zTJ(c:TbF)(args:JE)(H:Heap)(V:Vecs):Option (AV×Heap×Vecs):=match args with
 |[.sym 0,.func (.func f) [] []]=>match H with
  |[]=>match V with
   |[(0,.vec d es)]=>match Nat.beq d 1 with
    |true=>match zGv c f with
     |some g=>match es with
      |[]=>none
      |e::r=>match zIU g (e::r)with
       |some a=>match Nat.blt (e::r).length 9223372036854775808 with
        |true=>some (.sym 0,[],[(0,.vec 1 a)])
        |false=>none
       |none=>none
     |none=>none
    |false=>none
   |_=>none
  |_=>none
 |_=>none
theorem zPh{c:TbF}{args:JE}{H H2:Heap}{V V2:Vecs}{v:AV}(h:zTJ c args H V=some (v,H2,V2)):
  ∃d g es a,args=[.sym 0,.func (.func d) [] []]/\H=[]/\H2=[]/\v=.sym 0/\V=[(0,.vec 1 es)]/\V2=[(0,.vec 1 a)]/\zGv c d=some g/\es≠[]/\zIU g es=some a/\es.length<9223372036854775808:=by
 unfold zTJ at h;split at h
 rotate_left
 .cases h
 split at h
 rotate_left
 .cases h
 split at h
 rotate_left
 .cases h
 split at h
 rotate_left
 .cases h
 rename_i hk;split at h
 rotate_left
 .cases h
 rename_i f;split at h
 .cases h
 split at h
 rotate_left
 .cases h
 rename_i hd;split at h
 rotate_left
 .cases h
 rename_i e;cases h;have i:=zb hk;subst i;exact⟨_,_,_,_,rfl,rfl,rfl,rfl,rfl,rfl,f,by simp,hd,by simpa[Qg]using e⟩
def pOf(g:JE->JF)(x:PV):Bool:=match g [x.1]with
 |some (.bool b)=>b
 |_=>false
theorem zIE{g:JE->JF}:∀{d:List PV}{a:JE},zIU g (d.map Prod.fst)=some a->(∀x∈d,zEa x.1=true/\g [x.1]=some (.bool (pOf g x)))/\a=(d.filter λx=>!pOf g x).map Prod.fst
 |[],a,h=>by cases h;exact⟨λx k=>(by cases k),rfl⟩
 |x::d,a,h=>by
  simp only[Qa,zIU]at h;split at h
  rotate_left
  .cases h
  rename_i e;split at h
  rotate_left
  .cases h
  rename_i b i;split at h
  rotate_left
  .cases h
  rename_i l j;cases h;obtain⟨h1,f⟩:=zIE j;have ep:pOf g x=b:=by unfold pOf;rw[i]
  refine⟨λy c=>?_,?_⟩
  .rcases QG.1 c with rfl|c
   .exact⟨e,by rw[ep];exact i⟩
   .exact h1 y c
  .rw[List.filter_cons,ep];cases b with
   |true=>simpa using f
   |false=>simp[f]
theorem zX5{f:Nat}{tb:TbF}(hG:GPP G)(aa:∀k g,zGv tb k=some g->zCd P G k g/\∀args w,(callFunc k args).run P w=.ok (.enter k args) w)(aj:Enters P f)
  (F:∀(p:PV->Bool)(g:Nat),(∀args w,(callFunc g args).run P w=.ok (.enter g args) w)->∀(a cap:Nat)(d:Array PV)(w:World),
   (∀x∈d.toList,∀q os (dk:Array PV),dk.size=d.size->Calls P g #[PV.v x] (sortWorld PV.v w a 0 q dk os) λe w'=>e=.returned (.bool (p x))/\∃O h,w'=sortWorld PV.v w a 0 O dk h) →
   Holds PV.v w a 0 d->a<w.heap.size->d.size<=9223372036854775807->d.size<=cap →
   Calls P f #[.slice (some ⟨a,0,none⟩) d.size cap,.func (.func g) #[] #[]] w λe w'=>e=.returned (.slice (some ⟨a,0,none⟩) (d.toList.filter λx=>!p x).length cap)/\∃q os,w'=sortWorld PV.v w a 0 q ((d.toList.filter λx=>!p x)++List.replicate (d.size-(d.toList.filter λx=>!p x).length) PV.z).toArray os) {ds:List D}:
  FOK P G ⟨f,[],zTJ tb,ds⟩:=by
 refine⟨HOK.of rfl aj λargs H V v H2 V2 aq hv=>?_,λargs H V v H2 V2 hc hw hk hv=>?_⟩
 rotate_left
 .obtain⟨k,g,es,ac,rfl,rfl,rfl,rfl,rfl,rfl,hl,J,hd,K⟩:=zPh hv;intro j vi Y;obtain⟨rfl,rfl⟩:=Vecs.qK Y;have ah:∀e∈es,PP e:=(hw.V 0 (.vec 1 es) rfl).2;have U:es=(es.map λe=>((e,⟨.pointer none,rfl⟩):PV)).map Prod.fst:=by rw[List.map_map];exact(List.map_id _).symm
  rw[U]at hd;obtain⟨_,h2⟩:=zIE hd;refine⟨Nat.zero_lt_one,λe I=>?_⟩
  rw[h2]at I;obtain⟨x,c,rfl⟩:=QL.1 I;obtain⟨y,hy,rfl⟩:=QL.1 (List.mem_filter.1 c).1;exact ah _ hy
 obtain⟨k,g,es,ac,rfl,rfl,rfl,rfl,rfl,rfl,hl,J,hd,K⟩:=zPh hv;obtain⟨S,al⟩:=aa k g hl;refine⟨⟨.inl<|.inr<|.inl ⟨0,rfl,Nat.zero_lt_one⟩,rfl,QA _,λp hp=>(by cases hp),λj vi Y=>?_⟩,λE w β C s m ar=>?_⟩
 .obtain⟨rfl,rfl⟩:=Vecs.qK Y;rfl
 obtain⟨l⟩:=C;obtain⟨ak,m⟩:=m
 match l,ak with
 |[c0,c1],_=>
 have h0:VR E w (.sym 0) c0:=m 0 _ _ rfl rfl;have h1:VR E w (.func (.func k) [] []) c1:=m 1 _ _ rfl rfl;have ae:c0=E.σ 0:=by cases h0;assumption
 have ao:c1=.func (.func k) #[] #[]:=by
  cases h1 with
  |func _ _ _ vf vc q1 q2=>
   have e1:vf=#[]:=Array.eq_empty_of_size_eq_zero q1.symm;have e2:vc=#[]:=Array.eq_empty_of_size_eq_zero q2.symm;rw[e1,e2]
 subst ae;subst ao;have U:es=(es.map λe=>((e,⟨.pointer none,rfl⟩):PV)).map Prod.fst:=by rw[List.map_map];exact(List.map_id _).symm
 have ag:∀e∈es,zEa e=true:=λe I=>by
  rw[U]at hd;obtain⟨h2,_⟩:=zIE hd;exact(h2 (e,⟨.pointer none,rfl⟩) (QL.2 ⟨e,I,rfl⟩)).1
 rcases rowB hG s ag with⟨I,_⟩|⟨b,cap,d,R⟩
 .exact absurd I J
 have L:=hd;rw[←R.hd]at L;obtain⟨k1,k2⟩:=zIE L;have n:d.length=es.length:=by rw[←R.hd,QP]
 have o:∀x∈d.toArray.toList,∀q os (dk:Array PV),dk.size=d.toArray.size->Calls P k #[PV.v x] (sortWorld PV.v w b 0 q dk os) λe w'=>e=.returned (.bool (pOf g x))/\∃O h,w'=sortWorld PV.v w b 0 O dk h:=by
  intro x c q os dk au;have Q:x∈d:=by simpa using c
  have T:∀y∈[x],zGh E w y:=λy hy=>by rw[QY.1 hy];exact R.uk x Q
  have hc:=zRo hG S R s [x] T (k1 x Q).2 q os dk;refine hc.mono λe w' hh=>?_
  obtain⟨cv,X,rfl,ab,O,h,A⟩:=hh;refine⟨?_,q+O,os++h,by rw[A,zZf]⟩
  cases ab;rfl
 have ai:d.toArray.size<=9223372036854775807:=by rw[List.size_toArray,n];exact Nat.le_of_lt_succ K
 have af:d.toArray.size<=cap:=by rw[List.size_toArray,n];exact R.hlen
 have i:=F (pOf g) k al b cap d.toArray w o R.holds R.hblk ai af;rw[R.hσ,←n];simp only[List.size_toArray,List.toList_toArray]at i;refine i.mono λee w' hh=>?_
 obtain⟨rfl,q,os,A⟩:=hh;have aw:(d.filter λx=>!pOf g x).length<=d.length:=List.length_filter_le _ _
 let X:Env:={ E with σ:=λj=>match j with
  |0=>.slice (some ⟨b,0,none⟩) (d.filter λx=>!pOf g x).length cap
  |j+1=>E.σ (j+1) }
 have et:((d.filter λx=>!pOf g x)++List.replicate (d.length-(d.filter λx=>!pOf g x).length) PV.z).take (d.filter λx=>!pOf g x).length=d.filter λx=>!pOf g x:=List.take_left
 have ad:=R.post ((d.filter λx=>!pOf g x)++List.replicate (d.length-(d.filter λx=>!pOf g x).length) PV.z) (d.filter λx=>!pOf g x).length q os w'
 have q1:((d.filter λx=>!pOf g x)++List.replicate (d.length-(d.filter λx=>!pOf g x).length) PV.z).length=es.length:=by
  rw[QJ,List.length_replicate,←n];omega
 have q2:(d.filter λx=>!pOf g x).length<=((d.filter λx=>!pOf g x)++List.replicate (d.length-(d.filter λx=>!pOf g x).length) PV.z).length:=by
  rw[QJ];omega
 have q3:∀x∈((d.filter λx=>!pOf g x)++List.replicate (d.length-(d.filter λx=>!pOf g x).length) PV.z),zGh E w x:=λx c=>by
  rcases QH.1 c with c|c
  .exact R.uk x (List.mem_filter.1 c).1
  .rw[(List.mem_replicate.1 c).2];exact zGh.nil
 have q4:∀x∈((d.filter λx=>!pOf g x)++List.replicate (d.length-(d.filter λx=>!pOf g x).length) PV.z).take (d.filter λx=>!pOf g x).length,zEa x.1=true:=λx c=>by
  rw[et]at c;exact(k1 x (List.mem_filter.1 c).1).1
 obtain⟨p1,p2⟩:=ad q1 q2 q3 q4 A X rfl rfl rfl;rw[←List.map_take,et,←k2]at p1 p2;exact⟨_,X,β,rfl,.sym 0 _ rfl rfl,λp hp=>(by cases hp),p1,p2⟩
end
section
variable{P:Program}{G:Cx}{E:Env}{w:World}{β:Nat->Option Nat}{es:JE}
def eqOf(g:JE->JF)(a b:AV):Bool:=match g [a,b]with
 |some (.bool b)=>b
 |_=>false
def zOD(g:JE->JF)(a b:AV):Bool:=match g [a,b]with
 |some (.bool _)=>true
 |_=>false
theorem zU9{g:JE->JF}{a b:AV}(h:zOD g a b=true):g [a,b]=some (.bool (eqOf g a b)):=by
 unfold zOD at h;unfold eqOf;split at h
 .rename_i e;rw[e]
 .cases h
def zFf(g:JE->JF)(p:AV):JE->JE
 |[]=>[]
 |y::r=>match eqOf g y p with
  |true=>zFf g y r
  |false=>y::zFf g y r
def cmL(g:JE->JF):JE->JE
 |[]=>[]
 |x::r=>x::zFf g x r
def zLK(p:AV):JE->AV
 |[]=>p
 |x::r=>zLK x r
theorem zPi(g:JE->JF)(y:AV):∀(r:JE)(p:AV),zFf g p (r++[y])=zFf g p r++(match eqOf g y (zLK p r)with|true=>[]|false=>[y])
 |[],p=>by
  show zFf g p [y]=_
  simp only[zFf,zLK,List.nil_append]
 |x::r,p=>by
  simp only[List.cons_append,zFf,zLK,zPi g y r x];split<;>simp
theorem zPj:∀(r:JE)(p:AV),(p::r)[r.length]?=some (zLK p r)
 |[],p=>rfl
 |x::r,p=>by
  show(x::r)[r.length]? = _
  exact zPj r x
theorem zX6{g:JE->JF}:∀{l:JE}{e:AV},e∈cmL g l->e∈l:=by
 have go:∀{l:JE}{p e:AV},e∈zFf g p l->e∈l:=by
  intro l
  induction l with
  |nil=>intro p e h;exact h
  |cons y r a=>
   intro p e h;unfold zFf at h;split at h
   .exact .tail _ (a h)
   .rcases QG.1 h with rfl|h
    .exact .head _
    .exact .tail _ (a h)
 intro l e h;cases l with
 |nil=>exact h
 |cons x r=>
  rcases QG.1 h with rfl|h
  .exact .head _
  .exact .tail _ (go h)
def kpQ(q:PV->PV->Bool)(d:Array PV)(j:Nat):Bool:=decide (j=0)||!q d[j]! d[j-1]!
def cmA(q:PV->PV->Bool)(d:Array PV):List PV:=Lib.keptUpTo (kpQ q d) d d.size
theorem zX7{g:JE->JF}(d:List PV):(cmA (λx y=>eqOf g x.1 y.1) d.toArray).map Prod.fst=cmL g (d.map Prod.fst):=by
 have f:∀m,m<=d.length->(Lib.keptUpTo (kpQ (λx y=>eqOf g x.1 y.1) d.toArray) d.toArray m).map Prod.fst=cmL g ((d.map Prod.fst).take m):=by
  intro m
  induction m with
  |zero=>intro _;simp[Lib.keptUpTo,cmL]
  |succ m p=>
   intro l;have e:m<d.length:=l;rw[Lib.keptUpTo_succ,Qy,p (by omega)]
   have n:(d.map Prod.fst).take (m+1)=(d.map Prod.fst).take m++[d[m].1]:=by
    rw[List.take_add_one,Qb,QE e];rfl
   have i:d.toArray[m]! = d[m]:=by rw[getElem!_pos d.toArray m (by simpa using e)];simp
   rw[n];cases m with
   |zero=>simp[kpQ,cmL,zFf,i]
   |succ m=>
    have o:d.toArray[m+1-1]! = d[m]:=by rw[Nat.add_sub_cancel,getElem!_pos d.toArray m (by simp;omega)];simp
    obtain⟨x,r,a⟩:∃x r,(d.map Prod.fst).take (m+1)=x::r:=by
     cases hc:(d.map Prod.fst).take (m+1)with
     |nil=>
      have h:=congrArg List.length hc;rw[Qm,QP,Qj]at h;omega
     |cons x r=>exact⟨x,r,rfl⟩
    have k:r.length=m:=by
     have h:=congrArg List.length a;rw[Qm,QP,QZ]at h;omega
    have c:zLK x r=d[m].1:=by
     have h1:=zPj r x;rw[k,←a,List.getElem?_take_of_lt (by omega),Qb,QE (by omega)]at h1
     exact(Qs h1).symm
    rw[a];show _=x::zFf g x (r++[d[m+1].1])
    rw[zPi,c];have j:kpQ (λx y=>eqOf g x.1 y.1) d.toArray (m+1)=!eqOf g d[m+1].1 d[m].1:=by
     unfold kpQ;rw[i,o];simp
    rw[j,i];cases hq:eqOf g d[m+1].1 d[m].1 with
    |true=>simp[cmL]
    |false=>simp[cmL]
 have:=f d.length (QA _);rw[show(d.map Prod.fst).take d.length=d.map Prod.fst from List.take_of_length_le (by simp)]at this
 unfold cmA;rw[List.size_toArray];exact this
theorem zX8(q:PV->PV->Bool)(d:Array PV):(cmA q d).length<=d.size:=by
 unfold cmA Lib.keptUpTo;rw[QP];exact QI (List.length_filter_le _ _) (by simp)
theorem zX9{q:PV->PV->Bool}{d:List PV}{x:PV}(h:x∈cmA q d.toArray):x∈d:=by
 unfold cmA Lib.keptUpTo at h;obtain⟨i,a,rfl⟩:=QL.1 h;have a:=List.mem_range.1 (List.mem_filter.1 a).1;rw[getElem!_pos d.toArray i a];simp
def zPP(f1:Nat)(g:JE->JF)(args:JE)(H:Heap)(V:Vecs):Option (AV×Heap×Vecs):=match args with
 |[.sym 0,.func (.func d) [] []]=>match Nat.beq f1 d with
  |true=>match H with
   |[]=>match V with
    |[(0,.vec c es)]=>match Nat.beq c 1 with
     |true=>match es.all zEa&&es.all λa=>es.all λb=>zOD g a b with
      |true=>match Nat.blt es.length 9223372036854775808 with
       |true=>some (.sym 0,[],[(0,.vec 1 (cmL g es))])
       |false=>none
      |false=>none
     |false=>none
    |_=>none
   |_=>none
  |false=>none
 |_=>none
theorem zNR{f1:Nat}{g:JE->JF}{args:JE}{H H2:Heap}{V V2:Vecs}{v:AV}(h:zPP f1 g args H V=some (v,H2,V2)):
  ∃es,args=[.sym 0,.func (.func f1) [] []]/\H=[]/\H2=[]/\v=.sym 0/\V=[(0,.vec 1 es)]/\V2=[(0,.vec 1 (cmL g es))]/\(∀e∈es,zEa e=true)/\(∀a∈es,∀b∈es,g [a,b]=some (.bool (eqOf g a b)))/\es.length<9223372036854775808:=by
 unfold zPP at h;split at h
 rotate_left
 .cases h
 split at h
 rotate_left
 .cases h
 rename_i f;split at h
 rotate_left
 .cases h
 split at h
 rotate_left
 .cases h
 split at h
 rotate_left
 .cases h
 rename_i hk;split at h
 rotate_left
 .cases h
 rename_i hd;split at h
 rotate_left
 .cases h
 rename_i c;cases h;have i:=zb f;have d:=zb hk;subst i d;rw[qr,QD,QD]at hd;exact⟨_,rfl,rfl,rfl,rfl,rfl,rfl,hd.1,λa j b c=>zU9 (QD.1 (hd.2 a j) b c),by simpa[Qg]using c⟩
theorem zV2{f f1:Nat}{g:JE->JF}(hG:GPP G)(ab:zCd P G f1 g)(ay:∀args w,(callFunc f1 args).run P w=.ok (.enter f1 args) w)(al:Enters P f)
  (I:∀(v:Value)(p:Option Addr)(n cap:Nat)(w:World),n<2->Calls P f #[.slice p n cap,v] w λe w'=>e=.returned (.slice p n cap)/\w'=w)
  (U:∀(q:PV->PV->Bool),∀(c cap:Nat)(d:Array PV)(w:World),
   (∀x∈d.toList,∀y∈d.toList,∀n os (dk:Array PV),dk.size=d.size->Calls P f1 #[PV.v x,PV.v y] (sortWorld PV.v w c 0 n dk os) λe w'=>e=.returned (.bool (q x y))/\∃n' k,w'=grow ((sortWorld PV.v w c 0 n dk os).drewN n') k) →
   Holds PV.v w c 0 d->c<w.heap.size->d.size<=9223372036854775807->d.size<=cap->2<=d.size →
   Calls P f #[.slice (some ⟨c,0,none⟩) d.size cap,.func (.func f1) #[] #[]] w λe w'=>e=.returned (.slice (some ⟨c,0,none⟩) (cmA q d).length cap)/\∃n os,w'=sortWorld PV.v w c 0 n (cmA q d++List.replicate (d.size-(cmA q d).length) PV.z).toArray os) {ds:List D}:
  FOK P G ⟨f,[],zPP f1 g,ds⟩:=by
 refine⟨HOK.of rfl al λargs H V v H2 V2 au hv=>?_,λargs H V v H2 V2 hc hw hk hv=>?_⟩
 rotate_left
 .obtain⟨es,rfl,rfl,rfl,rfl,rfl,rfl,T,hd,X⟩:=zNR hv;intro j vi hj;obtain⟨rfl,rfl⟩:=Vecs.qK hj;have aj:∀e∈es,PP e:=(hw.V 0 (.vec 1 es) rfl).2;exact⟨Nat.zero_lt_one,λe he=>aj e (zX6 he)⟩
 obtain⟨es,rfl,rfl,rfl,rfl,rfl,rfl,T,hd,X⟩:=zNR hv;refine⟨⟨.inl<|.inr<|.inl ⟨0,rfl,Nat.zero_lt_one⟩,rfl,QA _,λp hp=>(by cases hp),λj vi hj=>?_⟩,λE w β Q s F aw=>?_⟩
 .obtain⟨rfl,rfl⟩:=Vecs.qK hj;rfl
 obtain⟨l⟩:=Q;obtain⟨ao,F⟩:=F
 match l,ao with
 |[c0,c1],_=>
 have h0:VR E w (.sym 0) c0:=F 0 _ _ rfl rfl;have h1:VR E w (.func (.func f1) [] []) c1:=F 1 _ _ rfl rfl;have ar:(E.σ 0).oneCell'=true:=by cases h0 with|sym i cv he h1=>rw[←he];exact h1
 have ah:c0=E.σ 0:=by cases h0;assumption
 have aq:c1=.func (.func f1) #[] #[]:=by
  cases h1 with
  |func _ _ _ vf vc q1 q2=>
   have e1:vf=#[]:=Array.eq_empty_of_size_eq_zero q1.symm;have e2:vc=#[]:=Array.eq_empty_of_size_eq_zero q2.symm;rw[e1,e2]
 subst ah;subst aq;have same:es.length<2->∀(p:Option Addr)(cap:Nat),E.σ 0=.slice p es.length cap->Calls P f #[E.σ 0,.func (.func f1) #[] #[]] w λe w'=>∃cv C β',e=.returned cv/\VR C w' (.sym 0) cv/\(∀p∈([]:Heap),p.1<([]:Heap).length->C.ρ p.1=E.ρ p.1)/\SR G 0 C w' { tmps:=#[],defers:=[] } β' ⟨[],[],[(0,.vec 1 (cmL g es))],0,1⟩/\Kp E.Z (BS E β [] [(0,.vec 1 es)]) w C.Z (BS C β' [] [(0,.vec 1 (cmL g es))]) w':=by
  intro Y p cap hσ;have ec:cmL g es=es:=by
   match es,Y with
   |[],_=>rfl
   |[x],_=>rfl
  rw[ec,hσ];refine(I _ p es.length cap w Y).mono λe w' hh=>?_
  obtain⟨rfl,rfl⟩:=hh;exact⟨_,E,β,rfl,.sym 0 _ hσ.symm rfl,λp hp=>(by cases hp),s,Kp.refl⟩
 rcases rowB hG s T with⟨he,p,cap,hσ⟩|⟨b,cap,d,R⟩
 .subst he;exact same (by simp) p cap hσ
 by_cases h2:es.length<2
 .exact same h2 _ cap R.hσ
 have m:d.length=es.length:=by rw[←R.hd,QP]
 have S:∀x∈d,x.1∈es:=λx h=>by rw[←R.hd];exact QL.2 ⟨x,h,rfl⟩
 have L:∀x∈d.toArray.toList,∀y∈d.toArray.toList,∀n os (dk:Array PV),dk.size=d.toArray.size->Calls P f1 #[PV.v x,PV.v y] (sortWorld PV.v w b 0 n dk os) λe w'=>e=.returned (.bool (eqOf g x.1 y.1))/\∃n' k,w'=grow ((sortWorld PV.v w b 0 n dk os).drewN n') k:=by
  intro x h y hy n os dk ax;have aa:x∈d:=by simpa using h
  have ad:y∈d:=by simpa using hy
  have ac:∀z∈[x,y],zGh E w z:=λz hz=>by
   simp only[QG,List.not_mem_nil,or_false]at hz;rcases hz with rfl|rfl
   .exact R.uk _ aa
   .exact R.uk _ ad
  have hc:=zRo hG ab R s [x,y] ac (hd x.1 (S x aa) y.1 (S y ad)) n os dk;refine hc.mono λe w' hh=>?_
  obtain⟨cv,C,rfl,af,q',k,O⟩:=hh;refine⟨?_,q',k,O⟩
  cases af;rfl
 have ak:d.toArray.size<=9223372036854775807:=by rw[List.size_toArray,m];exact Nat.le_of_lt_succ X
 have ai:d.toArray.size<=cap:=by rw[List.size_toArray,m];exact R.hlen
 have ae:2<=d.toArray.size:=by rw[List.size_toArray,m];omega
 have a:=U (λx y=>eqOf g x.1 y.1) b cap d.toArray w L R.holds R.hblk ak ai ae
 rw[R.hσ,←m];have A:=zX8 (λx y=>eqOf g x.1 y.1) d.toArray
 have J:=zX7 (g:=g) d;have o:=λx=>zX9 (q:=λx y=>eqOf g x.1 y.1) (d:=d) (x:=x)
 generalize cmA (λx y=>eqOf g x.1 y.1) d.toArray=K at a A J o
 simp only[List.size_toArray]at a A;refine a.mono λee w' hh=>?_
 obtain⟨rfl,q,os,O⟩:=hh
 let C:Env:={ E with σ:=λj=>match j with
  |0=>.slice (some ⟨b,0,none⟩) K.length cap
  |j+1=>E.σ (j+1) }
 have et:(K++List.replicate (d.length-K.length) PV.z).take K.length=K:=List.take_left;have ag:=R.post (K++List.replicate (d.length-K.length) PV.z) K.length q os w';have q1:(K++List.replicate (d.length-K.length) PV.z).length=es.length:=by
  rw[QJ,List.length_replicate,←m];omega
 have q2:K.length<=(K++List.replicate (d.length-K.length) PV.z).length:=by
  rw[QJ];omega
 have q3:∀x∈(K++List.replicate (d.length-K.length) PV.z),zGh E w x:=λx h=>by
  rcases QH.1 h with h|h
  .exact R.uk x (o x h)
  .rw[(List.mem_replicate.1 h).2];exact zGh.nil
 have q4:∀x∈(K++List.replicate (d.length-K.length) PV.z).take K.length,zEa x.1=true:=λx h=>by
  rw[et]at h;exact T _ (S x (o x h))
 obtain⟨p1,p2⟩:=ag q1 q2 q3 q4 O C rfl rfl rfl;rw[←List.map_take,et,J,R.hd]at p1 p2;exact⟨_,C,β,rfl,.sym 0 _ rfl rfl,λp hp=>(by cases hp),p1,p2⟩
def kOf(gt:JE->JF)(a:AV):Option JV:=match gt [a]with
 |some (.str s)=>some s
 |_=>none
def zEU(gt:JE->JF)(a:AV):JV:=(kOf gt a).getD []
def zHe(c:JV->JV->Bool)(gt:JE->JF)(es:JE):JE:=isort (λa b=>c (zEU gt a) (zEU gt b)) es
def zH0(gt:JE->JF)(es:JE):Bool:=(es.all λa=>zEa a&&(kOf gt a).isSome)&&es.all λa=>es.all λb=>!(seqb (zEU gt a) (zEU gt b))||qW 400 a b
def zNS(f1:Nat)(a:JV->JV->Bool)(gt:JE->JF)(args:JE)(H:Heap)(V:Vecs):Option (AV×Heap×Vecs):=match args with
 |[.sym 0,.func (.func d) [] []]=>match Nat.beq f1 d with
  |true=>match H with
   |[]=>match V with
    |[(0,.vec c es)]=>match Nat.beq c 1 with
     |true=>match zH0 gt es with
      |true=>match Nat.blt es.length 4611686018427387904 with
       |true=>some (.qg [],[],[(0,.vec 1 (zHe a gt es))])
       |false=>none
      |false=>none
     |false=>none
    |_=>none
   |_=>none
  |false=>none
 |_=>none
theorem zV3{gt:JE->JF}{a:AV}(h:(kOf gt a).isSome=true):gt [a]=some (.str (zEU gt a)):=by
 unfold kOf zEU at *;unfold kOf;split at h
 .rename_i s e;rw[e];rfl
 .cases h
theorem zR1{gt:JE->JF}{es:JE}(h:zH0 gt es=true):(∀a∈es,zEa a=true/\gt [a]=some (.str (zEU gt a)))/\∀a∈es,∀b∈es,zEU gt a=zEU gt b->a=b:=by
 unfold zH0 at h;rw[qr,QD,QD]at h;refine⟨λa c=>?_,λa c b d hk=>?_⟩
 .have:=h.1 a c;rw[qr]at this;exact⟨this.1,zV3 this.2⟩
 .have:=QD.1 (h.2 a c) b d;rw[hk,zIo]at this;exact zKL 400 a b (by simpa using this)
theorem zMd{f1:Nat}{a:JV->JV->Bool}{gt:JE->JF}{args:JE}{H H2:Heap}{V V2:Vecs}{v:AV}(h:zNS f1 a gt args H V=some (v,H2,V2)):
  ∃es,args=[.sym 0,.func (.func f1) [] []]/\H=[]/\H2=[]/\v=.qg []/\V=[(0,.vec 1 es)]/\V2=[(0,.vec 1 (zHe a gt es))]/\zH0 gt es=true/\es.length<4611686018427387904:=by
 unfold zNS at h;split at h
 rotate_left
 .cases h
 split at h
 rotate_left
 .cases h
 rename_i c;split at h
 rotate_left
 .cases h
 split at h
 rotate_left
 .cases h
 split at h
 rotate_left
 .cases h
 rename_i hk;split at h
 rotate_left
 .cases h
 rename_i hd;split at h
 rotate_left
 .cases h
 rename_i e;cases h;have d:=zb c;have f:=zb hk;subst d f;exact⟨_,rfl,rfl,rfl,rfl,rfl,rfl,hd,by simpa[Qg]using e⟩
theorem zLg{α:Type}{lt:α->α->Bool}(hO:SWO lt){x:α}:∀{l:List α},l.Pairwise (λa b=>lt b a=false)->(zFW lt x l).Pairwise λa b=>lt b a=false
 |[],_=>.cons (λy h=>by cases h) .nil
 |y::r,g=>by
  cases g with
  |cons h1 f=>
   unfold zFW;split
   .rename_i e;have d:lt y x=false:=by
     cases hc:lt y x with
     |false=>rfl
     |true=>have:=hO.trans _ _ _ e hc;rw[hO.irrefl]at this;cases this
    refine .cons (λz c=>?_) (.cons h1 f)
    rcases QG.1 c with rfl|c
    .exact d
    .cases hc:lt z x with
     |false=>rfl
     |true=>have:=hO.trans _ _ _ hc e;rw[h1 z c]at this;cases this
   .rename_i e;refine .cons (λz c=>?_) (zLg hO f)
    rcases QG.1 (zID.mem_iff.1 c)with rfl|c
    .exact e
    .exact h1 z c
theorem zKc{α:Type}{lt:α->α->Bool}(hO:SWO lt):∀{l:List α},(isort lt l).Pairwise λa b=>lt b a=false
 |[]=>.nil
 |x::r=>zLg hO (zKc hO)
theorem zTB{α:Type}{lt:α->α->Bool}(hO:SWO lt){l m:List α}(c:m.Perm l)(g:m.Pairwise λa b=>lt b a=false)(e:∀a∈l,∀b∈l,lt a b=false->lt b a=false->a=b):m=isort lt l:=
 (c.trans zAs.symm).eq_of_pairwise (λx y i f d h=>e x (c.mem_iff.1 i) y (zAs.mem_iff.1 f) h d) g (zKc hO)
theorem zVa{f f1:Nat}{gc gt:JE->JF}{g:JV->JV->Int}(hG:GPP G)(aq:zCd P G f1 gc)(bp:∀args w,(callFunc f1 args).run P w=.ok (.enter f1 args) w)(bf:Enters P f)
  (hO:SWO λs t=>decide (g s t<0)) (hT:∀s t,decide (g s t<0)=false->decide (g t s<0)=false->s=t)
  (ao:∀a b s t,gt [a]=some (.str s)->gt [b]=some (.str t)->gc [a,b]=some (.int .i64 (g s t)))
  (ab:∀(p:Option Addr)(cap:Nat)(fv:Value)(w:World),Calls P f #[.slice p 0 cap,fv] w λe w'=>e=.returned (.tuple #[])/\w'=w)
  (ad:∀(α:Type)[Inhabited α](enc:α->Value),OneCell enc->∀(cf:α->α->Int),SWO (ltOf cf)->∀(J cap:Nat)(d:Array α)(w:World),CmpLays1 P f1 #[] enc cf J 0 d.size w->Holds enc w J 0 d->J<w.heap.size->d.size<4611686018427387904 →
   Calls P f #[.slice (some ⟨J,0,none⟩) d.size cap,.func (.func f1) #[] #[]] w λe w'=>e=.returned (.tuple #[])/\∃o n os,PermIn 0 d.size d o/\SortedIn (ltOf cf) 0 d.size o/\w'=sortWorld enc w J 0 n o os) {ds:List D}:
  FOK P G ⟨f,[(0,0)],zNS f1 (λs t=>decide (g s t<0)) gt,ds⟩:=by
 refine⟨HOK.u5 rfl bf λargs H V v H2 V2 bk hv=>?_,λargs H V v H2 V2 hc hw hk hv=>?_⟩
 rotate_left
 .obtain⟨es,rfl,rfl,rfl,rfl,rfl,rfl,aw,ak⟩:=zMd hv;intro j vi F;obtain⟨rfl,rfl⟩:=Vecs.qK F;have be:∀e∈es,PP e:=(hw.V 0 (.vec 1 es) rfl).2;exact⟨Nat.zero_lt_one,λe q=>be e (zAs.mem_iff.1 q)⟩
 obtain⟨es,rfl,rfl,rfl,rfl,rfl,rfl,aw,ak⟩:=zMd hv;obtain⟨S,a1⟩:=zR1 aw;have aj:(zHe (λs t=>decide (g s t<0)) gt es).length=es.length:=zAs.length_eq
 refine⟨⟨.inl<|.inl (.qg _ λe q=>(by cases q)),rfl,QA _,λp hp=>(by cases hp),λj vi F=>?_⟩,rfl,rfl,.qg _ λe q=>(by cases q),λj vi F=>?_,λE w β ae s T bl=>?_⟩
 .obtain⟨rfl,rfl⟩:=Vecs.qK F;rfl
 .obtain⟨rfl,rfl⟩:=Vecs.qK F;exact⟨1,_,_,rfl,rfl,aj⟩
 obtain⟨l⟩:=ae;obtain⟨bg,T⟩:=T
 match l,bg with
 |[c0,c1],_=>
 have h0:VR E w (.sym 0) c0:=T 0 _ _ rfl rfl;have h1:VR E w (.func (.func f1) [] []) c1:=T 1 _ _ rfl rfl;have bb:c0=E.σ 0:=by cases h0;assumption
 have bj:c1=.func (.func f1) #[] #[]:=by
  cases h1 with
  |func _ _ _ vf vc q1 q2=>
   have e1:vf=#[]:=Array.eq_empty_of_size_eq_zero q1.symm;have e2:vc=#[]:=Array.eq_empty_of_size_eq_zero q2.symm;rw[e1,e2]
 subst bb;subst bj;have au:∀w',VR E w' (.qg []) (.tuple #[]):=λw'=>.qg _ _ rfl λi x v Q=>(by simp at Q)
 have K:es=[]->∀(p:Option Addr)(cap:Nat),E.σ 0=.slice p 0 cap->Calls P f #[E.σ 0,.func (.func f1) #[] #[]] w λe w'=>∃cv E',e=.returned cv/\VR E' w' (.qg []) cv/\E'.σ=E.σ/\SR G 0 E' w' { tmps:=#[],defers:=[] } β ⟨[],[],[(0,.vec 1 (zHe (λs t=>decide (g s t<0)) gt es))],0,1⟩/\Kp E.Z (BS E β [] [(0,.vec 1 es)]) w E'.Z (BS E' β [] [(0,.vec 1 (zHe (λs t=>decide (g s t<0)) gt es))]) w':=by
  intro q p cap hσ;subst q;rw[hσ];refine(ab p cap _ w).mono λe w' hh=>?_
  obtain⟨rfl,rfl⟩:=hh;exact⟨_,E,rfl,au _,rfl,s,Kp.refl⟩
 rcases rowB hG s (λe q=>(S e q).1)with⟨q,p,cap,hσ⟩|⟨b,cap,d,R⟩
 .exact K q p cap hσ
 have C:d.length=es.length:=by rw[←R.hd,QP]
 by_cases ah:d=[]
 .subst ah;have q:es=[]:=by have:=R.hd;exact this.symm
  exact K q (some ⟨b,0,none⟩) cap (by have:=R.hσ;rw[q]at this;exact this)
 have af:∀x∈d,x.1∈es:=λx Q=>by rw[←R.hd];exact QL.2 ⟨x,Q,rfl⟩
 obtain⟨x0,a6⟩:∃x0,x0∈d:=List.exists_mem_of_ne_nil d ah
 let α:={ x:PV // x∈d }
 letI:Inhabited α:=⟨⟨x0,a6⟩⟩
 let enc:α->Value:=λx=>PV.v x.1
 let kk:α->JV:=λx=>zEU gt x.1.1
 let cf:α->α->Int:=λx y=>g (kk x) (kk y)
 let O:Array α:=d.attach.toArray
 have X:O.size=d.length:=by show d.attach.toArray.size=_;rw[List.size_toArray,List.length_attach]
 have bh:∀j,(F:j<d.length)->O[j]!.1=d[j]:=λj F=>by
  rw[getElem!_pos O j (by omega)]
  show(d.attach.toArray[j]'_).1=_
  rw[List.getElem_toArray,List.getElem_attach]
 have bi:SWO (ltOf cf):=⟨λx=>hO.irrefl _,λx y z h=>hO.trans _ _ _ h,λx y z h=>hO.ntrans _ _ _ h⟩
 have hH:Holds enc w b 0 O:=λj F=>by
  have ag:j<d.length:=by omega
  have:=R.holds j (by simpa using ag)
  have e1:d.toArray[j]! = d[j]:=by rw[getElem!_pos d.toArray j (by simpa using ag)];simp
  rw[e1]at this;refine⟨?_,this.2⟩
  rw[this.1];show some (PV.v d[j])=some (PV.v O[j]!.1)
  rw[bh j ag]
 have ew:∀(m:Nat)(U:Array α)(os:Array Obj),sortWorld enc w b 0 m U os=sortWorld PV.v w b 0 m (U.map λz=>z.1) os:=by
  intro m U os;unfold sortWorld putRow;congr 2
  funext c
  unfold putCells;apply Array.ext
  .simp
  .intro i bo bm;simp only[Array.getElem_mapIdx,Array.size_map];split
   .rename_i hc;have al:i-0<U.size:=by omega
    rw[getElem!_pos U (i-0) al,getElem!_pos (U.map λz=>z.1) (i-0) (by simpa using al)]
    simp[enc]
   .rfl
 have ax:CmpLays1 P f1 #[] enc cf b 0 O.size w:=by
  intro m os U bn x y;have ar:∀z∈[x.1,y.1],zGh E w z:=λz hz=>by
   simp only[QG,List.not_mem_nil,or_false]at hz;rcases hz with rfl|rfl
   .exact R.uk _ x.2
   .exact R.uk _ y.2
  rw[ew m U os];have hc:=zRo hG aq R s [x.1,y.1] ar (ao x.1.1 y.1.1 _ _ (S _ (af _ x.2)).2 (S _ (af _ y.2)).2) m os (U.map λz=>z.1)
  refine hc.mono λe w' hh=>?_
  obtain⟨cv,E',rfl,a8,q',ay,A⟩:=hh;refine⟨?_,q',ay,A⟩
  cases a8;rfl
 have hz:O.size<4611686018427387904:=by rw[X,C];exact ak
 have I:=ad α enc (λx=>x.1.2.2) cf bi b cap O w ax hH R.hblk hz
 rw[X,C,←R.hσ]at I;refine I.mono λee w' hh=>?_
 obtain⟨rfl,o,n,os,⟨bc,_,ai⟩,L,A⟩:=hh;rw[ew]at A;have aa:o.size=d.length:=bc.trans X;have ac:o.toList.Perm d.attach:=by
  have h1:o.extract 0 es.length=o:=by rw[←C,←aa];exact Array.extract_size
  have h2:O.extract 0 es.length=O:=by rw[←C,←X];exact Array.extract_size
  rw[h1,h2]at ai;exact ai
 have k:(o.toList.map λz=>z.1).Perm d:=by
  have:=ac.map λz=>z.1
  rwa [List.attach_map_subtype_val]at this
 have ba:(o.map λz=>z.1)=(o.toList.map λz=>z.1).toArray:=by
  apply Array.ext';simp
 rw[ba]at A;generalize hD:(o.toList.map λz=>z.1)=D2 at k A
 have Y:∀x∈D2,x∈d:=λx Q=>k.mem_iff.1 Q
 have az:D2.length=es.length:=by rw[k.length_eq,C]
 obtain⟨p1,p2⟩:=R.post D2 es.length n os w' az (by omega) (λx Q=>R.uk x (Y x Q)) (λx Q=>(S _ (af x (Y x (QM Q)))).1) A E R.hσ rfl rfl
 have et:(D2.map Prod.fst).take es.length=zHe (λs t=>decide (g s t<0)) gt es:=by
  rw[List.take_of_length_le (by rw[QP];omega)]
  refine zTB (lt:=λa b=>decide (g (zEU gt a) (zEU gt b)<0)) ⟨λx=>hO.irrefl _,λx y z h=>hO.trans _ _ _ h,λx y z h=>hO.ntrans _ _ _ h⟩ ?_ ?_ λa ha b hb h1 h2=>a1 a ha b hb (hT _ _ h1 h2)
  .have:=k.map Prod.fst
   rwa [R.hd]at this
  .rw[←hD,List.map_map,List.pairwise_map,List.pairwise_iff_getElem];intro i j hi F a7;have h1:=L i j (QV _) a7 (by rw[←C,←aa];simpa using F)
   rw[getElem!_pos o i (by simpa using hi),getElem!_pos o j (by simpa using F)]at h1
   have h2:decide (g (zEU gt o[j].1.1) (zEU gt o[i].1.1)<0)=false:=h1
   simpa using h2
 rw[et]at p1 p2;exact⟨_,E,rfl,au _,rfl,p1,p2⟩
end
end Go.Sy
