/- A LIBRARY: WHAT A FUNCTION'S CODE RECKONS, AS A LEAN FUNCTION, AND THAT ITS WORD IS THE MODEL'S: part 3 of 6. No condition. -/
import Derived.Test.YtjfcepbllmdfcaaGreatDoorFxB
import Derived.Below
import Derived.Lib.LaidTab
import Derived.Lib.LaidU8
import Derived.Lib.Join
import Derived.Stop.LaidErr
set_option linter.unusedVariables false
set_option linter.unusedSimpArgs false
namespace Go.Sy
open Go.RowKit
section
variable{P:Program}{G:Cx}{E:Env}{w w':World}{H:Heap}
theorem zIn(d:HR E H w)(hb:Below w.heap.size w w')(a:Nat):HR E H w'/\Tr E H w E H w' a a/\∀{v cv},VR E w v cv->VR E w' v cv:=by
 have l:zAw w w':=λb c e f h=>⟨c,f,(hb.block b (Array.getElem?_eq_some_iff.1 h).1).trans h,rfl⟩
 have i:∀{v cv},VR E w v cv->VR E w' v cv:=λq=>VR.mono (E:=E) (E':=E) (λ_ h=>⟨h,rfl⟩) (λb h=>⟨h,hb.block b (d.wi b h)⟩) l q
 exact⟨⟨d.nodup,d.qy,d.inj,λp g=>(d.obj p g).mono (hb.block _ (d.lt g)) i,d.nz,λb h=>QW (d.wi b h) hb.size⟩,
  ⟨QB _,λ_ _=>rfl,λh=>⟨.inl,λh=>h.elim id λ⟨x,y⟩=>by omega⟩,λ_ h=>h,λ_ h=>.inl h,λp g=>.inl ⟨p,g,rfl⟩,hb.tape,hb.os,hb.output,hb.size,λx o _=>hb.block x o,l,rfl⟩,i⟩
theorem zTJ{n:String}{g:Nat}{cs:JB}(d:P.globalNamed n=some g)(h:w.var? P n=some cs):∃t f,w.heap[g]?=some (.cells cs t f):=by
 unfold World.var? at h;rw[d]at h;simp only[Option.bind_some]at h;split at h
 .rename_i c t f hc;cases h;exact⟨t,f,hc⟩
 .cases h
def zWE(k:IntKind)(z:Int):Bool:=decide (k.min<=z)&&decide (z<=k.max)
theorem zRh{l:List (String×DataW Unit)}{W:World}{σ:Nat->Value}(I:laidMet P l W){n:String}{h:List Int}{k:IntKind}(hm:(n,Lib.tabData k h)∈l){g:Nat}(B:P.globalNamed n=some g)
  {t e:TypeId} {len:Nat} (s:(P.globals[g]?).map (·.type)=some t) (F:P.underlying t=some (.array len e)) (N:P.underlying e=some (.int k)) (y:P.cellsOf e=1) (u:P.cellsOf t=len)
  (L:h.all (zWE k)=true):VR (Env.still W σ) W (.qc (.agg (h.map λz=>.int k z)) 0) (.pointer (some ⟨g,0,none⟩))/\zET W g (.qc (.agg (h.map λz=>.int k z)) 0):=by
 obtain⟨R,O,cs,D,p,h1,h2,h3,h4⟩:=Lib.laidMet.reads I hm;rw[B]at h1;cases h1;rw[s]at h2;cases h2;obtain⟨ty,f,d⟩:=zTJ B h3;have hc:=Lib.cells_of_tab F N y u h4;have r:g<W.heap.size:=(Array.getElem?_eq_some_iff.1 d).1;have:=VR.qc (E:=Env.still W σ) (w:=W) (.agg (h.map λz=>.int k z)) 0 g 0 (.agg cs) rfl r ?_ λj c M=>?_
 .exact⟨by simpa using this,λJ n e=>⟨cs,ty,f,d,by cases e;rw[←Array.length_toList,hc];simp⟩⟩
 .refine VR.qP ?_ λv o=>?_
  .rw[hc];refine⟨by simp,λi x v q o=>?_⟩
   rw[Qb]at q o;cases hz:h[i]? with
   |none=>rw[hz]at q;cases q
   |some z=>
    rw[hz]at q o;cases q;cases o;have C:=QH.1 L z (QF hz);simp only[zWE,QA,decide_eq_true_eq]at C;exact .int k z C
  .rw[hc]at o;obtain⟨z,_,rfl⟩:=QR.1 o;rfl
 .have A:cs[j]?=some c:=M;simp only[World.cell?,d,Qa]
  simpa using A
end
noncomputable section
variable{P:Program}{G:Cx}{E:Env}{w w':World}{H:Heap}
def zgu:JE->Heap->JF
 |[.str s],_=>match Nat.ble s.length 281474976710656 with
  |true=>some (.str s)
  |false=>none
 |_,_=>none
def zAx(sep:JV):List JV->JV
 |[]=>[]
 |x::r=>x++(r.map (sep++·)).flatten
theorem zav(xs:List (List UInt8))(sep:List UInt8):(Lib.join xs sep).map UInt8.toNat=zAx (sep.map UInt8.toNat) (xs.map (·.map UInt8.toNat)):=by
 cases xs with
 |nil=>rfl
 |cons x r=>
  rw[Lib.join_cons];simp[zAx,Lib.joinTail,List.map_flatten,Function.comp_def]
def strs:JE->Option (List JV)
 |[]=>some []
 |.str s::r=>match strs r with
  |some x=>some (s::x)
  |none=>none
 |_::_=>none
theorem zSj:∀{f:JE}{vs:JC}{d:List JV},VRs E w f vs->strs f=some d->∃xs:List ByteArray,vs=xs.map .string/\d=xs.map (λx=>x.data.toList.map UInt8.toNat)
 |[],vs,d,e,h=>by cases h;rw[e.of_nil];exact⟨[],rfl,rfl⟩
 |y::r,vs,d,e,h=>by
  obtain⟨c,q,rfl,hc,i⟩:=e.of_cons;unfold strs at h;split at h
  .rename_i heq;cases heq
  .rename_i s p heq;cases heq;split at h
   .rename_i x o;cases h;obtain⟨xs,rfl,rfl⟩:=zSj i o;cases hc with
    |str l g h t=>exact⟨g::xs,rfl,by simp[h]⟩
   .cases h
  .cases h
def zVU:AV->Bool
 |.qa=>true
 |.qf _ _=>true
 |.row ..=>true
 |_=>false
def zNw:JE->Heap->JF
 |[y,.str sep],H=>match zVU y with
  |false=>none
  |true=>match content H 1 y with
   |none=>none
   |some (n,cs)=>match strs cs with
    |none=>none
    |some c=>match Nat.ble n 140737488355328&&Nat.ble (zAx sep c).length 140737488355328 with
     |true=>some (.str (zAx sep c))
     |false=>none
 |_,_=>none
theorem VR.ua{y:AV}{a:Option Addr}{n c:Nat}(e:zVU y=true)(h:VR E w y (.slice a n c)):n<=c/\∀d,a=some d->n≠0->d.spot=none:=by
 cases h<;>first|(simp[zVU]at e;done)|simp_all
theorem zXz{f:FuncId}(h0:∀(a:Option Addr)(c:Nat)(sep:ByteArray)(w:World),Calls P f #[.slice a 0 c,.string sep] w λe w'=>e=.returned (.string ⟨#[]⟩)/\w'=w)
  (h1:∀(z o c:Nat)(xs:List ByteArray)(sep:ByteArray)(w:World),(∀(j:Nat) x,xs[j]?=some x->w.cell? ⟨z,o+j,none⟩=some (.string x))->z<w.heap.size->xs.length<=140737488355328->xs.length<=c →
   (Lib.join (xs.map (·.data.toList)) sep.data.toList).length<=140737488355328 →
   Calls P f #[.slice (some ⟨z,o,none⟩) xs.length c,.string sep] w λe w'=>e=.returned (.string ⟨(Lib.join (xs.map (·.data.toList)) sep.data.toList).toArray⟩)/\Below w.heap.size w w'):
  ∀args H v,zNw args H=some v->∀(E:Env)(w:World)(cargs:JB),HR E H w->VRs E w args cargs.toList->Calls P f cargs w λe w'=>∃cv,e=.returned cv/\Below w.heap.size w w'/\VR E w v cv:=by
 intro args H v h E w cargs hr hv;unfold zNw at h;split at h
 .rename_i y sep H';split at h
  .cases h
  .rename_i F;split at h
   .cases h
   .rename_i n cs A;split at h
    .cases h
    .rename_i ls W;split at h
     .rename_i u;cases h;obtain⟨cy,cr,hc,T,q⟩:=hv.of_cons;obtain⟨cp,aa,S,hp,i⟩:=q.of_cons;have Y:=i.of_nil;subst Y;subst S;have L:cargs=#[cy,cp]:=by apply Array.toList_inj.1;simpa using hc
      subst L;rw[QA]at u;have l1:=QM u.1;have U:=QM u.2;obtain⟨vs,k1,k2,k3,k4,k5,k6,R⟩:=zDx (P:=P) hr T A;obtain⟨xs,rfl,rfl⟩:=zSj k1 W;cases hp with
      |str l B h hl=>
       subst h;have N:zAx (B.data.toList.map UInt8.toNat) (xs.map λx=>x.data.toList.map UInt8.toNat)=(Lib.join (xs.map (·.data.toList)) B.data.toList).map UInt8.toNat:=by
        rw[zav,List.map_map];rfl
       rw[N]at U;rw[QG]at U;have g:xs.length=n:=by simpa using k3
       have I:VR E w (.str (zAx (B.data.toList.map UInt8.toNat) (xs.map λx=>x.data.toList.map UInt8.toNat))) (.string ⟨(Lib.join (xs.map (·.data.toList)) B.data.toList).toArray⟩):=
        .str _ _ (by rw[N]) (by rw[N,QG];unfold zh;omega)
       rcases R with⟨a,c,rfl,R⟩|⟨s,rfl,_⟩
       .obtain⟨C,p⟩:=VR.ua F T;by_cases J:n=0
        .subst J;have O:xs=[]:=List.eq_nil_of_length_eq_zero g;subst O;refine(h0 a c B w).mono λe w' ⟨M,V⟩=>⟨_,M,V▸Below.refl _ _,I⟩
        .obtain⟨ad,rfl,t⟩:=R (by omega)
         have hs:=p ad rfl J;obtain⟨z,o,ab⟩:=ad;simp only at hs;subst hs;have d:∀(j:Nat) x,xs[j]?=some x->w.cell? ⟨z,o+j,none⟩=some (.string x):=λj x hx=>by
          have:=t j (.string x) (by rw[Qb,hx];rfl)
          by_cases D:j=0
          .subst D;simpa[Addr.add]using this
          .simpa[Addr.add,D]using this
         have X:z<w.heap.size:=by
          cases xs with
          |nil=>simp at g;omega
          |cons x r=>
           have vM:=d 0 x rfl;unfold World.cell? at vM;split at vM
           .rename_i hh;exact(Array.getElem?_eq_some_iff.1 hh).1
           .cases vM
         subst g;exact(h1 z o c xs B w d X l1 C U).mono λe w' ⟨M,V⟩=>⟨_,M,V,I⟩
       .cases T<;>simp[zVU]at F
     .cases h
 .cases h
end
section
variable{P:Program}
theorem zYW{l:List (String×DataW Unit)}{W:World}(q:laidMet P l W){n nm:String}{text:List UInt8}{g:Nat}{ti d z ts:TypeId}{ms:Array (String×TypeId)}{f:Field}(hm:(n,(.iface nm (.ptr (.agg [.lit (.string text)])):DataW Unit))∈l)
  (C:P.globalNamed n=some g) (F:(P.globals[g]?).map (·.type)=some ti) (hi:P.underlying ti=some (.interface ms)) (i:∀u,P.typeName? 3 u=some nm->u=d)
  (t:P.underlying d=some (.pointer z)) (L:P.underlying z=some (.struct #[f])) (B:f.type=ts) (p:f.offset=0) (I:P.underlying ts=some .string) (hc:P.cellsOf z=1) (A:P.cellsOf ts=1):
  ∃(a:Addr) (s:ByteArray),W.var? P n=some #[.iface d (.pointer (some a))]/\a.spot=none/\W.cell? a=some (.string s)/\s.data.toList=text/\s.size<=maxLen:=by
 induction l with
 |nil=>cases hm
 |cons x r J=>
  rcases QJ.1 hm with e|e
  .subst e;obtain⟨a,s,h1,h2,h3,h4⟩:=laid_sentinel q C F hi i t L B p I hc A;refine⟨a,s,h1,?_,h2,h3,h4⟩
   obtain⟨N,⟨g0,t0,v,f0,p0,q0,h,M,y,uD,_,D⟩,_,c⟩:=q;obtain rfl:=Qt (C.symm.trans h);subst D;have o:v=#[.iface d (.pointer (some a))]:=Qt (y.symm.trans h1);subst o;have ok:=(c g 0 (by simp[MemPlace.row])).2 d (.pointer (some a)) (by simpa using World.var?_cell h h1 0)
   unfold Value.okWide at ok;simp only[t]at ok;unfold Cell.okWide at ok;simp only[Cell.ok,t]at ok;exact ok.2.1
  .exact J q.tail e
theorem zTK{l:List (String×DataW Unit)}{W:World}{σ:Nat->Value}(F:laidMet P l W){n nm:String}{text:List UInt8}{g:Nat}{ti h x ts:TypeId}{ms:Array (String×TypeId)}{f:Field}(hm:(n,(.iface nm (.ptr (.agg [.lit (.string text)])):DataW Unit))∈l)
  (A:P.globalNamed n=some g) (C:(P.globals[g]?).map (·.type)=some ti) (hi:P.underlying ti=some (.interface ms)) (q:∀u,P.typeName? 3 u=some nm->u=h)
  (I:P.underlying h=some (.pointer x)) (N:P.underlying x=some (.struct #[f])) (z:f.type=ts) (t:f.offset=0) (M:P.underlying ts=some .string) (hc:P.cellsOf x=1) (y:P.cellsOf ts=1):
  VR (Env.still W σ) W (.qc (.agg [.iface h (.qc (.agg [.str (text.map UInt8.toNat)]) 0)]) 0) (.pointer (some ⟨g,0,none⟩))/\zET W g (.qc (.agg [.iface h (.qc (.agg [.str (text.map UInt8.toNat)]) 0)]) 0):=by
 obtain⟨⟨b,o,O⟩,s,h1,h2,h3,h4,B⟩:=zYW F hm A C hi q I N z t M hc y;simp only at h2;subst h2;obtain⟨ty,D,d⟩:=zTJ A h1;have r:g<W.heap.size:=(Array.getElem?_eq_some_iff.1 d).1;have hb:b<W.heap.size:=by
  unfold World.cell? at h3;split at h3
  .rename_i L;exact(Array.getElem?_eq_some_iff.1 L).1
  .cases h3
 have inner:VR (Env.still W σ) W (.qc (.agg [.str (text.map UInt8.toNat)]) 0) (.pointer (some ⟨b,o,none⟩)):=by
  have:=VR.qc (E:=Env.still W σ) (w:=W) (.agg [.str (text.map UInt8.toNat)]) 0 b o (.agg #[.string s]) rfl hb ?_ λj c i=>?_
  .simpa using this
  .refine VR.qP (VRs.cons (.str _ s (by rw[h4]) (by rw[QG,←h4,Array.length_toList];unfold maxLen at B;unfold zh;exact B)) VRs.nil) λv p=>?_
   simp at p;subst p;rfl
  .cases j with
   |zero=>
    have e:c=.string s:=(Qt i).symm;rw[e];exact h3
   |succ j=>simp[Value.cells]at i
 have:=VR.qc (E:=Env.still W σ) (w:=W) (.agg [.iface h (.qc (.agg [.str (text.map UInt8.toNat)]) 0)]) 0 g 0 (.agg #[.iface h (.pointer (some ⟨b,o,none⟩))]) rfl r ?_ λj c i=>?_
 .exact⟨by simpa using this,λJ n e=>⟨_,ty,D,d,by cases e;rfl⟩⟩
 .refine VR.qP (VRs.cons (.iface _ _ _ inner) VRs.nil) λv p=>?_
  simp at p;subst p;rfl
 .cases j with
  |zero=>
   have e:c=.iface h (.pointer (some ⟨b,o,none⟩)):=(Qt i).symm;rw[e];simp[World.cell?,d]
  |succ j=>simp[Value.cells]at i
end
end Go.Sy
namespace Go.Sy
def zAF:Nat->AV->Bool
 |0,_=>false
 |d+1,v=>match v with
  |.bool _|.int _ _|.str _|.qo|.qa|.qn|.ql|.qe|.sym _=>true
  |.qc e _=>zAF d e
  |.qf _ es=>es.all (zAF d)
  |.func _ a b=>a.all (zAF d)&&b.all (zAF d)
  |.iface _ v=>zAF d v
  |.agg cs=>cs.all (zAF d)
  |.qd cs=>cs.all (zAF d)
  |_=>false
section
variable{P:Program}{G:Cx}{E E':Env}{w w':World}{H:Heap}
theorem zKK{p:AV->Bool}{l:JE}(h:l.all p=true){i:Nat}{x:AV}(hx:l[i]?=some x):p x=true:=
 QH.1 h x (QF hx)
theorem VR.vP(J:∀b,E.Z b->E'.Z b)(U:E'.σ=E.σ){v:AV}{cv:Value}(h:VR E w v cv):∀d,zAF d v=true->VR E' w v cv:=by
 induction h with
 |bool b=>intro d _;exact .bool b
 |int k n h=>intro d _;exact .int k n h
 |str l s h A=>intro d _;exact .str l s h A
 |qo=>intro d _;exact .qo
 |ptr h off hd=>intro d g;cases d<;>simp[zAF]at g
 |qc e off b o cv y F _ hc r=>
  intro d g;cases d with
  |zero=>simp[zAF]at g
  |succ d=>exact .qc e off b o cv y (J b F) (r d (by simpa[zAF]using g)) hc
 |qa=>intro d _;exact .qa
 |wj sz a c hc=>intro d _;exact .wj sz a c hc
 |qf es b o cap sz f F u C y _ hc r=>
  intro d g;cases d with
  |zero=>simp[zAF]at g
  |succ d=>
   have p:es.all (zAF d)=true:=g;exact .qf es b o cap sz f (J b F) u C y (λi e B=>r i e B d (zKK p B)) hc
 |row h off len sz cp cap ex hd I u O L S hb=>intro d g;cases d<;>simp[zAF]at g
 |wm h off sz ex a=>intro d g;cases d<;>simp[zAF]at g
 |qn=>intro d _;exact .qn
 |map h hd=>intro d g;cases d<;>simp[zAF]at g
 |ql=>intro d _;exact .ql
 |func fn f c M T R hc _ _ N V=>
  intro d g;cases d with
  |zero=>simp[zAF]at g
  |succ d=>
   have p:(f.all (zAF d)&&c.all (zAF d))=true:=g;rw[QA]at p;exact .func fn f c M T R hc (λi x v q z=>N i x v q z d (zKK p.1 q)) (λi x v q z=>V i x v q z d (zKK p.2 q))
 |qe=>intro d _;exact .qe
 |iface t v cv _ r=>
  intro d g;cases d with
  |zero=>simp[zAF]at g
  |succ d=>exact .iface t v cv (r d (by simpa[zAF]using g))
 |agg cs D A _ h1 r=>
  intro d g;cases d with
  |zero=>simp[zAF]at g
  |succ d=>
   have p:cs.all (zAF d)=true:=g;exact .agg cs D A (λi x v q z=>r i x v q z d (zKK p q)) h1
 |qd cs D A _ r=>
  intro d g;cases d with
  |zero=>simp[zAF]at g
  |succ d=>
   have p:cs.all (zAF d)=true:=g;exact .qd cs D A (λi x v q z=>r i x v q z d (zKK p q))
 |sym i cv B h1=>intro d _;exact .sym i cv (B.trans (congrFun U i).symm) h1
def zSk(G:Cx):Prop:=∀g v,G.wN g=some v->zAF 20 v=true
theorem zWg{f:FuncId}{args:JE}{v:AV}{n:Nat}(M:zSk G)(O:args.all (zAF 40)=true)(R:zAF 40 v=true)(I:FnT P G f args [] 0 v [] n)(H:Heap)(nx:Nat):FnT P G f args H nx v H nx:=by
 intro E w l q s A F;have vq:HR ⟨E.ρ,λ_=>False,E.Z,E.σ⟩ [] w:=⟨.nil,λp c=>by simp at c,λp c=>by simp at c,λp c=>by simp at c,λp c=>by simp at c,q.wi⟩
 have t:VRs ⟨E.ρ,λ_=>False,E.Z,E.σ⟩ w args l.toList:=⟨s.1,λi x u o hu=>VR.vP (E:=E) (E':=⟨E.ρ,λ_=>False,E.Z,E.σ⟩) (λ_ h=>h) rfl (s.2 i x u o hu) 40 (zKK O o)⟩
 have z:GR G ⟨E.ρ,λ_=>False,E.Z,E.σ⟩ w:=λg u h=>⟨VR.vP (E:=E) (E':=⟨E.ρ,λ_=>False,E.Z,E.σ⟩) (λ_ h=>h) rfl (A g u h).1 20 (M g u h),(A g u h).2⟩
 refine(I _ w l vq t z λ_ _ _ h=>h).mono λe w' h=>?_
 obtain⟨J,r,rfl,h1,h2,h3⟩:=h;have d:∀x,x<w.heap.size->w'.heap[x]? = w.heap[x]?:=λx o=>h2.qM x o λp c=>by simp at c
 have C:∀x,r.Z x->E.Z x\/w.heap.size<=x:=λx o=>(h2.qS x o).imp id λh=>h.elim (λ⟨p,c,_⟩=>by simp at c) id
 have N:∀{u B},VR E w u B->VR ⟨E.ρ,E.D,r.Z,E.σ⟩ w' u B:=λhu=>VR.mono (E:=E) (E':=⟨E.ρ,E.D,r.Z,E.σ⟩) (λ_ h=>⟨h,rfl⟩) (λb hb=>⟨h2.qJ b hb,d b (q.wi b hb)⟩) h2.qp hu rfl
 refine⟨J,⟨E.ρ,E.D,r.Z,E.σ⟩,rfl,⟨q.nodup,q.qy,q.inj,λp c=>(q.obj p c).mono (d _ (q.lt c)) N,λp c L=>?_,h1.wi⟩,
  ⟨QB _,λ_ _=>rfl,λh=>⟨.inl,λh=>h.elim id λ⟨x,y⟩=>by omega⟩,h2.qJ,λx o=>(C x o).imp id .inr,λp c=>.inl ⟨p,c,rfl⟩,h2.tape,h2.os,h2.output,h2.size,λx o _=>d x o,h2.qp,rfl⟩,?_⟩
 .rcases C _ L with h|h
  .exact q.nz p c h
  .have h1:=q.lt c;have h2:w.heap.size<=E.ρ p.1:=h;omega
 .exact VR.vP (E:=r) (E':=⟨E.ρ,E.D,r.Z,E.σ⟩) (λ_ h=>h) h2.sig.symm h3 40 R
noncomputable section
end
end
section
variable{G:Cx}{call:Call}
def zgv(o:JF)(A B:Prop):Prop:=match o with
 |some (.bool true)=>A
 |some (.bool false)=>B
 |_=>False
def zUp(o:JF)(d:Bool)(A B:Prop):Prop:=match o with
 |some (.bool c)=>(c=d->A)/\(c=!d->B)
 |some (.qd [])=>B
 |_=>False
variable{Q Q':Ext->Fr->Heap->Nat->Prop}{fr:Fr}{H:Heap}{nx:Nat}
end
section
variable{P:Program}{G:Cx}
structure FnX(P:Program)(f:Nat)(xf:XF):Prop where
 ok:∃fn,P.funcs[f]?=some fn/\compF P fn=some xf/\(fn.name == "runtime.NumGoroutine")=false
def zU0(P:Program)(G:Cx)(f:Nat)(g:JE->JF):Prop:=∀args v,g args=some v->Enters P f/\∀H nx,FnT P G f args H nx v H nx
end
theorem zKW:∀(a b:JV),zi a b=decide (a=b)
 |[],[]=>by simp[zi]
 |[],_::_=>by simp[zi]
 |_::_,[]=>by simp[zi]
 |a::x,b::y=>by
  simp only[zi];by_cases h:a=b
  .subst h;have:Nat.beq a a=true:=Nat.beq_refl a;simp[this,zKW x y]
  .have:Nat.beq a b=false:=by
    cases hb:Nat.beq a b with
    |false=>rfl
    |true=>exact absurd (zb hb) h
   simp[this,h]
section
variable{G:Cx}{call:Call}{Q:Ext->Fr->Heap->Nat->Prop}{K:Fr->Heap->Nat->Prop}{fr:Fr}{H:Heap}{nx:Nat}
theorem zHX{n:Nat}{v:AV}:qv fr (some n) v=fr.put n v:=rfl
end
def zKj:Nat->AV->Bool
 |0,_=>false
 |d+1,v=>match v with
  |.bool _|.int _ _|.str _|.qo|.ptr _ _|.qa|.row _ _ _ _ _ _|.qn|.map _|.ql|.qe|.sym _=>true
  |.qc e _=>zKj d e
  |.qf _ es=>es.all (zKj d)
  |.func (.func _) a b=>a.all (zKj d)&&b.all (zKj d)
  |.iface _ v=>zKj d v
  |.agg cs=>cs.all (zKj d)
  |.qd cs=>cs.all (zKj d)
  |_=>false
theorem zHY(a:JV):zi a a=true:=by rw[zKW];simp
section
variable{G:Cx}{call:Call}{fr:Fr}{H:Heap}{nx:Nat}
theorem zS1{o:XO}(c:z8 o=0):xoS G call fr H nx o=match xoS G zf fr [] nx o with|some (v,_,n)=>some (v,H,n)|none=>none:=by
 cases o<;>first|(simp[z8]at c;done)|(simp only[xoS];repeat' split)<;>first|rfl|simp_all
def Calm(call:Call):Prop:=∀f args H nx v d c,call f args H nx=some (v,d,c)->d=H/\c=nx
theorem zPc:∀{ts:JV}{t:Nat},fr.get t=none->(only ts fr).get t=none
 |[],t,h=>rfl
 |a::ts,t,h=>by
  simp only[only];split
  .rename_i v c;simp only[Fr.get];have:Nat.beq a t=false:=by
    cases hb:Nat.beq a t with
    |false=>rfl
    |true=>rw[zb hb,h]at c;cases c
   rw[this];exact zPc h
  .exact zPc h
theorem zPd:∀{ts:JV}{t:Nat}{v:AV},inN t ts=true->fr.get t=some v->(only ts fr).get t=some v
 |[],t,v,h,_=>by cases h
 |a::ts,t,v,h,c=>by
  simp only[only];by_cases e:t=a
  .subst e;have hb:Nat.beq t t=true:=Nat.beq_refl t;simp only[c,Fr.get,hb]
  .have h1:Nat.beq t a=false:=by
    cases hb:Nat.beq t a with
    |false=>rfl
    |true=>exact absurd (zb hb) e
   have h2:Nat.beq a t=false:=by
    cases hb:Nat.beq a t with
    |false=>rfl
    |true=>exact absurd (zb hb).symm e
   simp only[inN,h1]at h;split
   .simp only[Fr.get,h2];exact zPd h c
   .exact zPd h c
theorem zWF{ts:JV}{t:Nat}(h:inN t ts=true):(only ts fr).get t=fr.get t:=by
 cases hv:fr.get t with
 |none=>exact zPc hv
 |some v=>exact zPd h hv
theorem zci{o:XO}{ts:JV}(h:(zKi o.qb).all (λt=>inN t ts)=true)(call:Call)(H:Heap)(nx:Nat):xo G call (only ts fr) H nx o=xoS G call fr H nx o:=by
 rw[←zIj];refine zUZ λx c=>?_
 cases x with
 |t n=>exact zWF (QH.1 h n (zEt c))
 |_=>rfl
end
section
variable{G:Cx}{call:Call}{fr:Fr}{H:Heap}{nx:Nat}
def WM(G:Cx)(call:Call):List XOper->(Fr->Heap->Nat->Prop)->Fr->Heap->Nat->Prop
 |[],K,fr,H,nx=>K fr H nx
 |o::r,K,fr,H,nx=>match o.guard with
  |none=>∃v d c,xoS G call fr H nx o.op=some (v,d,c)/\zKj 40 v=true/\WM G call r K (qv fr o.dst v) d c
  |some (t,b)=>zUp (fr.get t) b (∃v d c,xoS G call fr H nx o.op=some (v,d,c)/\zKj 40 v=true/\WM G call r K (qv fr o.dst v) d c) (WM G call r K (qv fr o.dst (.qd [])) H nx)
def zeZ(g:Option (Nat×Bool))(l:JV):Bool:=match g with
 |none=>true
 |some (t,_)=>inN t l
theorem zXA{o:XO}(c:z8 o=1){v:AV}{H':Heap}{n:Nat}(h:xoS G call fr H nx o=some (v,H',n))(m:Nat):xoS G zf fr H m o=some (v,H,m)/\H'=H/\n=nx:=by
 cases o<;>first|(simp[z8]at c;done)|(simp only[xoS]at h⊢;repeat' split at h)<;>first|(cases h;done)|(cases h;simp_all)
theorem zIo{fr:Fr}{t:Nat}{b c:Bool}(h:fr.get t=some (.bool c)):zB7 fr (some (t,b))=some (c==b):=by
 simp only[zB7,h];cases c<;>cases b<;>rfl
variable{K:Fr->Heap->Nat->Prop}
end
section
variable{G:Cx}{call:Call}{fr:Fr}{H:Heap}{nx:Nat}
def zWG:XO->Bool
 |.call _ _|.qO _ _=>true
 |_=>false
def WN(G:Cx)(call:Call):List XOper->(Fr->Heap->Nat->Prop)->Fr->Heap->Nat->Prop
 |[],K,fr,H,nx=>K fr H nx
 |o::r,K,fr,H,nx=>match o.guard with
  |none=>∃v d c,xoS G call fr H nx o.op=some (v,d,c)/\WN G call r K (qv fr o.dst v) d c
  |some (t,b)=>zUp (fr.get t) b (∃v d c,xoS G call fr H nx o.op=some (v,d,c)/\WN G call r K (qv fr o.dst v) d c) (WN G call r K (qv fr o.dst (.qd [])) H nx)
def zPe:List XOper->List XD->Bool
 |[],_=>true
 |o::r,d::ds=>(zKi o.op.qb).all (λt=>inN t d.looks)&&zeZ o.guard d.looks&&zPe r ds
 |_::_,[]=>false
def zQg(c:JV):XO->Bool
 |.wM (.t b)|.qD (.t b) _=>!zDs b c
 |_=>false
def zXB(c:JV):XO->Bool
 |.load (.t b) _ _=>!zDs b c
 |_=>false
def zD0(c:JV)(o:XOper):JV:=match o.dst with
 |none=>c
 |some d=>match zQg c o.op with
  |true=>c
  |false=>d::c
def zJk:Nat->JV->JV->JV->JV->JV->JV->List XOper->List XD->Bool
 |_,_,_,_,_,_,_,[],_=>true
 |i,f,g,cs,cur,qM,e,o::r,d::ds=>match zWG o.op with
  |true=>(g++cs).all (λc=>d.qg.testBit c)&&f.all (λc=>d.qg.testBit c)&&qM.all (λc=>d.qg.testBit c)&&Nat.blt d.qg (2 ^ i)&&zJk (i+1) f g (i::cs) cur qM (zD0 e o) r ds
  |false=>match z8 o.op with
   |0=>zJk (i+1) f g cs cur qM (zD0 e o) r ds
   |1=>match f.all (λc=>d.qg.testBit c)with
    |true=>g.all (λc=>d.qg.testBit c)&&Nat.blt d.qg (2 ^ i)&&zJk (i+1) f g cs (i::cur) qM (zD0 e o) r ds
    |false=>zXB e o.op&&(g.all (λc=>d.qg.testBit c)&&Nat.blt d.qg (2 ^ i)&&zJk (i+1) f g cs cur (i::qM) (zD0 e o) r ds)
   |2=>zJk (i+1) (i::f) g cs [] (cur++qM) (zD0 e o) r ds
   |_=>(g++cs).all (λc=>d.qg.testBit c)&&f.all (λc=>d.qg.testBit c)&&(cur++qM).all (λc=>d.qg.testBit c)&&Nat.blt d.qg (2 ^ i)&&zJk (i+1) f (i::g) cs [] (cur++qM) (zD0 e o) r ds
 |_,_,_,_,_,_,_,_::_,[]=>false
theorem zU1{o:XO}(d:z8 o=2){v:AV}{H':Heap}{n:Nat}(h:xoS G call fr H nx o=some (v,H',n)):∃c,xoS G zf fr [] nx o=some (v,[(nx,c)],nx+1)/\H'=(nx,c)::H/\n=nx+1:=by
 cases o<;>first|(simp[z8]at d;done)|(simp only[xoS]at h⊢;repeat' split at h)<;>first|(cases h;done)|(cases h;simp_all)
abbrev DAl:=List (Nat×Nat×HO)
def Fut(n0 i:Nat)(al c:DAl):Prop:=∃new,c=new++al/\∀x∈new,i<=x.1/\n0<=x.2.1
noncomputable def rdH(G:Cx)(r:DRead)(H:Heap)(nx:Nat):Bool:=match xo G zf r.fr H nx r.op with
 |some (v,_,_)=>eqC v r.v
 |none=>false
def zGf(H:Heap)(al:DAl)(d:JV):JN->List (Heap×Nat)->Prop
 |[],(m,inc)::_=>within (λj=>!inc.testBit j) al++m=H
 |(c,_)::ch,(m,inc)::ms=>within (λj=>!inc.testBit j) al++m=H/\(c∈d\/zGf H al d ch ms)
 |_,[]=>False
theorem zMV{p i j:Nat}(h:p<2 ^ i)(c:i<=j):p.testBit j=false:=Nat.testBit_lt_two_pow (QW h (Nat.pow_le_pow_right (by omega) c))
theorem zNx{n0 i inc p:Nat}{al c:DAl}(e:Fut n0 i al c)(d:p<2 ^ i):within (but p inc) c=within (but p inc) al:=by
 obtain⟨new,rfl,g⟩:=e;rw[zEW,zDU (al:=new),List.nil_append];intro x f;simp[but,zMV d (g x f).1]
theorem zNy{inc p:Nat}{al:DAl}(h:∀x∈al,p.testBit x.1=true):within (but p inc) al=within (λj=>!inc.testBit j) al:=
 zC5 λx c=>by simp[but,h x c]
theorem zEy{n0 h:Nat}{f:Nat->Bool}{m:Heap}(g:h<n0):∀{al:DAl},(∀x∈al,n0<=x.2.1)->Heap.get (within f al++m) h=m.get h
 |[],_=>rfl
 |(i,k,o)::r,d=>by
  have h1:n0<=k:=d _ (.head _);have c:=zEy (f:=f) (m:=m) g (al:=r) λx l=>d x (.tail _ l)
  simp only[within];split
  .have:Nat.beq k h=false:=by
    cases e:Nat.beq k h with
    |false=>rfl
    |true=>have:=zb e;omega
   simp only[List.cons_append,Heap.get,this];exact c
  .exact c
theorem zTL{n0:Nat}{al d:DAl}{s:JV}{r:DRead}(q:∀x∈al,n0<=x.2.1)(e:∀x∈d,n0<=x.2.1){H:Heap}(o:∀H2 nx,(∀h,h<n0->H2.get h=H.get h)->rdH G r H2 nx=true){nx:Nat}:∀{ch:JN}{ms:List (Heap×Nat)},zGf H al s ch ms →
  (∀c∈s,r.qg.testBit c=true)->(∀c∈ch,c.2.testBit r.i=false)->zCs G d nx r ch ms=true
 |[],[],h,_,_=>h.elim
 |[],(m,inc)::ms,h,_,_=>by
  have h:within (λj=>!inc.testBit j) al++m=H:=h
  have:=o (within (but r.qg inc) d++m) nx λk g=>by rw[zEy g e,←h,zEy g q]
  simp only[zCs,zD9];exact this
 |(c,p)::ch,[],h,_,_=>h.elim
 |(c,p)::ch,(m,inc)::ms,h,t,hc=>by
  obtain⟨h1,h2⟩:=h;have f:zD9 G d nx r m inc=true:=by
   have:=o (within (but r.qg inc) d++m) nx λk g=>by rw[zEy g e,←h1,zEy g q]
   simp only[zD9];exact this
  simp only[zCs];split
  .exact f
  .rename_i hb;rcases h2 with h2|h2
   .rw[t c h2]at hb;cases hb
   .simp only[hc _ (.head _),f];exact zTL q e o h2 t λu l=>hc u (.tail _ l)
theorem zSl{n0:Nat}{al d:DAl}{s:JV}{r:DRead}{i:Nat}(o:Fut n0 i al d)(l:r.qg<2 ^ i)(e:∀x∈al,r.qg.testBit x.1=true)(q:∀nx,rdH G r H nx=true):∀{ch:JN}{ms:List (Heap×Nat)},zGf H al s ch ms →
  (∀c∈s,r.qg.testBit c=true)->(∀c∈ch,c.2.testBit r.i=false)->zCs G d nx r ch ms=true
 |[],[],h,_,_=>h.elim
 |[],(m,inc)::ms,h,_,_=>by
  have h:within (λj=>!inc.testBit j) al++m=H:=h
  have:=q nx;simp only[zCs,zD9,zNx o l,zNy e,h];exact this
 |(c,p)::ch,[],h,_,_=>h.elim
 |(c,p)::ch,(m,inc)::ms,h,t,hc=>by
  obtain⟨h1,h2⟩:=h;have f:zD9 G d nx r m inc=true:=by
   have:=q nx;simp only[zD9,zNx o l,zNy e,h1];exact this
  simp only[zCs];split
  .exact f
  .rename_i hb;rcases h2 with h2|h2
   .rw[t c h2]at hb;cases hb
   .simp only[hc _ (.head _),f];exact zSl o l e q h2 t λu g=>hc u (.tail _ g)
structure SN(n0:Nat)(G:Cx)(H:Heap)(nx:Nat)(fr:Fr)(s:DS)(i:Nat)(als ws cs cur qM news:JV):Prop where
 u7:∀t h o,zDs t news=false->fr.get t=some (.ptr h o)->h<n0
 uz:∀x∈s.al,n0<=x.2.1
 nn:n0<=nx
 uG:s.fr=fr
 uE:s.nx=nx
 ji:∀x∈s.al,x.1∈als/\x.1<i
 ja:∀c∈s.ch,(c.1∈ws\/c.1∈cs)/\c.1<i/\c.2<2 ^ c.1
 uR:∃m inc rest,s.ms=(m,inc)::rest
 uX:∀x∈s.ms,x.2<2 ^ i
 chain:zGf H s.al ws s.ch s.ms
 rd:∀r∈s.rd,r.i<i/\r.qg<2 ^ r.i/\((r.i∈cur/\(∀x∈s.al,r.qg.testBit x.1=true)/\∀nx,rdH G r H nx=true)\/r.i∈qM)/\∀nx al',Fut n0 i s.al al'->zCs G al' nx r s.ch s.ms=true
theorem zSm{al:DAl}{e:JV}{ch:JN}{m:Heap}{inc:Nat}{d:List (Heap×Nat)}(h:zGf H al e ch ((m,inc)::d)):within (λj=>!inc.testBit j) al++m=H:=by
 cases ch with
 |nil=>exact h
 |cons c ch=>exact h.1
theorem Fut.step{n0 i:Nat}{al c:DAl}(h:Fut n0 (i+1) al c):Fut n0 i al c:=let ⟨new,e,hn⟩:=h;⟨new,e,λx d=>by have:=hn x d;omega⟩
theorem zYX{t d:Nat}{l:JV}(h:zDs t (d::l)=false):t≠d/\zDs t l=false:=by
 simp only[zDs]at h;split at h
 .cases h
 .rename_i e;exact⟨zAU e,h⟩
theorem zU2{n0:Nat}{c:JV}{o:XOper}{v:AV}(i:∀t h o,zDs t c=false->fr.get t=some (.ptr h o)->h<n0)(l:zQg c o.op=true->∀h k,v=.ptr h k->h<n0):
  ∀t h k,zDs t (zD0 c o)=false->(qv fr o.dst v).get t=some (.ptr h k)->h<n0:=by
 intro t h k g f;unfold zD0 at g;cases hd:o.dst with
 |none=>rw[hd]at g f;exact i t h k g f
 |some d=>
  rw[hd]at g f;have f:(fr.put d v).get t=some (.ptr h k):=f;rw[Fr.qu]at f;cases ho:zQg c o.op with
  |true=>
   rw[ho]at g;split at f
   .cases f;exact l ho h k rfl
   .exact i t h k g f
  |false=>
   rw[ho]at g;obtain⟨h1,h2⟩:=zYX g;rw[if_neg λe=>h1 e.symm]at f
   exact i t h k h2 f
theorem zcj{n0:Nat}{c:JV}{o:XO}(d:∀t h o,zDs t c=false->fr.get t=some (.ptr h o)->h<n0){v:AV}{H':Heap}{n':Nat}(hx:xoS G call fr H nx o=some (v,H',n'))(ho:zQg c o=true):∀h k,v=.ptr h k->h<n0:=by
 intro h k e;subst e;cases o<;>try (cases ho;done)
 case wM x=>
  cases x<;>try (cases ho;done)
  rename_i b;have ho:zDs b c=false:=by simpa[zQg]using ho
  simp only[xoS]at hx;split at hx
  .rename_i u hu;cases hx;exact d b h k ho hu
  .cases hx
 case qD x off=>
  cases x<;>try (cases ho;done)
  rename_i b;have ho:zDs b c=false:=by simpa[zQg]using ho
  simp only[xoS]at hx;split at hx
  .rename_i f g hu;cases hx;exact d b _ _ ho hu
  .cases hx
  .cases hx
theorem zed{n0:Nat}{c:JV}{o:XO}(e:∀t h o,zDs t c=false->fr.get t=some (.ptr h o)->h<n0){v:AV}{H':Heap}{n':Nat}(hx:xoS G call fr H nx o=some (v,H',n'))(ho:zXB c o=true){H2:Heap}(g:∀h,h<n0->H2.get h=H.get h)(d:Nat):xoS G zf fr H2 d o=some (v,H2,d):=by
 cases o<;>try (cases ho;done)
 case load x sz ag=>
  cases x<;>try (cases ho;done)
  rename_i b;have ho:zDs b c=false:=by simpa[zXB]using ho
  simp only[xoS]at hx⊢;split at hx
  .rename_i u hu;split at hx
   .rename_i x f;cases hx;have:zER H2 sz ag u=zER H sz ag u:=by
     cases u with
     |ptr h o=>simp only[zER,g h (e b h o ho hu)]
     |_=>rfl
    rw[this,f]
   .cases hx
  .cases hx
theorem zRi{al:DAl}{f d:JV}(e:∀c∈f,c∈d):∀{ch:JN}{ms:List (Heap×Nat)},zGf H al f ch ms->zGf H al d ch ms
 |[],[],h=>h.elim
 |[],(m,inc)::_,h=>h
 |(c,p)::ch,[],h=>h.elim
 |(c,p)::ch,(m,inc)::ms,h=>⟨h.1,h.2.imp (e c) (zRi e)⟩
theorem zQ0{al:DAl}{e:JV}{i hd:Nat}{d:HO}:∀{ch:JN}{ms:List (Heap×Nat)},zGf H al e ch ms->(∀x∈ms,x.2<2 ^ i)->zGf ((hd,d)::H) ((i,hd,d)::al) e ch ms
 |[],[],h,_=>h.elim
 |[],(m,inc)::_,h,hi=>by
  have h:within (λj=>!inc.testBit j) al++m=H:=h
  have:=zMV (hi _ (.head _)) (QB i);show within (λj=>!inc.testBit j) ((i,hd,d)::al)++m=_
  simp only[within,this,Bool.not_false,List.cons_append,h]
 |(c,p)::ch,[],h,_=>h.elim
 |(c,p)::ch,(m,inc)::ms,h,hi=>by
  have:=zMV (hi _ (.head _)) (QB i);refine⟨?_,h.2.imp id λh=>zQ0 h λx f=>hi x (.tail _ f)⟩
  simp only[within,this,Bool.not_false,List.cons_append,h.1]
theorem zSn{a b i:Nat}(c:a<2 ^ i)(hb:b<2 ^ i):a ||| b<2 ^ i:=Nat.or_lt_two_pow c hb
theorem zPf{p i:Nat}:∀{al:DAl},(∀x∈al,x.1<i)->zBv p al<2 ^ i
 |[],_=>Nat.pow_pos (by omega)
 |(j,h,o)::r,c=>by
  simp only[zBv];split
  .exact zSn (Nat.pow_lt_pow_right (by omega) (c _ (.head _))) (zPf λx d=>c x (.tail _ d))
  .exact zPf λx d=>c x (.tail _ d)
theorem zYY{o:XO}(h:zWG o=true):z8 o=3:=by cases o<;>first|(cases h;done)|rfl
theorem zFS(I:Calm call){n0:Nat}:∀(ops:List XOper)(ds:List XD)(i:Nat)(L ws cs cur qM C:JV){K:Fr->Heap->Nat->Prop}{fr:Fr}{H:Heap}{nx:Nat}{s:DS},WN G call ops K fr H nx->zPe ops ds=true->zJk i L ws cs cur qM C ops ds=true->SN n0 G H nx fr s i L ws cs cur qM C →
  ∃s' i' B A cs' g f F fr' H' D,zBw G call i ops ds s=some s'/\SN n0 G H' D fr' s' i' B A cs' g f F/\K fr' H' D
 |[],ds,i,L,ws,cs,cur,qM,C,K,fr,H,nx,s,X,_,_,u=>⟨s,i,L,ws,cs,cur,qM,C,fr,H,nx,by cases ds<;>rfl,u,X⟩
 |o::r,[],i,L,ws,cs,cur,qM,C,K,fr,H,nx,s,X,hc,_,u=>by cases hc
 |o::r,d::ds,i,L,ws,cs,cur,qM,C,K,fr,H,nx,s,X,hc,z,u=>by
  simp only[zPe,QA]at hc;obtain⟨⟨c1,cg⟩,c3⟩:=hc;have R:∀{g f:JV},(∀r∈s.rd,r.i∈cur->r.i∈g\/r.i∈f)->(∀x∈qM,x∈f)->∀r∈s.rd,r.i<i+1/\r.qg<2 ^ r.i/\((r.i∈g/\(∀x∈s.al,r.qg.testBit x.1=true)/\∀nx,rdH G r H nx=true)\/r.i∈f)/\∀nx J,Fut n0 (i+1) s.al J->zCs G J nx r s.ch s.ms=true:=by
   intro g f h1 h2 r hr;obtain⟨k1,k2,k3,k4⟩:=u.rd r hr;refine⟨by omega,k2,?_,λnx J hf=>k4 nx J hf.step⟩
   rcases k3 with⟨k5,k6,k7⟩|k5
   .rcases h1 r hr k5 with h|h
    .exact .inl ⟨h,k6,k7⟩
    .exact .inr h
   .exact .inr (h2 _ k5)
  have O:∀x∈s.al,x.1∈L/\x.1<i+1:=λx y=>⟨(u.ji x y).1,Nat.lt_succ_of_lt (u.ji x y).2⟩
  have M:∀x∈s.ms,x.2<2 ^ (i+1):=λx y=>QW (u.uX x y) (Nat.pow_le_pow_right (by omega) (QV i))
  have T:∀{A cs':JV},(∀x∈ws,x∈A)->(∀x∈cs,x∈cs')->∀c∈s.ch,(c.1∈A\/c.1∈cs')/\c.1<i+1/\c.2<2 ^ c.1:=λh1 h2 c hc=>by
   obtain⟨k1,k2,k3⟩:=u.ja c hc;exact⟨k1.imp (h1 _) (h2 _),by omega,k3⟩
  have ar:(∃v H' D,xoS G call fr H nx o.op=some (v,H',D)/\WN G call r K (qv fr o.dst v) H' D)->zB7 (only d.looks s.fr) o.guard=some true →
    ∃s' i' B A cs' g f F fr' H' D,zBw G call i (o::r) (d::ds) s=some s'/\SN n0 G H' D fr' s' i' B A cs' g f F/\K fr' H' D:=by
   rintro ⟨v,H',D,y,hw2⟩ N
   clear X
   have W:∀(call:Call)(H:Heap)(n:Nat),xo G call (only d.looks s.fr) H n o.op=xoS G call fr H n o.op:=λcall H n=>by rw[u.uG];exact zci c1 call H n
   have V:=zU2 (o:=o) u.u7 (zcj u.u7 y);have ba:nx<=D:=zXw (λ_ _ _ _ _ _ _ h=>by rw[(I _ _ _ _ _ _ _ h).2];exact QB _) y
   obtain⟨m,inc,bg,ab⟩:=u.uR;have hH:within (λj=>!inc.testBit j) s.al++m=H:=zSm (ab▸u.chain)
   have S:∀{l:JV} ,L.all (λc=>d.qg.testBit c)=true->∀x∈s.al,d.qg.testBit x.1=true:=λh x y=>QH.1 h _ (u.ji x y).1
   have ah:L.all (λc=>d.qg.testBit c)=true->within (but d.qg inc) s.al++m=H:=λh=>by rw[zNy (S (l:=[]) h),hH]
   have af:∀{A cs' g f:JV},(∃k,z8 o.op=k+3)->(ws++cs).all (λc=>d.qg.testBit c)=true->L.all (λc=>d.qg.testBit c)=true->d.qg<2 ^ i->zJk (i+1) L A cs' g f (zD0 C o) r ds=true->(∀x∈ws,x∈A)->(∀x∈cs,x∈cs')->(i∈A\/i∈cs') →
     (i∈A\/H'=H) →
     (∀q∈s.rd,((q.i∈g/\(∀x∈s.al,q.qg.testBit x.1=true)/\∀nx,rdH G q H' nx=true)\/(q.i∈f))/\(d.qg.testBit q.i=true\/(∀x∈s.al,q.qg.testBit x.1=true)/\∀nx,rdH G q H' nx=true)) →
     ∃s' i' B A cs' g f F fr' H' D,zBw G call i (o::r) (d::ds) s=some s'/\SN n0 G H' D fr' s' i' B A cs' g f F/\K fr' H' D:=by
    intro A cs' g f hk q1 q2 Y q5 au be a8 bc bb;obtain⟨k,hk⟩:=hk;have aw:(s.ch.all λc=>d.qg.testBit c.1)=true:=by
     rw[QH];intro c hc;refine QH.1 q1 c.1 (QI.2 ?_)
     exact(u.ja c hc).1
    have e:zC4 G call i o d s=some { s with fr:=qv s.fr o.dst v,nx:=D,ms:=(H',inc ||| zBv d.qg s.al)::s.ms,ch:=(i,d.qg)::s.ch,tr:=(i,o.dst,v)::s.tr }:=by
     simp only[zC4,N,hk,ab,aw,ah q2,W,u.uE,y]
    simp only[zBw,e];have ak:inc ||| zBv d.qg s.al<2 ^ (i+1):=zSn (M _ (by rw[ab];exact .head _)) (zPf λx y=>(O x y).2)
    have aj:∀p:Nat,p<2 ^ i->∀J,Fut n0 (i+1) s.al J->within (but p (inc ||| zBv d.qg s.al)) J=[]:=by
     intro p hp J hf;rw[zNx hf (QW hp (Nat.pow_le_pow_right (by omega) (QV i)))]
     refine zDU λx y=>?_
     have:(zBv d.qg s.al).testBit x.1=true:=zIm.2 ⟨S (l:=[]) q2 x y,x,y,rfl⟩;simp[but,this]
    have ad:within (λj=>!(inc ||| zBv d.qg s.al).testBit j) s.al=[]:=by
     refine zDU λx y=>?_
     have:(zBv d.qg s.al).testBit x.1=true:=zIm.2 ⟨S (l:=[]) q2 x y,x,y,rfl⟩;simp[this]
    refine zFS I r ds (i+1) L A cs' g f (zD0 C o) hw2 c3 q5 ⟨V,u.uz,Qh u.nn ba,by simp only[u.uG],rfl,O,λc hc=>?_,⟨_,_,_,rfl⟩,λx y=>?_,?_,λq U=>?_⟩
    .rcases QJ.1 hc with rfl|hc
     .exact⟨a8,QS i,Y⟩
     .exact T au be c hc
    .rcases QJ.1 y with rfl|y
     .exact ak
     .exact M x y
    .refine⟨by rw[ad,List.nil_append],?_⟩
     rcases bc with h|h
     .exact .inl h
     .exact .inr (by rw[h];exact zRi au u.chain)
    .obtain⟨k1,k2,k3,k4⟩:=u.rd q U;obtain⟨k5,k6⟩:=bb q U;refine⟨by omega,k2,k5,λn J hf=>?_⟩
     have a7:q.qg.testBit i=false:=zMV k2 (by omega)
     simp only[zCs,a7];rcases k6 with k6|⟨_,k6⟩
     .simp only[k6];exact k4 n J hf.step
     .cases hb:d.qg.testBit q.i with
      |true=>simp only;exact k4 n J hf.step
      |false=>
       have a6:zD9 G J n q H' (inc ||| zBv d.qg s.al)=true:=by
        have:=k6 n;simp only[zD9,aj q.qg (QW k2 (Nat.pow_le_pow_right (by omega) (by omega))) J hf,List.nil_append]
        exact this
       simp only[a6];exact k4 n J hf.step
   simp only[zJk]at z;split at z
   ·
    rename_i aq;simp only[QA]at z;obtain⟨⟨⟨⟨q1,q2⟩,Y⟩,q4⟩,q5⟩:=z;have q4:d.qg<2 ^ i:=by simpa[Qi]using q4
    have ay:H'=H:=by
     cases ho:o.op<;>rw[ho]at aq y<;>first|(cases aq;done)|skip
     .simp only[xoS]at y;split at y
      .exact(I _ _ _ _ _ _ _ y).1
      .cases y
     .simp only[xoS]at y;split at y
      .unfold zHq at y;split at y
       .exact(I _ _ _ _ _ _ _ y).1
       .cases y
      .cases y
    subst ay;refine af ⟨0,zYY aq⟩ q1 q2 q4 q5 (λx h=>h) (λx h=>.tail _ h) (.inr (.head _)) (.inr rfl) λq U=>?_
    obtain⟨k1,k2,k3,k4⟩:=u.rd q U;refine⟨k3,?_⟩
    rcases k3 with⟨_,k5,k6⟩|k5
    .exact .inr ⟨k5,k6⟩
    .exact .inl (QH.1 Y _ k5)
   .rename_i bf;by_cases h0:z8 o.op=0
    .simp only[h0]at z;have h1:=zS1 (G:=G) (call:=call) (fr:=fr) (H:=H) (nx:=nx) h0;have h2:=zS1 (G:=G) (call:=zf) (fr:=fr) (H:=[]) (nx:=nx) h0;rw[y]at h1;cases hz:xoS G zf fr [] nx o.op with
     |none=>rw[hz]at h1;cases h1
     |some t=>
      obtain⟨v',H2,n2⟩:=t;rw[hz]at h1 h2;simp only[QK,Prod.mk.injEq]at h1 h2;obtain⟨rfl,rfl,rfl⟩:=h1;obtain⟨_,rfl,_⟩:=h2;have hn:D=nx:=by
       have:∀{o:XO},z8 o=0->∀{v H2 n2},xoS G zf fr [] nx o=some (v,H2,n2)->n2=nx:=λ{o} hk {v H2 n2} h=>by
        cases o<;>first|(simp[z8]at hk;done)|(simp only[xoS]at h;repeat' split at h)<;>first|(cases h;done)|(cases h;rfl)
       exact this h0 hz
      subst hn;have e:zC4 G call i o d s=some { s with fr:=qv s.fr o.dst v,tr:=(i,o.dst,v)::s.tr }:=by
       simp only[zC4,N,h0,W,u.uE,hz,Nat.beq_refl]
      simp only[zBw,e];exact zFS I r ds (i+1) L ws cs cur qM (zD0 C o) hw2 c3 z ⟨V,u.uz,u.nn,by simp only[u.uG],u.uE,O,T (λx h=>h) (λx h=>h),u.uR,M,u.chain,R (λ_ _ h=>.inl h) (λx h=>h)⟩
    .by_cases h1:z8 o.op=1
     .simp only[h1]at z;split at z
      .rename_i q2;simp only[QA]at z;obtain⟨⟨q1,Y⟩,q4⟩:=z;have Y:d.qg<2 ^ i:=by simpa[Qi]using Y
       obtain⟨k1,rfl,rfl⟩:=zXA h1 y nx;have e:zC4 G call i o d s=some { s with fr:=qv s.fr o.dst v,rd:=⟨i,o.op,only d.looks s.fr,d.qg,v⟩::s.rd,tr:=(i,o.dst,v)::s.tr }:=by
        simp only[zC4,N,h1,ab,ah q2,W,u.uE,k1]
       have aa:∀n,rdH G ⟨i,o.op,only d.looks s.fr,d.qg,v⟩ H' n=true:=λn=>by
        have h4:=(zXA h1 y n).1;simp only[rdH,W,h4];exact zUK v
       simp only[zBw,e];refine zFS I r ds (i+1) L ws cs (i::cur) qM (zD0 C o) hw2 c3 q4 ⟨V,u.uz,u.nn,by simp only[u.uG],u.uE,O,T (λx h=>h) (λx h=>h),u.uR,M,u.chain,λq U=>?_⟩
       rcases QJ.1 U with rfl|U
       .refine⟨QS i,Y,.inl ⟨.head _,S (l:=[]) q2,aa⟩,λn J hf=>?_⟩
        refine zSl hf.step Y (S (l:=[]) q2) aa u.chain (λc hc=>QH.1 q1 c hc) λc hc=>?_
        obtain⟨_,g2,g3⟩:=u.ja c hc;exact zMV g3 (by show c.1<=i;omega)
       .exact R (λ_ _ h=>.inl (.tail _ h)) (λx h=>h) q U
      .simp only[QA]at z;obtain⟨q0,⟨q1,Y⟩,q4⟩:=z;have Y:d.qg<2 ^ i:=by simpa[Qi]using Y
       obtain⟨k1,rfl,rfl⟩:=zXA h1 y nx;have ae:∀(H2:Heap)(n:Nat),(∀h,h<n0->H2.get h=H'.get h)->xoS G zf fr H2 n o.op=some (v,H2,n):=λH2 n he=>zed u.u7 y q0 he n
       have e:zC4 G call i o d s=some { s with fr:=qv s.fr o.dst v,rd:=⟨i,o.op,only d.looks s.fr,d.qg,v⟩::s.rd,tr:=(i,o.dst,v)::s.tr }:=by
        have:=ae (within (but d.qg inc) s.al++m) s.nx λk hk=>by rw[zEy hk u.uz,←hH,zEy hk u.uz]
        simp only[zC4,N,h1,ab,W,this]
       have aa:∀(H2:Heap)(n:Nat),(∀h,h<n0->H2.get h=H'.get h)->rdH G ⟨i,o.op,only d.looks s.fr,d.qg,v⟩ H2 n=true:=λH2 n he=>by
        simp only[rdH,W,ae H2 n he];exact zUK v
       simp only[zBw,e];refine zFS I r ds (i+1) L ws cs cur (i::qM) (zD0 C o) hw2 c3 q4 ⟨V,u.uz,u.nn,by simp only[u.uG],u.uE,O,T (λx h=>h) (λx h=>h),u.uR,M,u.chain,λq U=>?_⟩
       rcases QJ.1 U with rfl|U
       .refine⟨QS i,Y,.inr (.head _),λn J hf=>?_⟩
        refine zTL u.uz (λx y=>?_) aa u.chain (λc hc=>QH.1 q1 c hc) λc hc=>?_
        .obtain⟨new,rfl,hn⟩:=hf;rcases QI.1 y with y|y
         .exact(hn x y).2
         .exact u.uz x y
        .obtain⟨_,g2,g3⟩:=u.ja c hc;exact zMV g3 (by show c.1<=i;omega)
       .exact R (λ_ _ h=>.inl h) (λx h=>.tail _ h) q U
     .by_cases h2:z8 o.op=2
      .simp only[h2]at z;obtain⟨ob,k1,rfl,rfl⟩:=zU1 h2 y;have e:zC4 G call i o d s=some { s with fr:=qv s.fr o.dst v,nx:=nx+1,al:=(i,nx,ob)::s.al,tr:=(i,o.dst,v)::s.tr }:=by
        simp only[zC4,N,h2,W,u.uE,k1,Nat.beq_refl]
       simp only[zBw,e];refine zFS I r ds (i+1) (i::L) ws cs [] (cur++qM) (zD0 C o) hw2 c3 z ⟨V,λx y=>?_,Nat.le_succ_of_le u.nn,by simp only[u.uG],rfl,λx y=>?_,T (λx h=>h) (λx h=>h),u.uR,M,zQ0 u.chain u.uX,λq U=>?_⟩
       .rcases QJ.1 y with rfl|y
        .exact u.nn
        .exact u.uz x y
       .rcases QJ.1 y with rfl|y
        .exact⟨.head _,QS i⟩
        .exact⟨.tail _ (O x y).1,(O x y).2⟩
       .obtain⟨g1,g2,g3,g4⟩:=u.rd q U;refine⟨by omega,g2,.inr ?_,λn J hf=>g4 n J ?_⟩
        .rcases g3 with⟨g5,_⟩|g5
         .exact QI.2 (.inl g5)
         .exact QI.2 (.inr g5)
        .obtain⟨new,rfl,hn⟩:=hf;refine⟨new++[(i,nx,ob)],by simp,λx y=>?_⟩
         rcases QI.1 y with y|y
         .have:=hn x y;omega
         .simp only[QU]at y;subst y;exact⟨QB _,u.nn⟩
      .have h3:∃k,z8 o.op=k+3:=⟨z8 o.op-3,by omega⟩
       obtain⟨k,h3⟩:=h3;simp only[h3,QA]at z;obtain⟨⟨⟨⟨q1,q2⟩,Y⟩,q4⟩,q5⟩:=z;have q4:d.qg<2 ^ i:=by simpa[Qi]using q4
       refine af ⟨k,h3⟩ q1 q2 q4 q5 (λx h=>.tail _ h) (λx h=>h) (.inl (.head _)) (.inl (.head _)) λq U=>?_
       obtain⟨g1,g2,g3,g4⟩:=u.rd q U;have az:q.i∈cur++qM:=by
        rcases g3 with⟨g5,_⟩|g5
        .exact QI.2 (.inl g5)
        .exact QI.2 (.inr g5)
       exact⟨.inr az,.inl (QH.1 Y _ az)⟩
  have ac:WN G call r K (qv fr o.dst (.qd [])) H nx->zB7 (only d.looks s.fr) o.guard=some false →
    ∃s' i' B A cs' g f F fr' H' D,zBw G call i (o::r) (d::ds) s=some s'/\SN n0 G H' D fr' s' i' B A cs' g f F/\K fr' H' D:=by
   intro X N;have e:zC4 G call i o d s=some { s with fr:=qv s.fr o.dst (.qd []),tr:=(i,o.dst,.qd [])::s.tr }:=by
    simp only[zC4,N]
   simp only[zBw,e];have base:∀{B A cs' g f:JV},zJk (i+1) B A cs' g f (zD0 C o) r ds=true->(∀x∈L,x∈B)->(∀x∈ws,x∈A)->(∀x∈cs,x∈cs')->(∀x∈cur,x∈g\/x∈f)->(∀x∈qM,x∈f) →
     ∃s' i' B A cs' g f F fr' H' D,zBw G call (i+1) r ds { s with fr:=qv s.fr o.dst (.qd []),tr:=(i,o.dst,.qd [])::s.tr }=some s'/\SN n0 G H' D fr' s' i' B A cs' g f F/\K fr' H' D:=by
    intro B A cs' g f U h1 h2 h3 h4 h5;exact zFS I r ds (i+1) B A cs' g f (zD0 C o) X c3 U ⟨zU2 u.u7 (λ_ h k e=>by cases e),u.uz,u.nn,by simp only[u.uG],u.uE,λx y=>⟨h1 _ (O x y).1,(O x y).2⟩,T h2 h3,u.uR,M,zRi h2 u.chain,R (λq _ U=>h4 _ U) h5⟩
   simp only[zJk]at z;split at z
   .simp only[QA]at z;exact base z.2 (λx h=>h) (λx h=>h) (λx h=>.tail _ h) (λx h=>.inl h) (λx h=>h)
   .split at z
    .exact base z (λx h=>h) (λx h=>h) (λx h=>h) (λx h=>.inl h) (λx h=>h)
    .split at z
     .simp only[QA]at z;exact base z.2 (λx h=>h) (λx h=>h) (λx h=>h) (λx h=>.inl (.tail _ h)) (λx h=>h)
     .simp only[QA]at z;exact base z.2.2 (λx h=>h) (λx h=>h) (λx h=>h) (λx h=>.inl h) (λx h=>.tail _ h)
    .exact base z (λx h=>.tail _ h) (λx h=>h) (λx h=>h) (λx h=>.inr (QI.2 (.inl h))) (λx h=>QI.2 (.inr h))
    .simp only[QA]at z;exact base z.2 (λx h=>h) (λx h=>.tail _ h) (λx h=>h) (λx h=>.inr (QI.2 (.inl h))) (λx h=>QI.2 (.inr h))
  unfold WN at X;cases hg:o.guard with
  |none=>
   rw[hg]at X;exact ar X (by rw[hg];rfl)
  |some tb=>
   obtain⟨t,b⟩:=tb;rw[hg]at X cg;have ag:(only d.looks s.fr).get t=fr.get t:=by rw[u.uG];exact zWF cg
   simp only[zUp]at X;split at X
   .rename_i c hc;obtain⟨w1,w2⟩:=X;have ao:=zIo (b:=b) (ag.trans hc);rw[←hg]at ao;by_cases ax:c=b
    .exact ar (w1 ax) (by rw[ao,ax];simp)
    .have ai:c=!b:=by cases c<;>cases b<;>simp_all
     exact ac (w2 ai) (by rw[ao,ai];simp)
   .rename_i hc;exact ac X (by rw[hg];simp only[zB7,ag,hc])
   .exact X.elim
theorem zYZ(g:Calm call){ops:List XOper}{ds:List XD}{K:Fr->Heap->Nat->Prop}(p:∀t h o,fr.get t=some (.ptr h o)->h<nx)(hc:zPe ops ds=true)(u:zJk 0 [] [] [] [] [] [] ops ds=true)(h:WN G call ops K fr H nx):∃fr' H' d,zQb G call ops ds (fr,H,nx)=some (fr',H',d)/\K fr' H' d:=by
 obtain⟨s,i,A,C,cs,cur,qM,v,fr',H',d,h1,h2,h3⟩:=zFS g (n0:=nx) ops ds 0 [] [] [] [] [] [] (s:=⟨fr,nx,[(H,0)],[],[],[],[]⟩) h hc u ⟨λt h o _ z=>p t h o z,λx e=>(by cases e),QB _,rfl,rfl,λx e=>(by cases e),λc hc=>(by cases hc),⟨_,_,_,rfl⟩,λx e=>(by simp only[QU]at e;subst e;exact Nat.one_pos),rfl,λr q=>(by cases q)⟩
 obtain⟨m,inc,y,f⟩:=h2.uR;refine⟨fr',H',d,?_,h3⟩
 have l:(s.rd.all λr=>zCs G s.al s.nx r s.ch s.ms)=true:=by
  rw[QH];intro r q;exact(h2.rd r q).2.2.2 _ _ ⟨[],rfl,λx e=>by cases e⟩
 have B:within (λj=>!inc.testBit j) s.al++m=H':=zSm (f▸h2.chain)
 rw[f]at l;simp only[zQb,h1,f,l,B];rw[h2.uG,h2.uE]
end
def zAA:Nat->AV->Bool
 |0,_=>false
 |d+1,v=>match v with
  |.bool _|.int _ _|.str _|.qo|.qa|.qn|.ql|.qe=>true
  |.qc e _=>zAA d e
  |.qf _ es=>es.all (zAA d)
  |.func _ a b=>a.all (zAA d)&&b.all (zAA d)
  |.iface _ v=>zAA d v
  |.agg cs=>cs.all (zAA d)
  |.qd cs=>cs.all (zAA d)
  |_=>false
def ppS:Nat->AV->Bool
 |0,_=>false
 |d+1,v=>match v with
  |.bool _|.int _ _|.str _|.qo|.qa|.qn|.ql|.qe|.qf _ _|.qc _ _=>true
  |.func _ a b=>a.all (ppS d)&&b.all (ppS d)
  |.iface _ v=>ppS d v
  |.agg cs=>cs.all (ppS d)
  |.qd cs=>cs.all (ppS d)
  |_=>false
inductive K where
 |b
 |i (k:IntKind)
 |s
 |l (sz:Nat)
 |c (v:AV)
 |agg (n:Nat)
 |qd (n:Nat)
 |ep (off:Nat)
 |jc (t:Nat)
 |av
inductive VI where
 |vec (sz:Nat) (es:JE)
 |mp (es:List (AV×AV))
 |qX (j i off:Nat)
abbrev Vecs:=List (Nat×VI)
def Vecs.get:Vecs->Nat->Option VI
 |[],_=>none
 |(k,o)::r,h=>match Nat.beq k h with
  |true=>some o
  |false=>Vecs.get r h
def Vecs.del:Vecs->Nat->Vecs
 |[],_=>[]
 |(k,o)::r,h=>match Nat.beq k h with
  |true=>Vecs.del r h
  |false=>(k,o)::Vecs.del r h
inductive WK:AV->AV->Prop where
 |refl (v:AV):WK v v
 |nil (sz:Nat):WK .qa (.qf sz [])
 |qc {e e':AV} (off:Nat) (h:WK e e'):WK (.qc e off) (.qc e' off)
 |iface (t:Nat) {v v':AV} (h:WK v v'):WK (.iface t v) (.iface t v')
 |agg {cs cs':JE} (hl:cs.length=cs'.length) (h:∀(i:Nat) c c',cs[i]?=some c->cs'[i]?=some c'->WK c c'):WK (.agg cs) (.agg cs')
 |qd {cs cs':JE} (hl:cs.length=cs'.length) (h:∀(i:Nat) c c',cs[i]?=some c->cs'[i]?=some c'->WK c c'):WK (.qd cs) (.qd cs')
def Br(b:Bool)(A B:Prop):Prop:=match b with
 |true=>A
 |false=>B
def ixN{α:Type}(l:List α):Int->Option α
 |.ofNat n=>l[n]?
 |.negSucc _=>none
structure Sta where
 fr:Fr
 H:Heap
 V:Vecs
 m:Nat
 mv:Nat
def Sta.put(st:Sta)(d:Option Nat)(v:AV):Sta:=⟨qv st.fr d v,st.H,st.V,st.m,st.mv⟩
abbrev TblS:=List (Nat×(JE->Prop)×(JE->JF))
def zGg:TblS->Nat->JE->(AV->Prop)->Prop
 |[],_,_,_=>False
 |s::r,f,args,k=>match Nat.beq f s.1 with
  |true=>s.2.1 args/\match s.2.2 args with
   |some v=>k v
   |none=>False
  |false=>zGg r f args k
def zBT:Nat->AV->Bool
 |0,_=>false
 |d+1,v=>match v with
  |.bool _|.int _ _|.str _|.qo|.qa|.qn|.ql|.qe=>true
  |.iface _ v=>zBT d v
  |.agg cs=>cs.all (zBT d)
  |.qd cs=>cs.all (zBT d)
  |_=>false
def zC(f:AV->JF):JE->Option JE
 |[]=>some []
 |v::r=>match f v with
  |some v=>match zC f r with
   |some r=>some (v::r)
   |none=>none
  |none=>none
def zCC:Nat->AV->Bool
 |0,_=>true
 |d+1,v=>match v with
  |.sym _|.ptr _ _|.row _ _ _ _ _ _|.map _=>true
  |.func _ a b=>a.any (zCC d)||b.any (zCC d)
  |.iface _ v=>zCC d v
  |.agg cs|.qd cs=>cs.any (zCC d)
  |_=>false
def zC6(sz len:Nat)(cs:JE):Option JE:=
 match Nat.ble (len*sz) cs.length&&Nat.blt 0 sz&&cs.all AV.one with
 |true=>some (chunks sz len cs)
 |false=>none
def frz(H:Heap)(V:Vecs):Nat->AV->JF
 |0,_=>none
 |d+1,v=>match v with
  |.sym j=>match V.get j with
   |some (.vec sz es)=>some (.qf sz es)
   |_=>none
  |.ptr h off=>match H.get h with
   |some (.cells _ cs)=>match zC (frz H V d) cs with
    |some cs=>some (.qc (.agg cs) off)
    |none=>none
   |_=>none
  |.func f a b=>match zC (frz H V d) a with
   |some a=>match zC (frz H V d) b with
    |some b=>some (.func f a b)
    |none=>none
   |none=>none
  |.agg cs=>match zC (frz H V d) cs with
   |some cs=>some (.agg cs)
   |none=>none
  |.row h off len sz _ _=>match H.get h with
   |some (.cells _ cs)=>match Nat.ble (off+len*sz) cs.length with
    |true=>match zC6 sz len (cs.drop off)with
     |some es=>match es.all (ppS 8)with
      |true=>some (.qf sz es)
      |false=>none
     |none=>none
    |false=>none
   |_=>none
  |v=>match zCC d v with
   |true=>none
   |false=>some v
def zCY(tb:TblS)(f:Nat)(args:JE)(st:Sta)(k:AV->Sta->Prop):Prop:=
 match args.any (zCC 8)with
 |false=>zGg tb f args λv=>k v st
 |true=>match zC (frz st.H st.V 8) args with
  |some args=>zGg tb f args λv=>match zBT 8 v with
   |true=>k v st
   |false=>False
  |none=>False
def zJy(n:Int)(lo hi:JF)(k:Int->Int->Prop):Prop:=
 match lo with
 |none=>match hi with
  |none=>k 0 n
  |some (.int _ h)=>(0<=h/\h<=n)/\k 0 h
  |_=>False
 |some (.int _ l)=>match hi with
  |none=>(0<=l/\l<=n)/\k l n
  |some (.int _ h)=>(0<=l/\l<=h/\h<=n)/\k l h
  |_=>False
 |_=>False
def eqv:List Kd->JE->JE->Option Bool
 |[],[],[]=>some true
 |k::ks,a::x,b::y=>match eqb k a b with
  |some p=>match ks with
   |[]=>match x,y with
    |[],[]=>some p
    |_,_=>none
   |_=>match eqv ks x y with
    |some q=>some (p&&q)
    |none=>none
  |none=>none
 |_,_,_=>none
def zBK(H:Heap)(sz:Nat):AV->Option JE
 |.qa=>some []
 |.qf c es=>match Nat.beq sz c with
  |true=>some es
  |false=>none
 |.row h off len c _ _=>match Nat.beq sz c with
  |true=>match H.get h with
   |some (.cells _ cs)=>match Nat.ble (off+len*sz) cs.length with
    |true=>zC6 sz len (cs.drop off)
    |false=>none
   |_=>none
  |false=>none
 |.str s=>match Nat.beq sz 1 with
  |true=>some (s.map λb=>.int .u8 (.ofNat b))
  |false=>none
 |_=>none
def ldE(es:JE)(i off sz:Nat)(c:Bool):JF:=match es[i]? with
 |some e=>part e.cells off sz c
 |none=>none
def lkV(ok b:Bool)(u:AV):AV:=match ok with
 |true=>.qd [u,.bool b]
 |false=>u
def lkR(ok:Bool)(z:AV):Option JF->JF
 |some (some u)=>some (lkV ok true u)
 |some none=>some (lkV ok false z)
 |none=>none
def zQh:AV->Bool
 |.qf _ _=>true
 |.str _=>true
 |_=>false
def zPg:XV->Bool
 |.c (.qf _ _)=>true
 |_=>false
def WXd(st:Sta)(x:Option Out)(k:AV->Sta->Prop):Prop:=match x with
 |some (v,H,m)=>k v ⟨st.fr,H,st.V,m,st.mv⟩
 |none=>False
def zIp(n:Int):Nat->(Nat->Prop)->Prop
 |0,_=>True
 |m+1,k=>zIp n m k/\(n=.ofNat m->k m)
def bsL(G:Cx)(fr:Fr)(len sz:Nat)(z:JE)(c:List (Nat×Nat×XV)):Option JE:=match zBe G fr z c with
 |some cs=>match Nat.beq cs.length (len*sz)with
  |true=>match zC6 sz len cs with
   |some es=>match es.all (ppS 12)with
    |true=>some es
    |false=>none
   |none=>none
  |false=>none
 |none=>none
def isC:List K->Bool
 |.c _::_=>true
 |_=>false
def wop(G:Cx)(tb:TblS)(st:Sta)(o:XO)(J:List K)(k:AV->Sta->Prop):Prop:=
 match o with
 |.bin op x y=>match x.ev G st.fr with
  |some (.str a)=>match op with
   |.add=>match y.ev G st.fr with
    |some (.str b)=>(a.length+b.length<=zh)/\k (.str (a++b)) st
    |_=>False
   |op=>WXd st (xoS G zf st.fr st.H st.m (.bin op x y)) k
  |some (.int q a)=>match op with
   |.quo=>match y.ev G st.fr with
    |some (.int N b)=>match zFO q N with
     |true=>(b≠0)/\k (.int q (wrapx q (a.tdiv b))) st
     |false=>False
    |_=>False
   |.rem=>match y.ev G st.fr with
    |some (.int N b)=>match zFO q N with
     |true=>(b≠0)/\k (.int q (a.tmod b)) st
     |false=>False
    |_=>False
   |.shl=>match y.ev G st.fr with
    |some (.int _ b)=>(0<=b)/\k (.int q (wrapx q (a*2 ^ (Min.min b.toNat q.bits)))) st
    |_=>False
   |.shr=>match y.ev G st.fr with
    |some (.int _ b)=>(0<=b)/\k (.int q (a.fdiv (2 ^ (Min.min b.toNat q.bits)))) st
    |_=>False
   |op=>WXd st (xoS G zf st.fr st.H st.m (.bin op x y)) k
  |_=>False
 |.wG neg g x y=>match x.ev G st.fr with
  |some (.agg a)=>match y.ev G st.fr with
   |some (.agg b)=>match eqv g a b with
    |some r=>k (zCk neg r) st
    |none=>False
   |_=>False
  |_=>False
 |.pick c a b=>match c.ev G st.fr with
  |some (.bool R)=>match c with
   |.t n=>Br R (match a.ev G st.fr with
     |some v=>k v ⟨st.fr.put n (.bool true),st.H,st.V,st.m,st.mv⟩
     |none=>False) (match b.ev G st.fr with
     |some v=>k v ⟨st.fr.put n (.bool false),st.H,st.V,st.m,st.mv⟩
     |none=>False)
   |_=>WXd st (xoS G zf st.fr st.H st.m (.pick c a b)) k
  |_=>False
 |.wW x i=>match x.ev G st.fr with
  |some (.str s)=>match i.ev G st.fr with
   |some (.int _ n)=>∃c,ixN s n=some c/\k (.int .u8 (.ofNat c)) st
   |_=>False
  |_=>False
 |.wP x B hi=>match x.ev G st.fr with
  |some (.str s)=>match evo G st.fr B with
   |some B=>match evo G st.fr hi with
    |some hi=>zJy (.ofNat s.length) B hi λl h=>k (.str ((s.take h.toNat).drop l.toNat)) st
    |none=>False
   |none=>False
  |_=>False
 |.wA x B hi O sz=>match x.ev G st.fr with
  |some (.qf d es)=>match Nat.beq sz d with
   |true=>match O with
    |none=>match evo G st.fr B with
     |some B=>match evo G st.fr hi with
      |some hi=>zJy (.ofNat es.length) B hi λl h=>k (.qf sz ((es.take h.toNat).drop l.toNat)) st
      |none=>False
     |none=>False
    |some _=>False
   |false=>False
  |some .qa=>WXd st (xoS G zf st.fr st.H st.m (.wA x B hi O sz)) k
  |_=>False
 |.qB x i sz=>match x.ev G st.fr with
  |some (.qf d es)=>match Nat.beq sz d with
   |true=>match i.ev G st.fr with
    |some (.int _ n)=>∃v,ixN es n=some v/\k (.qc v 0) st
    |_=>False
   |false=>False
  |some (.sym j)=>match st.V.get j with
   |some (.vec d es)=>match Nat.beq sz d with
    |true=>match i.ev G st.fr with
     |some (.int _ n)=>(0<=n/\n<.ofNat es.length)/\k (.sym st.mv) ⟨st.fr,st.H,(st.mv,.qX j n.toNat 0)::st.V,st.m,st.mv+1⟩
     |_=>False
    |false=>False
   |_=>False
  |some (.row _ _ l _ _ _)=>match i.ev G st.fr with
   |some (.int g n)=>(0<=n/\n<.ofNat l)/\zIp n l λm=>WXd st (xoS G zf st.fr st.H st.m (.qB x (.c (.int g (.ofNat m))) sz)) k
   |_=>False
  |_=>False
 |.wq x=>match x.ev G st.fr with
  |some (.sym j)=>match st.V.get j with
   |some (.vec _ es)=>k (.int .i64 (.ofNat es.length)) st
   |_=>False
  |_=>WXd st (xoS G zf st.fr st.H st.m (.wq x)) k
 |.load x sz A=>match isC J,x.ev G st.fr with
  |true,some (.qc _ _)=>WXd st (xoS G zf st.fr st.H st.m (.load x sz A)) k
  |true,_=>False
  |false,some (.sym p)=>match st.V.get p with
   |some (.qX j i off)=>match st.V.get j with
    |some (.vec _ es)=>∃v,ldE es i off sz A=some v/\k v st
    |_=>False
   |_=>False
  |false,_=>WXd st (xoS G zf st.fr st.H st.m (.load x sz A)) k
 |.qD x off=>match x.ev G st.fr with
  |some (.sym p)=>match st.V.get p with
   |some (.qX j i o)=>match st.V.get j with
    |some (.vec _ _)=>k (.sym st.mv) ⟨st.fr,st.H,(st.mv,.qX j i (o+off))::st.V,st.m,st.mv+1⟩
    |_=>False
   |_=>False
  |_=>WXd st (xoS G zf st.fr st.H st.m (.qD x off)) k
 |.store x y sz=>match x.ev G st.fr with
  |some (.sym p)=>match st.V.get p with
   |some (.qX j i off)=>match st.V.get j with
    |some (.vec d es)=>match y.ev G st.fr with
     |some v=>match Nat.beq off 0&&Nat.beq sz d&&ppS 12 v with
      |true=>match cellsOf v sz with
       |some _=>k (.qd []) ⟨st.fr,st.H,(j,.vec d (es.set i v))::st.V.del j,st.m,st.mv⟩
       |none=>False
      |false=>False
     |none=>False
    |_=>False
   |_=>False
  |_=>WXd st (xoS G zf st.fr st.H st.m (.store x y sz)) k
 |.vU x=>match x.ev G st.fr with
  |some (.str s)=>k (.sym st.mv) ⟨st.fr,st.H,(st.mv,.vec 1 (s.map λb=>.int .u8 (.ofNat b)))::st.V,st.m,st.mv+1⟩
  |_=>False
 |.vF x=>match x.ev G st.fr with
  |some (.sym j)=>match st.V.get j with
   |some (.vec sz es)=>match Nat.beq sz 1 with
    |true=>∃s,zAr es=some s/\k (.str s) st
    |false=>False
   |_=>False
  |some (.qf sz es)=>match Nat.beq sz 1 with
   |true=>∃s,zAr es=some s/\k (.str s) st
   |false=>False
  |some .qa=>k (.str []) st
  |_=>False
 |.qx len sz z L=>match J with
  |[]=>match zBe G st.fr z L with
   |some cs=>match Nat.beq cs.length (len*sz)with
    |true=>match zC6 sz len cs with
     |some es=>match es.all (ppS 12)with
      |true=>k (.sym st.mv) ⟨st.fr,st.H,(st.mv,.vec sz es)::st.V,st.m,st.mv+1⟩
      |false=>False
     |none=>False
    |false=>False
   |none=>False
  |.c _::_=>match bsL G st.fr len sz z L with
   |some es=>k (.qf sz es) st
   |none=>False
  |_=>WXd st (xoS G zf st.fr st.H st.m (.qx len sz z L)) k
 |.qN l c sz bytes z=>match l.ev G st.fr with
  |some (.int _ n)=>match c.ev G st.fr with
   |some (.int _ c)=>match zC6 sz 1 z,Nat.beq z.length sz with
    |some [e],true=>(0<=n/\n<=c/\c.toNat*bytes<=zc/\c.toNat<=zc) ∧
     k (.sym st.mv) ⟨st.fr,st.H,(st.mv,.vec sz (List.replicate n.toNat e))::st.V,st.m,st.mv+1⟩
    |_,_=>False
   |_=>False
  |_=>False
 |.append x y sz bytes=>match zPg y with
  |true=>False
  |false=>match x.ev G st.fr with
   |some v=>match y.ev G st.fr with
    |some u=>match zBK st.H sz u with
     |some D=>match zQh u||ppS 12 (.agg D)with
      |true=>match v with
       |.qa=>(D.length*bytes<=zc)/\k (.sym st.mv) ⟨st.fr,st.H,(st.mv,.vec sz D)::st.V,st.m,st.mv+1⟩
       |.sym j=>match st.V.get j with
        |some (.vec d es)=>match Nat.beq sz d with
         |true=>((es.length+D.length)*bytes<=zc/\es.length+D.length<=zc)/\k (.sym st.mv) ⟨st.fr,st.H,(st.mv,.vec sz (es++D))::st.V.del j,st.m,st.mv+1⟩
         |false=>False
        |_=>False
       |_=>False
      |false=>False
     |none=>False
    |none=>False
   |none=>False
 |.wg x i l s a=>match J with
  |[]=>WXd st (xoS G zf st.fr st.H st.m (.wg x i l s a)) k
  |_=>match i.ev G st.fr with
   |some (.int g n)=>(0<=n/\n<.ofNat l)/\zIp n l λm=>WXd st (xoS G zf st.fr st.H st.m (.wg x (.c (.int g (.ofNat m))) l s a)) k
   |_=>False
 |.qz x i l s=>match J with
  |[]=>WXd st (xoS G zf st.fr st.H st.m (.qz x i l s)) k
  |_=>match i.ev G st.fr with
   |some (.int g n)=>(0<=n/\n<.ofNat l)/\zIp n l λm=>WXd st (xoS G zf st.fr st.H st.m (.qz x (.c (.int g (.ofNat m))) l s)) k
   |_=>False
 |.wv=>k (.sym st.mv) ⟨st.fr,st.H,(st.mv,.mp [])::st.V,st.m,st.mv+1⟩
 |.lookup A g m x z ok=>match m.ev G st.fr with
  |some (.sym j)=>match st.V.get j with
   |some (.mp es)=>match x.ev G st.fr with
    |some C=>match zDC A g C with
     |true=>∃v,lkR ok z (zAE A g C es)=some v/\k v st
     |false=>False
    |none=>False
   |_=>False
  |_=>False
 |.wR A g m x y=>match m.ev G st.fr with
  |some (.sym j)=>match st.V.get j with
   |some (.mp es)=>match x.ev G st.fr with
    |some C=>match y.ev G st.fr with
     |some u=>match zDC A g C&&ppS 12 C&&ppS 12 u with
      |true=>∃F,zCm A g C u es=some F/\k (.qd []) ⟨st.fr,st.H,(j,.mp F)::st.V.del j,st.m,st.mv⟩
      |false=>False
     |none=>False
    |none=>False
   |_=>False
  |_=>False
 |.call f args=>match evs G st.fr args with
  |some M=>zCY tb f M st k
  |none=>False
 |.qO f args=>match f.ev G st.fr with
  |some (.func (.func f) first I)=>match evs G st.fr args with
   |some M=>zCY tb f (first++M++I) st k
   |none=>False
  |_=>False
 |.wM _|.beq _ _ _|.ui _ _ _|.vZ _ _ _ _ _|.seq _ _ _|.ur _ _ _|.uq _ _ _|.un _ _|.conv _ _|.uB _|.vA _ _|.vB _ _|.vS _ _ _ _|.ext _ _
 |.box _ _|.alloc _|.build _ _|.qQ _|.w4 _|.w7 _|.min _ _|.max _ _|.wh _ _ _|.w8 _ _|.ug _ _ _ _=>WXd st (xoS G zf st.fr st.H st.m o) k
 |_=>False
def brT(t:Nat)(c:Bool)(st:Sta)(k:Bool->Sta->Prop):Prop:=
 Br c (k true ⟨st.fr.put t (.bool true),st.H,st.V,st.m,st.mv⟩) (k false ⟨st.fr.put t (.bool false),st.H,st.V,st.m,st.mv⟩)
def ze0(h:Nat)(l:JV):JV:=match inN h l with
 |true=>l
 |false=>l++[h]
def hsA:Nat->AV->JV->JV
 |0,_,acc=>acc
 |d+1,v,acc=>match v with
  |.ptr h _|.map h|.row h _ _ _ _ _=>ze0 h acc
  |.func _ a b=>b.foldl (λacc v=>hsA d v acc) (a.foldl (λacc v=>hsA d v acc) acc)
  |.iface _ v=>hsA d v acc
  |.agg cs|.qd cs=>cs.foldl (λacc v=>hsA d v acc) acc
  |_=>acc
def zHt:Nat->AV->JV->JV
 |0,_,acc=>acc
 |d+1,v,acc=>match v with
  |.sym j=>ze0 j acc
  |.func _ a b=>b.foldl (λacc v=>zHt d v acc) (a.foldl (λacc v=>zHt d v acc) acc)
  |.iface _ v=>zHt d v acc
  |.agg cs|.qd cs=>cs.foldl (λacc v=>zHt d v acc) acc
  |_=>acc
def zEX(H:Heap):Nat->Nat->JV->JV
 |0,_,acc=>acc
 |f+1,i,acc=>match acc[i]? with
  |none=>acc
  |some h=>match H.get h with
   |some (.cells _ cs)=>zEX H f (i+1) (cs.foldl (λa v=>hsA 8 v a) acc)
   |_=>zEX H f (i+1) acc
def posN(h:Nat):Nat->JV->Option Nat
 |_,[]=>none
 |i,a::r=>match Nat.beq h a with
  |true=>some i
  |false=>posN h (i+1) r
def rnV(hm sm:JV):Nat->AV->JF
 |0,_=>none
 |d+1,v=>match v with
  |.ptr h o=>match posN h 0 hm with
   |some i=>some (.ptr i o)
   |none=>none
  |.row h o l s c e=>match posN h 0 hm with
   |some i=>some (.row i o l s c e)
   |none=>none
  |.map h=>match posN h 0 hm with
   |some i=>some (.map i)
   |none=>none
  |.sym j=>match posN j 0 sm with
   |some i=>some (.sym i)
   |none=>none
  |.func f a b=>match zC (rnV hm sm d) a with
   |some a=>match zC (rnV hm sm d) b with
    |some b=>some (.func f a b)
    |none=>none
   |none=>none
  |.iface t v=>match rnV hm sm d v with
   |some v=>some (.iface t v)
   |none=>none
  |.agg cs=>match zC (rnV hm sm d) cs with
   |some cs=>some (.agg cs)
   |none=>none
  |.qd cs=>match zC (rnV hm sm d) cs with
   |some cs=>some (.qd cs)
   |none=>none
  |v=>some v
def zSo(fr:Fr):JV->Option JE
 |[]=>some []
 |t::r=>match fr.get t with
  |some v=>match zSo fr r with
   |some c=>some (v::c)
   |none=>none
  |none=>none
def rnH(H:Heap)(hm sm:JV):Nat->JV->Option Heap
 |_,[]=>some []
 |i,h::r=>match H.get h with
  |some (.cells str cs)=>match zC (rnV hm sm 8) cs with
   |some cs=>match rnH H hm sm (i+1) r with
    |some c=>some ((i,.cells str cs)::c)
    |none=>none
   |none=>none
  |_=>none
def zKX:JV->Bool
 |[]=>true
 |a::r=>!(inN a r)&&zKX r
def zLC(V:Vecs):Nat->JV->Option Vecs
 |_,[]=>some []
 |i,j::r=>match V.get j with
  |some (.vec sz es)=>match zLC V (i+1) r with
   |some c=>some ((i,.vec sz es)::c)
   |none=>none
  |some (.mp es)=>match zLC V (i+1) r with
   |some c=>some ((i,.mp es)::c)
   |none=>none
  |_=>none
structure Cut where
 qI:JV
 grow:JN
 pins:Nat
def zLR(H:Heap)(h sz:Nat):AV->Option (Nat×JE)
 |.row h2 o l s _ _=>match Nat.beq o 0&&(Nat.beq s sz&&!Nat.beq h2 h)with
  |true=>match H.get h2 with
   |some (.cells _ cs)=>match Nat.beq cs.length (l*sz)with
    |true=>match zC6 sz l cs with
     |some es=>match es.all (ppS 12)with
      |true=>some (h2,es)
      |false=>none
     |none=>none
    |false=>none
   |_=>none
  |false=>none
 |_=>none
def qE(h:Nat):JN->Sta->Sta
 |[],st=>st
 |(i,sz)::r,st=>match st.H.get h with
  |some (.cells str cs)=>match cs[i]? with
   |some .qa=>qE h r ⟨st.fr,st.H.put h (.cells str (cs.set i (.sym st.mv))),(st.mv,.vec sz [])::st.V,st.m,st.mv+1⟩
   |some v=>match zLR st.H h sz v with
    |some (h2,es)=>qE h r ⟨st.fr,(st.H.del h2).put h (.cells str (cs.set i (.sym st.mv))),(st.mv,.vec sz es)::st.V,st.m,st.mv+1⟩
    |none=>qE h r st
   |none=>qE h r st
  |_=>st
def wJ(V:Vecs):Nat->AV->AV
 |0,v=>v
 |d+1,v=>match v with
  |.sym j=>match V.get j with
   |some (.vec sz es)=>.qf sz es
   |_=>.sym j
  |.agg l=>.agg (l.map (wJ V d))
  |.qd l=>.qd (l.map (wJ V d))
  |v=>v
def wD(V:Vecs)(v:AV):AV:=wJ V 4 v
def zVV(V:Vecs):HO->HO
 |.cells str cs=>.cells str (cs.map (wJ V 4))
 |o=>o
def zbH:AV->Bool
 |.sym _=>true
 |_=>false
def ze1:AV->Bool
 |.sym _=>true
 |.ptr _ _=>true
 |_=>false
def zbt:AV->Bool
 |.qd l=>l.any ze1
 |v=>ze1 v
def wy(st:Sta):Sta:=⟨st.fr.map λp=>(p.1,wD st.V p.2),st.H.map λp=>(p.1,zVV st.V p.2),[],st.m,st.mv⟩
def wE(n:Nat)(st:Sta):Sta:=match st.fr.get (Nat.mod n 100)with
 |some (.sym j)=>match st.V.get j with
  |some (.vec sz es)=>match Nat.beq (Nat.div n 100) es.length&&Nat.ble 1 (Nat.div n 100)with
   |true=>match flatten sz es with
    |some c=>⟨st.fr.put (Nat.mod n 100) (.row st.m 0 (Nat.div n 100) sz 0 false),(st.m,.cells true c)::st.H,st.V.del j,st.m+1,st.mv⟩
    |none=>st
   |false=>st
  |_=>st
 |_=>st
def zDk:JN->Sta->Sta
 |[],st=>st
 |(t,sz)::r,st=>match Nat.beq sz 0,Nat.blt t 1000 with
  |true,_=>zDk r (match t with
   |0=>wy st
   |t=>wE t st)
  |false,true=>match st.fr.get t with
   |some .qa=>zDk r ⟨st.fr.put t (.sym st.mv),st.H,(st.mv,.vec sz [])::st.V,st.m,st.mv+1⟩
   |some v=>match zLR st.H st.m sz v with
    |some (h2,es)=>zDk r ⟨st.fr.put t (.sym st.mv),st.H.del h2,(st.mv,.vec sz es)::st.V,st.m,st.mv+1⟩
    |none=>zDk r st
   |none=>zDk r st
  |false,false=>match st.fr.get (Nat.sub (Nat.div t 1000) 1)with
   |some (.ptr h _)=>zDk r (qE h [(Nat.mod t 1000,sz)] st)
   |_=>zDk r st
def zDy(H:Heap):JV->JV->JV
 |[],acc=>acc
 |h::r,acc=>match H.get h with
  |some (.cells _ cs)=>zDy H r (cs.foldl (λa v=>zHt 8 v a) acc)
  |_=>zDy H r acc
def zC7(hm sm:JV)(vs:JE)(st:Sta)(k:JE->Heap->Vecs->Prop):Prop:=
 match zKX hm&&zKX sm with
 |true=>match zC (rnV hm sm 8) vs with
  |some vs=>match rnH st.H hm sm 0 hm with
   |some H=>match zLC st.V 0 sm with
    |some V=>k vs H V
    |none=>False
   |none=>False
  |none=>False
 |false=>False
def zKY(c:Nat)(vs:JE)(st:Sta)(F:JV->JV->Prop):Prop:=
 (λd=>F d (zDy st.H d (vs.foldl (λa v=>zHt 8 v a) []))) (zEX st.H 30 0 (vs.foldl (λa v=>hsA 8 v a) (List.range c)))
def canon(c:Cut)(st:Sta)(k:JE->Heap->Vecs->Prop):Prop:=
 match zSo st.fr c.qI with
 |none=>False
 |some d=>zKY c.pins d st λe sm=>zC7 e sm d st k
abbrev Inv:=JE->Heap->Vecs->Prop
def zTr(c:Cut)(P:Inv)(st:Sta):Prop:=canon c (zDk c.grow st) P
def zVW:JV->JE->Fr
 |t::ts,v::vs=>(t,v)::zVW ts vs
 |_,_=>[]
def mkW(c:Cut)(vs:JE)(H:Heap)(V:Vecs):Sta:=⟨zVW c.qI vs,H,V,H.length,V.length⟩
structure HEnt where
 f:Nat
 grow:JN
 pre:JE->Heap->Vecs->Prop
 val:JE->Heap->Vecs->Option (AV×Heap×Vecs)
structure TOp where
 o:XOper
 ks:List K
 h:Option (List HEnt)
def qL(g:JN)(args:JE)(st:Sta):Sta:=match args with
 |.ptr h _::_=>qE h g st
 |_=>st
def rn1(mv:Nat):AV->AV
 |.sym j=>.sym (mv+j)
 |v=>v
def rnB(mv:Nat):AV->AV
 |.sym j=>.sym (mv+j)
 |.qd l=>.qd (l.map (rn1 mv))
 |v=>v
def wK(hm:JV)(m mv:Nat):AV->AV
 |.ptr i o=>match Nat.blt i hm.length with
  |true=>.ptr (hm.getD i i) o
  |false=>.ptr (m+(i-hm.length)) o
 |.sym j=>.sym (mv+j)
 |v=>v
def ue(hm:JV)(m mv:Nat):AV->AV
 |.qd l=>.qd (l.map (wK hm m mv))
 |v=>wK hm m mv v
def zFx(n m mv:Nat):Heap->Heap
 |[]=>[]
 |(i,.cells str cs)::r=>match Nat.blt i n with
  |true=>zFx n m mv r
  |false=>(m+(i-n),.cells str (cs.map (rnB mv)))::zFx n m mv r
 |_::r=>zFx n m mv r
def zQi(n:Nat)(v:AV):JV:=(hsA 8 v []).filter λh=>!Nat.blt h n
def zFy(hm:JV)(mv:Nat)(H2 H:Heap):Heap:=H.map λp=>match posN p.1 0 hm with
 |some i=>match H2[i]? with
  |some (_,.cells str cs)=>(p.1,.cells str (cs.map (rnB mv)))
  |_=>p
 |none=>p
def zLS(sm:JV)(mv:Nat):Vecs->Vecs->Vecs
 |[],V=>V.filter λp=>!inN p.1 sm
 |(j,c)::r,V=>(mv+j,c)::zLS sm mv r V
def inpl:JN->Bool
 |[(0,0)]=>true
 |_=>false
def zKk(sm:JV)(V2 V:Vecs):Vecs:=V.map λp=>match posN p.1 0 sm with
 |some i=>match V2.get i with
  |some c=>(p.1,c)
  |none=>p
 |none=>p
def zKl(g:JN)(hm sm:JV)(st:Sta)(H2:Heap)(V2:Vecs):Sta:=match inpl g with
 |true=>⟨st.fr,st.H,zKk sm V2 st.V,st.m,st.mv⟩
 |false=>⟨st.fr,zFy hm st.mv H2 st.H++zFx hm.length st.m st.mv H2,zLS sm st.mv V2 st.V,st.m+(H2.length-hm.length),st.mv+V2.length⟩
def zLT(g:JN)(hm:JV)(m mv:Nat)(v:AV):AV:=match inpl g with
 |true=>v
 |false=>ue hm m mv v
def zEY(e:HEnt)(args:JE)(st:Sta)(k:AV->Sta->Prop):Prop:=
 (λst=>zKY 0 args st λd sm=>zC7 d sm args st λc H V=>e.pre c H V/\match e.val c H V with
  |some (v,f,g)=>k (zLT e.grow d st.m st.mv v) (zKl e.grow d sm st f g)
  |none=>False) (qL e.grow args st)
def zKm:List HEnt->Nat->Option HEnt
 |[],_=>none
 |s::r,f=>match Nat.beq f s.f with
  |true=>some s
  |false=>zKm r f
def zGh(F:JV):Heap->Heap
 |[]=>[]
 |p::r=>match inN p.1 F with
  |true=>p::zGh F r
  |false=>zGh F r
def zNz(F:JV):Heap->Heap
 |[]=>[]
 |p::r=>match inN p.1 F with
  |true=>zNz F r
  |false=>p::zNz F r
def zTs(d:Heap)(v:AV):AV:=match zCC 8 v with
 |false=>v
 |true=>match frz d [] 8 v with
  |some c=>c
  |none=>v
def zLU(c:Heap)(fr0:Fr):Fr->Fr
 |[]=>[]
 |(t,_)::r=>match fr0.get t with
  |some v=>(t,zTs c v)::zLU c fr0 r
  |none=>zLU c fr0 r
def vO(F:JV)(c:Heap)(st:Sta):Sta:=⟨zLU c st.fr st.fr,zNz F st.H,st.V,st.m,st.mv⟩
def zTt(st:Sta)(v:AV)(k:AV->Sta->Prop):Prop:=match zbH v with
 |true=>k (wD st.V v) (wy st)
 |false=>(λF=>(λc=>match frz c [] 8 v with
  |some d=>k d (vO F c st)
  |none=>False) (zGh F st.H)) (zEX st.H 30 0 (hsA 8 v []))
def zTu{α:Type}(h:Option α):XO->Bool
 |.wh _ _ _|.wM _|.box _ _=>h.isSome
 |_=>false
def zPh(G:Cx)(g:List HEnt)(st:Sta)(o:XO)(k:AV->Sta->Prop):Prop:=match o with
 |.call f args=>match zKm g f with
  |some e=>match evs G st.fr args with
   |some d=>zEY e d st k
   |none=>False
  |none=>False
 |.qO f args=>match f.ev G st.fr with
  |some (.func (.func f) first c)=>match zKm g f with
   |some e=>match evs G st.fr args with
    |some d=>zEY e (first++d++c) st k
    |none=>False
   |none=>False
  |_=>False
 |_=>False
def zB2(G:Cx)(tb:TblS)(st:Sta)(o:TOp)(k:AV->Sta->Prop):Prop:=match o.h with
 |none=>wop G tb st o.o.op o.ks k
 |some e=>zPh G e st o.o.op k
def zVX:List K->Bool
 |.qd 0::_::_=>true
 |_=>false
def zLD(G:Cx)(tb:TblS)(st:Sta)(o:TOp)(k:AV->Sta->Prop):Prop:=match zVX o.ks with
 |true=>zB2 G tb (wy st) ⟨o.o,o.ks.tail,o.h⟩ k
 |false=>match zTu o.h o.o.op with
  |true=>WXd st (xoS G zf st.fr st.H st.m o.o.op) λv st=>zTt st v k
  |false=>zB2 G tb st o k
def zEp(G:Cx)(tb:TblS):List TOp->(Sta->Prop)->Sta->Prop
 |[],k,st=>k st
 |o::r,k,st=>match o.o.guard with
  |none=>zLD G tb st o λv st=>∃d,WK v d/\zEp G tb r k (st.put o.o.dst d)
  |some (t,b)=>match st.fr.get t with
   |some (.bool c)=>brT t c st λc st=>match c==b with
    |true=>zLD G tb st o λv st=>∃d,WK v d/\zEp G tb r k (st.put o.o.dst d)
    |false=>zEp G tb r k (st.put o.o.dst (.qd []))
   |some (.qd [])=>zEp G tb r k (st.put o.o.dst (.qd []))
   |_=>False
inductive PP:AV->Prop where
 |bool (b:Bool):PP (.bool b)
 |int (k:IntKind) (n:Int):PP (.int k n)
 |str (s:JV):PP (.str s)
 |qo:PP .qo
 |qa:PP .qa
 |qn:PP .qn
 |ql:PP .ql
 |qe:PP .qe
 |qc (e:AV) (off:Nat) (h:PP e):PP (.qc e off)
 |qf (sz:Nat) (es:JE) (h:∀e∈es,PP e):PP (.qf sz es)
 |func (fn:Fn) (a b:JE) (ha:∀e∈a,PP e) (hb:∀e∈b,PP e):PP (.func fn a b)
 |iface (t:Nat) (v:AV) (h:PP v):PP (.iface t v)
 |agg (cs:JE) (h:∀e∈cs,PP e):PP (.agg cs)
 |qd (cs:JE) (h:∀e∈cs,PP e):PP (.qd cs)
inductive CP(n k:Nat):AV->Prop where
 |bool (b:Bool):CP n k (.bool b)
 |int (q:IntKind) (m:Int):CP n k (.int q m)
 |str (s:JV):CP n k (.str s)
 |qo:CP n k .qo
 |qa:CP n k .qa
 |qn:CP n k .qn
 |ql:CP n k .ql
 |qe:CP n k .qe
 |ptr (h o:Nat) (hk:h<k):CP n k (.ptr h o)
 |row (h o l s c:Nat) (e:Bool) (hk:h<k):CP n k (.row h o l s c e)
 |map (h:Nat) (hk:h<k):CP n k (.map h)
 |sym (i:Nat) (h:i<n):CP n k (.sym i)
 |qc (e:AV) (off:Nat) (h:PP e):CP n k (.qc e off)
 |qf (sz:Nat) (es:JE) (h:∀e∈es,PP e):CP n k (.qf sz es)
 |func (fn:Fn) (a b:JE) (ha:∀e∈a,CP n k e) (hb:∀e∈b,CP n k e):CP n k (.func fn a b)
 |iface (t:Nat) (v:AV) (h:CP n k v):CP n k (.iface t v)
 |agg (cs:JE) (h:∀e∈cs,CP n k e):CP n k (.agg cs)
 |qd (cs:JE) (h:∀e∈cs,CP n k e):CP n k (.qd cs)
def zDj(n k:Nat)(fr:Fr):Prop:=∀t v,fr.get t=some v->CP n k v
def HCP(n k:Nat)(H:Heap):Prop:=∀p∈H,∃str cs,p.2=.cells str cs/\∀c∈cs,CP n k c
structure HV(s r:Sta):Prop where
 H:r.H=s.H
 V:r.V=s.V
 m:r.m=s.m
 mv:r.mv=s.mv
def clsQ(t:TOp):Nat:=match t.h with
 |some _=>3
 |none=>match t.o.op with
  |.wq _|.lookup _ _ _ _ _ _|.call _ _|.qO _ _=>1
  |.load _ _ _=>match isC t.ks with
   |true=>0
   |false=>1
  |.cap _=>3
  |.box _ _|.alloc _=>2
  |.qx _ _ _ _=>match t.ks with
   |[]=>3
   |.c _::_=>0
   |_=>2
  |.store _ _ _=>match t.ks with
   |[]=>3
   |_=>2
  |o=>match z8 o with
   |0=>0
   |_=>3
def zJW:Nat->JV->JV->JV->List TOp->List XD->Bool
 |_,_,_,_,[],_=>true
 |i,e,f,g,t::r,d::ds=>match clsQ t with
  |0=>zJW (i+1) e f g r ds
  |1=>f.all (λc=>d.qg.testBit c)&&zJW (i+1) e f (i::g) r ds
  |2=>e.all (λc=>d.qg.testBit c)&&zJW (i+1) (i::e) f g r ds
  |_=>e.all (λc=>d.qg.testBit c)&&g.all (λc=>d.qg.testBit c)&&zJW (i+1) (i::e) (i::f) g r ds
 |_,_,_,_,_::_,[]=>false
def zIq:List TOp->List XD->Bool
 |[],_=>true
 |o::r,d::ds=>(zKi o.o.op.qb).all (λt=>inN t d.looks)&&zeZ o.o.guard d.looks&&zIq r ds
 |_::_,[]=>false
inductive TC where
 |skip
 |ret
 |exit (i:Nat)
 |wC (ops:List TOp)
 |draw (pn:JV) (ops:List TOp) (ds:List XD)
 |vh (ops:List TOp) (ds:List XD)
 |qT (ops:List TOp) (ds:List XD)
 |seq (a b:TC)
 |cond (c:XV) (a b:TC)
 |block (i:Nat) (b:TC)
 |loop (c:Cut) (I:JV->Inv) (b:TC)
 |qF (k:Nat) (b:TC)
 |wo (c:Cut) (J:JV->Inv) (a b:TC)
def er:TC->XC
 |.skip=>.skip
 |.ret=>.ret
 |.exit i=>.exit i
 |.wC d=>.wC (d.map TOp.o)
 |.draw _ d e=>.draw (d.map TOp.o) e
 |.vh d e=>.draw (d.map TOp.o) e
 |.qT d e=>.draw (d.map TOp.o) e
 |.seq a b=>.seq (er a) (er b)
 |.cond c a b=>.cond c (er a) (er b)
 |.block i b=>.block i (er b)
 |.loop _ _ b=>.loop (er b)
 |.qF _ b=>.loop (er b)
 |.wo _ _ a b=>.seq (er a) (er b)
def zCD(G:Cx)(tb:TblS)(st:Sta)(o:XO)(e:List K)(k:AV->Sta->Prop):Prop:=
 match o with
 |.vU _|.qN _ _ _ _ _|.append _ _ _ _|.wv|.wR _ _ _ _ _|.lookup _ _ _ _ _ _=>False
 |.qx len sz z d=>WXd st (xoS G zf st.fr st.H st.m (.qx len sz z d)) k
 |.vF x=>WXd st (xoS G zf st.fr st.H st.m (.vF x)) k
 |o=>wop G tb ⟨st.fr,st.H,[],st.m,st.mv⟩ o e λv c=>k v ⟨c.fr,c.H,st.V,c.m,c.mv⟩
def zCo(G:Cx)(tb:TblS):List TOp->(Sta->Prop)->Sta->Prop
 |[],k,st=>k st
 |o::r,k,st=>match o.o.guard with
  |none=>zCD G tb st o.o.op o.ks λv st=>zCo G tb r k (st.put o.o.dst v)
  |some (t,b)=>match st.fr.get t with
   |some (.bool c)=>brT t c st λc st=>match c==b with
    |true=>zCD G tb st o.o.op o.ks λv st=>zCo G tb r k (st.put o.o.dst v)
    |false=>zCo G tb r k (st.put o.o.dst (.qd []))
   |some (.qd [])=>zCo G tb r k (st.put o.o.dst (.qd []))
   |_=>False
def zUq(Q:Ext->Sta->Prop)(k:Sta->Prop):Ext->Sta->Prop
 |.normal,st=>k st
 |.exit i,st=>Q (.exit i) st
 |.ret,st=>Q .ret st
def zU3(id:Nat)(Q:Ext->Sta->Prop):Ext->Sta->Prop
 |.normal,st=>Q .normal st
 |.exit i,st=>match Nat.beq i id with
  |true=>Q .normal st
  |false=>Q (.exit i) st
 |.ret,st=>Q .ret st
def zSp(ops:List XOper)(ds:List XD):Bool:=zPe ops ds&&zJk 0 [] [] [] [] [] [] ops ds
def zD1(G:Cx)(tb:TblS)(st:Sta)(o:TOp)(k:Sta->Prop):Prop:=match o.o.guard with
 |none=>zB2 G tb st o λv st=>∃d,WK v d/\k (st.put o.o.dst d)
 |some (t,b)=>match st.fr.get t with
  |some (.bool c)=>brT t c st λc st=>match c==b with
   |true=>zB2 G tb st o λv st=>∃d,WK v d/\k (st.put o.o.dst d)
   |false=>k (st.put o.o.dst (.qd []))
  |some (.qd [])=>k (st.put o.o.dst (.qd []))
  |_=>False
def zQj(F:Nat->TOp->Prop)(listed:Nat):Nat->List TOp->List XD->Prop
 |i,t::ts,d::ds=>match !listed.testBit i&&Nat.beq (d.qg &&& listed) d.qg with
  |true=>F i t/\zQj F listed (i+1) ts ds
  |false=>zQj F listed (i+1) ts ds
 |_,_,_=>True
def zUr(G:Cx)(tb:TblS)(ops:List TOp)(ds:List XD)(K:Sta->Prop):Nat->Nat->Sta->Prop
 |0,_,st=>K st
 |n+1,listed,st=>zQj (λi t=>zD1 G tb st t (zUr G tb ops ds K n (listed ||| 2 ^ i))) listed 0 ops ds
def zUs(fr:Fr)(t:Nat):Bool:=match fr.get t with
 |some (.ptr _ _)=>true
 |_=>false
def zCZ:Option Nat->Nat->Nat
 |none,m=>m
 |some l,m=>Min.min l m
def ltH:Nat->Nat->AV->Bool
 |0,_,_=>false
 |d+1,l,v=>match v with
  |.ptr h _|.row h _ _ _ _ _|.map h=>Nat.blt h l
  |.func _ a b=>a.all (ltH d l)&&b.all (ltH d l)
  |.iface _ v=>ltH d l v
  |.agg cs|.qd cs=>cs.all (ltH d l)
  |_=>true
def zVY(l:Nat):Heap->Bool
 |[]=>true
 |(h,.cells _ cs)::r=>(!(Nat.blt h l)||cs.all (ltH 12 l))&&zVY l r
 |_::_=>false
structure ChQ(G:Cx)(tb:TblS)(lo:Option Nat)(ops:List TOp)(c:Nat->Sta):Prop where
 st:∀(i:Nat) t,ops[i]?=some t->zD1 G tb (c i) t (λx=>x=c (i+1))
 hv:∀(i:Nat) t,ops[i]?=some t->clsQ t<=1->HV (c i) (c (i+1))
 al:∀(i:Nat) t,ops[i]?=some t->clsQ t=2->(c (i+1)).V=(c i).V/\(c (i+1)).mv=(c i).mv/\(c i).m<=(c (i+1)).m/\∀h,h<zCZ lo (c i).m->(c (i+1)).H.get h=(c i).H.get h
 cp:∀i,i<=ops.length->zDj (c i).mv (c i).m (c i).fr/\HCP (c i).mv (c i).m (c i).H
 rd:∀(i:Nat) t,ops[i]?=some t->clsQ t=1->(∀g v,XV.t g∈t.o.op.qb->(c i).fr.get g=some v->CP (c i).mv (zCZ lo (c i).m) v)/\∀h str cs,h<zCZ lo (c i).m->(c i).H.get h=some (.cells str cs)->∀x∈cs,CP (c i).mv (zCZ lo (c i).m) x
def zQk(B:Nat->(Ext->Sta->Prop)->Sta->Prop)(Q:Ext->Sta->Prop):Nat->Sta->Prop
 |0,_=>False
 |n+1,st=>B n (zUq Q (zQk B Q n)) st
def WT(G:Cx)(tb:TblS):TC->JV->(Ext->Sta->Prop)->Sta->Prop
 |.skip,d,Q,st=>Q .normal st
 |.ret,d,Q,st=>Q .ret st
 |.exit i,d,Q,st=>Q (.exit i) st
 |.wC e,d,Q,st=>zEp G tb e (Q .normal) st
 |.draw p e f,d,Q,st=>match zSp (e.map TOp.o) f&&p.all (zUs st.fr)with
  |true=>zCo G tb e (Q .normal) st
  |false=>False
 |.vh e f,d,Q,st=>zUr G tb e f (Q .normal) e.length 0 st
 |.qT e f,d,Q,st=>(zIq e f&&zJW 0 [] [] [] e f)=true/\∃q c,c 0=st/\ChQ G tb q e c/\Q .normal (c e.length)
 |.seq a b,d,Q,st=>WT G tb a d (zUq Q (WT G tb b d Q)) st
 |.cond c a b,d,Q,st=>match c.ev G st.fr with
  |some (.bool h)=>match c with
   |.t n=>brT n h st λh st=>match h with
    |true=>WT G tb a d Q st
    |false=>WT G tb b d Q st
   |_=>Br h (WT G tb a d Q st) (WT G tb b d Q st)
  |_=>False
 |.block i b,d,Q,st=>WT G tb b d (zU3 i Q) st
 |.qF k b,d,Q,st=>zQk (λn Q st=>WT G tb b (n::d) Q st) Q k st
 |.loop c I b,d,Q,st=>(∃n,zTr c (I (n::d)) st)/\∀n g H V,I (n::d) g H V->WT G tb b (n::d) (zUq Q λst=>∃l,l<n/\zTr c (I (l::d)) st) (mkW c g H V)
 |.wo c J a b,d,Q,st=>WT G tb a d (zUq Q (zTr c (J d))) st/\∀g H V,J d g H V->WT G tb b d Q (mkW c g H V)
def zG:XV->Bool
 |.c v=>zAA 12 v
 |_=>true
def z7:XO->Bool
 |.alloc z|.build z _|.qx _ _ z _|.qN _ _ _ _ z=>z.all (zAA 12)
 |.lookup _ _ _ _ z _|.ug _ _ _ z=>zAA 12 z
 |_=>true
def zx(o:XO):Bool:=o.qb.all zG&&z7 o
def zDu:TC->Bool
 |.wC c|.draw _ c _|.vh c _|.qT c _=>c.all λt=>zx t.o.op
 |.seq a b|.wo _ _ a b|.cond _ a b=>zDu a&&zDu b
 |.block _ b|.loop _ _ b|.qF _ b=>zDu b
 |_=>true
def zP7(c:List XR)(R:AV->Sta->Prop):Ext->Sta->Prop
 |.exit _,_=>False
 |_,st=>match zG3 st.H st.fr c with
  |some d=>R (zBG d) st
  |none=>False
def tcH(F:HEnt->Prop):TC->Prop
 |.wC c|.vh c _|.qT c _=>∀t∈c,∀es,t.h=some es->∀e∈es,F e
 |.seq a b|.wo _ _ a b|.cond _ a b=>tcH F a/\tcH F b
 |.block _ b|.loop _ _ b|.qF _ b=>tcH F b
 |_=>True
def zBm(H:Heap)(V:Vecs):Nat->AV->JF
 |0,_=>none
 |d+1,v=>match v with
  |.sym j=>match V.get j with
   |some (.vec sz es)=>some (.qf sz es)
   |_=>none
  |.agg cs=>match zC (zBm H V d) cs with
   |some cs=>some (.agg cs)
   |none=>none
  |.qd cs=>match zC (zBm H V d) cs with
   |some cs=>some (.qd cs)
   |none=>none
  |.ptr h off=>match H.get h with
   |some (.cells _ cs)=>match zC (zBm H V d) cs with
    |some cs=>some (.qc (.agg cs) off)
    |none=>none
   |_=>none
  |.iface t v=>match zBm H V d v with
   |some v=>some (.iface t v)
   |none=>none
  |.func f a b=>match zC (zBm H V d) a with
   |some a=>match zC (zBm H V d) b with
    |some b=>some (.func f a b)
    |none=>none
   |none=>none
  |.row _ _ _ _ _ _|.map _=>none
  |v=>some v
def zP8(c:List XR)(R:AV->Prop):Ext->Sta->Prop:=zP7 c λv st=>match zBm st.H st.V 8 v with
 |some v=>R v
 |none=>False
def zJl(fr:Fr):Nat->JV->Bool
 |_,[]=>true
 |i,t::r=>(match fr.get t with
  |some (.ptr h 0)=>Nat.beq h i
  |_=>false)&&zJl fr (i+1) r
def zOk(c:List XR)(pn:JV)(R:AV->Heap->Vecs->Prop):Ext->Sta->Prop:=zP7 c λv st=>match zbt v with
 |false=>match zCC 8 v||!zJl st.fr 0 pn with
  |false=>zC7 (List.range pn.length) (zDy st.H (List.range pn.length) []) [] st λ_ H V=>R v H V
  |true=>False
 |true=>match zJl st.fr 0 pn with
  |true=>zC7 (List.range pn.length++zQi pn.length v) (zDy st.H (List.range pn.length++zQi pn.length v) (zHt 8 v [])) [v] st λd H V=>match d with
   |[u]=>R u H V
   |_=>False
  |false=>False
def zXC(gr:JN)(c:List XR)(pn:JV)(R:AV->Heap->Vecs->Prop)(x:Ext)(st:Sta):Prop:=zOk c pn R x (zDk gr st)
def tcN(pn:JV):TC->Bool
 |.wC c|.vh c _|.qT c _=>c.all λt=>match t.o.dst with
  |some d=>!inN d pn
  |none=>true
 |.draw e c _=>(c.all λt=>match t.o.dst with
  |some d=>!inN d pn
  |none=>true)&&pn.all λt=>inN t e
 |.seq a b|.wo _ _ a b|.cond _ a b=>tcN pn a&&tcN pn b
 |.block _ b|.loop _ _ b|.qF _ b=>tcN pn b
 |_=>true
theorem PP.cp{n k:Nat}{v:AV}(h:PP v):CP n k v:=by
 induction h with
 |bool b=>exact .bool b
 |int k m=>exact .int k m
 |str s=>exact .str s
 |qo=>exact .qo
 |qa=>exact .qa
 |qn=>exact .qn
 |ql=>exact .ql
 |qe=>exact .qe
 |qc e off h _=>exact .qc e off h
 |qf sz es h _=>exact .qf sz es h
 |func fn a b _ _ f d=>exact .func fn a b f d
 |iface t v _ c=>exact .iface t v c
 |agg cs _ c=>exact .agg cs c
 |qd cs _ c=>exact .qd cs c
theorem CP.mono{n m k l:Nat}(hm:n<=m)(g:k<=l){v:AV}(h:CP n k v):CP m l v:=by
 induction h with
 |bool b=>exact .bool b
 |int k m=>exact .int k m
 |str s=>exact .str s
 |qo=>exact .qo
 |qa=>exact .qa
 |qn=>exact .qn
 |ql=>exact .ql
 |qe=>exact .qe
 |ptr h o d=>exact .ptr h o (QW d g)
 |row h o l s c e d=>exact .row h o l s c e (QW d g)
 |map h d=>exact .map h (QW d g)
 |sym i h=>exact .sym i (QW h hm)
 |qc e off h=>exact .qc e off h
 |qf sz es h=>exact .qf sz es h
 |func fn a b _ _ q p=>exact .func fn a b q p
 |iface t v _ f=>exact .iface t v f
 |agg cs _ f=>exact .agg cs f
 |qd cs _ f=>exact .qd cs f
theorem CP.min{n k l:Nat}{v:AV}(h:CP n k v)(h':CP n l v):CP n (Min.min l k) v:=by
 induction h with
 |bool b=>exact .bool b
 |int k m=>exact .int k m
 |str s=>exact .str s
 |qo=>exact .qo
 |qa=>exact .qa
 |qn=>exact .qn
 |ql=>exact .ql
 |qe=>exact .qe
 |ptr h o f=>cases h' with|ptr _ _ g=>exact .ptr h o (Nat.lt_min.2 ⟨g,f⟩)
 |row h o l s c e f=>cases h' with|row _ _ _ _ _ _ g=>exact .row h o l s c e (Nat.lt_min.2 ⟨g,f⟩)
 |map h f=>cases h' with|map _ g=>exact .map h (Nat.lt_min.2 ⟨g,f⟩)
 |sym i h=>exact .sym i h
 |qc e off h=>exact .qc e off h
 |qf sz es h=>exact .qf sz es h
 |func fn a b _ _ r q=>cases h' with|func _ _ _ u hb=>exact .func fn a b (λe d=>r e d (u e d)) (λe d=>q e d (hb e d))
 |iface t v _ p=>cases h' with|iface _ _ x=>exact .iface t v (p x)
 |agg cs _ p=>cases h' with|agg _ hc=>exact .agg cs λe d=>p e d (hc e d)
 |qd cs _ p=>cases h' with|qd _ hc=>exact .qd cs λe d=>p e d (hc e d)
theorem CP.lt{n k l:Nat}:∀(d:Nat){v:AV},CP n k v->ltH d l v=true->CP n (Min.min l k) v:=by
 intro d
 induction d with
 |zero=>intro v _ h;cases h
 |succ d u=>
  intro v hc h;have al:∀{q:JE},(∀e∈q,CP n k e)->q.all (ltH d l)=true->∀e∈q,CP n (Min.min l k) e:=λhc x e f=>u (hc e f) (QH.1 x e f)
  have bl:∀{a:Nat},a<k->Nat.blt a l=true->a<Min.min l k:=λh1 h2=>Nat.lt_min.2 ⟨by simpa[Qi]using h2,h1⟩
  cases hc with
  |bool b=>exact .bool b
  |int k m=>exact .int k m
  |str s=>exact .str s
  |qo=>exact .qo
  |qa=>exact .qa
  |qn=>exact .qn
  |ql=>exact .ql
  |qe=>exact .qe
  |ptr p o g=>exact .ptr p o (bl g h)
  |row p o l s c e g=>exact .row p o l s c e (bl g h)
  |map p g=>exact .map p (bl g h)
  |sym i hi=>exact .sym i hi
  |qc e off f=>exact .qc e off f
  |qf sz es f=>exact .qf sz es f
  |func fn a b y hb=>
   have h:(a.all (ltH d l)&&b.all (ltH d l))=true:=h;rw[QA]at h;exact .func fn a b (al y h.1) (al hb h.2)
  |iface t v z=>exact .iface t v (u z h)
  |agg cs r=>exact .agg cs (al r h)
  |qd cs r=>exact .qd cs (al r h)
theorem zU4{l:Nat}:∀{H:Heap}{h:Nat}{str:Bool}{cs:JE},zVY l H=true->h<l->H.get h=some (.cells str cs)->cs.all (ltH 12 l)=true
 |[],_,_,_,_,_,h=>by cases h
 |(g,.cells o i)::r,h,str,cs,c,f,d=>by
  simp only[zVY,QA,Bool.or_eq_true]at c;simp only[Heap.get]at d;split at d
  .rename_i e;cases d;have e:=zb e;subst e;rcases c.1 with h1|h1
   .have h2:Nat.blt g l=true:=by rw[Qi];exact f
    rw[h2]at h1;cases h1
   .exact h1
  .exact zU4 c.2 f d
 |(g,.map es)::r,h,str,cs,c,f,d=>by simp[zVY]at c
theorem zck{lo:Option Nat}{m:Nat}:zCZ lo m<=m:=by
 cases lo with
 |none=>exact QB _
 |some l=>exact Nat.min_le_right _ _
theorem zTM{lo:Option Nat}{m c:Nat}(h:m<=c):zCZ lo m<=zCZ lo c:=by
 cases lo with
 |none=>exact h
 |some l=>simp only[zCZ];omega
theorem zaw{lo:Option Nat}{m c:Nat}(h:c<=m):Min.min c (zCZ lo m)<=zCZ lo c:=by
 cases lo with
 |none=>simp only[zCZ];omega
 |some l=>simp only[zCZ];omega
theorem zA0:∀(d:Nat){v:AV},zAA d v=true->PP v:=by
 intro d
 induction d with
 |zero=>intro v h;cases h
 |succ d c=>
  intro v h;have al:∀{l:JE},l.all (zAA d)=true->∀e∈l,PP e:=λf e g=>c (QH.1 f e g)
  cases v with
  |bool b=>exact .bool b
  |int k m=>exact .int k m
  |str s=>exact .str s
  |qo=>exact .qo
  |qa=>exact .qa
  |qn=>exact .qn
  |ql=>exact .ql
  |qe=>exact .qe
  |qc e off=>exact .qc e off (c h)
  |qf sz es=>exact .qf sz es (al h)
  |func fn a b=>
   have h:(a.all (zAA d)&&b.all (zAA d))=true:=h;rw[QA]at h;exact .func fn a b (al h.1) (al h.2)
  |iface t v=>exact .iface t v (c h)
  |agg cs=>exact .agg cs (al h)
  |qd cs=>exact .qd cs (al h)
  |_=>cases h
theorem zCv{n k:Nat}:∀(d:Nat){v:AV},CP n k v->ppS d v=true->PP v:=by
 intro d
 induction d with
 |zero=>intro v _ h;cases h
 |succ d g=>
  intro v hc h;have al:∀{l:JE},(∀e∈l,CP n k e)->l.all (ppS d)=true->∀e∈l,PP e:=λhc i e c=>g (hc e c) (QH.1 i e c)
  cases hc with
  |bool b=>exact .bool b
  |int k m=>exact .int k m
  |str s=>exact .str s
  |qo=>exact .qo
  |qa=>exact .qa
  |qn=>exact .qn
  |ql=>exact .ql
  |qe=>exact .qe
  |qc e off c=>exact .qc e off c
  |qf sz es c=>exact .qf sz es c
  |func fn a b o hb=>
   have h:(a.all (ppS d)&&b.all (ppS d))=true:=h;rw[QA]at h;exact .func fn a b (al o h.1) (al hb h.2)
  |iface t v p=>exact .iface t v (g p h)
  |agg cs f=>exact .agg cs (al f h)
  |qd cs f=>exact .qd cs (al f h)
  |_=>cases h
theorem CP.cells{n k:Nat}{v:AV}(h:CP n k v):∀c∈v.cells,CP n k c:=by
 cases h with
 |agg cs h=>exact h
 |_=>intro c hc;simp only[AV.cells,QU]at hc;subst hc;constructor<;>assumption
theorem PP.cells{v:AV}(h:PP v):∀c∈v.cells,PP c:=by
 cases h with
 |agg cs h=>exact h
 |_=>intro c hc;simp only[AV.cells,QU]at hc;subst hc;constructor<;>assumption
theorem zS2{n k:Nat}{cs:JE}{off sz:Nat}{e:Bool}{v:AV}(h:∀c∈cs,CP n k c)(d:part cs off sz e=some v):CP n k v:=by
 unfold part at d;split at d
 .split at d
  .cases d;exact .agg _ λc hc=>h c (QX (QO hc))
  .cases d
 .exact h v (QF d)
theorem zS3{cs:JE}{off sz:Nat}{e:Bool}{v:AV}(h:∀c∈cs,PP c)(d:part cs off sz e=some v):PP v:=by
 unfold part at d;split at d
 .split at d
  .cases d;exact .agg _ λc hc=>h c (QX (QO hc))
  .cases d
 .exact h v (QF d)
theorem zKn{cs new:JE}{off:Nat}{c:AV}(h:c∈qm cs off new):c∈cs\/c∈new:=by
 unfold qm at h;rcases QI.1 h with h|h
 .rcases QI.1 h with h|h
  .exact .inl (QO h)
  .exact .inr h
 .exact .inl (QX h)
theorem zNA{n k:Nat}{v:AV}{sz:Nat}{cs:JE}(h:CP n k v)(hc:cellsOf v sz=some cs):∀c∈cs,CP n k c:=by
 unfold cellsOf at hc;split at hc
 .split at hc
  .cases hc;exact h.cells
  .cases hc
 .cases hc
section
variable{G:Cx}{fr:Fr}{H:Heap}{m n k:Nat}
def GPP(G:Cx):Prop:=∀g v,G.wN g=some v->PP v
theorem zY(e:GPP G)(d:zDj n k fr){x:XV}(hx:zG x=true){v:AV}(h:x.ev G fr=some v):CP n k v:=by
 cases x with
 |t k=>exact d k v h
 |c u=>cases h;exact(zA0 12 hx).cp
 |g k=>exact(e k v h).cp
theorem zFT(g:GPP G)(f:zDj n k fr):∀{xs:List XV}{vs:JE},xs.all zG=true->evs G fr xs=some vs->∀v∈vs,CP n k v
 |[],vs,_,h,v,c=>by cases h;cases c
 |x::xs,vs,e,h,v,c=>by
  rw[QY,QA]at e;simp only[evs]at h;split at h
  .rename_i u hu;split at h
   .rename_i i d;cases h;rcases QJ.1 c with rfl|c
    .exact zY g f e.1 hu
    .exact zFT g f e.2 d v c
   .cases h
  .cases h
theorem HCP.mono{n' e:Nat}(l:n<=n')(g:k<=e)(h:HCP n k H):HCP n' e H:=λp f=>let ⟨a,b,c,d⟩:=h p f;⟨a,b,c,λx i=>(d x i).mono l g⟩
theorem zDj.mono{n' c:Nat}(f:n<=n')(d:k<=c)(e:zDj n k fr):zDj n' c fr:=λt v h=>(e t v h).mono f d
theorem HCP.get(d:HCP n k H){h:Nat}{o:HO}(e:H.get h=some o):∃str cs,o=.cells str cs/\∀c∈cs,CP n k c:=d _ (Heap.qj e)
theorem HCP.cons(e:HCP n k H){h:Nat}{str:Bool}{cs:JE}(hc:∀c∈cs,CP n k c):HCP n k ((h,.cells str cs)::H):=λp d=>by
 rcases QJ.1 d with rfl|d
 .exact⟨str,cs,rfl,hc⟩
 .exact e p d
theorem zC8:∀{H:Heap}{h:Nat}{o:HO}{p:Nat×HO},p∈H.put h o->p=(h,o)\/p∈H
 |(k,d)::r,h,o,p,c=>by
  simp only[Heap.put]at c;split at c
  .rename_i hb;rcases QJ.1 c with rfl|c
   .rw[zb hb];exact .inl rfl
   .exact .inr (.tail _ c)
  .rcases QJ.1 c with rfl|c
   .exact .inr (.head _)
   .exact(zC8 c).imp id (.tail _)
theorem HCP.put(e:HCP n k H){h:Nat}{str:Bool}{cs:JE}(hc:∀c∈cs,CP n k c):HCP n k (H.put h (.cells str cs)):=λp d=>by
 rcases zC8 d with rfl|d
 .exact⟨str,cs,rfl,hc⟩
 .exact e p d
theorem zRj(d:HCP n k H){a v:AV}{sz:Nat}{i:Bool}(g:CP n k a)(h:zER H sz i a=some v):CP n k v:=by
 cases g with
 |ptr l o=>
  simp only[zER]at h;split at h
  .rename_i str cs c;obtain⟨_,_,e,hc⟩:=d.get c;cases e;exact zS2 hc h
  .cases h
 |qc e off f=>exact(zS3 f.cells h).cp
 |_=>cases h
theorem zI8(g:GPP G)(f:zDj n k fr):∀{e:List (Nat×Nat×XV)}{cs cs':JE},(e.all λp=>zG p.2.2)=true->(∀c∈cs,CP n k c)->zBe G fr cs e=some cs'->∀c∈cs',CP n k c
 |[],cs,cs',_,hc,h=>by cases h;exact hc
 |(off,sz,x)::r,cs,cs',d,hc,h=>by
  rw[QY,QA]at d;simp only[zBe]at h;split at h
  .rename_i v o;split at h
   .rename_i new i;split at h
    .exact zI8 g f d.2 (λc l=>(zKn l).elim (hc c) (zNA (zY g f d.1 o) i c)) h
    .cases h
   .cases h
  .cases h
theorem zcl{op:BinOp}{a b v:AV}(h:zEo op a b=some v):PP v:=by
 unfold zEo at h;split at h
 .rename_i k a c b;split at h
  .split at h
   .cases h
   .cases h;exact .int _ _
  .split at h
   .cases h
   .cases h;exact .int _ _
  .split at h
   .cases h
   .split at h
    all_goals first
     |(cases h;exact .int _ _)
     |(split at h<;>first|(cases h;done)|(cases h;exact .int _ _))
     |(unfold zUI at h;split at h<;>first|(cases h;done)|(cases h;exact .int _ _))
     |(unfold zbq at h;split at h<;>first|(cases h;done)|(cases h;exact .bool _))
 .rename_i a b;split at h
  .split at h
   .cases h;exact .str _
   .cases h
  all_goals first|(cases h;done)|(cases h;exact .bool _)
 .cases h
theorem zee{op:UnOp}{a v:AV}(h:xun op a=some v):PP v:=by
 unfold xun at h;split at h
 .split at h
  .cases h;exact .int _ _
  .unfold zUI at h;cases h;exact .int _ _
  .cases h
 .split at h
  .cases h;exact .bool _
  .cases h
 .cases h
def zMW:XO->Bool
 |.wM _|.pick _ _ _|.bin _ _ _|.beq _ _ _|.ui _ _ _|.vZ _ _ _ _ _|.seq _ _ _|.ur _ _ _|.uq _ _ _|.un _ _|.conv _ _|.uB _|.vA _ _|.vB _ _|.vS _ _ _ _|.ext _ _|.wg _ _ _ _ _
 |.box _ _|.alloc _|.build _ _|.qQ _|.qz _ _ _ _|.w4 _|.w7 _|.wq _|.min _ _|.max _ _|.wh _ _ _|.w8 _ _|.ug _ _ _ _|.load _ _ _|.store _ _ _|.qD _ _|.qx _ _ _ _|.qB _ _ _=>true
 |_=>false
theorem zPi{o:XO}(hd:zMW o=true)(ho:zx o=true)(l:GPP G)(g:zDj n m fr)(d:HCP n m H){v:AV}{H':Heap}{B:Nat}(h:xoS G zf fr H m o=some (v,H',B)):CP n B v/\HCP n B H':=by
 simp only[zx,QA]at ho;obtain⟨ho,p⟩:=ho;cases o<;>first|(cases hd;done)|skip
 all_goals simp only[XO.qb,QY,List.all_nil,List.all_append,QT,QA]at ho
 all_goals simp only[xoS]at h
 case wM x=>
  split at h
  .rename_i u hu;cases h;exact⟨zY l g ho hu,d⟩
  .cases h
 case pick c a b=>
  split at h
  .split at h
   .rename_i u hu;cases h;exact⟨zY l g ho.1.2 hu,d⟩
   .cases h
  .split at h
   .rename_i u hu;cases h;exact⟨zY l g ho.2 hu,d⟩
   .cases h
  .cases h
 case bin op x y=>
  split at h
  .split at h
   .rename_i u hu;cases h;exact⟨(zcl hu).cp,d⟩
   .cases h
  .cases h
 case un op x=>
  split at h
  .split at h
   .rename_i u hu;cases h;exact⟨(zee hu).cp,d⟩
   .cases h
  .cases h
 case vS x off sz ag=>
  split at h
  .rename_i cs f;have hc:=zY l g ho f;cases hc with
   |agg _ hc=>
    split at h
    .rename_i u hu;cases h;exact⟨zS2 hc hu,d⟩
    .cases h
  .cases h
 case ext x i=>
  split at h
  .rename_i O f;have hc:=zY l g ho f;cases hc with
   |qd _ hc=>
    split at h
    .rename_i u hu;cases h;exact⟨hc _ (QF hu),d⟩
    .cases h
  .cases h
 case wg x i len sz ag=>
  split at h
  .rename_i cs I f _;have hc:=zY l g ho.1 f;cases hc with
   |agg _ hc=>
    split at h
    .split at h
     .rename_i u hu;cases h;exact⟨zS2 hc hu,d⟩
     .cases h
    .cases h
  .cases h
 case box x sz=>
  split at h
  .rename_i u hu;split at h
   .rename_i cs q;cases h;exact⟨.ptr _ _ (QS _),HCP.cons (d.mono (QB _) (QV _)) λc hc=>(zNA (zY l g ho hu) q c hc).mono (QB _) (QV _)⟩
   .cases h
  .cases h
 case alloc z=>
  cases h;have p:z.all (zAA 12)=true:=p;exact⟨.ptr _ _ (QS _),HCP.cons (d.mono (QB _) (QV _)) λc hc=>(zA0 12 (QH.1 p c hc)).cp⟩
 case build z ps=>
  have p:z.all (zAA 12)=true:=p;split at h
  .rename_i cs q;cases h;refine⟨.agg _ (zI8 l g ?_ (λc hc=>(zA0 12 (QH.1 p c hc)).cp) q),d⟩
   simpa[List.all_map]using ho
  .cases h
 case qx len sz z ps=>
  have p:z.all (zAA 12)=true:=p;split at h
  .rename_i cs q;cases h;exact⟨.row _ _ _ _ _ _ (QS _),HCP.cons (d.mono (QB _) (QV _)) λc hc=>(zI8 l g (by simpa[List.all_map]using ho) (λc hc=>(zA0 12 (QH.1 p c hc)).cp) q c hc).mono (QB _) (QV _)⟩
  .cases h
 case load x sz ag=>
  split at h
  .rename_i a f;split at h
   .rename_i u hu;cases h;exact⟨zRj d (zY l g ho f) hu,d⟩
   .cases h
  .cases h
 case store a x sz=>
  split at h
  .rename_i R off u F f;split at h
   .rename_i str cs J;split at h
    .rename_i new M;split at h
     .cases h;obtain⟨_,_,e,hc⟩:=d.get J;cases e;exact⟨.qd _ (λc hc=>by cases hc),d.put λc N=>(zKn N).elim (hc c) (zNA (zY l g ho.2 f) M c)⟩
     .cases h
    .cases h
   .cases h
  .cases h
 case qQ x=>
  split at h<;>first|(cases h;done)|(rename_i f;cases h;exact⟨zY l g ho f,d⟩)
 case qD x off=>
  split at h
  .rename_i f;have hc:=zY l g ho f;cases hc with
   |ptr _ _ s=>cases h;exact⟨.ptr _ _ s,d⟩
  .rename_i e o f;have hc:=zY l g ho f;cases hc with
   |qc _ _ r=>cases h;exact⟨.qc _ _ r,d⟩
  .cases h
 case qB x i sz=>
  split at h
  .rename_i L es I f _;have hc:=zY l g ho.1 f;cases hc with
   |qf _ _ C=>
    split at h
    .split at h
     .rename_i e r;cases h;refine⟨.qc _ _ (C e ?_),d⟩
      unfold idx at r;split at r
      .exact QF r
      .cases r
     .cases h
    .cases h
  .rename_i f _;have hc:=zY l g ho.1 f;cases hc with
   |row _ _ _ _ _ _ s=>
    split at h
    .split at h
     .cases h;exact⟨.ptr _ _ s,d⟩
     .cases h
    .cases h
  .cases h
 case qz x i len sz=>
  split at h
  .rename_i f _;have hc:=zY l g ho.1 f;cases hc with
   |ptr _ _ s=>
    split at h
    .cases h;exact⟨.ptr _ _ s,d⟩
    .cases h
  .rename_i e o I f _;have hc:=zY l g ho.1 f;cases hc with
   |qc _ _ r=>
    split at h
    .cases h;exact⟨.qc _ _ r,d⟩
    .cases h
  .cases h
 case wh fn first caps=>
  split at h
  .rename_i a b F hb;cases h;exact⟨.func _ _ _ (zFT l g ho.1 F) (zFT l g ho.2 hb),d⟩
  .cases h
 case w8 t x=>
  split at h
  .rename_i u hu;cases h;exact⟨.iface _ _ (zY l g ho hu),d⟩
  .cases h
 case ug x t ok z=>
  have p:zAA 12 z=true:=p;have A:CP n m z:=(zA0 12 p).cp;split at h
  .rename_i u w f;have hc:=zY l g ho f;cases hc with
   |iface _ _ D=>
    split at h
    .cases h;refine⟨?_,d⟩
     split
     .exact .qd _ λc hc=>by
       simp only[QJ,List.not_mem_nil,or_false]at hc;rcases hc with rfl|rfl
       .exact D
       .exact .bool _
     .exact D
    .split at h
     .cases h;exact⟨.qd _ λc hc=>by
       simp only[QJ,List.not_mem_nil,or_false]at hc;rcases hc with rfl|rfl
       .exact A
       .exact .bool _,d⟩
     .cases h
  .split at h
   .cases h;exact⟨.qd _ λc hc=>by
     simp only[QJ,List.not_mem_nil,or_false]at hc;rcases hc with rfl|rfl
     .exact A
     .exact .bool _,d⟩
   .cases h
  .cases h
 all_goals
  (repeat' split at h)<;>first
   |(cases h;done)
   |(cases h;exact⟨by first|exact .bool _|exact .int _ _|exact .str _|(unfold zCk;exact .bool _),d⟩)
end
section
variable{E E':Env}{w w':World}
theorem VR.pp(A:∀b,E.Z b->E'.Z b/\w'.heap[b]? = w.heap[b]?){v:AV}{cv:Value}(h:VR E w v cv):PP v->VR E' w' v cv:=by
 induction h with
 |bool b=>intro _;exact .bool b
 |int k n h=>intro _;exact .int k n h
 |str l s h z=>intro _;exact .str l s h z
 |qo=>intro _;exact .qo
 |ptr h off hd=>intro d;cases d
 |qc e off b o cv u y _ hc q=>
  intro d;cases d with
  |qc _ _ B=>exact .qc e off b o cv u (A b y).1 (q B) λj c F=>by rw[zDw (A b y).2];exact hc j c F
 |qa=>intro _;exact .qa
 |wj sz a c hc=>intro _;exact .wj sz a c hc
 |qf es b o cap sz f y r C u _ hc q=>
  intro d;cases d with
  |qf _ _ B=>exact .qf es b o cap sz f (A b y).1 r C u (λi e hi=>q i e hi (B e (QF hi))) λi hi=>⟨(hc i hi).1,λj c F=>by rw[zDw (A b y).2];exact(hc i hi).2 j c F⟩
 |row h off len sz cp cap ex hd I r N J R hb=>intro d;cases d
 |wm h off sz ex a=>intro d;cases d
 |qn=>intro _;exact .qn
 |map h hd=>intro d;cases d
 |ql=>intro _;exact .ql
 |func fn f c L S O hc _ _ M U=>
  intro d;cases d with
  |func _ _ _ T hb=>exact .func fn f c L S O hc (λi x v g p=>M i x v g p (T x (QF g))) (λi x v g p=>U i x v g p (hb x (QF g)))
 |qe=>intro _;exact .qe
 |iface t v cv _ q=>intro d;cases d with|iface _ _ p=>exact .iface t v cv (q p)
 |agg cs D z _ h1 q=>intro d;cases d with|agg _ hc=>exact .agg cs D z (λi x v g p=>q i x v g p (hc x (QF g))) h1
 |qd cs D z _ q=>intro d;cases d with|qd _ hc=>exact .qd cs D z (λi x v g p=>q i x v g p (hc x (QF g)))
 |sym i cv B h1=>intro d;cases d
theorem VR.vG{n k:Nat}(u:∀h,h<k->E.D h->E'.D h/\E'.ρ h=E.ρ h)(A:∀b,E.Z b->E'.Z b/\w'.heap[b]? = w.heap[b]?)(hS:zAw w w')(W:∀i,i<n->E'.σ i=E.σ i){v:AV}{cv:Value}(h:VR E w v cv):CP n k v->VR E' w' v cv:=by
 induction h with
 |bool b=>intro _;exact .bool b
 |int k n h=>intro _;exact .int k n h
 |str l s h F=>intro _;exact .str l s h F
 |qo=>intro _;exact .qo
 |ptr h off hd=>
  intro d;cases d with
  |ptr _ _ r=>rw[←(u h r hd).2];exact .ptr h off (u h r hd).1
 |qc e off b o cv z C g hc y=>
  intro d;cases d with
  |qc _ _ I=>exact .qc e off b o cv z (A b C).1 (g.pp A I) λj c N=>by rw[zDw (A b C).2];exact hc j c N
 |qa=>intro _;exact .qa
 |wj sz a c hc=>intro _;exact .wj sz a c hc
 |qf es b o cap sz f C p O z g hc y=>
  intro d;cases d with
  |qf _ _ I=>exact .qf es b o cap sz f (A b C).1 p O z (λi e hi=>(g i e hi).pp A (I e (QF hi))) λi hi=>⟨(hc i hi).1,λj c N=>by rw[zDw (A b C).2];exact(hc i hi).2 j c N⟩
 |row h off len sz cp cap ex hd B p M J R hb=>
  intro d;cases d with
  |row _ _ _ _ _ _ r=>
   obtain⟨c,e,f,h1,h2⟩:=hb;obtain⟨c',V,Y,k2⟩:=hS _ c e f h1;rw[←(u h r hd).2];exact .row h off len sz cp cap ex (u h r hd).1 B p M J R ⟨c',e,V,by rw[(u h r hd).2];exact Y,by omega⟩
 |wm h off sz ex a=>intro _;exact .wm h off sz ex a
 |qn=>intro _;exact .qn
 |map h hd=>intro d;cases d with|map _ r=>rw[←(u h r hd).2];exact .map h (u h r hd).1
 |ql=>intro _;exact .ql
 |func fn f c U vc T hc _ _ rf S=>
  intro d;cases d with
  |func _ _ _ X hb=>exact .func fn f c U vc T hc (λi x v q g=>rf i x v q g (X x (QF q))) (λi x v q g=>S i x v q g (hb x (QF q)))
 |qe=>intro _;exact .qe
 |iface t v cv _ y=>intro d;cases d with|iface _ _ g=>exact .iface t v cv (y g)
 |agg cs L F _ h1 y=>intro d;cases d with|agg _ hc=>exact .agg cs L F (λi x v q g=>y i x v q g (hc x (QF q))) h1
 |qd cs L F _ y=>intro d;cases d with|qd _ hc=>exact .qd cs L F (λi x v q g=>y i x v q g (hc x (QF q)))
 |sym i cv I h1=>intro d;cases d with|sym _ hi=>exact .sym i cv (I.trans (W i hi).symm) h1
end
def zHQ(w:World)(b len sz cp:Nat)(ex:Bool)(cv:Value):Prop:=
 (∃a,cv=.slice (some a) 0 0/\len=0/\cp=0) ∨
 ∃cap,cv=.slice (some ⟨b,0,none⟩) len cap/\len<=cap/\cap<=zh/\0<sz/\cp<=cap/\(ex=true->cap=cp)/\∃c e f,w.heap[b]?=some (.cells c e f)/\0+cap*sz<=c.size
section
variable{E E':Env}{w w':World}
theorem zHQ.uJ{h len sz cp:Nat}{ex:Bool}{cv:Value}(i:VR E w (.row h 0 len sz cp ex) cv):zHQ w (E.ρ h) len sz cp ex cv:=by
 cases i with
 |row _ _ _ _ _ cap _ hd d c f e g hb=>exact .inr ⟨cap,rfl,d,c,f,e,g,hb⟩
 |wm _ _ _ _ a=>exact .inl ⟨a,rfl,rfl,rfl⟩
theorem zHQ.vr{b h len sz cp:Nat}{ex:Bool}{cv:Value}(i:zHQ w b len sz cp ex cv)(hb:E.ρ h=b)(hd:E.D h):VR E w (.row h 0 len sz cp ex) cv:=by
 subst hb;rcases i with⟨a,rfl,rfl,rfl⟩|⟨cap,rfl,d,c,g,e,f,hb⟩
 .exact .wm _ _ _ _ _
 .exact .row _ _ _ _ _ _ _ hd d c g e f hb
theorem zHQ.mono{b len sz cp:Nat}{ex:Bool}{cv:Value}(q:zHQ w b len sz cp ex cv)(r:zAw w w'):zHQ w' b len sz cp ex cv:=by
 rcases q with h|⟨cap,h1,h2,h3,h4,i,p,c,e,f,l,h8⟩
 .exact .inl h
 .obtain⟨g,o,d,s⟩:=r _ c e f l;exact .inr ⟨cap,h1,h2,h3,h4,i,p,g,e,o,d,by omega⟩
theorem zHQ.one{b len sz cp:Nat}{ex:Bool}{cv:Value}(c:zHQ w b len sz cp ex cv):cv.oneCell'=true:=by
 rcases c with⟨a,rfl,_⟩|⟨cap,rfl,_⟩<;>rfl
theorem OR.pp{b:Nat}{str:Bool}{cs:JE}(hb:w'.heap[b]? = w.heap[b]?)(o:∀b,E.Z b->E'.Z b/\w'.heap[b]? = w.heap[b]?)(l:∀c∈cs,PP c)(h:OR E w b (.cells str cs)):OR E' w' b (.cells str cs):=by
 obtain⟨c,e,f,h1,h2,h3,h4⟩:=h;exact⟨c,e,f,hb.trans h1,h2,h3,λi x g=>let ⟨v,a,b,d⟩:=h4 i x g;⟨v,a,b,d.pp o (l x (QF g))⟩⟩
theorem OR.vG{n k b:Nat}{str:Bool}{cs:JE}(hb:w'.heap[b]? = w.heap[b]?)(hm:∀{v cv},CP n k v->VR E w v cv->VR E' w' v cv)(l:∀c∈cs,CP n k c)(h:OR E w b (.cells str cs)):OR E' w' b (.cells str cs):=by
 obtain⟨c,e,f,h1,h2,h3,h4⟩:=h;exact⟨c,e,f,hb.trans h1,h2,h3,λi x g=>let ⟨v,a,b,d⟩:=h4 i x g;⟨v,a,b,hm (l x (QF g)) d⟩⟩
theorem OR.pm{b:Nat}{es:List (AV×AV)}(hb:w'.heap[b]? = w.heap[b]?)(l:∀b,E.Z b->E'.Z b/\w'.heap[b]? = w.heap[b]?)(g:∀p∈es,PP p.1/\PP p.2)(h:OR E w b (.map es)):OR E' w' b (.map es):=by
 obtain⟨c,clock,h1,h2,h3,h4⟩:=h;exact⟨c,clock,hb.trans h1,h2,λi k x f=>let ⟨m,a,b,d,e⟩:=h3 i k x f;⟨m,a,b.pp l (g _ (QF f)).1,d.pp l (g _ (QF f)).2,e⟩,h4⟩
end
def VI.qA:VI->Bool
 |.qX _ _ _=>false
 |_=>true
def VOK(E:Env)(w:World)(V:Vecs)(β:Nat->Option Nat)(j:Nat):VI->Prop
 |.vec sz es=>(∀e∈es,PP e)/\((β j=none/\E.σ j=.slice none 0 0/\es=[]) ∨
   ∃b str cs cp ex,β j=some b/\OR E w b (.cells str cs)/\zHQ w b es.length sz cp ex (E.σ j)/\(∀c∈cs,PP c)/\es.length*sz<=cs.length/\flatten sz es=some (cs.take (es.length*sz)))
 |.mp es=>(∀p∈es,PP p.1/\PP p.2)/\∃b,β j=some b/\OR E w b (.map es)/\E.σ j=.map (some b)
 |.qX d i off=>∀sz es,V.get d=some (.vec sz es)->i<es.length/\∃b,β d=some b/\E.σ j=.pointer (some ⟨b,i*sz+off,none⟩)
def BS(E:Env)(β:Nat->Option Nat)(H:Heap)(V:Vecs)(x:Nat):Prop:=(∃p∈H,E.ρ p.1=x)\/∃j c,V.get j=some c/\c.qA=true/\β j=some x
structure Kp(Z B:Nat->Prop)(w:World)(Z' B':Nat->Prop)(w':World):Prop where
 qJ:∀x,Z x->Z' x
 qS:∀x,Z' x->Z x\/B x\/w.heap.size<=x
 own:∀x,B' x->B x\/w.heap.size<=x
 tape:w'.tape=w.tape
 os:w'.os=w.os
 output:w'.output=w.output
 size:w.heap.size<=w'.heap.size
 qM:∀x,x<w.heap.size->¬B x->w'.heap[x]? = w.heap[x]?
 qp:zAw w w'
theorem Kp.refl{Z B:Nat->Prop}{w:World}:Kp Z B w Z B w:=⟨λ_ h=>h,λ_ h=>.inl h,λ_ h=>.inl h,rfl,rfl,rfl,QB _,λ_ _ _=>rfl,.refl w⟩
theorem Kp.less{Z B c:Nat->Prop}{w:World}(h:∀x,c x->B x):Kp Z B w Z c w:=⟨λ_ h=>h,λ_ h=>.inl h,λx d=>.inl (h x d),rfl,rfl,rfl,QB _,λ_ _ _=>rfl,.refl w⟩
theorem Kp.trans{Z B i f d e:Nat->Prop}{w c g:World}(h:Kp Z B w i f c)(k:Kp i f c d e g):Kp Z B w d e g where
 qJ x hx:=k.qJ x (h.qJ x hx)
 qS x hx:=by
  rcases k.qS x hx with a|a|a
  .exact h.qS x a
  .rcases h.own x a with b|b
   .exact .inr (.inl b)
   .exact .inr (.inr b)
  .exact .inr (.inr (Qh h.size a))
 own x hx:=by
  rcases k.own x hx with a|a
  .exact h.own x a
  .exact .inr (Qh h.size a)
 tape:=k.tape.trans h.tape
 os:=k.os.trans h.os
 output:=k.output.trans h.output
 size:=Qh h.size k.size
 qM x hx hb:=(k.qM x (QW hx h.size) λh1=>(h.own x h1).elim hb λh2=>by omega).trans (h.qM x hx hb)
 qp:=h.qp.trans k.qp
structure SR(G:Cx)(nt:Nat)(E:Env)(w:World)(a:Act)(β:Nat->Option Nat)(st:Sta):Prop where
 hr:HR E st.H w
 hf:FrR E w st.fr a nt
 hg:GR G E w
 qy:∀h,E.D h->h<st.m
 wa:zDj st.mv st.m st.fr
 cH:HCP st.mv st.m st.H
 qW:∀j vi,st.V.get j=some vi->j<st.mv/\VOK E w st.V β j vi
 vp:∀j j2 i off,st.V.get j=some (.qX j2 i off)->j2<st.mv
 bz:∀j vi b,st.V.get j=some vi->vi.qA=true->β j=some b->¬E.Z b/\∀p∈st.H,E.ρ p.1≠b
 qU:∀j j' vi vi' b,st.V.get j=some vi->st.V.get j'=some vi'->vi.qA=true->vi'.qA=true->β j=some b->β j'=some b->j=j'
section
variable{P:Program}{G:Cx}{nt:Nat}{E:Env}{w:World}{a:Act}{β:Nat->Option Nat}{st:Sta}
theorem VOK.lt{V:Vecs}{j:Nat}{vi:VI}{b:Nat}(h:VOK E w V β j vi)(ho:vi.qA=true)(hb:β j=some b):b<w.heap.size:=by
 cases vi with
 |vec sz es=>
  obtain⟨_,⟨h1,_⟩|⟨c,str,cs,cp,ex,h1,h2,_⟩⟩:=h
  .rw[h1]at hb;cases hb
  .rw[h1]at hb;cases hb;exact h2.lt
 |mp es=>
  obtain⟨_,c,h1,h2,_⟩:=h;rw[h1]at hb;cases hb;exact h2.lt
 |qX=>cases ho
theorem VOK.mono{E':Env}{w':World}{V p:Vecs}{o:Nat->Option Nat}{j:Nat}{vi:VI}(h:VOK E w V β j vi)(f:E'.σ j=E.σ j)(g:vi.qA=true->o j=β j)(hb:∀b,vi.qA=true->β j=some b->w'.heap[b]? = w.heap[b]?)
  (q:∀b,E.Z b->E'.Z b/\w'.heap[b]? = w.heap[b]?) (y:zAw w w') (z:∀d i off,vi=.qX d i off->∀sz es,p.get d=some (.vec sz es)->o d=β d/\∃c,V.get d=some (.vec sz c)/\c.length=es.length):VOK E' w' p o j vi:=by
 cases vi with
 |vec sz es=>
  obtain⟨e,⟨h1,h2,h3⟩|⟨b,str,cs,cp,ex,h1,h2,h3,h4,s,u⟩⟩:=h
  .exact⟨e,.inl ⟨(g rfl).trans h1,f.trans h2,h3⟩⟩
  .exact⟨e,.inr ⟨b,str,cs,cp,ex,(g rfl).trans h1,h2.pp (hb b rfl h1) q h4,by rw[f];exact h3.mono y,h4,s,u⟩⟩
 |mp es=>
  obtain⟨e,b,h1,h2,h3⟩:=h;exact⟨e,b,(g rfl).trans h1,h2.pm (hb b rfl h1) q e,f.trans h3⟩
 |qX d i off=>
  intro sz es l;obtain⟨v,c,t,x⟩:=z d i off rfl sz es l;obtain⟨r,b,h1,h2⟩:=h sz c t;exact⟨x▸r,b,v.trans h1,f.trans h2⟩
theorem zDj.qv{n k:Nat}{fr:Fr}(e:zDj n k fr){d:Option Nat}{v:AV}(f:CP n k v):zDj n k (qv fr d v):=by
 cases d with
 |none=>exact e
 |some t=>
  intro u x c;simp only[zHX,Fr.qu]at c;split at c
  .cases c;exact f
  .exact e u x c
theorem SR.step(s:SR G nt E w a β st){E':Env}{w':World}{H':Heap}{o:Nat}{d:Option Nat}{v:AV}{cv:Value}(r:HR E' H' w')(t:Tr E st.H w E' H' w' st.m o)(I:VR E' w' v cv)(A:CP st.mv o v)(z:HCP st.mv o H')(hd:∀n,d=some n->n<nt):
  SR G nt E' w' (a.put d cv) β ⟨qv st.fr d v,H',st.V,o,st.mv⟩/\Kp E.Z (BS E β st.H st.V) w E'.Z (BS E' β H' st.V) w':=by
 have i:∀b,E.Z b->E'.Z b/\w'.heap[b]? = w.heap[b]?:=λb hb=>⟨t.qJ b hb,t.qM b (s.hr.wi b hb) λp f e=>s.hr.nz p f (e▸hb)⟩
 have g:∀j c b,st.V.get j=some c->c.qA=true->β j=some b->b<w.heap.size/\w'.heap[b]? = w.heap[b]?:=λj c b h1 h2 h3=>by
  have h4:=(s.qW j c h1).2.lt h2 h3;exact⟨h4,t.qM b h4 λp f e=>(s.bz j c b h1 h2 h3).2 p f e⟩
 refine⟨⟨r,s.hf.put (t.vr s.hr) hd I,s.hg.step s.hr t,λh F=>?_,(s.wa.mono (QB _) t.le).qv A,z,λj c h1=>⟨(s.qW j c h1).1,?_⟩,s.vp,λj c b h1 h2 h3=>⟨λC=>?_,λp f e=>?_⟩,s.qU⟩,?_⟩
 .rcases(t.qy h).1 F with h1|h1
  .exact QW (s.qy h h1) t.le
  .exact h1.2
 .exact(s.qW j c h1).2.mono (congrFun t.sig j) (λ_=>rfl) (λb D hb=>(g j c b h1 D hb).2) i t.qp λ_ _ _ _ sz es h=>⟨rfl,es,h,rfl⟩
 .have h4:=s.bz j c b h1 h2 h3;rcases t.qS b C with y|⟨p,f,e⟩|y
  .exact h4.1 y
  .exact h4.2 p f e
  .have:=(g j c b h1 h2 h3).1;omega
 .have h4:=s.bz j c b h1 h2 h3;rcases t.own p f with⟨q,u,B⟩|y
  .exact h4.2 q u (B.trans e)
  .have:=(g j c b h1 h2 h3).1;omega
 .refine⟨t.qJ,λx l=>?_,λx l=>?_,t.tape,t.os,t.output,t.size,λx l hb=>t.qM x l λp f e=>hb (.inl ⟨p,f,e⟩),t.qp⟩
  .rcases t.qS x l with h|h|h
   .exact .inl h
   .exact .inr (.inl (.inl h))
   .exact .inr (.inr h)
  .rcases l with⟨p,f,rfl⟩|h
   .rcases t.own p f with⟨q,u,e⟩|h
    .exact .inl (.inl ⟨q,u,e⟩)
    .exact .inr h
   .exact .inl (.inr h)
end
theorem Vecs.qi{V:Vecs}{k j:Nat}{o:VI}:Vecs.get ((k,o)::V) j=if k=j then some o else V.get j:=by
 simp only[Vecs.get];by_cases h:k=j
 .subst h;have:Nat.beq k k=true:=Nat.beq_refl k;simp[this]
 .have:Nat.beq k j=false:=by
   cases hb:Nat.beq k j with
   |false=>rfl
   |true=>exact absurd (zb hb) h
  simp[this,h]
theorem Vecs.qR:∀{V:Vecs}{k j:Nat},(V.del k).get j=if k=j then none else V.get j
 |[],k,j=>by simp[Vecs.del,Vecs.get]
 |(i,o)::r,k,j=>by
  simp only[Vecs.del];cases hb:Nat.beq i k with
  |true=>
   have:=zb hb;subst this;simp only[Vecs.qR,Vecs.qi];split<;>rfl
  |false=>
   have c:=zAU hb;simp only[Vecs.qi,Vecs.qR];by_cases h1:i=j
   .subst h1;have:¬k=i:=λe=>c e.symm
    simp[this]
   .simp[h1]
abbrev XB:=Option (Nat×HO)
def zAX(E:Env)(m:Nat):XB->Env
 |none=>E
 |some (b,_)=>⟨λh=>if h=m then b else E.ρ h,λh=>E.D h\/h=m,E.Z,E.σ⟩
def extH(H:Heap)(m:Nat):XB->Heap
 |none=>H
 |some (_,o)=>(m,o)::H
def zHR(m:Nat):XB->Nat
 |none=>m
 |some _=>m+1
def zH(E E':Env)(mv:Nat)(x:Value):Env:=⟨E.ρ,E.D,E'.Z,λi=>if i=mv then x else E.σ i⟩
structure OutW(G:Cx)(E:Env)(w:World)(st:Sta)(xb:XB)(E':Env)(w':World)(H':Heap)(v:AV)(cv:Value):Prop where
 vK:HR E' H' w'
 hv:VR E' w' v cv
 agree:∀h,E.D h->E'.ρ h=E.ρ h
 vy:∀b o,xb=some (b,o)->E'.ρ st.m=b
 jm:∀h,h<st.m->E'.D h->E.D h
 u5:∀z,E.Z z->E'.Z z/\w'.heap[z]? = w.heap[z]?
 qS:∀z,E'.Z z->E.Z z\/(∃p∈st.H,E.ρ p.1=z)\/(∃b o,xb=some (b,o)/\z=b)\/w.heap.size<=z
 own:∀p∈H',(∃q∈st.H,E.ρ q.1=E'.ρ p.1)\/(∃b o,xb=some (b,o)/\E'.ρ p.1=b)\/w.heap.size<=E'.ρ p.1
 qM:∀x,x<w.heap.size->¬(∃p∈st.H,E.ρ p.1=x)->(∀b o,xb=some (b,o)->x≠b)->w'.heap[x]? = w.heap[x]?
 tape:w'.tape=w.tape
 os:w'.os=w.os
 output:w'.output=w.output
 size:w.heap.size<=w'.heap.size
 qp:zAw w w'
 sig:E'.σ=E.σ
 back:∀x,HR (zH E E' st.mv x) st.H w'
 conv:∀x {v c},CP st.mv st.m v->VR E w v c->VR (zH E E' st.mv x) w' v c
 gr:∀x,GR G (zH E E' st.mv x) w'
section
variable{P:Program}{G:Cx}{nt:Nat}{E:Env}{w:World}{a:Act}{β:Nat->Option Nat}{st:Sta}
theorem zJz(s:SR G nt E w a β st){xb:XB}{v:AV}{cv:Value}(h:VR E w v cv):VR (zAX E st.m xb) w v cv:=by
 cases xb with
 |none=>exact h
 |some p=>
  refine VR.mono (E:=E) (E':=zAX E st.m (some p)) (λh c=>⟨Or.inl c,?_⟩) (λb hb=>⟨hb,rfl⟩) (.refl w) h
  have:h≠st.m:=by have:=s.qy h c;omega
  simp[zAX,this]
theorem zWH(s:SR G nt E w a β st){xb:XB}(i:∀b o,xb=some (b,o)->OR E w b o/\¬E.Z b/\∀p∈st.H,E.ρ p.1≠b):HR (zAX E st.m xb) (extH st.H st.m xb) w:=by
 cases xb with
 |none=>exact s.hr
 |some p=>
  obtain⟨b,o⟩:=p;obtain⟨h1,h2,h3⟩:=i b o rfl;have h:∀p∈st.H,p.1≠st.m:=λp c=>by have:=s.qy p.1 (s.hr.qy p c);omega
  have g:∀p∈st.H,(zAX E st.m (some (b,o))).ρ p.1=E.ρ p.1:=λp c=>by simp[zAX,h p c]
  have f:(zAX E st.m (some (b,o))).ρ st.m=b:=by simp[zAX]
  refine⟨Qx.2 ⟨λf=>?_,s.hr.nodup⟩,λp c=>?_,λp c q d e=>?_,λp c=>?_,λp c=>?_,s.hr.wi⟩
  .obtain⟨p,c,e⟩:=QR.1 f;exact h p c e
  .rcases QJ.1 c with rfl|c
   .exact .inr rfl
   .exact .inl (s.hr.qy p c)
  .rcases QJ.1 c with rfl|c
   .rcases QJ.1 d with rfl|d
    .rfl
    .rw[f,g q d]at e;exact absurd e.symm (h3 q d)
   .rcases QJ.1 d with rfl|d
    .rw[g p c,f]at e;exact absurd e (h3 p c)
    .rw[g p c,g q d]at e;exact s.hr.inj p c q d e
  .rcases QJ.1 c with rfl|c
   .rw[f];exact h1.mono rfl (zJz s)
   .rw[g p c];exact(s.hr.obj p c).mono rfl (zJz s)
  .rcases QJ.1 c with rfl|c
   .rw[f];exact h2
   .rw[g p c];exact s.hr.nz p c
theorem zY0(s:SR G nt E w a β st)(hG:GPP G)(hm:zAZ P G){xb:XB}(R:∀b o,xb=some (b,o)->OR E w b o/\¬E.Z b/\∀p∈st.H,E.ρ p.1≠b){fr':Fr}(W:FrR (zAX E st.m xb) w fr' a nt)
  {o:Oper} {U:XO} (hc:zBx P o.op=some U) {v:AV} {H':Heap} {n':Nat} (hx:xoS G zf fr' (extH st.H st.m xb) (zHR st.m xb) U=some (v,H',n')) (hH:∀p∈st.H,p∈H'):
  ∀next Q,(∀cv E' w',OutW G E w st xb E' w' H' v cv->next (a.put o.dst cv) w')->o.wp P a w next Q:=by
 intro next Q hn;have ab:=zWH s R;have X:GR G (zAX E st.m xb) w:=λg u h=>⟨zJz s (s.hg g u h).1,(s.hg g u h).2⟩
 have C:zFP (zAX E st.m xb) (zHR st.m xb) n':=by
  intro h h1 h2 O;cases xb with
  |none=>have:=s.qy h O;have h1:st.m<=h:=h1;omega
  |some p=>
   have h1:st.m+1<=h:=h1;rcases O with O|O
   .have:=s.qy h O;omega
   .omega
 refine zHC ab W X hm zE9 hc C hx next Q λcv E' w' V l k3=>hn cv E' w' ?_
 have S:(zAX E st.m xb).Z=E.Z:=by cases xb<;>rfl
 have N:(zAX E st.m xb).σ=E.σ:=by cases xb<;>rfl
 have J:∀h,E.D h->(zAX E st.m xb).D h/\(zAX E st.m xb).ρ h=E.ρ h:=λh y=>by
  cases xb with
  |none=>exact⟨y,rfl⟩
  |some p=>
   have:h≠st.m:=by have:=s.qy h y;omega
   exact⟨.inl y,by simp[zAX,this]⟩
 have f:∀h,E.D h->E'.ρ h=E.ρ h:=λh y=>(l.agree h (J h y).1).trans (J h y).2
 have B:∀x,(∃p∈extH st.H st.m xb,(zAX E st.m xb).ρ p.1=x)->(∃p∈st.H,E.ρ p.1=x)\/∃b o,xb=some (b,o)/\x=b:=by
  rintro x ⟨p,d,e⟩
  cases xb with
  |none=>exact .inl ⟨p,d,e⟩
  |some q=>
   obtain⟨b,o⟩:=q;rcases QJ.1 d with rfl|d
   .exact .inr ⟨b,o,rfl,by simpa[zAX]using e.symm⟩
   .exact .inl ⟨p,d,by rw[←(J p.1 (s.hr.qy p d)).2];exact e⟩
 have F:∀x,x<w.heap.size->¬(∃p∈st.H,E.ρ p.1=x)->(∀b o,xb=some (b,o)->x≠b)->w'.heap[x]? = w.heap[x]?:=λx h1 h2 h3=>l.qM x h1 λp d e=>by
  rcases B x ⟨p,d,e⟩with h|⟨b,o,e1,Y⟩
  .exact h2 h
  .exact h3 b o e1 Y
 have A:∀z,E.Z z->E'.Z z/\w'.heap[z]? = w.heap[z]?:=λz L=>⟨l.qJ z (by rw[S];exact L),F z (s.hr.wi z L) (λ⟨p,d,e⟩=>s.hr.nz p d (e▸L)) λb o e1 Y=>(R b o e1).2.1 (Y▸L)⟩
 have r:∀h,h<st.m->E'.D h->E.D h:=λh h1 h2=>by
  rcases(l.qy h).1 h2 with h3|h3
  .cases xb with
   |none=>exact h3
   |some p=>exact h3.resolve_right (by omega)
  .cases xb with
   |none=>have h3:st.m<=h/\_:=h3;omega
   |some p=>have h3:st.m+1<=h/\_:=h3;omega
 have T:∀(x:Value) i,i<st.mv->(zH E E' st.mv x).σ i=E.σ i:=λx i hi=>by
  have:i≠st.mv:=by omega
  simp[zH,this]
 have t:∀x {v c},CP st.mv st.m v->VR E w v c->VR (zH E E' st.mv x) w' v c:=λx v c I hv=>
  VR.vG (E:=E) (E':=zH E E' st.mv x) (w:=w) (w':=w') (λh _ y=>⟨y,rfl⟩) A l.qp (T x) hv I
 refine⟨V,k3,f,λb o e=>?_,r,A,λz L=>?_,λp d=>?_,F,l.tape,l.os,l.output,l.size,l.qp,l.sig.trans N,λx=>?_,t,λx g u h=>⟨t x (hG g u h).cp (s.hg g u h).1,(s.hg g u h).2.mono l.qp⟩⟩
 .subst e;have:(zAX E st.m (some (b,o))).D st.m:=.inr rfl;rw[l.agree _ this];simp[zAX]
 .rcases l.qS z L with h|h|h
  .rw[S]at h;exact .inl h
  .rcases B z h with h|h
   .exact .inr (.inl h)
   .exact .inr (.inr (.inl h))
  .exact .inr (.inr (.inr h))
 .rcases l.own p d with h|h
  .rcases B _ h with h|h
   .exact .inl h
   .exact .inr (.inl h)
  .exact .inr (.inr h)
 .have hρ:∀p∈st.H,E'.ρ p.1=E.ρ p.1:=λp d=>f p.1 (s.hr.qy p d)
  refine⟨s.hr.nodup,s.hr.qy,s.hr.inj,λp d=>?_,λp d=>?_,V.wi⟩
  .obtain⟨str,cs,e,aa⟩:=s.cH p d;have h1:=V.obj p (hH p d);rw[e]at h1⊢;rw[hρ p d]at h1;refine OR.vG rfl (λI hv=>?_) aa h1
   exact VR.vG (E':=zH E E' st.mv x) (λh M y=>⟨r h M y,(f h (r h M y)).symm⟩) (λb hb=>⟨hb,rfl⟩) (.refl w') (λi hi=>by rw[T x i hi,l.sig,N]) hv I
  .have:=V.nz p (hH p d);rw[hρ p d]at this;exact this
theorem FrR.uM{n k:Nat}{fr:Fr}{E2:Env}{c:World}{d:Option Nat}{v:AV}{cv:Value}(f:FrR E w fr a nt)(hc:zDj n k fr)(hm:∀{v cv},CP n k v->VR E w v cv->VR E2 c v cv)(hd:∀n,d=some n->n<nt)(g:VR E2 c v cv):FrR E2 c (qv fr d v) (a.put d cv) nt:=by
 have e:FrR E2 c fr a nt:=⟨f.size,λt u h=>hm (hc t u h) (f.get t u h)⟩
 exact e.put id hd g
theorem OutW.sr(s:SR G nt E w a β st){xb:XB}{E':Env}{w':World}{H':Heap}{v:AV}{cv:Value}(O:OutW G E w st xb E' w' H' v cv)(J:∀b o,xb=some (b,o)->∃j vi,st.V.get j=some vi/\vi.qA=true/\β j=some b)
  (x:Value) (I:Vecs) (u:Nat) (y:Nat->Option Nat) {d:Option Nat} {v2:AV} (A:st.mv<=u) (U:VR (zH E E' st.mv x) w' v2 cv) (N:CP u st.m v2) (hd:∀n,d=some n->n<nt)
  (L:∀j vi,I.get j=some vi->(st.V.get j=some vi/\(vi.qA=true->y j=β j/\∀b o,xb=some (b,o)->β j≠some b)) ∨
   (j<u/\VOK (zH E E' st.mv x) w' I y j vi/\(∀q i off,vi=.qX q i off->q<u)/\(vi.qA=true->∀M,y j=some M->¬E'.Z M/\(∀p∈st.H,E.ρ p.1≠M)/\((∃b o,xb=some (b,o)/\M=b)\/w.heap.size<=M))))
  (S:∀j g vi f,I.get j=some vi->I.get g=some f->vi.qA=true->f.qA=true->¬(st.V.get j=some vi/\y j=β j/\∀b o,xb=some (b,o)->β j≠some b)->¬(st.V.get g=some f/\y g=β g/\∀b o,xb=some (b,o)->β g≠some b)->j=g)
  (Y:∀q sz es,q<st.mv->I.get q=some (.vec sz es)->y q=β q/\∃R,st.V.get q=some (.vec sz R)/\R.length=es.length):
  SR G nt (zH E E' st.mv x) w' (a.put d cv) y ⟨qv st.fr d v2,st.H,I,st.m,u⟩/\Kp E.Z (BS E β st.H st.V) w (zH E E' st.mv x).Z (BS (zH E E' st.mv x) y st.H I) w':=by
 have l:∀j vi b,st.V.get j=some vi->vi.qA=true->β j=some b->(∀c o,xb=some (c,o)->β j≠some c)->b<w.heap.size/\w'.heap[b]? = w.heap[b]?/\¬E'.Z b/\∀p∈st.H,E.ρ p.1≠b:=λj vi b h1 h2 h3 h4=>by
  have B:=(s.qW j vi h1).2.lt h2 h3;have F:=s.bz j vi b h1 h2 h3;have h7:∀c o,xb=some (c,o)->b≠c:=λc o e r=>h4 c o e (by rw[h3,r])
  refine⟨B,O.qM b B (λ⟨p,W,e⟩=>F.2 p W e) h7,λC=>?_,F.2⟩
  rcases O.qS b C with h|⟨p,W,e⟩|⟨c,o,e,r⟩|h
  .exact F.1 h
  .exact F.2 p W e
  .exact h7 c o e r
  .omega
 have hσ:∀i,i<st.mv->(zH E E' st.mv x).σ i=E.σ i:=λi hi=>by
  have:i≠st.mv:=by omega
  simp[zH,this]
 refine⟨⟨O.back x,s.hf.uM s.wa (O.conv x) hd U,O.gr x,s.qy,(s.wa.mono A (QB _)).qv N,s.cH.mono A (QB _),λj vi h1=>?_,λj q i off h1=>?_,λj vi b h1 h2 h3=>?_,λj g vi f b h1 h2 h3 h4 B F=>?_⟩,?_⟩
 .rcases L j vi h1 with⟨h2,h3⟩|⟨h2,h3,_⟩
  .have h4:=s.qW j vi h2;refine⟨QW h4.1 A,h4.2.mono (hσ j h4.1) (λT=>(h3 T).1) (λb T hb=>(l j vi b h2 T hb (h3 T).2).2.1) O.u5 O.qp λq i off e sz es X=>?_⟩
   subst e;exact Y q sz es (s.vp j q i off h2) X
  .exact⟨h2,h3⟩
 .rcases L j _ h1 with⟨h2,h3⟩|⟨h2,_,h3,_⟩
  .exact QW (s.vp j q i off h2) A
  .exact h3 q i off rfl
 .rcases L j vi h1 with⟨h4,B⟩|⟨_,_,_,h4⟩
  .rw[(B h2).1]at h3;have:=l j vi b h4 h2 h3 (B h2).2;exact⟨this.2.2.1,this.2.2.2⟩
  .have:=h4 h2 b h3;exact⟨this.1,this.2.1⟩
 .by_cases D:st.V.get j=some vi/\y j=β j/\∀b o,xb=some (b,o)->β j≠some b
  .by_cases c2:st.V.get g=some f/\y g=β g/\∀b o,xb=some (b,o)->β g≠some b
   .exact s.qU j g vi f b D.1 c2.1 h3 h4 (by rw[←D.2.1];exact B) (by rw[←c2.2.1];exact F)
   .exfalso
    have hb:β j=some b:=by rw[←D.2.1];exact B
    have hk:=l j vi b D.1 h3 hb D.2.2;rcases L g f h2 with⟨q1,t⟩|⟨_,_,_,t⟩
    .exact c2 ⟨q1,(t h4).1,(t h4).2⟩
    .rcases(t h4 b F).2.2 with⟨c,o,e,r⟩|h
     .exact D.2.2 c o e (by rw[hb,r])
     .omega
  .by_cases c2:st.V.get g=some f/\y g=β g/\∀b o,xb=some (b,o)->β g≠some b
   .exfalso
    have hb:β g=some b:=by rw[←c2.2.1];exact F
    have hk:=l g f b c2.1 h4 hb c2.2.2;rcases L j vi h1 with⟨q1,t⟩|⟨_,_,_,t⟩
    .exact D ⟨q1,(t h3).1,(t h3).2⟩
    .rcases(t h3 b B).2.2 with⟨c,o,e,r⟩|h
     .exact c2.2.2 c o e (by rw[hb,r])
     .omega
   .exact S j g vi f h1 h2 h3 h4 D c2
 .refine⟨λz C=>(O.u5 z C).1,λz C=>?_,λz C=>?_,O.tape,O.os,O.output,O.size,λz C hb=>O.qM z C (λh=>hb (.inl h)) λb o e r=>?_,O.qp⟩
  .rcases O.qS z C with h|h|⟨b,o,e,r⟩|h
   .exact .inl h
   .exact .inr (.inl (.inl h))
   .obtain⟨j,vi,h1,h2,h3⟩:=J b o e;exact .inr (.inl (.inr ⟨j,vi,h1,h2,by rw[r];exact h3⟩))
   .exact .inr (.inr h)
  .rcases C with h|⟨j,vi,h1,h2,h3⟩
   .exact .inl (.inl h)
   .rcases L j vi h1 with⟨q1,t⟩|⟨_,_,_,t⟩
    .exact .inl (.inr ⟨j,vi,q1,h2,by rw[←(t h2).1];exact h3⟩)
    .rcases(t h2 z h3).2.2 with⟨b,o,e,r⟩|h
     .obtain⟨j,vi,h1,h2,h3⟩:=J b o e;exact .inl (.inr ⟨j,vi,h1,h2,by rw[r];exact h3⟩)
     .exact .inr h
  .obtain⟨j,vi,h1,h2,h3⟩:=J b o e;exact hb (.inr ⟨j,vi,h1,h2,by rw[r];exact h3⟩)
end
theorem zV{v:AV}{sz:Nat}{cs:JE}(h:cellsOf v sz=some cs):cs.length=sz/\v.cells=cs/\v.flat=true:=by
 unfold cellsOf at h;cases hf:v.flat with
 |false=>rw[hf]at h;cases h
 |true=>
  rw[hf]at h;simp only at h;split at h
  .rename_i h2;cases h;exact⟨zb h2,rfl,rfl⟩
  .cases h
theorem z9{sz:Nat}:∀{es f:JE},flatten sz es=some f->f.length=es.length*sz/\∀(i:Nat) e,es[i]?=some e->cellsOf e sz=some ((f.drop (i*sz)).take sz)
 |[],f,h=>by cases h;exact⟨by simp,λi e d=>by simp at d⟩
 |a::r,f,h=>by
  simp only[flatten]at h;split at h
  .rename_i c hc;split at h
   .rename_i cs g;cases h;obtain⟨h1,h2⟩:=z9 g;obtain⟨h3,_,_⟩:=zV hc;refine⟨by simp[h1,h3,Nat.succ_mul];omega,λi e d=>?_⟩
    cases i with
    |zero=>
     simp only[List.getElem?_cons_zero,QK]at d;subst d;rw[hc];simp[←h3]
    |succ i=>
     rw[List.getElem?_cons_succ]at d;rw[h2 i e d];have:(i+1)*sz=c.length+i*sz:=by rw[Nat.succ_mul,h3];omega
     rw[this,←List.drop_drop,List.drop_left]
   .cases h
  .cases h
theorem zMX{sz:Nat}:∀{a b x y:JE},flatten sz a=some x->flatten sz b=some y->flatten sz (a++b)=some (x++y)
 |[],b,x,y,h,k=>by cases h;simpa using k
 |e::r,b,x,y,h,k=>by
  simp only[flatten]at h;split at h
  .rename_i c hc;split at h
   .rename_i cs d;cases h;simp only[List.cons_append,flatten,hc,zMX d k,QP]
   .cases h
  .cases h
theorem zQ1{sz:Nat}{v:AV}{new:JE}(g:cellsOf v sz=some new):∀{es e:JE}{i:Nat},flatten sz es=some e->i<es.length->flatten sz (es.set i v)=some (qm e (i*sz) new)
 |[],e,i,h,hi=>by simp at hi
 |a::r,e,i,h,hi=>by
  simp only[flatten]at h;split at h
  .rename_i c hc;split at h
   .rename_i cs d;cases h;obtain⟨h3,_,_⟩:=zV hc;obtain⟨h4,_,_⟩:=zV g;cases i with
    |zero=>
     simp only[List.set_cons_zero,flatten,g,d,qm,Nat.zero_mul,List.take_zero,List.nil_append,Qa];rw[h4,←h3,List.drop_left]
    |succ i=>
     have f:i<r.length:=by simpa using hi
     simp only[List.set_cons_succ,flatten,hc,zQ1 g d f,qm];have o:(i+1)*sz=c.length+i*sz:=by rw[Nat.succ_mul,h3];omega
     have l:(i+1)*sz+new.length=c.length+(i*sz+new.length):=by omega
     rw[l,o,List.take_length_add_append,List.drop_length_add_append];simp[QP]
   .cases h
  .cases h
theorem zPj{c:AV}(h:c.one=true):cellsOf c 1=some [c]:=by
 cases c<;>first|(cases h;done)|rfl
theorem zAk{sz:Nat}:∀{len:Nat}{cs es:JE},zC6 sz len cs=some es->es=chunks sz len cs/\es.length=len/\0<sz/\len*sz<=cs.length/\flatten sz es=some (cs.take (len*sz))
 |len,cs,es,h=>by
  unfold zC6 at h;split at h
  .rename_i hc;cases h;simp only[QA,Qr,Qi]at hc;obtain⟨⟨h1,h2⟩,h3⟩:=hc;refine⟨rfl,zOu _ _ _,h2,h1,?_⟩
   have key:∀(len:Nat)(cs:JE),len*sz<=cs.length->cs.all AV.one=true->flatten sz (chunks sz len cs)=some (cs.take (len*sz)):=by
    intro len
    induction len with
    |zero=>intro cs _ _;simp[chunks,flatten]
    |succ len t=>
     intro cs o d;have l:len*sz<=(cs.drop sz).length:=by rw[Qn];rw[Nat.succ_mul]at o;omega
     have e:(cs.drop sz).all AV.one=true:=QH.2 λx q=>QH.1 d x (QX q)
     have f:=t (cs.drop sz) l e;have g:sz<=cs.length:=by rw[Nat.succ_mul]at o;omega
     obtain⟨i,p,s⟩:∃i,chunks sz (len+1) cs=i::chunks sz len (cs.drop sz)/\cellsOf i sz=some (cs.take sz):=by
      by_cases h1:sz=1
      .subst h1;cases cs with
       |nil=>simp at g
       |cons c r=>
        rw[QY,QA]at d;exact⟨c,rfl,by simpa using zPj d.1⟩
      .refine⟨.agg (cs.take sz),?_,?_⟩
       .simp only[chunks]
       .have:(AV.agg (cs.take sz)).cells.length=sz:=by simp[AV.cells,g]
        simp only[cellsOf,AV.flat,this,Nat.beq_refl];rfl
     simp only[p,flatten,s,f];rw[Nat.succ_mul,Nat.add_comm (len*sz) sz,List.take_add]
   exact key _ _ h1 h3
  .cases h
theorem zHu:∀s:JV,flatten 1 (s.map λb=>AV.int .u8 (.ofNat b))=some (s.map λb=>AV.int .u8 (.ofNat b))
 |[]=>rfl
 |a::r=>by
  simp only[QZ,flatten,zPj (c:=.int .u8 (.ofNat a)) rfl,zHu r];rfl
theorem zKZ:∀{es:JE}{s:JV},zAr es=some s->flatten 1 es=some es
 |[],s,h=>rfl
 |a::r,s,h=>by
  unfold zAr at h;split at h
  .cases ‹_::_=[]›
  .rename_i b g e;cases e;split at h
   .rename_i f d;simp only[flatten,zPj (c:=.int .u8 (.ofNat b)) rfl,zKZ d];rfl
   .cases h
  .cases h
theorem zJY{sz:Nat}{e:AV}{c:JE}(h:cellsOf e sz=some c):∀n:Nat,flatten sz (List.replicate n e)=some (rep n c)
 |0=>rfl
 |n+1=>by simp only[List.replicate_succ,flatten,h,zJY h n,rep]
theorem zSq(c:JE):∀n:Nat,(rep n c).length=n*c.length
 |0=>by simp[rep]
 |n+1=>by simp[rep,zSq c n,Nat.succ_mul];omega
theorem zU5(c:JE):∀{l n:Nat},l<=n->(rep n c).take (l*c.length)=rep l c
 |0,n,_=>by simp[rep]
 |l+1,0,h=>by omega
 |l+1,n+1,h=>by
  simp only[rep];rw[Nat.succ_mul,Nat.add_comm,List.take_length_add_append,zU5 c (by omega)]
theorem zUi{E:Env}{w:World}{sz:Nat}{es:JE}{cv:Value}(h:VR E w (.qf sz es) cv):∃d,flatten sz es=some d:=by
 have key:∀(es:JE),(∀(i:Nat) e,es[i]?=some e->∃c,cellsOf e sz=some c)->∃d,flatten sz es=some d:=by
  intro es
  induction es with
  |nil=>intro _;exact⟨[],rfl⟩
  |cons a r u=>
   intro q;obtain⟨c,hc⟩:=q 0 a rfl;obtain⟨d,l⟩:=u λi e g=>q (i+1) e g
   exact⟨c++d,by simp only[flatten,hc,l]⟩
 cases h with
 |wj=>exact⟨[],rfl⟩
 |qf _ b o cap _ f x s t p v hc=>
  refine key es λi e g=>?_
  have hi:i<es.length:=(QC.1 g).1;have h1:e.flat=true:=by have:=p i e g;cases e<;>first|rfl|cases this
  have h2:=((v i e g).cells h1).1.1;have h3:=(hc i hi).1;refine⟨e.cells,?_⟩
  have:e.cells.length=sz:=by rw[h2];simpa using h3
  simp only[cellsOf,h1,this,Nat.beq_refl]
theorem zQ2{H:Heap}{sz:Nat}{es c:JE}(h:flatten sz es=some c):content H sz (.qf sz es)=some (es.length,c):=by
 simp only[content,Nat.beq_refl,h]
theorem zOw{E:Env}{w:World}{H:Heap}{sz:Nat}{u:AV}{f:JE}{cv:Value}(hu:VR E w u cv)(h:zBK H sz u=some f):∃d,flatten sz f=some d/\content H sz u=some (f.length,d)/\d.length=f.length*sz:=by
 unfold zBK at h;split at h
 .cases h;exact⟨[],rfl,rfl,by simp⟩
 .rename_i g es;split at h
  .rename_i e;cases h;have e:=zb e;subst e;obtain⟨d,c⟩:=zUi hu;exact⟨d,c,zQ2 c,(z9 c).1⟩
  .cases h
 .rename_i hd off len g cp ex;split at h
  .rename_i e;split at h
   .rename_i str cs o;split at h
    .rename_i i;obtain⟨_,h2,_,h4,l⟩:=zAk h;refine⟨_,l,?_,(z9 l).1⟩
     simp only[content,e,o,i,h2]
    .cases h
   .cases h
  .cases h
 .rename_i s;split at h
  .rename_i e;cases h;have p:=zb e;subst p;exact⟨_,zHu s,by simp[content,e],by simp⟩
  .cases h
 .cases h
theorem zcm{sz:Nat}{es o cs:JE}{i off s:Nat}{h:Bool}{e v:AV}(q:flatten sz es=some o)(g:o=cs.take (es.length*sz))(r:es.length*sz<=cs.length)(p:es[i]?=some e)(d:part e.cells off s h=some v):part cs (i*sz+off) s h=some v:=by
 obtain⟨h1,h2⟩:=z9 q;obtain⟨h3,h4,_⟩:=zV (h2 i e p);have hi:i<es.length:=(QC.1 p).1;have l:i*sz+sz<=es.length*sz:=by rw[←Nat.succ_mul];exact Nat.mul_le_mul_right _ hi
 have c:e.cells=(cs.drop (i*sz)).take sz:=by
  rw[h4,g,List.drop_take,List.take_take,Nat.min_eq_left (by omega)]
 have f:e.cells.length=sz:=by rw[h4];exact h3
 unfold part at d⊢;cases h with
 |true=>
  simp only at d⊢;split at d
  .rename_i hb;have hb:=QM hb;rw[f]at hb;have:Nat.ble (i*sz+off+s) cs.length=true:=by rw[Qr];omega
   rw[this];cases d;simp only;rw[c,List.drop_take,List.take_take,Nat.min_eq_left (by omega),List.drop_drop]
  .cases d
 |false=>
  simp only at d⊢;rw[c,List.getElem?_take]at d;split at d
  .rw[List.getElem?_drop]at d;exact d
  .cases d
theorem zRk:∀{d:List Kd}{a b:JE}{r:Bool},eqv d a b=some r->zCl d a b=some r/\a.length=d.length/\b.length=d.length
 |[],a,b,r,h=>by
  unfold eqv at h;split at h
  .cases h;exact⟨rfl,rfl,rfl⟩
  .cases ‹_=_::_›
  .cases h
 |k::d,a,b,r,h=>by
  unfold eqv at h;split at h
  .cases ‹_=[]›
  .rename_i t l a x b y e;cases e;split at h
   .rename_i p g;cases d with
    |nil=>
     simp only at h;split at h
     .cases h;simp only[zCl,g];cases r<;>simp[zCl]
     .cases h
    |cons v d=>
     simp only at h;split at h
     .rename_i q o;cases h;obtain⟨h1,h2,h3⟩:=zRk o;simp only[zCl,g];cases p with
      |true=>simp only[h1,Bool.true_and];exact⟨trivial,by simp[h2],by simp[h3]⟩
      |false=>exact⟨by simp,by simp[h2],by simp[h3]⟩
     .cases h
   .cases h
  .cases h
structure Rs(G:Cx)(nt:Nat)(Z0 B0:Nat->Prop)(w0:World)(dl:List Deferred)(E:Env)(w:World)(a:Act)(st:Sta):Prop where
 out:∃β,SR G nt E w a β st/\Kp Z0 B0 w0 E.Z (BS E β st.H st.V) w/\a.defers=dl
def OpK(P:Program)(G:Cx)(nt:Nat)(f e:Nat->Prop)(w0:World)(dl:List Deferred)(o:Oper)(w:World)(a:Act)(k:AV->Sta->Prop):Prop:=
 ∀(next:Act->World->Prop)(Q:Exit->Act->World->Prop),(∀v c d E' w',k v c->Rs G nt f e w0 dl E' w' (a.put o.dst d) (c.put o.dst v)->next (a.put o.dst d) w')->o.wp P a w next Q
section
variable{P:Program}{G:Cx}{nt:Nat}{E:Env}{w:World}{a:Act}{β:Nat->Option Nat}{st:Sta}
theorem FrR.jh{c:Env}{fr:Fr}{t:Nat}{X:AV}(d:FrR E w fr a nt)(hm:∀{v cv},VR E w v cv->VR c w v cv)(f:VR c w X (a.tmps.getD t undef)):FrR c w (fr.put t X) a nt:=
 ⟨d.size,λu v h=>by
  rw[Fr.qu]at h;split at h
  .rename_i e;subst e;cases h;exact f
  .exact hm (d.get u v h)⟩
theorem zIr(d:GPP G){fr:Fr}{x:XV}{j:Nat}(hx:zG x=true)(h:x.ev G fr=some (.sym j)):∃t,x=.t t/\fr.get t=some (.sym j):=by
 cases x with
 |t n=>exact⟨n,rfl,h⟩
 |c v=>cases h;cases hx
 |g n=>have:=d n _ h;cases this
theorem zFU{fr:Fr}{y:XV}{u X:AV}{t j:Nat}(h:y.ev G fr=some u)(d:fr.get t=some (.sym j))(hu:u≠.sym j):y.ev G (fr.put t X)=some u:=by
 cases y with
 |t n=>
  have h:fr.get n=some u:=h;show(fr.put t X).get n=some u
  rw[Fr.qu];split
  .rename_i e;subst e;rw[d]at h;cases h;exact absurd rfl hu
  .exact h
 |c v=>exact h
 |g n=>exact h
theorem zAm{fr:Fr}{X:AV}{t:Nat}:(XV.t t).ev G (fr.put t X)=some X:=by
 show(fr.put t X).get t=some X
 rw[Fr.qu];simp
theorem VR.vX{j:Nat}{cv:Value}(h:VR E w (.sym j) cv):cv=E.σ j:=by
 cases h with
 |sym _ _ c _=>exact c
theorem VR.bk{E':Env}{w':World}{mv:Nat}{x cv:Value}{v:AV}(h:VR E' w' v cv)(c:PP v):VR (zH E E' mv x) w' v cv:=
 VR.pp (E:=E') (E':=zH E E' mv x) (w:=w') (w':=w') (λb hb=>⟨hb,rfl⟩) h c
theorem OR.bk{E':Env}{w':World}{mv b:Nat}{x:Value}{str:Bool}{cs:JE}(h:OR E' w' b (.cells str cs))(d:∀c∈cs,PP c):OR (zH E E' mv x) w' b (.cells str cs):=
 OR.pp (E:=E') (E':=zH E E' mv x) (w:=w') (w':=w') rfl (λb hb=>⟨hb,rfl⟩) d h
theorem OR.jk{E':Env}{w':World}{mv b:Nat}{x:Value}{es:List (AV×AV)}(h:OR E' w' b (.map es))(c:∀p∈es,PP p.1/\PP p.2):OR (zH E E' mv x) w' b (.map es):=
 OR.pm (E:=E') (E':=zH E E' mv x) (w:=w') (w':=w') rfl (λb hb=>⟨hb,rfl⟩) c h
theorem OutW.vw(s:SR G nt E w a β st){xb:XB}{E':Env}{w':World}{H':Heap}{v:AV}{cv:Value}(O:OutW G E w st xb E' w' H' v cv)(D:∀b o,xb=some (b,o)->∃j vi,st.V.get j=some vi/\vi.qA=true/\β j=some b)
  {V0:Vecs} (g:∀j vi,V0.get j=some vi->st.V.get j=some vi/\(vi.qA=true->∀b o,xb=some (b,o)->β j≠some b)) {h' sz cp:Nat} {str ex:Bool} {cs es:JE} (f:(h',HO.cells str cs)∈H') (t:∀p∈st.H,p∈H'/\p.1≠h')
  (hv:v=.row h' 0 es.length sz cp ex) (I:∀e∈es,PP e) (u:∀c∈cs,PP c) (U:es.length*sz<=cs.length) (F:flatten sz es=some (cs.take (es.length*sz))) {d:Option Nat} (hd:∀n,d=some n->n<nt):
  ∃x R,SR G nt (zH E E' st.mv x) w' (a.put d cv) R ⟨qv st.fr d (.sym st.mv),st.H,(st.mv,.vec sz es)::V0,st.m,st.mv+1⟩/\Kp E.Z (BS E β st.H st.V) w (zH E E' st.mv x).Z (BS (zH E E' st.mv x) R st.H ((st.mv,.vec sz es)::V0)) w':=by
 subst hv;have l:=zHQ.uJ O.hv;have r:∀j vi,V0.get j=some vi->j≠st.mv:=λj vi h=>by have:=(s.qW j vi (g j vi h).1).1;omega
 refine⟨cv,λj=>if j=st.mv then some (E'.ρ h')else β j,O.sr s D cv _ (st.mv+1) _ (QV _) ?_ (.sym _ (QS _)) hd ?_ ?_ ?_⟩
 .exact .sym _ _ (by simp[zH]) l.one
 .intro j vi h;rw[Vecs.qi]at h;split at h
  .rename_i e;subst e;cases h;refine .inr ⟨QS _,⟨I,.inr ⟨E'.ρ h',str,cs,cp,ex,by simp,?_,?_,u,U,F⟩⟩,λz i off e=>(by cases e),λ_ b' y=>?_⟩
   .exact(O.vK.obj _ f).bk u
   .simpa[zH]using l
   .simp only[if_true,QK]at y;subst y;refine⟨O.vK.nz _ f,λp M e=>?_,?_⟩
    .obtain⟨q1,J⟩:=t p M;rw[←O.agree p.1 (s.hr.qy p M)]at e;exact J (O.vK.inj p q1 _ f e)
    .rcases O.own _ f with⟨q,L,e⟩|h|h
     .exfalso
      obtain⟨q1,J⟩:=t q L;rw[←O.agree q.1 (s.hr.qy q L)]at e;exact J (O.vK.inj q q1 _ f e)
     .exact .inl h
     .exact .inr h
  .refine .inl ⟨(g j vi h).1,λC=>⟨?_,(g j vi h).2 C⟩⟩
   simp[r j vi h]
 .intro j S vi A h1 h2 h3 h4 T Y;have key:∀j vi,Vecs.get ((st.mv,VI.vec sz es)::V0) j=some vi->vi.qA=true->¬(st.V.get j=some vi/\(if j=st.mv then some (E'.ρ h')else β j)=β j/\∀b o,xb=some (b,o)->β j≠some b)->j=st.mv:=by
   intro j vi h C X;rw[Vecs.qi]at h;split at h
   .rename_i e;exact e.symm
   .exact absurd ⟨(g j vi h).1,by simp[r j vi h],(g j vi h).2 C⟩ X
  rw[key j vi h1 h3 T,key S A h2 h4 Y]
 .intro z W B N h;rw[Vecs.qi]at h;split at h
  .omega
  .exact⟨by simp[show z≠st.mv by omega],B,(g z _ h).1,rfl⟩
theorem OutW.uA(s:SR G nt E w a β st){E':Env}{w':World}{H':Heap}{v:AV}{cv:Value}(O:OutW G E w st none E' w' H' v cv)
  {V0:Vecs} (c:∀j vi,V0.get j=some vi->st.V.get j=some vi) {sz:Nat} (F:v=.qa) {d:Option Nat} (hd:∀n,d=some n->n<nt):
  ∃x u,SR G nt (zH E E' st.mv x) w' (a.put d cv) u ⟨qv st.fr d (.sym st.mv),st.H,(st.mv,.vec sz [])::V0,st.m,st.mv+1⟩/\Kp E.Z (BS E β st.H st.V) w (zH E E' st.mv x).Z (BS (zH E E' st.mv x) u st.H ((st.mv,.vec sz [])::V0)) w':=by
 subst F;have g:cv=.slice none 0 0:=by cases O.hv;rfl
 have f:∀j vi,V0.get j=some vi->j≠st.mv:=λj vi h=>by have:=(s.qW j vi (c j vi h)).1;omega
 refine⟨cv,λj=>if j=st.mv then none else β j,O.sr s (λb o e=>(by cases e)) cv _ (st.mv+1) _ (QV _) ?_ (.sym _ (QS _)) hd ?_ ?_ ?_⟩
 .exact .sym _ _ (by simp[zH]) (by rw[g];rfl)
 .intro j vi h;rw[Vecs.qi]at h;split at h
  .rename_i e;subst e;cases h;exact .inr ⟨QS _,⟨λe D=>(by cases D),.inl ⟨by simp,by simp[zH,g],rfl⟩⟩,λr i off e=>(by cases e),λ_ I q=>(by simp at q)⟩
  .exact .inl ⟨c j vi h,λJ=>⟨by simp[f j vi h],λb o e=>(by cases e)⟩⟩
 .intro j y vi l h1 h2 h3 h4 z C;have key:∀j vi,Vecs.get ((st.mv,VI.vec sz [])::V0) j=some vi->¬(st.V.get j=some vi/\(if j=st.mv then none else β j)=β j/\∀b o,(none:XB)=some (b,o)->β j≠some b)->j=st.mv:=by
   intro j vi h B;rw[Vecs.qi]at h;split at h
   .rename_i e;exact e.symm
   .exact absurd ⟨c j vi h,by simp[f j vi h],λb o e=>by cases e⟩ B
  rw[key j vi h1 z,key y l h2 C]
 .intro r A p t h;rw[Vecs.qi]at h;split at h
  .omega
  .exact⟨by simp[show r≠st.mv by omega],p,c r _ h,rfl⟩
theorem OutW.vt(s:SR G nt E w a β st){xb:XB}{E':Env}{w':World}{H':Heap}{v:AV}{cv:Value}(O:OutW G E w st xb E' w' H' v cv)(q:∀b o,xb=some (b,o)->(st.m,o)∈H'/\∃j vi,st.V.get j=some vi/\vi.qA=true/\β j=some b)
  (f:∀j vi b o,st.V.get j=some vi->vi.qA=true->xb=some (b,o)->β j=some b->VOK (zH E E' st.mv undef) w' st.V β j vi) (r:∀b o,xb=some (b,o)->∀p∈st.H,E.ρ p.1≠b) (y:PP v) {d:Option Nat} (hd:∀n,d=some n->n<nt):
  SR G nt (zH E E' st.mv undef) w' (a.put d cv) β ⟨qv st.fr d v,st.H,st.V,st.m,st.mv⟩/\Kp E.Z (BS E β st.H st.V) w (zH E E' st.mv undef).Z (BS (zH E E' st.mv undef) β st.H st.V) w':=by
 refine O.sr s (λb o e=>(q b o e).2) undef st.V st.mv β (QB _) (O.hv.bk y) y.cp hd ?_ ?_ ?_
 .intro j vi h;by_cases l:vi.qA=true/\∃b o,xb=some (b,o)/\β j=some b
  .obtain⟨l,b,o,e,hb⟩:=l;refine .inr ⟨(s.qW j vi h).1,f j vi b o h l e hb,λD i off e=>(by subst e;cases l),λ_ z c=>?_⟩
   rw[hb]at c;cases c;have h1:=O.vK.nz _ (q b o e).1;rw[O.vy b o e]at h1;exact⟨h1,r b o e,.inl ⟨b,o,e,rfl⟩⟩
  .exact .inl ⟨h,λt=>⟨rfl,λb o e hb=>l ⟨t,b,o,e,hb⟩⟩⟩
 .intro j u vi g h1 h2 h3 h4 A C;have key:∀j vi,st.V.get j=some vi->¬(st.V.get j=some vi/\β j=β j/\∀b o,xb=some (b,o)->β j≠some b)->∃b o,xb=some (b,o)/\β j=some b:=by
   intro j vi h B;apply Classical.byContradiction;intro hc;exact B ⟨h,rfl,λb o e hb=>hc ⟨b,o,e,hb⟩⟩
  obtain⟨b,o,e,hb⟩:=key j vi h1 A;obtain⟨z,F,x,c⟩:=key u g h2 C;rw[e]at x;cases x;exact s.qU j u vi g b h1 h2 h3 h4 hb c
 .intro D sz es _ h;exact⟨rfl,es,h,rfl⟩
theorem OutW.uI(s:SR G nt E w a β st){xb:XB}{E':Env}{w':World}{H':Heap}{v:AV}{cv:Value}(O:OutW G E w st xb E' w' H' v cv)(r:∀b o,xb=some (b,o)->(st.m,o)∈H'/\∃j vi,st.V.get j=some vi/\vi.qA=true/\β j=some b)
  (g:∀j vi b o,st.V.get j=some vi->vi.qA=true->xb=some (b,o)->β j=some b->VOK (zH E E' st.mv cv) w' st.V β j vi) (A:∀b o,xb=some (b,o)->∀p∈st.H,E.ρ p.1≠b) {l i off t:Nat} {u:JE} (x:st.V.get l=some (.vec t u)) (hi:i<u.length) {B:Nat} (C:β l=some B)
  (z:cv=.pointer (some ⟨B,i*t+off,none⟩)) {d:Option Nat} (hd:∀n,d=some n->n<nt):
  SR G nt (zH E E' st.mv cv) w' (a.put d cv) β ⟨qv st.fr d (.sym st.mv),st.H,(st.mv,.qX l i off)::st.V,st.m,st.mv+1⟩/\Kp E.Z (BS E β st.H st.V) w (zH E E' st.mv cv).Z (BS (zH E E' st.mv cv) β st.H ((st.mv,.qX l i off)::st.V)) w':=by
 have I:=(s.qW l _ x).1;refine O.sr s (λb o e=>(r b o e).2) cv _ (st.mv+1) β (QV _) (.sym _ _ (by simp[zH]) (by rw[z];rfl)) (.sym _ (QS _)) hd ?_ ?_ ?_
 .intro j vi h;rw[Vecs.qi]at h;split at h
  .rename_i e;subst e;cases h;refine .inr ⟨QS _,?_,λM i2 L e=>(by cases e;omega),λc=>(by cases c)⟩
   intro sz es y;rw[Vecs.qi,if_neg (by omega),x]at y
   cases y;exact⟨hi,B,C,by simp[zH,z]⟩
  .by_cases c:vi.qA=true/\∃b o,xb=some (b,o)/\β j=some b
   .obtain⟨c,b,o,e,hb⟩:=c;refine .inr ⟨Nat.lt_succ_of_lt (s.qW j vi h).1,?_,λM i off e=>(by subst e;cases c),λ_ R f=>?_⟩
    .have:=g j vi b o h c e hb;cases vi with
     |qX=>cases c
     |_=>exact this
    .rw[hb]at f;cases f;have h1:=O.vK.nz _ (r b o e).1;rw[O.vy b o e]at h1;exact⟨h1,A b o e,.inl ⟨b,o,e,rfl⟩⟩
   .exact .inl ⟨h,λD=>⟨rfl,λb o e hb=>c ⟨D,b,o,e,hb⟩⟩⟩
 .intro j F vi q h1 h2 h3 h4 S U;have key:∀j vi,Vecs.get ((st.mv,VI.qX l i off)::st.V) j=some vi->vi.qA=true->¬(st.V.get j=some vi/\β j=β j/\∀b o,xb=some (b,o)->β j≠some b)->st.V.get j=some vi/\∃b o,xb=some (b,o)/\β j=some b:=by
   intro j vi h c T;rw[Vecs.qi]at h;split at h
   .cases h;cases c
   .refine⟨h,Classical.byContradiction λhc=>T ⟨h,rfl,λb o e hb=>hc ⟨b,o,e,hb⟩⟩⟩
  obtain⟨g1,b,o,e,hb⟩:=key j vi h1 h3 S;obtain⟨g2,R,W,J,f⟩:=key F q h2 h4 U;rw[e]at J;cases J;exact s.qU j F vi q b g1 g2 h3 h4 hb f
 .intro M sz es N h;rw[Vecs.qi,if_neg (by omega)]at h
  exact⟨rfl,es,h,rfl⟩
theorem OutW.replace(s:SR G nt E w a β st){u:Nat}{B:HO}{E':Env}{w':World}{H':Heap}{v:AV}{cv:Value}(O:OutW G E w st (some (u,B)) E' w' H' v cv){c:Nat}{g vi1:VI}(l:st.V.get c=some g)(q:g.qA=true)(p:β c=some u)
  (I:vi1.qA=true) (x:VOK (zH E E' st.mv undef) w' ((c,vi1)::st.V.del c) β c vi1) {o1:HO} (A:(st.m,o1)∈H') (y:∀sz es,vi1=.vec sz es->∃r,g=.vec sz r/\r.length=es.length) (J:PP v) {d:Option Nat} (hd:∀n,d=some n->n<nt):
  SR G nt (zH E E' st.mv undef) w' (a.put d cv) β ⟨qv st.fr d v,st.H,(c,vi1)::st.V.del c,st.m,st.mv⟩/\Kp E.Z (BS E β st.H st.V) w (zH E E' st.mv undef).Z (BS (zH E E' st.mv undef) β st.H ((c,vi1)::st.V.del c)) w':=by
 have C:=s.bz c g u l q p;refine O.sr s (λb o e=>(by cases e;exact⟨c,g,l,q,p⟩)) undef _ st.mv β (QB _) (O.hv.bk J) J.cp hd ?_ ?_ ?_
 .intro j t h;rw[Vecs.qi]at h;split at h
  .rename_i e;subst e;cases h;refine .inr ⟨(s.qW _ _ l).1,x,λW i off e=>(by subst e;cases I),λ_ X z=>?_⟩
   rw[p]at z;cases z;have h1:=O.vK.nz _ A;rw[O.vy u B rfl]at h1;exact⟨h1,C.2,.inl ⟨u,B,rfl,rfl⟩⟩
  .rename_i f;rw[Vecs.qR,if_neg f]at h;refine .inl ⟨h,λF=>⟨rfl,λb o e hb=>?_⟩⟩
   cases e;exact f (s.qU c j g t u l h q F p hb)
 .intro j L t D h1 h2 h3 h4 N T;have key:∀j t,Vecs.get ((c,vi1)::st.V.del c) j=some t->t.qA=true->¬(st.V.get j=some t/\β j=β j/\∀b o,(some (u,B):XB)=some (b,o)->β j≠some b)->j=c:=by
   intro j t h F S;rw[Vecs.qi]at h;split at h
   .rename_i e;exact e.symm
   .rename_i f;rw[Vecs.qR,if_neg f]at h;refine absurd ⟨h,rfl,λb o e hb=>?_⟩ S
    cases e;exact f (s.qU c j g t u l h q F p hb)
  rw[key j t h1 h3 N,key L D h2 h4 T]
 .intro W sz es M h;rw[Vecs.qi]at h;split at h
  .rename_i e;subst e;cases h;obtain⟨r,U,R⟩:=y sz es rfl;exact⟨rfl,r,by rw[l,U],R⟩
  .rename_i f;rw[Vecs.qR,if_neg f]at h;exact⟨rfl,es,h,rfl⟩
end
section
variable{P:Program}{G:Cx}{nt:Nat}{E:Env}{w:World}{a:Act}{β:Nat->Option Nat}{st:Sta}
 {Z0 B0:Nat->Prop} {w0:World} {dl:List Deferred} {o:Oper} {k:AV->Sta->Prop}
theorem zGi{H:Heap}{h:Nat}{o:HO}:Heap.get ((h,o)::H) h=some o:=by simp only[Heap.get,Nat.beq_refl]
theorem zCp{n k:Nat}{e:AV}(d:e.flat=true)(h:∀c∈e.cells,CP n k c):CP n k e:=by
 cases e with
 |agg cs=>exact .agg _ h
 |qd cs=>cases d
 |_=>exact h _ (.head _)
theorem zQ3{e:AV}(d:e.flat=true)(h:∀c∈e.cells,PP c):PP e:=by
 cases e with
 |agg cs=>exact .agg _ h
 |qd cs=>cases d
 |_=>exact h _ (.head _)
structure Ctx(P:Program)(G:Cx)(nt:Nat)(Z0 B0:Nat->Prop)(w0:World)(dl:List Deferred)(E:Env)(w:World)(a:Act)(β:Nat->Option Nat)(st:Sta)(o:Oper)(xop:XO):Prop where
 s:SR G nt E w a β st
 kp:Kp Z0 B0 w0 E.Z (BS E β st.H st.V) w
 df:a.defers=dl
 hG:GPP G
 hm:zAZ P G
 hc:zBx P o.op=some xop
 hd:∀n,o.dst=some n->n<nt
 ok:zx xop=true
theorem zXD{E2:Env}{c:World}{β2:Nat->Option Nat}{st2:Sta}{d:Option Nat}{cv:Value}(h:SR G nt E2 c (a.put d cv) β2 st2/\Kp E.Z (BS E β st.H st.V) w E2.Z (BS E2 β2 st2.H st2.V) c)(f:Kp Z0 B0 w0 E.Z (BS E β st.H st.V) w)(e:a.defers=dl):Rs G nt Z0 B0 w0 dl E2 c (a.put d cv) st2:=
 ⟨β2,h.1,f.trans h.2,by rw[DRun.put_defers];exact e⟩
theorem Ctx.gen{f:XO}(c:Ctx P G nt Z0 B0 w0 dl E w a β st o f){call:Sy.Call}(d:zFR P G call){v:AV}{H':Heap}{e:Nat}(hx:xoS G call st.fr st.H st.m f=some (v,H',e))(i:CP st.mv e v)(g:HCP st.mv e H')(q:k v ⟨st.fr,H',st.V,e,st.mv⟩):
  OpK P G nt Z0 B0 w0 dl o w a k:=by
 intro next Q r;refine zHC c.s.hr c.s.hf c.s.hg c.hm d c.hc (λh h1 h2 p=>by have:=c.s.qy h p;omega) hx next Q λl E' w' h1 h2 h3=>?_
 exact r v _ l E' w' q (zXD (st:=st) (st2:=⟨qv st.fr o.dst v,H',st.V,e,st.mv⟩) (c.s.step h1 h2 h3 i g c.hd) c.kp c.df)
theorem Ctx.wL{d:XO}(c:Ctx P G nt Z0 B0 w0 dl E w a β st o d)(e:zMW d=true)(h:WXd st (xoS G zf st.fr st.H st.m d) k):OpK P G nt Z0 B0 w0 dl o w a k:=by
 unfold WXd at h;split at h
 .rename_i v g i f;obtain⟨h1,h2⟩:=zPi e c.ok c.hG c.s.wa c.s.cH f;exact c.gen zE9 f h1 h2 h
 .exact h.elim
theorem Ctx.val{d:XO}(c:Ctx P G nt Z0 B0 w0 dl E w a β st o d){v:AV}(hx:xoS G zf st.fr st.H st.m d=some (v,st.H,st.m))(e:CP st.mv st.m v)(f:k v st):OpK P G nt Z0 B0 w0 dl o w a k:=
 c.gen zE9 hx e c.s.cH f
theorem Ctx.ext{d:XO}(c:Ctx P G nt Z0 B0 w0 dl E w a β st o d){xb:XB}(g:∀b o,xb=some (b,o)->OR E w b o/\¬E.Z b/\∀p∈st.H,E.ρ p.1≠b){fr':Fr}(e:FrR (zAX E st.m xb) w fr' a nt)
  {v:AV} {H':Heap} {n':Nat} (hx:xoS G zf fr' (extH st.H st.m xb) (zHR st.m xb) d=some (v,H',n')) (l:∀p∈st.H,p∈H') {v2:AV} {H2:Heap} {V2:Vecs} {m2 mv2:Nat}
  (q:∀cv E' w',OutW G E w st xb E' w' H' v cv->∃E2 β2,SR G nt E2 w' (a.put o.dst cv) β2 ⟨qv st.fr o.dst v2,H2,V2,m2,mv2⟩/\Kp E.Z (BS E β st.H st.V) w E2.Z (BS E2 β2 H2 V2) w') (i:k v2 ⟨st.fr,H2,V2,m2,mv2⟩):OpK P G nt Z0 B0 w0 dl o w a k:=by
 intro next Q f;refine zY0 c.s c.hG c.hm g e c.hc hx l next Q λcv E' w' O=>?_
 obtain⟨E2,β2,h⟩:=q cv E' w' O;exact f v2 _ cv E2 w' i (zXD (st:=st) (st2:=⟨qv st.fr o.dst v2,H2,V2,m2,mv2⟩) h c.kp c.df)
theorem zCa(s:SR G nt E w a β st){t j:Nat}(c:st.fr.get t=some (.sym j)){xb:XB}{X:AV}(d:VR (zAX E st.m xb) w X (E.σ j)):FrR (zAX E st.m xb) w (st.fr.put t X) a nt:=
 s.hf.jh (zJz s) (by rw[(s.hf.get t _ c).vX];exact d)
structure VecIn(E:Env)(w:World)(st:Sta)(β:Nat->Option Nat)(j sz:Nat)(es:JE)(b:Nat)(str:Bool)(cs:JE)(cp:Nat)(ex:Bool):Prop where
 hb:β j=some b
 je:OR E w b (.cells str cs)
 row:zHQ w b es.length sz cp ex (E.σ j)
 pc:∀c∈cs,PP c
 hl:es.length*sz<=cs.length
 uH:flatten sz es=some (cs.take (es.length*sz))
theorem zFV(s:SR G nt E w a β st){j sz:Nat}{es:JE}(h:st.V.get j=some (.vec sz es)):(∀e∈es,PP e)/\((β j=none/\E.σ j=.slice none 0 0/\es=[])\/∃b str cs cp ex,VecIn E w st β j sz es b str cs cp ex):=by
 obtain⟨h1,h2⟩:=(s.qW j _ h).2;refine⟨h1,h2.imp id ?_⟩
 rintro ⟨b,str,cs,cp,ex,q1,q2,q3,q4,q5,q6⟩
 exact⟨b,str,cs,cp,ex,q1,q2,q3,q4,q5,q6⟩
section
variable{j sz b cp:Nat}{es cs:JE}{str ex:Bool}
theorem VecIn.xb(s:SR G nt E w a β st)(h:st.V.get j=some (.vec sz es))(v:VecIn E w st β j sz es b str cs cp ex):∀c o',(some (b,HO.cells str cs):XB)=some (c,o')->OR E w c o'/\¬E.Z c/\∀p∈st.H,E.ρ p.1≠c:=by
 intro c o' e;cases e;have:=s.bz j _ b h rfl v.hb;exact⟨v.je,this.1,this.2⟩
theorem VecIn.uU(h:st.V.get j=some (.vec sz es))(v:VecIn E w st β j sz es b str cs cp ex):∀c o',(some (b,HO.cells str cs):XB)=some (c,o')->∃j vi,st.V.get j=some vi/\vi.qA=true/\β j=some c:=by
 intro c o' e;cases e;exact⟨j,_,h,rfl,v.hb⟩
theorem VecIn.vr(v:VecIn E w st β j sz es b str cs cp ex):VR (zAX E st.m (some (b,.cells str cs))) w (.row st.m 0 es.length sz cp ex) (E.σ j):=
 v.row.vr (by simp[zAX]) (.inr rfl)
theorem VecIn.self(s:SR G nt E w a β st)(g:∀e∈es,PP e)(h:st.V.get j=some (.vec sz es))(v:VecIn E w st β j sz es b str cs cp ex){E':Env}{w':World}{H':Heap}{u:AV}{cv:Value}(O:OutW G E w st (some (b,.cells str cs)) E' w' H' u cv)(d:(st.m,HO.cells str cs)∈H')(x:Value):
  ∀c vi f o',st.V.get c=some vi->vi.qA=true->(some (b,HO.cells str cs):XB)=some (f,o')->β c=some f->VOK (zH E E' st.mv x) w' st.V β c vi:=by
 intro c vi f o' h1 h2 e h3;cases e;have:=s.qU j c _ _ b h h1 rfl h2 v.hb h3;subst this;rw[h]at h1;cases h1;have i:=O.vK.obj _ d;rw[O.vy b _ rfl]at i;have l:j≠st.mv:=by have:=(s.qW j _ h).1;omega
 refine⟨g,.inr ⟨b,str,cs,cp,ex,v.hb,i.bk v.pc,?_,v.pc,v.hl,v.uH⟩⟩
 have:(zH E E' st.mv x).σ j=E.σ j:=by simp[zH,l]
 rw[this];exact v.row.mono O.qp
theorem VecIn.bz(s:SR G nt E w a β st)(h:st.V.get j=some (.vec sz es))(v:VecIn E w st β j sz es b str cs cp ex):∀c o',(some (b,HO.cells str cs):XB)=some (c,o')->∀p∈st.H,E.ρ p.1≠c:=λc o' e=>(v.xb s h c o' e).2.2
end
theorem zef{x:XV}(c:Ctx P G nt Z0 B0 w0 dl E w a β st o (.wq x)){j sz:Nat}{es:JE}(hx:x.ev G st.fr=some (.sym j))(d:st.V.get j=some (.vec sz es))(l:k (.int .i64 (.ofNat es.length)) st):OpK P G nt Z0 B0 w0 dl o w a k:=by
 have g:zG x=true:=by have:=c.ok;simp only[zx,XO.qb,z7,QT,QY,List.all_nil]at this;exact this
 obtain⟨t,rfl,i⟩:=zIr c.hG g hx;obtain⟨h,⟨h1,h2,rfl⟩|⟨b,str,cs,cp,ex,v⟩⟩:=zFV c.s d
 .refine c.ext (xb:=none) (λb o e=>by cases e) (zCa c.s i (X:=.qa) (xb:=none) (by rw[h2];exact .qa)) (v:=.int .i64 (.ofNat 0)) (H':=st.H) (n':=st.m) (by simp only[xoS,zAm];rfl) (λp f=>f) (λr E' w' O=>⟨_,_,O.vt c.s (λb o e=>by cases e) (λ_ _ _ _ _ _ e=>by cases e) (λb o e=>by cases e) (.int _ _) c.hd⟩) l
 .refine c.ext (v.xb c.s d) (zCa c.s i v.vr) (v:=.int .i64 (.ofNat es.length)) (H':=(st.m,.cells str cs)::st.H) (n':=st.m+1) (by simp only[xoS,zAm];rfl) (λp f=>.tail _ f) (λr E' w' O=>⟨_,_,O.vt c.s (λq u e=>⟨by cases e;exact .head _,v.uU d q u e⟩) (v.self c.s h d O (.head _) undef) (v.bz c.s d) (.int _ _) c.hd⟩) l
theorem zax{x i:XV}{sz:Nat}(c:Ctx P G nt Z0 B0 w0 dl E w a β st o (.qB x i sz)){j:Nat}{es:JE}(hx:x.ev G st.fr=some (.sym j))(f:st.V.get j=some (.vec sz es)){r:IntKind}{n:Int}(hi:i.ev G st.fr=some (.int r n))(A:0<=n)(h1:n<.ofNat es.length)
  (u:k (.sym st.mv) ⟨st.fr,st.H,(st.mv,.qX j n.toNat 0)::st.V,st.m,st.mv+1⟩):OpK P G nt Z0 B0 w0 dl o w a k:=by
 have h:zG x=true:=by have:=c.ok;simp only[zx,XO.qb,z7,QT,List.all_append,QY,List.all_nil,QA]at this;exact this.1
 obtain⟨t,rfl,q⟩:=zIr c.hG h hx;obtain⟨m,rfl⟩:=Int.eq_ofNat_of_zero_le A;have d:m<es.length:=by have h1:(m:Int)<(es.length:Int):=h1;omega
 rw[Int.toNat_natCast]at u;obtain⟨l,⟨_,_,rfl⟩|⟨b,str,cs,cp,ex,v⟩⟩:=zFV c.s f
 .simp at d
 .have g:=zFU (X:=.row st.m 0 es.length sz cp ex) hi q (by simp)
  refine c.ext (v.xb c.s f) (zCa c.s q v.vr) (v:=.ptr st.m (0+m*sz)) (H':=(st.m,.cells str cs)::st.H) (n':=st.m+1) ?_ (λp B=>.tail _ B) (v2:=.sym st.mv) (λz E' w' O=>⟨_,_,O.uI c.s (λy C e=>⟨by cases e;exact .head _,v.uU f y C e⟩) (v.self c.s l f O (.head _) z) (v.bz c.s f) f d v.hb ?_ c.hd⟩) u
  .have hb:Nat.blt m es.length=true:=by rw[Qi];exact d
   have:zFw es.length (.int r (m:Int))=some m:=by
    show(match Nat.blt m es.length with|true=>some m|false=>none)=some m
    rw[hb]
   simp only[xoS,zAm,g,Nat.beq_refl,this];rfl
  .have h2:=O.hv;have h3:=O.vy b _ rfl;cases h2 with
   |ptr _ _ hd=>rw[h3];simp
theorem zU6(c:SR G nt E w a β st){p j i off sz:Nat}{es:JE}(e:st.V.get p=some (.qX j i off))(d:st.V.get j=some (.vec sz es)):∃b str cs cp ex,i<es.length/\E.σ p=.pointer (some ⟨b,i*sz+off,none⟩)/\VecIn E w st β j sz es b str cs cp ex:=by
 obtain⟨h1,b,h2,h3⟩:=(c.qW p _ e).2 sz es d;obtain⟨f,⟨h4,_,_⟩|⟨g,str,cs,cp,ex,v⟩⟩:=zFV c d
 .rw[h4]at h2;cases h2
 .have:=v.hb;rw[h2]at this;cases this;exact⟨b,str,cs,cp,ex,h1,h3,v⟩
theorem zU7{b off:Nat}{ho:HO}{cv:Value}(h:cv=.pointer (some ⟨b,off,none⟩)):VR (zAX E st.m (some (b,ho))) w (.ptr st.m off) cv:=by
 subst h;have:=VR.ptr (E:=zAX E st.m (some (b,ho))) (w:=w) st.m off (.inr rfl)
 simpa[zAX]using this
theorem zeg{x:XV}{s:Nat}{z:Bool}(c:Ctx P G nt Z0 B0 w0 dl E w a β st o (.load x s z)){p j i off sz:Nat}{es:JE}(hx:x.ev G st.fr=some (.sym p))(r:st.V.get p=some (.qX j i off))(g:st.V.get j=some (.vec sz es)){v:AV}
  (l:ldE es i off s z=some v) (C:k v st):OpK P G nt Z0 B0 w0 dl o w a k:=by
 have u:zG x=true:=by have:=c.ok;simp only[zx,XO.qb,z7,QT,QY,List.all_nil]at this;exact this
 obtain⟨t,rfl,B⟩:=zIr c.hG u hx;obtain⟨b,str,cs,cp,ex,hi,F,f⟩:=zU6 c.s r g;have h:=(zFV c.s g).1;unfold ldE at l;split at l
 rotate_left
 .cases l
 rename_i e y;have d:=zcm f.uH rfl f.hl y l;have q:PP v:=zS3 (h e (QF y)).cells l;refine c.ext (f.xb c.s g) (zCa c.s B (X:=.ptr st.m (i*sz+off)) (zU7 F)) (v:=v) (H':=(st.m,.cells str cs)::st.H) (n':=st.m+1) ?_ (λp r=>.tail _ r) (λI E' w' O=>⟨_,_,O.vt c.s (λA D e=>⟨by cases e;exact .head _,f.uU g A D e⟩) (f.self c.s h g O (.head _) undef) (f.bz c.s g) q c.hd⟩) C
 simp only[xoS,zAm,zER,extH,zGi,d,zHR]
theorem zcn{x:XV}{f:Nat}(c:Ctx P G nt Z0 B0 w0 dl E w a β st o (.qD x f)){p j i off sz:Nat}{es:JE}(hx:x.ev G st.fr=some (.sym p))(h:st.V.get p=some (.qX j i off))(d:st.V.get j=some (.vec sz es))
  (z:k (.sym st.mv) ⟨st.fr,st.H,(st.mv,.qX j i (off+f))::st.V,st.m,st.mv+1⟩):OpK P G nt Z0 B0 w0 dl o w a k:=by
 have l:zG x=true:=by have:=c.ok;simp only[zx,XO.qb,z7,QT,QY,List.all_nil]at this;exact this
 obtain⟨t,rfl,u⟩:=zIr c.hG l hx;obtain⟨b,str,cs,cp,ex,hi,B,g⟩:=zU6 c.s h d;have q:=(zFV c.s d).1;refine c.ext (g.xb c.s d) (zCa c.s u (X:=.ptr st.m (i*sz+off)) (zU7 B)) (v:=.ptr st.m (i*sz+off+f)) (H':=(st.m,.cells str cs)::st.H) (n':=st.m+1) ?_ (λp h=>.tail _ h) (v2:=.sym st.mv) (λy E' w' O=>⟨_,_,O.uI c.s (λr A e=>⟨by cases e;exact .head _,g.uU d r A e⟩) (g.self c.s q d O (.head _) y) (g.bz c.s d) d hi g.hb ?_ c.hd⟩) z
 .simp only[xoS,zAm];rfl
 .have h2:=O.hv;have h3:=O.vy b _ rfl;cases h2 with
  |ptr _ _ hd=>rw[h3,Nat.add_assoc]
theorem zco{x y:XV}{sz:Nat}(c:Ctx P G nt Z0 B0 w0 dl E w a β st o (.store x y sz)){p j i:Nat}{es:JE}(hx:x.ev G st.fr=some (.sym p))(z:st.V.get p=some (.qX j i 0))(r:st.V.get j=some (.vec sz es)){v:AV}{new:JE}
  (W:y.ev G st.fr=some v) (f:PP v) (C:cellsOf v sz=some new) (S:k (.qd []) ⟨st.fr,st.H,(j,.vec sz (es.set i v))::st.V.del j,st.m,st.mv⟩):OpK P G nt Z0 B0 w0 dl o w a k:=by
 have D:zG x=true:=by have:=c.ok;simp only[zx,XO.qb,z7,QT,List.all_append,QY,List.all_nil,QA]at this;exact this.1
 obtain⟨t,rfl,N⟩:=zIr c.hG D hx;obtain⟨b,str,cs,cp,ex,hi,I,d⟩:=zU6 c.s z r;have F:=(zFV c.s r).1;have I:E.σ p=.pointer (some ⟨b,i*sz,none⟩):=I;have B:=zFU (X:=.ptr st.m (i*sz)) W N (by intro e;rw[e]at f;cases f)
 obtain⟨U,A,_⟩:=zV C;have M:i*sz+sz<=es.length*sz:=by rw[←Nat.succ_mul];exact Nat.mul_le_mul_right _ hi
 have l:(qm cs (i*sz) new).length=cs.length:=by
  have:=d.hl;simp only[qm,QE,Qj,Qn];omega
 have g:flatten sz (es.set i v)=some ((qm cs (i*sz) new).take (es.length*sz)):=by
  rw[zQ1 C d.uH hi];congr 1;have:=d.hl;simp only[qm];rw[List.take_append,List.take_append,List.take_take,List.drop_take];simp only[QE,Qj,List.take_take];congr 1
  .congr 1
   .congr 1;omega
   .rw[List.take_of_length_le (by omega)]
  .congr 1;omega
 have q:∀c∈qm cs (i*sz) new,PP c:=λc hc=>(zKn hc).elim (d.pc c) λh=>by rw[←A]at h;exact f.cells c h
 have u:∀e∈es.set i v,PP e:=λe J=>(List.mem_or_eq_of_mem_set J).elim (F e) λh=>h▸f
 refine c.ext (d.xb c.s r) (zCa c.s N (X:=.ptr st.m (i*sz)) (zU7 I)) (v:=.qd []) (H':=(st.m,.cells str (qm cs (i*sz) new))::st.H) (n':=st.m+1) ?_ (λp z=>.tail _ z) (λcv E' w' O=>⟨_,_,O.replace c.s r rfl d.hb (vi1:=.vec sz (es.set i v)) rfl ?_ (.head _) (λY T e=>by cases e;exact⟨es,rfl,by simp⟩) (.qd _ λe J=>by cases J) c.hd⟩) S
 .have L:Nat.ble (i*sz+sz) cs.length=true:=by rw[Qr];have:=d.hl;omega
  simp only[xoS,zAm,B,extH,zGi,C,L,Heap.put,Nat.beq_refl,zHR]
 .have R:=O.vK.obj _ (.head _);rw[O.vy b _ rfl]at R;have hj:j≠st.mv:=by have:=(c.s.qW j _ r).1;omega
  refine⟨u,.inr ⟨b,str,_,cp,ex,d.hb,R.bk q,?_,q,by rw[List.length_set,l];exact d.hl,by rw[List.length_set];exact g⟩⟩
  have:(zH E E' st.mv undef).σ j=E.σ j:=by simp[zH,hj]
  rw[this,List.length_set];exact d.row.mono O.qp
theorem zGj{sz:Nat}{es f:JE}(h:flatten sz es=some f)(i:∀e∈es,PP e):∀c∈f,PP c:=by
 induction es generalizing f with
 |nil=>cases h;intro c hc;cases hc
 |cons e r o=>
  simp only[flatten]at h;split at h
  .rename_i c hc;split at h
   .rename_i cs g;cases h;intro x d;rcases QI.1 d with d|d
    .obtain⟨_,h2,_⟩:=zV hc;rw[←h2]at d;exact(i e (.head _)).cells x d
    .exact o g (λe l=>i e (.tail _ l)) x d
   .cases h
  .cases h
theorem Ctx.uQ{d:XO}(c:Ctx P G nt Z0 B0 w0 dl E w a β st o d){sz cp:Nat}{str ex:Bool}{cs es:JE}(hx:xoS G zf st.fr st.H st.m d=some (.row st.m 0 es.length sz cp ex,(st.m,.cells str cs)::st.H,st.m+1))(l:∀e∈es,PP e)(i:∀c∈cs,PP c)(r:es.length*sz<=cs.length)(g:flatten sz es=some (cs.take (es.length*sz)))
  (q:k (.sym st.mv) ⟨st.fr,st.H,(st.mv,.vec sz es)::st.V,st.m,st.mv+1⟩):OpK P G nt Z0 B0 w0 dl o w a k:=by
 refine c.ext (xb:=none) (λb o e=>by cases e) c.s.hf hx (λp f=>.tail _ f) (λu E' w' O=>?_) q
 obtain⟨x,t,h⟩:=O.vw c.s (λb o e=>by cases e) (V0:=st.V) (λj v h=>⟨h,λ_ b o e=>by cases e⟩) (.head _) (λp f=>⟨.tail _ f,λe=>by have:=c.s.qy p.1 (c.s.hr.qy p f);omega⟩) rfl l i r g c.hd
 exact⟨_,t,h⟩
theorem zfb{x:XV}(c:Ctx P G nt Z0 B0 w0 dl E w a β st o (.vU x)){s:JV}(hx:x.ev G st.fr=some (.str s))(f:k (.sym st.mv) ⟨st.fr,st.H,(st.mv,.vec 1 (s.map λb=>.int .u8 (.ofNat b)))::st.V,st.m,st.mv+1⟩):OpK P G nt Z0 B0 w0 dl o w a k:=by
 have d:∀e∈s.map λb=>AV.int .u8 (.ofNat b),PP e:=λe g=>by
  obtain⟨b,_,rfl⟩:=QR.1 g;exact .int _ _
 refine c.uQ (sz:=1) (cp:=s.length) (str:=true) (ex:=false) (cs:=s.map λb=>.int .u8 (.ofNat b)) ?_ d d (by simp) ?_ f
 .simp only[xoS,hx,QG]
 .rw[zHu,List.take_of_length_le (by simp)]
theorem zU8{len sz:Nat}{z:JE}{q:List (Nat×Nat×XV)}(c:Ctx P G nt Z0 B0 w0 dl E w a β st o (.qx len sz z q)){cs es:JE}(t:zBe G st.fr z q=some cs)(r:cs.length=len*sz)(F:zC6 sz len cs=some es)(C:es.all (ppS 12)=true)
  (y:k (.sym st.mv) ⟨st.fr,st.H,(st.mv,.vec sz es)::st.V,st.m,st.mv+1⟩):OpK P G nt Z0 B0 w0 dl o w a k:=by
 obtain⟨h1,h2,h3,h4,h⟩:=zAk F;have f:=c.ok;simp only[zx,XO.qb,QA]at f;have B:z.all (zAA 12)=true:=f.2;have l:∀p∈cs,CP st.mv st.m p:=zI8 c.hG c.s.wa (by simpa[List.all_map]using f.1) (λp hc=>(zA0 12 (QH.1 B p hc)).cp) t
 have g:∀e∈es,PP e:=by
  intro e v;obtain⟨i,hi⟩:=List.getElem?_of_mem v;obtain⟨q1,I⟩:=z9 h;obtain⟨J,D,A⟩:=zV (I i e hi);refine zCv (n:=st.mv) (k:=st.m) 12 (zCp A λx u=>l x ?_) (QH.1 C e v)
  rw[D]at u;exact QO (QX (QO u))
 have d:cs.take (len*sz)=cs:=List.take_of_length_le (by omega)
 refine c.uQ (sz:=sz) (cp:=len) (str:=false) (ex:=true) (cs:=cs) ?_ g ?_ (by rw[h2];exact h4) (by rw[h2];exact h) y
 .simp only[xoS,t,h2]
 .rw[d]at h;exact zGj h g
theorem zY1{l s:XV}{sz bytes:Nat}{z:JE}(c:Ctx P G nt Z0 B0 w0 dl E w a β st o (.qN l s sz bytes z)){y D:IntKind}{n m:Int}{e:AV}(M:l.ev G st.fr=some (.int y n))(p:s.ev G st.fr=some (.int D m))(N:zC6 sz 1 z=some [e])(C:z.length=sz)
  (A:0<=n) (h1:n<=m) (h2:m.toNat*bytes<=zc) (h3:m.toNat<=zc) (B:k (.sym st.mv) ⟨st.fr,st.H,(st.mv,.vec sz (List.replicate n.toNat e))::st.V,st.m,st.mv+1⟩):OpK P G nt Z0 B0 w0 dl o w a k:=by
 obtain⟨n,rfl⟩:=Int.eq_ofNat_of_zero_le A;obtain⟨m,rfl⟩:=Int.eq_ofNat_of_zero_le (Int.le_trans A h1);rw[Int.toNat_natCast]at h2 h3 B;have h1:n<=m:=by omega
 obtain⟨q1,W,T,U,L⟩:=zAk N;have f:=c.ok;simp only[zx,XO.qb,QA]at f;have t:z.all (zAA 12)=true:=f.2;have h:∀d∈z,PP d:=λd hc=>zA0 12 (QH.1 t d hc)
 have i:cellsOf e sz=some z:=by
  have:=(z9 L).2 0 e rfl;rw[this,Nat.zero_mul,List.drop_zero,List.take_take,Nat.one_mul,Nat.min_self,List.take_of_length_le (by omega)]
 have q:PP e:=by
  obtain⟨_,I,S⟩:=zV i;exact zQ3 S λx v=>h x (by rw[←I];exact v)
 have g:∀d∈rep m z,PP d:=by
  have:∀m,∀d∈rep m z,PP d:=by
   intro m
   induction m with
   |zero=>intro d hc;cases hc
   |succ m R=>intro d hc;exact(QI.1 hc).elim (h d) (R d)
  exact this m
 refine c.uQ (sz:=sz) (cp:=m) (str:=false) (ex:=true) (cs:=rep m z) ?_ (λx v=>by rw[(List.mem_replicate.1 v).2];exact q) g ?_ ?_ B
 .have F:Nat.ble n m=true:=by rw[Qr];exact h1
  have O:Nat.ble (m*bytes) zc=true:=by rw[Qr];exact h2
  have J:Nat.ble m zc=true:=by rw[Qr];exact h3
  have u:l.ev G st.fr=some (.int y (.ofNat n)):=M;have r:s.ev G st.fr=some (.int D (.ofNat m)):=p;simp only[xoS,u,r,F,O,J,List.length_replicate]
 .rw[List.length_replicate,zSq,C];exact Nat.mul_le_mul_right _ h1
 .rw[zJY i,List.length_replicate,←C,zU5 z h1]
theorem zcp(c:Ctx P G nt Z0 B0 w0 dl E w a β st o .wv)(D:k (.sym st.mv) ⟨st.fr,st.H,(st.mv,.mp [])::st.V,st.m,st.mv+1⟩):OpK P G nt Z0 B0 w0 dl o w a k:=by
 refine c.ext (xb:=none) (λb o e=>by cases e) c.s.hf (v:=.map st.m) (H':=(st.m,.map [])::st.H) (n':=st.m+1) rfl (λp f=>.tail _ f) (v2:=.sym st.mv) (λz E' w' O=>?_) D
 have g:∀j d,st.V.get j=some d->j≠st.mv:=λj d h=>by have:=(c.s.qW j d h).1;omega
 have t:z=.map (some (E'.ρ st.m)):=by cases O.hv;rfl
 have l:∀p∈st.H,p.1≠st.m:=λp f e=>by have:=c.s.qy p.1 (c.s.hr.qy p f);omega
 refine⟨_,λj=>if j=st.mv then some (E'.ρ st.m)else β j,O.sr c.s (λb o e=>by cases e) z _ (st.mv+1) _ (QV _) (.sym _ _ (by simp[zH]) (by rw[t];rfl)) (.sym _ (QS _)) c.hd ?_ ?_ ?_⟩
 .intro j d h;rw[Vecs.qi]at h;split at h
  .rename_i e;subst e;cases h;refine .inr ⟨QS _,⟨λp f=>(by cases f),E'.ρ st.m,by simp,(O.vK.obj _ (.head _)).jk (λp f=>by cases f),by simp[zH,t]⟩,λB i off e=>(by cases e),λ_ M r=>?_⟩
   simp only[if_true,QK]at r;subst r;refine⟨O.vK.nz _ (.head _),λp f e=>?_,?_⟩
   .rw[←O.agree p.1 (c.s.hr.qy p f)]at e;exact l p f (O.vK.inj p (.tail _ f) _ (.head _) e)
   .rcases O.own _ (.head _)with⟨q,u,e⟩|h|h
    .exfalso
     rw[←O.agree q.1 (c.s.hr.qy q u)]at e;exact l q u (O.vK.inj q (.tail _ u) _ (.head _) e)
    .exact .inl h
    .exact .inr h
  .exact .inl ⟨h,λN=>⟨by simp[g j d h],λb o e=>(by cases e)⟩⟩
 .intro j C d x h1 h2 h3 h4 F L;have key:∀j d,Vecs.get ((st.mv,VI.mp [])::st.V) j=some d->¬(st.V.get j=some d/\(if j=st.mv then some (E'.ρ st.m)else β j)=β j/\∀b o,(none:XB)=some (b,o)->β j≠some b)->j=st.mv:=by
   intro j d h J;rw[Vecs.qi]at h;split at h
   .rename_i e;exact e.symm
   .exact absurd ⟨h,by simp[g j d h],λb o e=>by cases e⟩ J
  rw[key j d h1 F,key C x h2 L]
 .intro B I y A h;rw[Vecs.qi,if_neg (by omega)]at h
  exact⟨by simp[show B≠st.mv by omega],y,h,rfl⟩
end
section
variable{P:Program}{G:Cx}{nt:Nat}{E:Env}{w:World}{a:Act}{β:Nat->Option Nat}{st:Sta}
 {Z0 B0:Nat->Prop} {w0:World} {dl:List Deferred} {o:Oper} {k:AV->Sta->Prop}
theorem zWh{n m sz:Nat}{H:Heap}{o:HO}{u:AV}(hu:CP n m u):content ((m,o)::H) sz u=content H sz u:=by
 cases hu with
 |row h _ _ _ _ _ c=>
  have:Nat.beq m h=false:=by
   cases hb:Nat.beq m h with
   |false=>rfl
   |true=>have:=zb hb;omega
  simp only[content,Heap.get,this]
 |_=>rfl
theorem zWi{cs c:JE}{n:Nat}(h:n<=cs.length):(qm cs n c).take (n+c.length)=cs.take n++c:=by
 unfold qm;rw[List.take_append_of_le_length (by simp;omega),List.take_of_length_le (by simp;omega)]
theorem zXE{cs c:JE}{n:Nat}(h:n<=cs.length):n+c.length<=(qm cs n c).length:=by
 simp only[qm,QE,Qj,Qn];omega
theorem zTN{x y:XV}{sz bytes:Nat}(c:Ctx P G nt Z0 B0 w0 dl E w a β st o (.append x y sz bytes)){u:AV}{p:JE}(L:zPg y=false)(A:y.ev G st.fr=some u)(d:zBK st.H sz u=some p)(f:(zQh u||ppS 12 (.agg p))=true):
  ∃q,flatten sz p=some q/\content st.H sz u=some (p.length,q)/\q.length=p.length*sz/\(∀e∈p,PP e)/\CP st.mv st.m u:=by
 have B:zG x=true/\zG y=true:=by have:=c.ok;simp only[zx,XO.qb,z7,QT,List.all_append,QY,List.all_nil,QA]at this;exact this
 have r:CP st.mv st.m u:=zY c.hG c.s.wa B.2 A;obtain⟨q,C,v,F⟩:∃q,flatten sz p=some q/\content st.H sz u=some (p.length,q)/\q.length=p.length*sz:=by
  cases y with
  |t n=>exact zOw (c.s.hf.get n u A) d
  |g n=>exact zOw (c.s.hg n u A).1 d
  |c M=>
   have A:M=u:=by simpa[XV.ev]using A
   subst A;cases M with
   |qa=>cases d;exact⟨[],rfl,rfl,by simp⟩
   |qf=>cases L
   |row=>exact absurd B.2 (by simp[zG,zAA])
   |str s=>
    simp only[zBK]at d;split at d
    .rename_i hb;cases d;have T:=zb hb;subst T;exact⟨_,zHu s,by simp[content],by simp⟩
    .cases d
   |_=>cases d
 refine⟨q,C,v,F,?_,r⟩
 rw[Bool.or_eq_true]at f;rcases f.symm with f|f
 ·
  have D:CP st.mv st.m (.agg p):=by
   refine .agg _ λe l=>?_
   cases u with
   |qa=>cases d;cases l
   |qf I es=>
    simp only[zBK]at d;split at d
    .cases d;cases r with
     |qf _ _ h=>exact(h e l).cp
    .cases d
   |row=>
    simp only[zBK]at d;split at d
    .split at d
     .rename_i str cs R;split at d
      .obtain⟨_,q2,_,q4,V⟩:=zAk d;obtain⟨i,hi⟩:=List.getElem?_of_mem l;obtain⟨r1,X⟩:=z9 V;obtain⟨r3,S,U⟩:=zV (X i e hi);obtain⟨N,W,Y,J⟩:=c.s.cH.get R;cases Y;refine zCp U λz O=>J z ?_
       rw[S]at O;exact QX (QO (QX (QO O)))
      .cases d
     .cases d
    .cases d
   |str s=>
    simp only[zBK]at d;split at d
    .cases d;obtain⟨b,_,rfl⟩:=QR.1 l;exact .int _ _
    .cases d
   |_=>cases d
  have:=zCv 12 D f;cases this with
  |agg _ h=>exact h
 .cases u with
  |qf I es=>
   simp only[zBK]at d;split at d
   .cases d;cases r with
    |qf _ _ h=>exact h
   .cases d
  |str s=>
   simp only[zBK]at d;split at d
   .cases d;intro e l;obtain⟨b,_,rfl⟩:=QR.1 l;exact .int _ _
   .cases d
  |_=>cases f
theorem zPk{x y:XV}{sz bytes:Nat}(c:Ctx P G nt Z0 B0 w0 dl E w a β st o (.append x y sz bytes)){u:AV}{t:JE}(C:zPg y=false){fr':Fr}(i:FrR E w fr' a nt)(hx:x.ev G fr'=some .qa)(l:y.ev G fr'=some u)(L:y.ev G st.fr=some u)(T:zBK st.H sz u=some t)(B:(zQh u||ppS 12 (.agg t))=true)
  (hb:t.length*bytes<=zc) {V0:Vecs} (q:∀j vi,V0.get j=some vi->st.V.get j=some vi) (F:k (.sym st.mv) ⟨st.fr,st.H,(st.mv,.vec sz t)::V0,st.m,st.mv+1⟩):OpK P G nt Z0 B0 w0 dl o w a k:=by
 obtain⟨N,g,d,M,r,R⟩:=zTN c C L T B;cases t with
 |nil=>
  refine c.ext (xb:=none) (λb o e=>by cases e) i (v:=.qa) (H':=st.H) (n':=st.m) ?_ (λp f=>f) (λJ E' w' O=>?_) F
  .simp only[xoS,hx,l,zDB,extH,zHR,d];rfl
  .obtain⟨z,D,h⟩:=O.uA c.s q (sz:=sz) rfl c.hd;exact⟨_,D,h⟩
 |cons S A=>
  have I:Nat.ble ((A.length+1)*bytes) zc=true:=by rw[Qr];simpa using hb
  refine c.ext (xb:=none) (λb o e=>by cases e) i (v:=.row st.m 0 (A.length+1) sz (A.length+1) false) (H':=(st.m,.cells false N)::st.H) (n':=st.m+1) ?_ (λp f=>.tail _ f) (λJ E' w' O=>?_) F
  .simp only[xoS,hx,l,zDB,extH,zHR,d,QL,I]
  .obtain⟨z,D,h⟩:=O.vw c.s (λb o e=>by cases e) (V0:=V0) (λj vi h=>⟨q j vi h,λ_ b o e=>by cases e⟩) (.head _) (λp f=>⟨.tail _ f,λe=>by have:=c.s.qy p.1 (c.s.hr.qy p f);omega⟩) (es:=S::A) rfl r (zGj g r) (by omega) (by rw[List.take_of_length_le (by omega)];exact g) c.hd
   exact⟨_,D,h⟩
theorem zU9{x y:XV}{sz bytes:Nat}(c:Ctx P G nt Z0 B0 w0 dl E w a β st o (.append x y sz bytes)){u:AV}{j:Nat}{es f:JE}(ad:zPg y=false)(hx:x.ev G st.fr=some (.sym j))(hV:st.V.get j=some (.vec sz es))(hy:y.ev G st.fr=some u)(he:zBK st.H sz u=some f)(ab:(zQh u||ppS 12 (.agg f))=true)
  (hb:(es.length+f.length)*bytes<=zc) (we:es.length+f.length<=zc) (hk:k (.sym st.mv) ⟨st.fr,st.H,(st.mv,.vec sz (es++f))::st.V.del j,st.m,st.mv+1⟩):OpK P G nt Z0 B0 w0 dl o w a k:=by
 have af:zG x=true:=by have:=c.ok;simp only[zx,XO.qb,z7,QT,List.all_append,QY,List.all_nil,QA]at this;exact this.1
 obtain⟨t,rfl,ht⟩:=zIr c.hG af hx;have L:∀i,u≠.sym i:=λi e=>by subst e;cases he
 have W:∀A C,(st.V.del j).get A=some C->st.V.get A=some C/\j≠A:=λA C h=>by
  rw[Vecs.qR]at h;split at h
  .cases h
  .rename_i r;exact⟨h,r⟩
 obtain⟨ao,⟨h1,h2,rfl⟩|⟨b,str,cs,cp,ex,v⟩⟩:=zFV c.s hV
 .exact zPk c ad (fr':=st.fr.put t .qa) (zCa c.s ht (xb:=none) (by rw[h2];exact .qa)) zAm (zFU hy ht (L j)) hy he ab (by simpa using hb) (λA C h=>(W A C h).1) (by simpa using hk)
 .obtain⟨q,D,U,ag,T,ak⟩:=zTN c ad hy he ab;have J:=zFU (X:=.row st.m 0 es.length sz cp ex) hy ht (L j);have d:content ((st.m,HO.cells str cs)::st.H) sz u=some (f.length,q):=by rw[zWh ak];exact U
  have Y:∀e∈es++f,PP e:=λe B=>(QI.1 B).elim (ao e) (T e)
  have R:flatten sz (es++f)=some (cs.take (es.length*sz)++q):=zMX v.uH D;have M:(es++f).length*sz=es.length*sz+q.length:=by rw[QE,Nat.add_mul,ag]
  have ac:∀F∈cs.take (es.length*sz)++q,PP F:=λF B=>(QI.1 B).elim (λh=>v.pc F (QO h)) (zGj D T F)
  have c1:Nat.ble (0+es.length*sz) cs.length=true:=by rw[Qr];have:=v.hl;omega
  have I:Nat.ble (es.length*sz) cs.length=true:=by rw[Qr];exact v.hl
  have c2:Nat.ble ((es.length+f.length)*bytes) zc=true:=by rw[Qr];exact hb
  have c3:Nat.ble (es.length+f.length) zc=true:=by rw[Qr];exact we
  have r:∀p∈st.H,p.1≠st.m/\p.1≠st.m+1:=λp l=>by have:=c.s.qy p.1 (c.s.hr.qy p l);omega
  have au:∀A C,(st.V.del j).get A=some C->st.V.get A=some C/\(C.qA=true->∀b' o,(some (b,HO.cells str cs):XB)=some (b',o)->β A≠some b'):=λA C h=>by
   obtain⟨q1,q2⟩:=W A C h;refine⟨q1,λho b' o e ai=>?_⟩
   cases e;exact q2 (c.s.qU j A _ _ b hV q1 rfl ho v.hb ai)
  have ar:=zCa c.s ht v.vr;have fin:∀{h' cp':Nat}{str' ex':Bool}{cs':JE}{H':Heap}{n':Nat},xoS G zf (st.fr.put t (.row st.m 0 es.length sz cp ex)) (extH st.H st.m (some (b,.cells str cs))) (zHR st.m (some (b,.cells str cs))) (.append (.t t) y sz bytes)=some (.row h' 0 (es.length+f.length) sz cp' ex',H',n') →
    (h',HO.cells str' cs')∈H'->(∀p∈st.H,p∈H'/\p.1≠h')->(∀F∈cs',PP F)->es.length*sz+q.length<=cs'.length->cs'.take (es.length*sz+q.length)=cs.take (es.length*sz)++q->OpK P G nt Z0 B0 w0 dl o w a k:=by
   intro h' cp' str' ex' cs' H' n' ah aa N aj hl ae;refine c.ext (v.xb c.s hV) ar ah (λp l=>(N p l).1) (λcv E' w' O=>?_) hk
   obtain⟨z,β',h⟩:=O.vw c.s (v.uU hV) (V0:=st.V.del j) au aa N (es:=es++f) (by rw[QE]) Y aj (by rw[M];exact hl) (by rw[M,ae];exact R) c.hd
   exact⟨_,β',h⟩
  by_cases g:Nat.ble (es.length+f.length) cp=true
  .refine fin (h':=st.m) (cp':=cp) (str':=str) (ex':=ex) (cs':=qm cs (es.length*sz) q) (H':=(st.m,.cells str (qm cs (es.length*sz) q))::st.H) (n':=st.m+1) ?_ (.head _) (λp l=>⟨.tail _ l,(r p l).1⟩) (λF B=>(zKn B).elim (v.pc F) (zGj D T F)) (zXE v.hl) (zWi v.hl)
   simp only[xoS,zAm,J,zDB,extH,zHR,d,Nat.beq_refl,zGi,c1,I,c2,c3,g,QT,Heap.put,Qa]
  .have g:Nat.ble (es.length+f.length) cp=false:=Bool.eq_false_iff.2 g;cases ex with
   |true=>
    refine fin (h':=st.m+1) (cp':=es.length+f.length) (str':=false) (ex':=false) (cs':=cs.take (es.length*sz)++q) (H':=(st.m+1,.cells false (cs.take (es.length*sz)++q))::(st.m,.cells str cs)::st.H) (n':=st.m+1+1) ?_ (.head _) (λp l=>⟨.tail _ (.tail _ l),(r p l).2⟩) ac (by have:=v.hl;simp;omega) (by rw[List.take_of_length_le (by simp;omega)])
    simp only[xoS,zAm,J,zDB,extH,zHR,d,Nat.beq_refl,zGi,c1,I,c2,c3,g,QT,List.drop_zero]
   |false=>
    by_cases S:f.length=0
    .have aq:f=[]:=List.eq_nil_of_length_eq_zero S;subst aq;have aw:q=[]:=by cases D;rfl
     subst aw;refine fin (h':=st.m) (cp':=cp) (str':=str) (ex':=false) (cs':=cs) (H':=(st.m,.cells str cs)::st.H) (n':=st.m+1) ?_ (.head _) (λp l=>⟨.tail _ l,(r p l).1⟩) v.pc (by have:=v.hl;simpa using this) (by simp)
     simp only[xoS,zAm,J,zDB,extH,zHR,d,Nat.beq_refl,zGi,c1,I,c2,c3,g,QT,Qp,Nat.add_zero];simp only[Qp,Nat.add_zero]at c2 c3 g;simp only[c2,c3,g,QT]
    .obtain⟨n0,S⟩:∃n0,f.length=n0+1:=⟨f.length-1,by omega⟩
     refine fin (h':=st.m+1) (cp':=es.length+f.length) (str':=str) (ex':=false) (cs':=cs.take (es.length*sz)++q) (H':=(st.m+1,.cells str (cs.take (es.length*sz)++q))::st.H) (n':=st.m+1+1) ?_ (.head _) (λp l=>⟨.tail _ l,(r p l).2⟩) ac (by have:=v.hl;simp;omega) (by rw[List.take_of_length_le (by simp;omega)])
     rw[S]at d c2 c3 g⊢;simp only[xoS,zAm,J,zDB,extH,zHR,d,Nat.beq_refl,zGi,c1,I,c2,c3,g,QT,Heap.del]
theorem zfc{x:XV}(c:Ctx P G nt Z0 B0 w0 dl E w a β st o (.vF x)){j:Nat}{es:JE}{s:JV}(hx:x.ev G st.fr=some (.sym j))(f:st.V.get j=some (.vec 1 es))(h:zAr es=some s)(r:k (.str s) st):OpK P G nt Z0 B0 w0 dl o w a k:=by
 have i:zG x=true:=by have:=c.ok;simp only[zx,XO.qb,z7,QT,QY,List.all_nil]at this;exact this
 obtain⟨t,rfl,q⟩:=zIr c.hG i hx;obtain⟨l,⟨h1,h2,rfl⟩|⟨b,str,cs,cp,ex,v⟩⟩:=zFV c.s f
 .cases h;refine c.ext (xb:=none) (λb o e=>by cases e) (zCa c.s q (X:=.qa) (xb:=none) (by rw[h2];exact .qa)) (v:=.str []) (H':=st.H) (n':=st.m) (by simp only[xoS,zAm,content,zAr];rfl) (λp g=>g) (λy E' w' O=>⟨_,_,O.vt c.s (λb o e=>by cases e) (λ_ _ _ _ _ _ e=>by cases e) (λb o e=>by cases e) (.str _) c.hd⟩) r
 .have d:=v.uH;rw[zKZ h]at d;have d:es=cs.take (es.length*1):=by simpa using d
  have z:Nat.ble (0+es.length*1) cs.length=true:=by rw[Qr];have:=v.hl;omega
  refine c.ext (v.xb c.s f) (zCa c.s q v.vr) (v:=.str s) (H':=(st.m,.cells str cs)::st.H) (n':=st.m+1) ?_ (λp g=>.tail _ g) (λy E' w' O=>⟨_,_,O.vt c.s (λu A e=>⟨by cases e;exact .head _,v.uU f u A e⟩) (v.self c.s l f O (.head _) undef) (v.bz c.s f) (.str _) c.hd⟩) r
  have:content ((st.m,HO.cells str cs)::st.H) 1 (.row st.m 0 es.length 1 cp ex)=some (es.length,es):=by
   simp only[content,Nat.beq_refl,zGi,z,List.drop_zero,←d]
  simp only[xoS,zAm,extH,zHR,this,h]
theorem zay{m x:XV}{J ok:Bool}{I:List Kd}{z:AV}(c:Ctx P G nt Z0 B0 w0 dl E w a β st o (.lookup J I m x z ok)){j:Nat}{es:List (AV×AV)}{B v:AV}(hm:m.ev G st.fr=some (.sym j))(A:st.V.get j=some (.mp es))(hx:x.ev G st.fr=some B)(F:zDC J I B=true)
  (d:lkR ok z (zAE J I B es)=some v) (hk:k v st):OpK P G nt Z0 B0 w0 dl o w a k:=by
 have D:(zG m=true/\zG x=true)/\zAA 12 z=true:=by have:=c.ok;simp only[zx,XO.qb,z7,List.all_append,QY,List.all_nil,QT,QA]at this;exact this
 obtain⟨t,rfl,U⟩:=zIr c.hG D.1.1 hm;have M:B≠.sym j:=by intro e;subst e;cases F
 obtain⟨l,b,h1,h2,h3⟩:=(c.s.qW j _ A).2;have g:=c.s.bz j _ b A rfl h1;have L:=zFU (X:=.map st.m) hx U M;have hj:j≠st.mv:=by have:=(c.s.qW j _ A).1;omega
 have S:PP z:=zA0 12 D.2;have y:∀{es:List (AV×AV)}{u:AV},(∀p∈es,PP p.1/\PP p.2)->zAE J I B es=some (some u)->PP u:=by
  intro es
  induction es with
  |nil=>intro u _ h;cases h
  |cons q r ih=>
   intro u W h;simp only[zAE]at h;split at h
   .cases h;exact(W _ (.head _)).2
   .exact ih (λp l=>W p (.tail _ l)) h
   .cases h
 have C:∀(b:Bool){u:AV},PP u->PP (lkV ok b u):=λb u hu=>by
  cases ok with
  |true=>
   refine .qd _ λe Y=>?_
   simp only[QJ,List.not_mem_nil,or_false]at Y;rcases Y with rfl|rfl
   .exact hu
   .exact .bool _
  |false=>exact hu
 have R:PP v:=by
  unfold lkR at d;split at d
  .rename_i u hu;cases d;exact C true (y l hu)
  .cases d;exact C false S
  .cases d
 refine c.ext (xb:=some (b,.map es)) (λN T e=>by cases e;exact⟨h2,g.1,g.2⟩) (zCa c.s U (X:=.map st.m) (by rw[h3];have:=VR.map (E:=zAX E st.m (some (b,.map es))) (w:=w) st.m (.inr rfl);simpa[zAX]using this)) (v:=v) (H':=(st.m,.map es)::st.H) (n':=st.m+1) ?_ (λp l=>.tail _ l)
  (λcv E' w' O=>⟨_,_,O.vt c.s (λN T e=>by cases e;exact⟨.head _,j,_,A,rfl,h1⟩) (λj' vi N T q1 q2 e q3=>?_) (λN T e=>by cases e;exact g.2) R c.hd⟩) hk
 .simp only[xoS,zAm,L,F,extH,zHR,zGi];unfold lkR at d;split at d
  .rename_i u hu;cases d;simp only[hu];cases ok<;>rfl
  .rename_i hu;cases d;simp only[hu];cases ok<;>rfl
  .cases d
 .cases e;have:=c.s.qU j j' _ _ b A q1 rfl q2 h1 q3;subst this;rw[A]at q1;cases q1;have hm:=O.vK.obj _ (.head _);rw[O.vy b _ rfl]at hm;exact⟨l,b,h1,hm.jk l,by simp[zH,hj,h3]⟩
theorem zeh{m x y:XV}{R:Bool}{M:List Kd}(c:Ctx P G nt Z0 B0 w0 dl E w a β st o (.wR R M m x y)){j:Nat}{es d:List (AV×AV)}{z u:AV}(hm:m.ev G st.fr=some (.sym j))(N:st.V.get j=some (.mp es))(hx:x.ev G st.fr=some z)(hy:y.ev G st.fr=some u)(J:zDC R M z=true)(aa:ppS 12 z=true)(I:ppS 12 u=true)
  (l:zCm R M z u es=some d) (hk:k (.qd []) ⟨st.fr,st.H,(j,.mp d)::st.V.del j,st.m,st.mv⟩):OpK P G nt Z0 B0 w0 dl o w a k:=by
 have A:(zG m=true/\zG x=true)/\zG y=true:=by have:=c.ok;simp only[zx,XO.qb,z7,List.all_append,QY,List.all_nil,QT,QA]at this;exact this
 obtain⟨t,rfl,U⟩:=zIr c.hG A.1.1 hm;have T:z≠.sym j:=by intro e;subst e;cases J
 have B:u≠.sym j:=by intro e;subst e;cases I
 obtain⟨g,b,h1,h2,h3⟩:=(c.s.qW j _ N).2;have F:=c.s.bz j _ b N rfl h1;have S:=zFU (X:=.map st.m) hx U T;have ab:=zFU (X:=.map st.m) hy U B;have hj:j≠st.mv:=by have:=(c.s.qW j _ N).1;omega
 have L:PP z:=zCv 12 (zY c.hG c.s.wa A.1.2 hx) aa;have D:PP u:=zCv 12 (zY c.hG c.s.wa A.2 hy) I;have Y:∀{es d:List (AV×AV)},(∀p∈es,PP p.1/\PP p.2)->zCm R M z u es=some d->∀p∈d,PP p.1/\PP p.2:=by
  intro es
  induction es with
  |nil=>intro d _ h p g;cases h;simp only[QU]at g;subst g;exact⟨L,D⟩
  |cons q r ih=>
   intro d W h p g;simp only[zCm]at h;split at h
   .cases h;rcases QJ.1 g with rfl|g
    .exact⟨L,D⟩
    .exact W p (.tail _ g)
   .split at h
    .rename_i r' hr;cases h;rcases QJ.1 g with rfl|g
     .exact W _ (.head _)
     .exact ih (λp g=>W p (.tail _ g)) hr p g
    .cases h
   .cases h
 have C:=Y g l;refine c.ext (xb:=some (b,.map es)) (λb' o' e=>by cases e;exact⟨h2,F.1,F.2⟩) (zCa c.s U (X:=.map st.m) (by rw[h3];have:=VR.map (E:=zAX E st.m (some (b,.map es))) (w:=w) st.m (.inr rfl);simpa[zAX]using this)) (v:=.qd []) (H':=(st.m,.map d)::st.H) (n':=st.m+1) ?_ (λp g=>.tail _ g)
  (λcv E' w' O=>⟨_,_,O.replace c.s N rfl h1 (vi1:=.mp d) rfl ?_ (.head _) (λsz es e=>by cases e) (.qd _ λe he=>by cases he) c.hd⟩) hk
 .simp only[xoS,zAm,S,ab,J,extH,zHR,zGi,l,Heap.put,Nat.beq_refl]
 .have hm:=O.vK.obj _ (.head _);rw[O.vy b _ rfl]at hm;exact⟨C,b,h1,hm.jk C,by simp[zH,hj,h3]⟩
end
def TbW(P:Program)(G:Cx)(tb:TblS):Prop:=∀s∈tb,∀args v,s.2.1 args->s.2.2 args=some v->Enters P s.1/\PP v/\∀H nx,FnT P G s.1 args H nx v H nx
theorem zEz:∀{tb:TblS}{f:Nat}{args:JE}{k:AV->Prop},zGg tb f args k->∃s∈tb,s.1=f/\s.2.1 args/\∃v,s.2.2 args=some v/\k v
 |[],f,args,k,h=>h.elim
 |s::r,f,args,k,h=>by
  simp only[zGg]at h;split at h
  .rename_i e;obtain⟨h1,h2⟩:=h;split at h2
   .rename_i v d;exact⟨s,.head _,(zb e).symm,h1,v,d,h2⟩
   .exact h2.elim
  .obtain⟨c,h1,h2⟩:=zEz h;exact⟨c,.tail _ h1,h2⟩
open Classical in
noncomputable def zSr(f0:Nat)(a0:JE)(v:AV):Call:=λf args H nx=>if f=f0/\args=a0 then some (v,H,nx)else none
theorem zRl{P:Program}{G:Cx}{f:Nat}{args:JE}{v:AV}(h1:Enters P f)(h2:∀H nx,FnT P G f args H nx v H nx):zFR P G (zSr f args v):=by
 intro i c H nx g l d h;simp only[zSr]at h;split at h
 .rename_i e;obtain⟨rfl,rfl⟩:=e;cases h;exact⟨h1,QB _,h2 _ _⟩
 .cases h
theorem zKo{f:Nat}{args:JE}{v:AV}{H:Heap}{nx:Nat}:zSr f args v f args H nx=some (v,H,nx):=by simp[zSr]
theorem zA1{f:AV->JF}:∀{xs c:JE},zC f xs=some c->c.length=xs.length/\∀(i:Nat) x y,xs[i]?=some x->c[i]?=some y->f x=some y
 |[],c,h=>by cases h;exact⟨rfl,λi x y d=>by simp at d⟩
 |x::xs,c,h=>by
  simp only[zC]at h;split at h
  .rename_i v g;split at h
   .rename_i r l;cases h;obtain⟨h1,h2⟩:=zA1 l;refine⟨by simp[h1],λi o y d e=>?_⟩
    cases i with
    |zero=>simp at d e;subst d;subst e;exact g
    |succ i=>exact h2 i o y (by simpa using d) (by simpa using e)
   .cases h
  .cases h
theorem zK0{f:AV->JF}:∀{a b c:JE},zC f (a++b)=some c->∃x y,zC f a=some x/\zC f b=some y/\c=x++y
 |[],b,c,h=>⟨[],c,rfl,h,rfl⟩
 |e::r,b,c,h=>by
  simp only[List.cons_append,zC]at h;split at h
  .rename_i v g;split at h
   .rename_i q d;cases h;obtain⟨x,y,h1,h2,rfl⟩:=zK0 d;exact⟨v::x,y,by simp only[zC,g,h1],h2,rfl⟩
   .cases h
  .cases h
theorem zGk{f g:AV->JF}(c:∀x y,f x=some y->g x=some y):∀{xs d:JE},zC f xs=some d->zC g xs=some d
 |[],d,h=>h
 |x::xs,d,h=>by
  simp only[zC]at h⊢;split at h
  .rename_i v e;rw[c _ _ e];split at h
   .rename_i r i;rw[zGk c i];exact h
   .cases h
  .cases h
theorem zKL{n k:Nat}:∀(d:Nat){v:AV},CP n k v->zCC d v=false->PP v:=by
 intro d
 induction d with
 |zero=>intro v _ h;cases h
 |succ d i=>
  intro v hc h;have al:∀{l:JE},(∀e∈l,CP n k e)->l.any (zCC d)=false->∀e∈l,PP e:=λhc g e c=>i (hc e c) (by
   rw[List.any_eq_false]at g
   simpa using g e c)
  cases hc with
  |bool b=>exact .bool b
  |int k m=>exact .int k m
  |str s=>exact .str s
  |qo=>exact .qo
  |qa=>exact .qa
  |qn=>exact .qn
  |ql=>exact .ql
  |qe=>exact .qe
  |qc e off c=>exact .qc e off c
  |qf sz es c=>exact .qf sz es c
  |func fn a b o hb=>
   have h:(a.any (zCC d)||b.any (zCC d))=false:=h;rw[Bool.or_eq_false_iff]at h;exact .func fn a b (al o h.1) (al hb h.2)
  |iface t v p=>exact .iface t v (i p h)
  |agg cs f=>exact .agg cs (al f h)
  |qd cs f=>exact .qd cs (al f h)
  |_=>cases h
theorem zY2:∀(d:Nat){v:AV},zCC d v=false->zCC (d+1) v=false:=by
 intro d
 induction d with
 |zero=>intro v h;cases h
 |succ d e=>
  intro v h;have al:∀{l:JE},l.any (zCC d)=false->l.any (zCC (d+1))=false:=λc=>by
   rw[List.any_eq_false]at c⊢;intro x f;have:=e (v:=x) (by simpa using c x f)
   simp[this]
  cases v with
  |func fn a b=>
   have h:(a.any (zCC d)||b.any (zCC d))=false:=h;rw[Bool.or_eq_false_iff]at h;show(a.any (zCC (d+1))||b.any (zCC (d+1)))=false
   rw[al h.1,al h.2];rfl
  |iface t v=>exact e h
  |agg cs=>exact al h
  |qd cs=>exact al h
  |_=>exact h
theorem zaz{H:Heap}{V:Vecs}:∀(d:Nat){v v':AV},frz H V d v=some v'->frz H V (d+1) v=some v':=by
 intro d
 induction d with
 |zero=>intro v v' h;cases h
 |succ d e=>
  intro v v' h;unfold frz at h⊢;split at h
  .exact h
  .split at h
   .split at h
    .rename_i f c;rw[zGk (λx y=>e) c]
     exact h
    .cases h
   .cases h
  .split at h
   .rename_i l g;rw[zGk (λx y=>e) g]
    split at h
    .rename_i o hb;rw[zGk (λx y=>e) hb]
     exact h
    .cases h
   .cases h
  .split at h
   .rename_i f c;rw[zGk (λx y=>e) c]
    exact h
   .cases h
  .exact h
  .split at h
   .cases h
   .rename_i i;rw[zY2 d i];exact h
theorem zY3{H:Heap}{V:Vecs}:∀(d:Nat){v v':AV},PP v->frz H V d v=some v'->v'=v:=by
 intro d
 induction d with
 |zero=>intro v v' _ h;cases h
 |succ d A=>
  intro v v' t h;have al:∀{l c:JE},(∀e∈l,PP e)->zC (frz H V d) l=some c->c=l:=by
   intro l
   induction l with
   |nil=>intro c _ h;cases h;rfl
   |cons e r f=>
    intro c p h;simp only[zC]at h;split at h
    .rename_i u hu;split at h
     .rename_i q s;cases h;rw[A (p _ (.head _)) hu,f (λe z=>p e (.tail _ z)) s]
     .cases h
    .cases h
  unfold frz at h;cases t with
  |func fn a b B hb=>
   simp only at h;split at h
   .rename_i D i;split at h
    .rename_i C o;cases h;rw[al B i,al hb o]
    .cases h
   .cases h
  |agg cs y=>
   simp only at h;split at h
   .rename_i x g;cases h;rw[al y g]
   .cases h
  |_=>
   simp only at h;split at h
   .cases h
   .cases h;rfl
section
variable{P:Program}{G:Cx}{nt:Nat}{E:Env}{w:World}{a:Act}{β:Nat->Option Nat}{st:Sta}
 {Z0 B0:Nat->Prop} {w0:World} {dl:List Deferred} {o:Oper} {k:AV->Sta->Prop}
theorem zVa{e:AV}{sz:Nat}{xs:JE}{vs:JC}(hc:cellsOf e sz=some xs)(c:VRs E w xs vs)(h1:∀v∈vs,v.oneCell'=true):∃u,VR E w e u/\u.cells.toList=vs:=by
 obtain⟨h2,h3,h4⟩:=zV hc;cases e with
 |agg cs=>
  have h3:cs=xs:=h3;subst h3;exact⟨.agg vs.toArray,VR.qP (by simpa using c) (λv c=>h1 v (by simpa using c)),by simp[Value.cells]⟩
 |qd=>cases h4
 |_=>
  have h3:[_]=xs:=h3;subst h3;obtain⟨v,g,rfl,f,h⟩:=c.of_cons;have:=h.of_nil;subst this;have d:v.oneCell'=true:=h1 v (.head _);refine⟨v,f,?_⟩
  cases v<;>first|(simp[Value.oneCell']at d;done)|simp[Value.cells]
def zBl(E:Env)(β:Nat->Option Nat)(H:Heap)(V:Vecs):Env:=⟨E.ρ,λ_=>False,λx=>E.Z x\/BS E β H V x,E.σ⟩
theorem zNB{b:Nat}{str:Bool}{cs:JE}(h:OR E w b (.cells str cs)):∃vs:JC,VRs E w cs vs/\(∀v∈vs,v.oneCell'=true)/\∀(j:Nat) c,vs[j]?=some c->w.cell? ⟨b,j,none⟩=some c:=by
 obtain⟨c,e,f,h1,h2,h3,h4⟩:=h;have p:∀(i:Nat)(x:AV)(v:Value),cs[i]?=some x->(c.toList.take cs.length)[i]?=some v->v.oneCell'=true/\VR E w x v/\c[i]?=some v:=λi x v o g=>by
  obtain⟨u,q,s,r⟩:=h4 i x o;have hi:i<cs.length:=(QC.1 o).1;rw[List.getElem?_take,if_pos hi]at g;have:c[i]?=some v:=by simpa using g
  rw[q]at this;cases this;exact⟨s,r,q⟩
 have l:(c.toList.take cs.length).length=cs.length:=by simp;omega
 refine⟨c.toList.take cs.length,⟨l.symm,λi x v o g=>(p i x v o g).2.1⟩,λv g=>?_,λj u hu=>?_⟩
 .obtain⟨i,hi⟩:=List.getElem?_of_mem g;have d:i<cs.length:=by have:=(QC.1 hi).1;omega
  exact(p i _ v (QD d) hi).1
 .have d:j<cs.length:=by have:=(QC.1 hu).1;omega
  have:=(p j _ u (QD d) hu).2.2;simp only[World.cell?,h1];exact this
theorem zEu(s:SR G nt E w a β st):∀(d:Nat){v v':AV}{cv:Value},CP st.mv st.m v->VR E w v cv->frz st.H st.V d v=some v'->VR (zBl E β st.H st.V) w v' cv:=by
 have N:∀{v:AV}{cv:Value},PP v->VR E w v cv->VR (zBl E β st.H st.V) w v cv:=λhp l=>VR.pp (E:=E) (E':=zBl E β st.H st.V) (w:=w) (w':=w) (λb hb=>⟨.inl hb,rfl⟩) l hp
 intro d
 induction d with
 |zero=>intro v v' cv _ _ h;cases h
 |succ d ih=>
  intro v v' cv B l h;have al:∀{xs ys:JE}{vs:JC},(∀e∈xs,CP st.mv st.m e)->VRs E w xs vs->zC (frz st.H st.V d) xs=some ys->VRs (zBl E β st.H st.V) w ys vs:=λhc S hm=>by
   obtain⟨m1,m2⟩:=zA1 hm;refine⟨m1.trans S.1,λi y u hy hu=>?_⟩
   have hi:i<_:=(QC.1 hy).1;rw[m1]at hi;have q:=QD hi;exact ih (hc _ (QF q)) (S.2 i _ u q hu) (m2 i _ y q hy)
  unfold frz at h;split at h
  ·
   rename_i j;split at h
   .rename_i sz es hV;cases h;have ac:=l.vX;subst ac;obtain⟨L,⟨h1,h2,rfl⟩|⟨b,str,cs,cp,ex,vi⟩⟩:=zFV s hV
    .rw[h2];exact .wj _ _ _ (QN _)
    .rcases vi.row with⟨ad,I,e2,_⟩|⟨cap,I,t,z,ah,_,_,_⟩
     .have:=List.eq_nil_of_length_eq_zero e2;subst this;rw[I];exact .wj _ _ _ (QN _)
     .rw[I];obtain⟨vs,D,F,X⟩:=zNB vi.je;obtain⟨q1,O⟩:=z9 vi.uH;have key:∀i,∃u:Value,∀e,es[i]?=some e->VR E w e u/\e.flat=true/\u.cells.toList=(vs.drop (i*sz)).take sz:=by
       intro i;cases o:es[i]? with
       |none=>exact⟨.bool true,λe h=>by cases h⟩
       |some e=>
        have hi:i<es.length:=(QC.1 o).1;have A:i*sz+sz<=es.length*sz:=by rw[←Nat.succ_mul];exact Nat.mul_le_mul_right _ hi
        have r:=O i e o;rw[List.drop_take,List.take_take,Nat.min_eq_left (by omega)]at r
        obtain⟨u,r1,r2⟩:=zVa r (D.extract (i*sz) sz) (λv l=>F v (QX (QO l)))
        exact⟨u,λe' h=>by cases h;exact⟨r1,(zV r).2.2,r2⟩⟩
      obtain⟨f,C⟩:=Classical.axiomOfChoice key;refine .qf es b 0 cap sz f (.inr (.inr ⟨j,_,hV,rfl,vi.hb⟩)) t z (λi e o=>?_) (λi e o=>N (L e (QF o)) (C i e o).1) (λi hi=>?_)
      .have:=(C i e o).2.1;unfold AV.flat at this;exact this
      .have o:es[i]?=some es[i]:=QD hi;obtain⟨_,_,h3⟩:=C i _ o;have af:vs.length=cs.length:=D.1.symm;have A:i*sz+sz<=es.length*sz:=by rw[←Nat.succ_mul];exact Nat.mul_le_mul_right _ hi
       have:=vi.hl;refine⟨?_,λj' c hc=>?_⟩
       .have:(f i).cells.toList.length=sz:=by rw[h3];simp;omega
        simpa using this
       .have g:(f i).cells.toList[j']?=some c:=by simpa using hc
        rw[h3,List.getElem?_take]at g;split at g
        .rw[List.getElem?_drop]at g;have:=X _ c g;rw[Qa];exact this
        .cases g
   .cases h
  ·
   rename_i U off;split at h
   .rename_i str cs T;split at h
    .rename_i R J;cases h;have p:=Heap.qj T;have aa:=s.hr.obj _ p;obtain⟨vs,D,F,X⟩:=zNB aa;obtain⟨_,_,I,M⟩:=s.cH.get T;cases I;cases l with
     |ptr _ _ hd=>
      have:=VR.qc (E:=zBl E β st.H st.V) (w:=w) (.agg R) off (E.ρ U) 0 (.agg vs.toArray) rfl (.inr (.inl ⟨_,p,rfl⟩)) (VR.qP (by simpa using al M D J) (λv l=>F v (by simpa using l))) (λj c hj=>by
       rw[Qa];exact X j c (by simpa[Value.cells]using hj))
      rw[Qa]at this;exact this
    .cases h
   .cases h
  .rename_i f x y;split at h
   .rename_i x' q;split at h
    .rename_i y' hy;cases h;cases B with
     |func _ _ _ ha hb=>
      cases l with
      |func _ _ _ vf vc C hc rf rc=>
       obtain⟨g1,g2⟩:=al (vs:=vf.toList) ha ⟨by simpa using C,λi x v q l=>rf i x v q (by simpa using l)⟩ q
       obtain⟨g3,g4⟩:=al (vs:=vc.toList) hb ⟨by simpa using hc,λi x v q l=>rc i x v q (by simpa using l)⟩ hy
       exact .func _ _ _ vf vc (by simpa using g1) (by simpa using g3) (λi x v q l=>g2 i x v q (by simpa using l)) (λi x v q l=>g4 i x v q (by simpa using l))
    .cases h
   .cases h
  .rename_i cs;split at h
   .rename_i R J;cases h;cases B with
    |agg _ hc=>
     obtain⟨vs,rfl,D,F⟩:=l.qY;exact VR.qP (al hc D J) F
   .cases h
  .rename_i U off len sz cp ex;split at h
   .rename_i str cs T;split at h
    .rename_i W;split at h
     .rename_i es hr;split at h
      .rename_i ae;cases h;obtain⟨_,_,I,M⟩:=s.cH.get T;cases I;obtain⟨q1,O,q3,q4,q5⟩:=zAk hr;obtain⟨g1,g2⟩:=z9 q5;have L:∀e∈es,PP e:=by
        intro e o;obtain⟨i,hi⟩:=List.getElem?_of_mem o;obtain⟨r1,r2,r3⟩:=zV (g2 i e hi);refine zCv (n:=st.mv) (k:=st.m) 8 (zCp r3 λx q=>M x ?_) (QH.1 ae e o)
        rw[r2]at q;exact QX (QO (QX (QO q)))
       have p:=Heap.qj T;cases l with
       |wm _ _ _ _ ad=>
        have:=List.eq_nil_of_length_eq_zero O;subst this;exact .wj _ _ _ (QN _)
       |row _ _ _ _ _ cap _ hD t z ag B aj ai=>
        obtain⟨vs,D,F,X⟩:=zNB (s.hr.obj _ p);have Y:=D.extract off cs.length;have ab:(cs.drop off).take cs.length=cs.drop off:=List.take_of_length_le (by simp)
        rw[ab]at Y;have W:=QM W;have key:∀i,∃u:Value,∀e,es[i]?=some e->VR E w e u/\e.flat=true/\u.cells.toList=(((vs.drop off).take cs.length).drop (i*sz)).take sz:=by
         intro i;cases o:es[i]? with
         |none=>exact⟨.bool true,λe h=>by cases h⟩
         |some e=>
          have hi:i<es.length:=(QC.1 o).1;have A:i*sz+sz<=len*sz:=by rw[←Nat.succ_mul,←O];exact Nat.mul_le_mul_right _ hi
          have r:=g2 i e o;rw[List.drop_take,List.take_take,Nat.min_eq_left (by omega)]at r
          obtain⟨u,r1,r2⟩:=zVa r (Y.extract (i*sz) sz) (λv l=>F v (QX (QO (QX (QO l)))))
          exact⟨u,λe' h=>by cases h;exact⟨r1,(zV r).2.2,r2⟩⟩
        obtain⟨f,C⟩:=Classical.axiomOfChoice key;rw[←O]at t⊢;refine .qf es (E.ρ U) off cap sz f (.inr (.inl ⟨_,p,rfl⟩)) t z (λi e o=>?_) (λi e o=>N (L e (QF o)) (C i e o).1) (λi hi=>?_)
        .have:=(C i e o).2.1;unfold AV.flat at this;exact this
        .have o:es[i]?=some es[i]:=QD hi;obtain⟨_,_,h3⟩:=C i _ o;have af:vs.length=cs.length:=D.1.symm;have A:i*sz+sz<=len*sz:=by rw[←Nat.succ_mul,←O];exact Nat.mul_le_mul_right _ hi
         refine⟨?_,λj' c hc=>?_⟩
         .have:(f i).cells.toList.length=sz:=by rw[h3];simp;omega
          simpa using this
         .have g:(f i).cells.toList[j']?=some c:=by simpa using hc
          rw[h3,List.getElem?_take]at g;split at g
          .rw[List.getElem?_drop,List.getElem?_take]at g;split at g
           .rw[List.getElem?_drop]at g;have:=X _ c g;rw[Nat.add_assoc];exact this
           .cases g
          .cases g
      .cases h
     .cases h
    .cases h
   .cases h
  .split at h
   .cases h
   .rename_i U;cases h;exact N (zKL d B U) l
end
theorem zTO{E E':Env}{w:World}:∀(d:Nat){v:AV}{cv:Value},zBT d v=true->VR E w v cv->VR E' w v cv:=by
 intro d
 induction d with
 |zero=>intro v cv h;cases h
 |succ d q=>
  intro v cv h p;cases p with
  |bool b=>exact .bool b
  |int k n f=>exact .int k n f
  |str l s f c=>exact .str l s f c
  |qo=>exact .qo
  |qa=>exact .qa
  |qn=>exact .qn
  |ql=>exact .ql
  |qe=>exact .qe
  |iface t v cv p=>exact .iface t v cv (q h p)
  |agg cs e c g h1=>
   have h:cs.all (zBT d)=true:=h;exact .agg cs e c (λi x v hi o=>q (QH.1 h x (QF hi)) (g i x v hi o)) h1
  |qd cs e c g=>
   have h:cs.all (zBT d)=true:=h;exact .qd cs e c (λi x v hi o=>q (QH.1 h x (QF hi)) (g i x v hi o))
  |_=>cases h
theorem zDz{b:Bool}{A B:Prop}(h:Br b A B):(b=true/\A)\/(b=false/\B):=by
 cases b with
 |true=>exact .inl ⟨rfl,h⟩
 |false=>exact .inr ⟨rfl,h⟩
section
variable{P:Program}{G:Cx}{nt:Nat}{E:Env}{w:World}{a:Act}{β:Nat->Option Nat}{st:Sta}
 {Z0 B0:Nat->Prop} {w0:World} {dl:List Deferred} {o:Oper} {k:AV->Sta->Prop} {tb:TblS}
theorem zVb{t:XO}(c:Ctx P G nt Z0 B0 w0 dl E w a β st o t){f:Nat}{l:JE}{v:AV}{fr':Fr}(A:FrR (zBl E β st.H st.V) w fr' a nt)(hx:xoS G (zSr f l v) fr' [] 0 t=some (v,[],0))(h1:Enters P f)(h2:∀H nx,FnT P G f l H nx v H nx)(N:zBT 8 v=true)(z:PP v)
  (J:k v st):OpK P G nt Z0 B0 w0 dl o w a k:=by
 intro next Q O;have r:∀b,(zBl E β st.H st.V).Z b->b<w.heap.size:=by
  rintro b (hb|⟨p,i,rfl⟩|⟨j,y,q1,q2,q3⟩)
  .exact c.s.hr.wi b hb
  .exact c.s.hr.lt i
  .exact(c.s.qW j y q1).2.lt q2 q3
 have vq:HR (zBl E β st.H st.V) [] w:=⟨.nil,λp i=>by simp at i,λp i=>by simp at i,λp i=>by simp at i,λp i=>by simp at i,r⟩
 have B:GR G (zBl E β st.H st.V) w:=λg u h=>⟨VR.pp (E:=E) (E':=zBl E β st.H st.V) (w:=w) (w':=w) (λb hb=>⟨.inl hb,rfl⟩) (c.s.hg g u h).1 (c.hG g u h),(c.s.hg g u h).2⟩
 refine zHC vq A B c.hm (zRl h1 h2) c.hc (λh _ _ I=>I) hx next Q λF E' w' R q L=>?_
 have e:∀x,x<w.heap.size->w'.heap[x]? = w.heap[x]?:=λx hx=>q.qM x hx λp i=>by simp at i
 have C:∀{u D},VR E w u D->VR E w' u D:=λhu=>VR.mono (E:=E) (E':=E) (λ_ h=>⟨h,rfl⟩) (λb hb=>⟨hb,e b (c.s.hr.wi b hb)⟩) q.qp hu
 have d:=c.s;refine O v st F E w' J (zXD (E:=E) (E2:=E) (w:=w) (β:=β) (β2:=β) (st:=st) (st2:=st.put o.dst v) ⟨⟨⟨d.hr.nodup,d.hr.qy,d.hr.inj,λp i=>(d.hr.obj p i).mono (e _ (d.hr.lt i)) C,d.hr.nz,λb hb=>QW (d.hr.wi b hb) q.size⟩,d.hf.put C c.hd (zTO 8 N L),λg u h=>⟨C (d.hg g u h).1,(d.hg g u h).2.mono q.qp⟩,d.qy,d.wa.qv z.cp,d.cH,λj y h=>⟨(d.qW j y h).1,(d.qW j y h).2.mono rfl (λ_=>rfl) (λb M hb=>e b ((d.qW j y h).2.lt M hb)) (λb hb=>⟨hb,e b (d.hr.wi b hb)⟩) q.qp λ_ _ _ _ sz es h=>⟨rfl,es,h,rfl⟩⟩,d.vp,d.bz,d.qU⟩,
  ⟨λ_ h=>h,λ_ h=>.inl h,λ_ h=>.inl h,q.tape,q.os,q.output,q.size,λx hx _=>e x hx,q.qp⟩⟩ c.kp c.df)
theorem zaA{H:Heap}{V:Vecs}{d:Nat}{f:Fn}{a b x y:JE}(c:zC (frz H V d) a=some x)(hb:zC (frz H V d) b=some y):frz H V (d+1) (.func f a b)=some (.func f x y):=by
 conv=>lhs;unfold frz
 simp only[c,hb]
def zKp:List XV->JE->Fr
 |.t t::xs,v::vs=>(t,v)::zKp xs vs
 |_::xs,_::vs=>zKp xs vs
 |_,_=>[]
theorem zPl{G:Cx}{fr:Fr}{f:AV->JF}:∀{xs:List XV}{vs d:JE},evs G fr xs=some vs->zC f vs=some d->∀t,((zKp xs d).get t=none/\XV.t t ∉ xs)\/∃v v',fr.get t=some v/\f v=some v'/\(zKp xs d).get t=some v'
 |[],vs,d,h,l,t=>.inl ⟨by cases d<;>rfl,by simp⟩
 |x::xs,vs,d,h,l,t=>by
  simp only[evs]at h;split at h
  .rename_i v s;split at h
   .rename_i y q;cases h;simp only[zC]at l;split at l
    .rename_i v' p;split at l
     .rename_i r o;cases l;have i:=zPl q o t;cases x with
      |t n=>
       simp only[zKp,Fr.get];by_cases e:n=t
       .subst e;simp only[Nat.beq_refl];exact .inr ⟨v,v',s,p,rfl⟩
       .have:Nat.beq n t=false:=by
         cases hb:Nat.beq n t with
         |false=>rfl
         |true=>exact absurd (zb hb) e
        simp only[this];rcases i with⟨i1,i2⟩|i
        .exact .inl ⟨i1,by simp only[QJ,XV.t.injEq,not_or];exact⟨λh=>e h.symm,i2⟩⟩
        .exact .inr i
      |c u=>
       rcases i with⟨i1,i2⟩|i
       .exact .inl ⟨i1,by simpa using i2⟩
       .exact .inr i
      |g u=>
       rcases i with⟨i1,i2⟩|i
       .exact .inl ⟨i1,by simpa using i2⟩
       .exact .inr i
     .cases l
    .cases l
   .cases h
  .cases h
theorem zPm{G:Cx}{fr fr':Fr}{H:Heap}{V:Vecs}{d:Nat}(s:GPP G):∀{xs:List XV}{vs e:JE},xs.all zG=true->(∀t,XV.t t∈xs->∀v v',fr.get t=some v->frz H V d v=some v'->fr'.get t=some v')->evs G fr xs=some vs->zC (frz H V d) vs=some e->evs G fr' xs=some e
 |[],vs,e,_,_,h,f=>by cases h;cases f;rfl
 |x::xs,vs,e,l,r,h,f=>by
  rw[QY,QA]at l;simp only[evs]at h⊢;split at h
  .rename_i v p;split at h
   .rename_i C q;cases h;simp only[zC]at f;split at f
    .rename_i v' i;split at f
     .rename_i z o;cases f;have B:=zPm s l.2 (λt y=>r t (.tail _ y)) q o
      have A:x.ev G fr'=some v':=by
       cases x with
       |t n=>exact r n (.head _) v v' p i
       |c u=>cases p;rw[zY3 d (zA0 12 l.1) i];rfl
       |g u=>rw[zY3 d (s u v p) i];exact p
      rw[A,B]
     .cases f
    .cases f
   .cases h
  .cases h
theorem zei{f:Nat}{xs:List XV}(x:TbW P G tb)(c:Ctx P G nt Z0 B0 w0 dl E w a β st o (.call f xs)){vs:JE}(F:evs G st.fr xs=some vs)(h:zCY tb f vs st k):OpK P G nt Z0 B0 w0 dl o w a k:=by
 have D:xs.all zG=true:=by have:=c.ok;simp only[zx,XO.qb,z7,QT]at this;exact this
 unfold zCY at h;split at h
 .obtain⟨s,C,rfl,g,v,d,r⟩:=zEz h;obtain⟨q1,J,A⟩:=x s C vs v g d;exact c.gen (zRl q1 A) (by simp only[xoS,F,zKo]) J.cp c.s.cH r
 .split at h
  .rename_i p i;obtain⟨s,C,rfl,g,v,d,r⟩:=zEz h;obtain⟨q1,J,A⟩:=x s C p v g d;split at r
   rotate_left
   .exact r.elim
   rename_i I;have l:=zPl (f:=frz st.H st.V 8) F i;refine zVb c (fr':=zKp xs p) ⟨c.s.hf.size,λt u q=>?_⟩ ?_ q1 A I J r
   .rcases l t with⟨e,_⟩|⟨v1,v2,y,B,z⟩
    .rw[e]at q;cases q
    .rw[z]at q;cases q;exact zEu c.s 8 (c.s.wa t v1 y) (c.s.hf.get t v1 y) B
   .have:=zPm (fr':=zKp xs p) c.hG D (λt q v1 v2 y B=>by
     rcases l t with⟨_,e⟩|⟨v3,v4,z,L,M⟩
     .exact absurd q e
     .rw[y]at z;cases z;rw[B]at L;cases L;exact M) F i
    simp only[xoS,this,zKo]
  .exact h.elim
theorem zcq{z:XV}{xs:List XV}(J:TbW P G tb)(c:Ctx P G nt Z0 B0 w0 dl E w a β st o (.qO z xs)){f:Nat}{first i vs:JE}(hf:z.ev G st.fr=some (.func (.func f) first i))(hv:evs G st.fr xs=some vs)(h:zCY tb f (first++vs++i) st k):OpK P G nt Z0 B0 w0 dl o w a k:=by
 have F:zG z=true/\xs.all zG=true:=by have:=c.ok;simp only[zx,XO.qb,z7,List.all_append,QY,List.all_nil,QT,QA]at this;exact this
 unfold zCY at h;split at h
 .obtain⟨s,U,rfl,p,v,l,C⟩:=zEz h;obtain⟨q1,q2,O⟩:=J s U _ v p l;exact c.gen (zRl q1 O) (by simp only[xoS,hf,hv,zHq,zKo]) q2.cp c.s.cH C
 .split at h
  .rename_i W D;obtain⟨s,U,rfl,p,v,l,C⟩:=zEz h;obtain⟨q1,q2,O⟩:=J s U W v p l;split at C
   rotate_left
   .exact C.elim
   rename_i X;obtain⟨xy,g,h1,h2,rfl⟩:=zK0 D;obtain⟨d,q,h3,h4,rfl⟩:=zK0 h1;have Y:frz st.H st.V 9 (.func (.func s.1) first i)=some (.func (.func s.1) d g):=zaA h3 h2;have N:zC (frz st.H st.V 9) vs=some q:=zGk (λx y=>zaz 8) h4
   have B:evs G st.fr (z::xs)=some (.func (.func s.1) first i::vs):=by simp only[evs,hf,hv]
   have I:zC (frz st.H st.V 9) (.func (.func s.1) first i::vs)=some (.func (.func s.1) d g::q):=by simp only[zC,Y,N]
   have r:=zPl (f:=frz st.H st.V 9) B I;refine zVb c (fr':=zKp (z::xs) (.func (.func s.1) d g::q)) ⟨c.s.hf.size,λt u A=>?_⟩ ?_ q1 O X q2 C
   .rcases r t with⟨e,_⟩|⟨v1,v2,L,T,M⟩
    .rw[e]at A;cases A
    .rw[M]at A;cases A;exact zEu c.s 9 (c.s.wa t v1 L) (c.s.hf.get t v1 L) T
   .have:=zPm (fr':=zKp (z::xs) (.func (.func s.1) d g::q)) c.hG (xs:=z::xs) (by rw[QY,F.1,F.2];rfl) (λt A v1 v2 L T=>by
     rcases r t with⟨_,e⟩|⟨v3,v4,M,e4,e5⟩
     .exact absurd A e
     .rw[L]at M;cases M;rw[T]at e4;cases e4;exact e5) B I
    simp only[evs]at this;split at this
    .rename_i g1 R;split at this
     .rename_i g2 S;cases this;simp only[xoS,R,S,zHq,zKo]
     .cases this
    .cases this
  .exact h.elim
theorem zNC{k:IntKind}{n:Int}{c top:Nat}(d:0<=n)(h1:n.toNat<=top):bnd (some (.int k n)) c top=some n.toNat:=by
 obtain⟨m,rfl⟩:=Int.eq_ofNat_of_zero_le d;rw[Int.toNat_natCast]at h1⊢;have:Nat.ble m top=true:=by rw[Qr];exact h1
 show(match Nat.ble m top with|true=>some m|false=>none)=some m
 rw[this]
theorem zJp{N:Nat}{lo hi:JF}{k:Int->Int->Prop}(h:zJy (.ofNat N) lo hi k):∃l r:Int,k l r/\bnd hi N N=some r.toNat/\bnd lo 0 r.toNat=some l.toNat/\l.toNat<=r.toNat/\r.toNat<=N:=by
 unfold zJy at h;split at h
 .split at h
  .exact⟨0,.ofNat N,h,rfl,rfl,QN _,QB _⟩
  .rename_i e r;obtain⟨⟨h1,h2⟩,h3⟩:=h;have h2:r<=(N:Int):=h2;exact⟨0,r,h3,zNC h1 (by omega),rfl,QN _,by omega⟩
  .exact h.elim
 .rename_i e l;split at h
  .obtain⟨⟨h1,h2⟩,h3⟩:=h;have h2:l<=(N:Int):=h2;refine⟨l,.ofNat N,h3,rfl,zNC h1 ?_,?_,QB _⟩
   .show l.toNat<=N;omega
   .show l.toNat<=N;omega
  .rename_i d r;obtain⟨⟨h1,h2,c⟩,h3⟩:=h;have c:r<=(N:Int):=c;exact⟨l,r,h3,zNC (by omega) (by omega),zNC h1 (by omega),by omega,by omega⟩
  .exact h.elim
 .exact h.elim
theorem zVc{fr:Fr}:evo G fr none=some none:=rfl
theorem zWI{es:JE}{k:IntKind}{n:Int}{v:AV}(h:ixN es n=some v):idx es (.int k n)=some v/\v∈es:=by
 unfold ixN at h;split at h
 .exact⟨h,QF h⟩
 .cases h
theorem SR.known(s:SR G nt E w a β st){n:Nat}{v:AV}(h:st.fr.get n=some v):SR G nt E w a β ⟨st.fr.put n v,st.H,st.V,st.m,st.mv⟩:=by
 have c:∀t,(st.fr.put n v).get t=st.fr.get t:=λt=>by
  rw[Fr.qu];split
  .rename_i e;subst e;exact h.symm
  .rfl
 exact⟨s.hr,⟨s.hf.size,λt u hu=>s.hf.get t u (by rw[←c t];exact hu)⟩,s.hg,s.qy,λt u hu=>s.wa t u (by rw[←c t];exact hu),s.cH,s.qW,s.vp,s.bz,s.qU⟩
theorem zVd{fr:Fr}{n:Nat}{v:AV}(h:fr.get n=some v)(x:XV):x.ev G (fr.put n v)=x.ev G fr:=by
 cases x with
 |t t=>
  show(fr.put n v).get t=fr.get t
  rw[Fr.qu];split
  .rename_i e;subst e;exact h.symm
  .rfl
 |_=>rfl
theorem zDE{n:Int}:∀{l:Nat}{k:Nat->Prop},zIp n l k->∀m,m<l->n=.ofNat m->k m
 |0,k,_,m,c,_=>by omega
 |l+1,k,h,m,c,e=>by
  rcases Nat.lt_succ_iff_lt_or_eq.1 c with h1|rfl
  .exact zDE h.1 m h1 e
  .exact h.2 e
theorem zVe{G:Cx}{fr:Fr}{len sz:Nat}{z:JE}{c:List (Nat×Nat×XV)}{es:JE}(h:bsL G fr len sz z c=some es):∃cs,zBe G fr z c=some cs/\cs.length=len*sz/\zC6 sz len cs=some es/\es.all (ppS 12)=true:=by
 unfold bsL at h;split at h
 .rename_i cs e;split at h
  .rename_i f;split at h
   .rename_i i g;split at h
    .rename_i d;cases h;exact⟨cs,e,zb f,g,d⟩
    .cases h
   .cases h
  .cases h
 .cases h
theorem SR.uO{d:Option Nat}{cv:Value}{sz:Nat}{es:JE}{E:Env}{w:World}{a:Act}{β:Nat->Option Nat}{st:Sta}(J:zDj st.mv st.m st.fr)(L:HCP st.mv st.m st.H)(r:∀j vi,st.V.get j=some vi->j<st.mv)(N:∀j v i off,st.V.get j=some (.qX v i off)->v<st.mv)
  (s:SR G nt E w (a.put d cv) β ⟨qv st.fr d (.sym st.mv),st.H,(st.mv,.vec sz es)::st.V,st.m,st.mv+1⟩):
  ∃E2,SR G nt E2 w (a.put d cv) β ⟨qv st.fr d (.qf sz es),st.H,st.V,st.m,st.mv⟩/\Kp E.Z (BS E β st.H ((st.mv,.vec sz es)::st.V)) w E2.Z (BS E2 β st.H st.V) w:=by
 have gv:Vecs.get ((st.mv,VI.vec sz es)::st.V) st.mv=some (.vec sz es):=by rw[Vecs.qi,if_pos rfl]
 have go:∀{j vi},st.V.get j=some vi->Vecs.get ((st.mv,VI.vec sz es)::st.V) j=some vi:=λ{j vi} h=>by
  rw[Vecs.qi,if_neg (by have:=r j vi h;omega)];exact h
 have U:SR G nt E w (a.put d cv) β ⟨qv st.fr d (.sym st.mv),[],[(st.mv,.vec sz es)],st.m,st.mv+1⟩:=by
  have g1:∀{j vi},Vecs.get [(st.mv,VI.vec sz es)] j=some vi->j=st.mv/\vi=.vec sz es:=λ{j vi} h=>by
   rw[Vecs.qi]at h;split at h
   .rename_i e;cases h;exact⟨e.symm,rfl⟩
   .cases h
  refine⟨⟨.nil,λp c=>(by cases c),λp c=>(by cases c),λp c=>(by cases c),λp c=>(by cases c),s.hr.wi⟩,s.hf,s.hg,s.qy,s.wa,λp c=>(by cases c),λj vi h=>?_,λj v i off h=>?_,λj vi b h F hb=>?_,λj R vi A b h1 h2 _ _ _ _=>(g1 h1).1.trans (g1 h2).1.symm⟩
  .obtain⟨rfl,rfl⟩:=g1 h;exact s.qW st.mv _ gv
  .have:=(g1 h).2;cases this
  .obtain⟨rfl,rfl⟩:=g1 h;exact⟨(s.bz st.mv _ b gv F hb).1,λp c=>(by cases c)⟩
 let E2:Env:=⟨E.ρ,E.D,λx=>E.Z x\/BS E β [] [(st.mv,.vec sz es)] x,E.σ⟩
 have up:∀{u B},VR (zBl E β [] [(st.mv,.vec sz es)]) w u B->VR E2 w u B:=λhu=>VR.mono (E:=zBl E β [] [(st.mv,.vec sz es)]) (E':=E2) (λ_ h=>h.elim) (λb hb=>⟨hb,rfl⟩) (.refl w) hu
 have l:∀{u B},VR E w u B->VR E2 w u B:=λhu=>VR.mono (E:=E) (E':=E2) (λ_ h=>⟨h,rfl⟩) (λb hb=>⟨.inl hb,rfl⟩) (.refl w) hu
 have o:∀{x},BS E β [] [(st.mv,.vec sz es)] x->β st.mv=some x:=λ{x} f=>by
  rcases f with⟨p,c,_⟩|⟨j,vi,h1,h2,h3⟩
  .cases c
  .rw[Vecs.qi]at h1;split at h1
   .rename_i e;rw[e];exact h3
   .cases h1
 have O:∀e∈es,PP e:=(s.qW st.mv _ gv).2.1;have C:∀n,d=some n->VR E2 w (.qf sz es) ((a.put d cv).tmps.getD n undef):=λn e=>by
  subst e;have h1:(qv st.fr (some n) (.sym st.mv)).get n=some (.sym st.mv):=by simp[zHX,Fr.qu]
  have h2:frz [] [(st.mv,VI.vec sz es)] 1 (.sym st.mv)=some (.qf sz es):=by
   have:Vecs.get [(st.mv,VI.vec sz es)] st.mv=some (.vec sz es):=by rw[Vecs.qi,if_pos rfl]
   simp only[frz,this]
  exact up (zEu U 1 (.sym _ (QS _)) (s.hf.get n _ h1) h2)
 have z:∀t u,d≠some t->st.fr.get t=some u->VR E2 w u ((a.put d cv).tmps.getD t undef):=λt u I hu=>by
  refine l (s.hf.get t u ?_)
  cases d with
  |none=>exact hu
  |some n=>
   show(qv st.fr (some n) (.sym st.mv)).get t=_
   rw[zHX,Fr.qu,if_neg (λe=>I (by rw[e]))]
   exact hu
 have q:∀t u,(qv st.fr d (.qf sz es)).get t=some u->VR E2 w u ((a.put d cv).tmps.getD t undef)/\CP st.mv st.m u:=λt u hu=>by
  by_cases e:d=some t
  .subst e;rw[zHX,Fr.qu,if_pos rfl]at hu;cases hu;exact⟨C t rfl,.qf _ _ O⟩
  .have hu:st.fr.get t=some u:=by
    cases d with
    |none=>exact hu
    |some n=>
     rw[zHX,Fr.qu,if_neg (λh=>e (by rw[h]))]at hu
     exact hu
   exact⟨z t u e hu,J t u hu⟩
 refine⟨E2,⟨⟨s.hr.nodup,s.hr.qy,s.hr.inj,λp c=>(s.hr.obj p c).mono rfl l,?_,?_⟩,⟨s.hf.size,λt u hu=>(q t u hu).1⟩,λg u h=>⟨l (s.hg g u h).1,(s.hg g u h).2⟩,s.qy,λt u hu=>(q t u hu).2,L,λj vi h=>?_,λj v i off h=>N j v i off h,λj vi b h F hb=>?_,λj R vi A b h1 h2 h3 h4 T X=>s.qU j R vi A b (go h1) (go h2) h3 h4 T X⟩,⟨λx f=>.inl f,λx f=>?_,λx f=>?_,rfl,rfl,rfl,QB _,λ_ _ _=>rfl,.refl w⟩⟩
 .rintro p c (hz|hz)
  .exact s.hr.nz p c hz
  .exact(s.bz st.mv _ _ gv rfl (o hz)).2 p c rfl
 .rintro b (hb|hb)
  .exact s.hr.wi b hb
  .exact(s.qW st.mv _ gv).2.lt rfl (o hb)
 .have h1:=s.qW j vi (go h);exact⟨r j vi h,h1.2.mono rfl (λ_=>rfl) (λb _ _=>rfl) (λb hb=>⟨.inl hb,rfl⟩) (.refl w) λv i off _ W M y=>⟨rfl,M,go y,rfl⟩⟩
 .obtain⟨S,z2⟩:=s.bz j vi b (go h) F hb;refine⟨?_,z2⟩
  rintro (hz|hz)
  .exact S hz
  .have:=s.qU j st.mv _ _ b (go h) gv F rfl hb (o hz);have:=r j vi h;omega
 .rcases f with f|f
  .exact .inl f
  .exact .inr (.inl (.inr ⟨st.mv,_,gv,rfl,o f⟩))
 .rcases f with⟨p,c,e⟩|⟨j,vi,h1,h2,h3⟩
  .exact .inl (.inl ⟨p,c,e⟩)
  .exact .inl (.inr ⟨j,vi,go h1,h2,h3⟩)
theorem zY4{len sz:Nat}{z:JE}{i:List (Nat×Nat×XV)}{k:AV->Sta->Prop}(c:Ctx P G nt Z0 B0 w0 dl E w a β st o (.qx len sz z i)){es:JE}(D:bsL G st.fr len sz z i=some es)(r:k (.qf sz es) st):OpK P G nt Z0 B0 w0 dl o w a k:=by
 obtain⟨cs,x,y,A,u⟩:=zVe D;intro next Q B;refine zU8 (k:=λv d=>v=.sym st.mv/\d=⟨st.fr,st.H,(st.mv,.vec sz es)::st.V,st.m,st.mv+1⟩) c x y A u ⟨rfl,rfl⟩ next Q λv d q E' w' e f=>?_
 obtain⟨rfl,rfl⟩:=e;obtain⟨I,l,p,g⟩:=f.out;obtain⟨t,s2,C⟩:=SR.uO c.s.wa c.s.cH (λj F h=>(c.s.qW j F h).1) c.s.vp l
 exact B _ _ q t w' r ⟨I,s2,p.trans C,g⟩
theorem zY5(ab:TbW P G tb){aa:XO}{ks:List K}(c:Ctx P G nt Z0 B0 w0 dl E w a β st o aa)(h:wop G tb st aa ks k):OpK P G nt Z0 B0 w0 dl o w a k:=by
 cases aa<;>try (exact h.elim)
 all_goals try (exact c.wL rfl h)
 case wg x i l sz ag=>
  simp only[wop]at h;split at h
  .exact c.wL rfl h
  .split at h
   .rename_i F n hi;obtain⟨⟨h1,h2⟩,h3⟩:=h;obtain⟨m,rfl⟩:=Int.eq_ofNat_of_zero_le h1;have g:=zDE h3 m (Int.ofNat_lt.1 h2) rfl;have e:xoS G zf st.fr st.H st.m (.wg x i l sz ag)=xoS G zf st.fr st.H st.m (.wg x (.c (.int F (.ofNat m))) l sz ag):=by
     have hi:i.ev G st.fr=some (.int F (.ofNat m)):=hi;simp only[xoS];rw[hi];rfl
    exact c.wL rfl (by rw[e];exact g)
   .exact h.elim
 case qz x i l sz=>
  simp only[wop]at h;split at h
  .exact c.wL rfl h
  .split at h
   .rename_i F n hi;obtain⟨⟨h1,h2⟩,h3⟩:=h;obtain⟨m,rfl⟩:=Int.eq_ofNat_of_zero_le h1;have g:=zDE h3 m (Int.ofNat_lt.1 h2) rfl;have e:xoS G zf st.fr st.H st.m (.qz x i l sz)=xoS G zf st.fr st.H st.m (.qz x (.c (.int F (.ofNat m))) l sz):=by
     have hi:i.ev G st.fr=some (.int F (.ofNat m)):=hi;simp only[xoS];rw[hi];rfl
    exact c.wL rfl (by rw[e];exact g)
   .exact h.elim
 case pick cc x y=>
  simp only[wop]at h;split at h
  .rename_i cb Y;split at h
   .rename_i n;have M:st.fr.get n=some (.bool cb):=Y;have A:(zG (.t n)=true/\zG x=true)/\zG y=true:=by have:=c.ok;simp only[zx,XO.qb,z7,List.all_append,QY,List.all_nil,QT,QA]at this;exact this
    have c':Ctx P G nt Z0 B0 w0 dl E w a β ⟨st.fr.put n (.bool cb),st.H,st.V,st.m,st.mv⟩ o (.pick (.t n) x y):=⟨c.s.known M,c.kp,c.df,c.hG,c.hm,c.hc,c.hd,c.ok⟩;rcases zDz h with⟨rfl,h2⟩|⟨rfl,h2⟩
    .split at h2
     .rename_i v J;exact c'.val (by simp only[xoS,zVd M,Y,J]) (zY c.hG c.s.wa A.1.2 J) h2
     .exact h2.elim
    .split at h2
     .rename_i v J;exact c'.val (by simp only[xoS,zVd M,Y,J]) (zY c.hG c.s.wa A.2 J) h2
     .exact h2.elim
   .exact c.wL rfl h
  .exact h.elim
 case bin op x y=>
  simp only[wop]at h;split at h
  .rename_i s1 d;split at h
   .split at h
    .rename_i s2 C;obtain⟨h1,h2⟩:=h;have hb:Nat.ble (s1.length+s2.length) zh=true:=by rw[Qr];exact h1
     exact c.val (by simp only[xoS,d,C,zEo,hb]) (.str _) h2
    .exact h.elim
   .exact c.wL rfl h
  .rename_i k1 n1 d;split at h
   .split at h
    .rename_i k2 U C;split at h
     .rename_i g;obtain⟨h1,h2⟩:=h;have hb:(U==0)=false:=by rw[beq_eq_false_iff_ne];exact h1
      exact c.val (by simp only[xoS,d,C,zEo,g,hb]) (.int _ _) h2
     .exact h.elim
    .exact h.elim
   .split at h
    .rename_i k2 U C;split at h
     .rename_i g;obtain⟨h1,h2⟩:=h;have hb:(U==0)=false:=by rw[beq_eq_false_iff_ne];exact h1
      exact c.val (by simp only[xoS,d,C,zEo,g,hb]) (.int _ _) h2
     .exact h.elim
    .exact h.elim
   .split at h
    .rename_i k2 U C;obtain⟨h1,h2⟩:=h;have hb:decide (U<0)=false:=by rw[decide_eq_false_iff_not];omega
     exact c.val (by simp only[xoS,d,C,zEo,hb]) (.int _ _) h2
    .exact h.elim
   .split at h
    .rename_i k2 U C;obtain⟨h1,h2⟩:=h;have hb:decide (U<0)=false:=by rw[decide_eq_false_iff_not];omega
     exact c.val (by simp only[xoS,d,C,zEo,hb]) (.int _ _) h2
    .exact h.elim
   .exact c.wL rfl h
  .exact h.elim
 case wG neg F x y=>
  simp only[wop]at h;split at h
  .rename_i p d;split at h
   .rename_i q C;split at h
    .rename_i r hr;obtain⟨R,W,e3⟩:=zRk hr;have:eqs F p q=some r:=by simp only[eqs,W,e3,Nat.beq_refl,R]
     exact c.val (by simp only[xoS,d,C,this]) (by unfold zCk;exact .bool _) h
    .exact h.elim
   .exact h.elim
  .exact h.elim
 case vU x=>
  simp only[wop]at h;split at h
  .rename_i s d;exact zfb c d h
  .exact h.elim
 case vF x=>
  simp only[wop]at h;have A:zG x=true:=by have:=c.ok;simp only[zx,XO.qb,z7,QT,QY,List.all_nil]at this;exact this
  split at h
  .rename_i j d;split at h
   .rename_i sz es D;split at h
    .rename_i hb;have:=zb hb;subst this;obtain⟨s,hs,g⟩:=h;exact zfc c d D hs g
    .exact h.elim
   .exact h.elim
  .rename_i sz es d;split at h
   .rename_i hb;have:=zb hb;subst this;obtain⟨s,hs,g⟩:=h;exact c.val (by simp only[xoS,d,zQ2 (zKZ hs),hs]) (.str _) g
   .exact h.elim
  .rename_i d;exact c.val (by simp only[xoS,d,content,zAr]) (.str _) h
  .exact h.elim
 case wW x i=>
  simp only[wop]at h;split at h
  .rename_i s d;split at h
   .rename_i F n hi;obtain⟨b,hb,g⟩:=h;unfold ixN at hb;split at hb
    .exact c.val (by simp only[xoS,d,hi,hb]) (.int _ _) g
    .cases hb
   .exact h.elim
  .exact h.elim
 case qx len sz z ps=>
  cases ks with
  |nil=>
   simp only[wop]at h;split at h
   .rename_i cs hf;split at h
    .rename_i hl;split at h
     .rename_i es hr;split at h
      .rename_i N;exact zU8 c hf (zb hl) hr N h
      .exact h.elim
     .exact h.elim
    .exact h.elim
   .exact h.elim
  |cons k0 ks=>
   cases k0 with
   |c u=>
    simp only[wop]at h;split at h
    .rename_i es he;exact zY4 c he h
    .exact h.elim
   |_=>exact c.wL rfl h
 case load x sz ag=>
  simp only[wop]at h;split at h
  .exact c.wL rfl h
  .exact h.elim
  .rename_i p _ d;split at h
   .rename_i j i off N;split at h
    .rename_i L es D;obtain⟨v,J,g⟩:=h;exact zeg c d N D J g
    .exact h.elim
   .exact h.elim
  .exact c.wL rfl h
 case store x y sz=>
  simp only[wop]at h;have A:zG x=true/\zG y=true:=by have:=c.ok;simp only[zx,XO.qb,z7,QT,List.all_append,QY,List.all_nil,QA]at this;exact this
  split at h
  .rename_i p d;split at h
   .rename_i j i off N;split at h
    .rename_i L es D;split at h
     .rename_i v C;split at h
      .rename_i hb;simp only[QA]at hb;obtain⟨⟨b1,b2⟩,b3⟩:=hb;have b1:=zb b1;have b2:=zb b2;subst b1;subst b2;split at h
       .rename_i new hn;exact zco c d N D C (zCv 12 (zY c.hG c.s.wa A.2 C) b3) hn h
       .exact h.elim
      .exact h.elim
     .exact h.elim
    .exact h.elim
   .exact h.elim
  .exact c.wL rfl h
 case qD x off=>
  simp only[wop]at h;split at h
  .rename_i p d;split at h
   .rename_i j i o' N;split at h
    .rename_i sz es D;exact zcn c d N D h
    .exact h.elim
   .exact h.elim
  .exact c.wL rfl h
 case qB x i sz=>
  simp only[wop]at h;have A:zG x=true/\zG i=true:=by have:=c.ok;simp only[zx,XO.qb,z7,QT,List.all_append,QY,List.all_nil,QA]at this;exact this
  split at h
  .rename_i L es d;split at h
   .rename_i hb;split at h
    .rename_i F n hi;obtain⟨v,J,g⟩:=h;obtain⟨R,W⟩:=zWI (k:=F) J;have O:=zY c.hG c.s.wa A.1 d;cases O with
     |qf _ _ X=>exact c.val (by simp only[xoS,d,hi,hb,R]) (.qc _ _ (X v W)) g
    .exact h.elim
   .exact h.elim
  .rename_i j d;split at h
   .rename_i L es D;split at h
    .rename_i hb;have:=zb hb;subst this;split at h
     .rename_i F n hi;obtain⟨⟨h1,h2⟩,h3⟩:=h;exact zax c d D hi h1 h2 h3
     .exact h.elim
    .exact h.elim
   .exact h.elim
  .split at h
   .rename_i F n hi;obtain⟨⟨h1,h2⟩,h3⟩:=h;obtain⟨m,rfl⟩:=Int.eq_ofNat_of_zero_le h1;have g:=zDE h3 m (Int.ofNat_lt.1 h2) rfl;have e:xoS G zf st.fr st.H st.m (.qB x i sz)=xoS G zf st.fr st.H st.m (.qB x (.c (.int F (.ofNat m))) sz):=by
     have hi:i.ev G st.fr=some (.int F (.ofNat m)):=hi;simp only[xoS];rw[hi];rfl
    exact c.wL rfl (by rw[e];exact g)
   .exact h.elim
  .exact h.elim
 case wP x lo hi=>
  simp only[wop]at h;split at h
  .rename_i s d;split at h
   .rename_i ah S;split at h
    .rename_i af T;obtain⟨l,r,g,R,W,_,_⟩:=zJp h;exact c.val (by simp only[xoS,d,S,T,R,W]) (.str _) g
    .exact h.elim
   .exact h.elim
  .exact h.elim
 case wA x lo hi mx sz=>
  simp only[wop]at h;have A:=c.ok;simp only[zx,QA]at A;split at h
  .rename_i L es d;split at h
   .rename_i hb;split at h
    .split at h
     .rename_i ah S;split at h
      .rename_i af T;obtain⟨l,r,g,R,W,_,_⟩:=zJp h;have B:zG x=true:=by
        have:=QH.1 A.1 x (by simp[XO.qb])
        exact this
       have O:=zY c.hG c.s.wa B d;cases O with
       |qf _ _ X=>exact c.val (by simp only[xoS,d,S,T,zVc,zIW,hb,R,W]) (.qf _ _ λe he=>X e (QO (QX he))) g
      .exact h.elim
     .exact h.elim
    .exact h.elim
   .exact h.elim
  .rename_i d;unfold WXd at h;split at h
   .rename_i v H' m' B;have:v=.qa/\H'=st.H/\m'=st.m:=by
     simp only[xoS,d]at B;split at B
     .rename_i v0 ao aq ar e0 _ _ _;cases e0;simp only[zIW]at B;split at B
      .rename_i v1 I;cases B;split at I
       .split at I
        .split at I
         .cases I;exact⟨rfl,rfl,rfl⟩
         .cases I
        .cases I
       .cases I
      .cases B
     .cases B
    obtain⟨rfl,rfl,rfl⟩:=this;exact c.val B .qa h
   .exact h.elim
  .exact h.elim
 case wq x=>
  simp only[wop]at h;split at h
  .rename_i j d;split at h
   .rename_i sz es D;exact zef c d D h
   .exact h.elim
  .exact c.wL rfl h
 case append x y sz bytes=>
  simp only[wop]at h;split at h
  .exact h.elim
  .rename_i ad;split at h
   .rename_i v d;split at h
    .rename_i u C;split at h
     .rename_i ys he;split at h
      .rename_i ac;split at h
       .obtain⟨h1,h2⟩:=h;exact zPk c ad c.s.hf d C C he ac h1 (λj vi h=>h) h2
       .rename_i j;split at h
        .rename_i L es D;split at h
         .rename_i hb;have:=zb hb;subst this;obtain⟨⟨h1,h2⟩,h3⟩:=h;exact zU9 c ad d D C he ac h1 h2 h3
         .exact h.elim
        .exact h.elim
       .exact h.elim
      .exact h.elim
     .exact h.elim
    .exact h.elim
   .exact h.elim
 case qN l cx sz bytes z=>
  simp only[wop]at h;split at h
  .rename_i k1 n hl;split at h
   .rename_i k2 m ae;split at h
    .rename_i e hr hz;obtain⟨⟨h1,h2,h3,h4⟩,h5⟩:=h;exact zY1 c hl ae hr (zb hz) h1 h2 h3 h4 h5
    .exact h.elim
   .exact h.elim
  .exact h.elim
 case wv=>exact zcp c h
 case lookup ag F m x z ok=>
  simp only[wop]at h;split at h
  .rename_i j hm;split at h
   .rename_i es D;split at h
    .rename_i kv d;split at h
     .rename_i ai;obtain⟨v,J,g⟩:=h;exact zay c hm D d ai J g
     .exact h.elim
    .exact h.elim
   .exact h.elim
  .exact h.elim
 case wR ag F m x y=>
  simp only[wop]at h;split at h
  .rename_i j hm;split at h
   .rename_i es D;split at h
    .rename_i kv d;split at h
     .rename_i u C;split at h
      .rename_i hb;simp only[QA]at hb;obtain⟨ak,N,g⟩:=h;exact zeh c hm D d C hb.1.1 hb.1.2 hb.2 N g
      .exact h.elim
     .exact h.elim
    .exact h.elim
   .exact h.elim
  .exact h.elim
 case call f xs=>
  simp only[wop]at h;split at h
  .rename_i vs J;exact zei ab c J h
  .exact h.elim
 case qO fx xs=>
  simp only[wop]at h;split at h
  .rename_i f first aj hf;split at h
   .rename_i vs J;exact zcq ab c hf J h
   .exact h.elim
  .exact h.elim
end
open Classical in
noncomputable def zLV:TblS->Nat->JE->JF
 |[],_,_=>none
 |s::r,f,args=>match Nat.beq f s.1 with
  |true=>if s.2.1 args then s.2.2 args else none
  |false=>zLV r f args
theorem zRm:∀{tb:TblS}{f:Nat}{args:JE}{k:AV->Prop},zGg tb f args k->∃v,zLV tb f args=some v/\k v
 |[],f,args,k,h=>h.elim
 |s::r,f,args,k,h=>by
  simp only[zGg]at h;cases hb:Nat.beq f s.1 with
  |true=>
   simp only[hb]at h;obtain⟨h1,h2⟩:=h;split at h2
   .rename_i v c;exact⟨v,by simp only[zLV,hb,h1,if_true];exact c,h2⟩
   .exact h2.elim
  |false=>
   simp only[hb]at h;obtain⟨v,h1,h2⟩:=zRm h;exact⟨v,by simp only[zLV,hb];exact h1,h2⟩
theorem zK1{P:Program}{G:Cx}:∀{tb:TblS}{f:Nat}{args:JE}{v:AV},TbW P G tb->zLV tb f args=some v->Enters P f/\PP v/\∀H nx,FnT P G f args H nx v H nx
 |[],f,args,v,_,h=>by cases h
 |s::r,f,args,v,c,h=>by
  simp only[zLV]at h;split at h
  .rename_i e;split at h
   .rename_i d;have:=c s (.head _) args v d h;rw[zb e];exact this
   .cases h
  .exact zK1 (λs g=>c s (.tail _ g)) h
open Classical in
noncomputable def zGl(mv:Nat)(tb:TblS):Call:=λf args H nx=>
 match args.any (zCC 8)with
 |false=>match zLV tb f args with
  |some v=>some (v,H,nx)
  |none=>none
 |true=>if(∀a∈args,CP mv nx a)/\HCP mv nx H/\(∀p∈H,p.1<nx)then
   match zC (frz H [] 8) args with
   |some c=>match zLV tb f c with
    |some v=>match zBT 8 v with
     |true=>some (v,H,nx)
     |false=>none
    |none=>none
   |none=>none
  else none
theorem zXF{mv:Nat}{tb:TblS}:Calm (zGl mv tb):=by
 intro f args H nx v d c h;simp only[zGl]at h
 repeat' split at h
 all_goals first
  |(cases h;done)
  |(cases h;exact⟨rfl,rfl⟩)
theorem zaB{P:Program}{G:Cx}{mv:Nat}{tb:TblS}(I:TbW P G tb)(Y:GPP G):zFR P G (zGl mv tb):=by
 intro f args H nx v H' ac h;simp only[zGl]at h;split at h
 .split at h
  .rename_i u hu;cases h;obtain⟨h1,h2,h3⟩:=zK1 I hu;exact⟨h1,QB _,h3 _ _⟩
  .cases h
 .split at h
  rotate_left
  .cases h
  rename_i hc;obtain⟨O,M,S⟩:=hc;split at h
  rotate_left
  .cases h
  rename_i r A;split at h
  rotate_left
  .cases h
  rename_i u hu;split at h
  rotate_left
  .cases h
  rename_i hs;cases h;obtain⟨h1,h2,h3⟩:=zK1 I hu;refine⟨h1,QB _,λE w l d L N aa=>?_⟩
  have B:∀{x:AV}{W:Value},CP mv nx x->VR E w x W->VR ⟨E.ρ,λh=>E.D h/\h<nx,E.Z,E.σ⟩ w x W:=λhc U=>
   VR.vG (E:=E) (E':=⟨E.ρ,λh=>E.D h/\h<nx,E.Z,E.σ⟩) (w:=w) (w':=w) (λh h1 h2=>⟨⟨h2,h1⟩,rfl⟩) (λb hb=>⟨hb,rfl⟩) (.refl w) (λi _=>rfl) U hc
  have s:SR G 0 ⟨E.ρ,λh=>E.D h/\h<nx,E.Z,E.σ⟩ w { tmps:=#[],defers:=[] } (λ_=>none) ⟨[],H,[],nx,mv⟩:=by
   refine⟨⟨d.nodup,λp c=>⟨d.qy p c,S p c⟩,d.inj,λp c=>?_,d.nz,d.wi⟩,⟨rfl,λt v h=>(by cases h)⟩,λg u h=>⟨B (Y g u h).cp (N g u h).1,(N g u h).2⟩,λh hh=>hh.2,λt v h=>(by cases h),M,λj V h=>(by cases h),λj j2 i off h=>(by cases h),λj V b h=>(by cases h),λj j' V ab b h=>(by cases h)⟩
   obtain⟨str,cs,e,T⟩:=M p c;have:=d.obj p c;rw[e]at this⊢;exact OR.vG rfl (λhc U=>B hc U) T this
  obtain⟨m1,m2⟩:=zA1 A;have J:VRs (zBl ⟨E.ρ,λh=>E.D h/\h<nx,E.Z,E.σ⟩ (λ_=>none) H []) w r l.toList:=by
   refine⟨m1.trans L.1,λi y u hy hu=>?_⟩
   have hi:i<args.length:=by have:=(QC.1 hy).1;omega
   have z:=QD hi;have C:=O _ (QF z);exact zEu s 8 C (B C (L.2 i _ u z hu)) (m2 i _ y z hy)
  have F:∀b,(zBl ⟨E.ρ,λh=>E.D h/\h<nx,E.Z,E.σ⟩ (λ_=>none) H []).Z b->b<w.heap.size:=by
   rintro b (hb|⟨p,c,rfl⟩|⟨j,V,q1,_⟩)
   .exact d.wi b hb
   .exact d.lt c
   .cases q1
  have vq:HR (zBl ⟨E.ρ,λh=>E.D h/\h<nx,E.Z,E.σ⟩ (λ_=>none) H []) [] w:=⟨.nil,λp c=>by simp at c,λp c=>by simp at c,λp c=>by simp at c,λp c=>by simp at c,F⟩
  have R:GR G (zBl ⟨E.ρ,λh=>E.D h/\h<nx,E.Z,E.σ⟩ (λ_=>none) H []) w:=λg u h=>⟨VR.pp (E:=E) (E':=zBl ⟨E.ρ,λh=>E.D h/\h<nx,E.Z,E.σ⟩ (λ_=>none) H []) (w:=w) (w':=w) (λb hb=>⟨.inl hb,rfl⟩) (N g u h).1 (Y g u h),(N g u h).2⟩
  refine(h3 [] 0 _ w l vq J R λh _ _ hD=>hD).mono λe w' h=>?_
  obtain⟨cv,E',rfl,k1,q,k3⟩:=h;have o:∀x,x<w.heap.size->w'.heap[x]? = w.heap[x]?:=λx z=>q.qM x z λp c=>by simp at c
  have hm:∀{u X},VR E w u X->VR E w' u X:=λhu=>VR.mono (E:=E) (E':=E) (λ_ h=>⟨h,rfl⟩) (λb hb=>⟨hb,o b (d.wi b hb)⟩) q.qp hu
  exact⟨cv,E,rfl,⟨d.nodup,d.qy,d.inj,λp c=>(d.obj p c).mono (o _ (d.lt c)) hm,d.nz,λb hb=>QW (d.wi b hb) q.size⟩,
   ⟨QB _,λ_ _=>rfl,λh=>⟨.inl,λh=>h.elim id λ⟨x,y⟩=>by omega⟩,λ_ h=>h,λ_ h=>.inl h,λp c=>.inl ⟨p,c,rfl⟩,q.tape,q.os,q.output,q.size,λx z _=>o x z,q.qp,rfl⟩,zTO 8 hs k3⟩
theorem qt:∀{fr:Fr}{n:Nat}{v:AV},fr.get n=some v->fr.put n v=fr
 |[],n,v,h=>by cases h
 |(k,u)::r,n,v,h=>by
  simp only[Fr.get]at h;simp only[Fr.put];cases e:Nat.beq k n with
  |true=>
   rw[e]at h;cases h;simp only;rw[zb e]
  |false=>
   rw[e]at h;simp only;rw[qt h]
theorem zVf{G:Cx}{call:Call}{fr:Fr}{H:Heap}{m:Nat}{o:XO}{r:Out}(h:xoS G zf fr H m o=some r):xoS G call fr H m o=some r:=by
 cases o<;>first|exact h|skip
 .simp only[xoS]at h⊢;split at h
  .cases h
  .cases h
 .simp only[xoS]at h⊢;split at h
  .unfold zHq at h;split at h
   .cases h
   .cases h
  .cases h
 .simp only[xoS]at h⊢;split at h
  .split at h
   .cases h
   .cases h
  .cases h
theorem zSs{G:Cx}{fr:Fr}{H:Heap}{m:Nat}{o:XO}(hd:zMW o=true){v:AV}{H':Heap}{f:Nat}(c:∀p∈H,p.1<m)(h:xoS G zf fr H m o=some (v,H',f)):(∀p∈H',p.1<f)/\m<=f:=by
 have e:=zXw (call:=zf) (λ_ _ _ _ _ _ _ h=>by cases h) h
 refine⟨?_,e⟩
 by_cases g:z8 o=0
 .have h1:=zS1 (G:=G) (call:=zf) (fr:=fr) (H:=H) (nx:=m) g;rw[h]at h1;split at h1
  .simp only[QK,Prod.mk.injEq]at h1;obtain⟨_,rfl,_⟩:=h1;exact λp d=>QW (c p d) e
  .cases h1
 .by_cases h1:z8 o=1
  .obtain⟨rfl,rfl⟩:=zWD h1 h;exact c
  .by_cases h2:z8 o=2
   .obtain⟨l,_,rfl,rfl⟩:=zU1 h2 h;intro p d;rcases QJ.1 d with rfl|d
    .exact QS _
    .exact Nat.lt_succ_of_lt (c p d)
   .cases o<;>first|(cases hd;done)|(exact absurd rfl g)|(exact absurd rfl h1)|(exact absurd rfl h2)|skip
    simp only[xoS]at h
    repeat' split at h
    all_goals first|(cases h;done)|skip
    cases h;intro p d;rcases zC8 d with rfl|d
    .have key:∀{h:Nat}{o:HO},H.get h=some o->h<m:=λi=>c _ (Heap.qj i)
     exact key (by assumption)
    .exact c p d
section
variable{P:Program}{G:Cx}{tb:TblS}{st:Sta}{k:AV->Sta->Prop}
structure DXo(G:Cx)(tb:TblS)(st:Sta)(xop:XO)(k:AV->Sta->Prop)(v:AV)(H':Heap)(m':Nat):Prop where
 x:xoS G (zGl st.mv tb) st.fr st.H st.m xop=some (v,H',m')
 cv:CP st.mv m' v
 cH:HCP st.mv m' H'
 lt:∀p∈H',p.1<m'
 le:st.m<=m'
 k:k v ⟨st.fr,H',st.V,m',st.mv⟩
theorem zcr(ae:TbW P G tb)(T:GPP G){A:XO}{ks:List K}(z:zx A=true)(C:zDj st.mv st.m st.fr)(R:HCP st.mv st.m st.H)(M:∀p∈st.H,p.1<st.m)(h:zCD G tb st A ks k):∃v H' L,DXo G tb st A k v H' L:=by
 have o:∀{k':AV->Sta->Prop},(∀v d,k' v d->k v ⟨d.fr,d.H,st.V,d.m,d.mv⟩)->zMW A=true->WXd ⟨st.fr,st.H,[],st.m,st.mv⟩ (xoS G zf st.fr st.H st.m A) k'->∃v H' L,DXo G tb st A k v H' L:=by
  intro k' ah af h;unfold WXd at h;split at h
  .rename_i v H' L g;obtain⟨h1,h2⟩:=zPi af z T C R g;obtain⟨h3,h4⟩:=zSs af M g;exact⟨v,H',L,zVf g,h1,h2,h3,h4,ah _ _ h⟩
  .exact h.elim
 have val:∀{v:AV},xoS G zf st.fr st.H st.m A=some (v,st.H,st.m)->CP st.mv st.m v->k v st->∃v H' L,DXo G tb st A k v H' L:=λ{v} g ar u=>⟨v,st.H,st.m,zVf g,ar,R,M,QB _,u⟩
 have O:∀{f:Nat}{W:JE},xoS G (zGl st.mv tb) st.fr st.H st.m A=zGl st.mv tb f W st.H st.m->(∀a∈W,CP st.mv st.m a)->zCY tb f W ⟨st.fr,st.H,[],st.m,st.mv⟩ (λv d=>k v ⟨d.fr,d.H,st.V,d.m,d.mv⟩)->∃v H' L,DXo G tb st A k v H' L:=by
  intro f W g D h;unfold zCY at h;split at h
  .rename_i hh;obtain⟨v,e,u⟩:=zRm h;obtain⟨_,h2,_⟩:=zK1 ae e;exact⟨v,st.H,st.m,by rw[g];simp only[zGl,hh,e],h2.cp,R,M,QB _,u⟩
  .rename_i hh;split at h
   .rename_i ak aa;obtain⟨v,e,u⟩:=zRm h;obtain⟨_,h2,_⟩:=zK1 ae e;split at u
    .rename_i hs;have aa:zC (frz st.H [] 8) W=some ak:=aa;refine⟨v,st.H,st.m,?_,h2.cp,R,M,QB _,u⟩
     rw[g];simp only[zGl,hh];rw[if_pos ⟨D,R,M⟩];simp only[aa,e,hs]
    .exact u.elim
   .exact h.elim
 cases A<;>try (exact h.elim)
 case vF x=>
  simp only[zCD]at h;unfold WXd at h;split at h
  .rename_i v H' L g;have ao:=g;simp only[xoS]at g;split at g
   .cases g
   .split at g
    .split at g
     .cases g;exact val ao (.str _) h
     .cases g
    .cases g
   .cases g
  .exact h.elim
 all_goals try (exact o (λv d h=>h) rfl h)
 case wg x i l sz ag=>
  simp only[zCD,wop]at h;split at h
  .exact o (λv d h=>h) rfl h
  .split at h
   .rename_i J n hi;obtain⟨⟨h1,h2⟩,h3⟩:=h;obtain⟨m,rfl⟩:=Int.eq_ofNat_of_zero_le h1;have u:=zDE h3 m (Int.ofNat_lt.1 h2) rfl;have e:xoS G zf st.fr st.H st.m (.wg x i l sz ag)=xoS G zf st.fr st.H st.m (.wg x (.c (.int J (.ofNat m))) l sz ag):=by
     have hi:i.ev G st.fr=some (.int J (.ofNat m)):=hi;simp only[xoS];rw[hi];rfl
    exact o (λv d h=>h) rfl (by rw[e];exact u)
   .exact h.elim
 case qz x i l sz=>
  simp only[zCD,wop]at h;split at h
  .exact o (λv d h=>h) rfl h
  .split at h
   .rename_i J n hi;obtain⟨⟨h1,h2⟩,h3⟩:=h;obtain⟨m,rfl⟩:=Int.eq_ofNat_of_zero_le h1;have u:=zDE h3 m (Int.ofNat_lt.1 h2) rfl;have e:xoS G zf st.fr st.H st.m (.qz x i l sz)=xoS G zf st.fr st.H st.m (.qz x (.c (.int J (.ofNat m))) l sz):=by
     have hi:i.ev G st.fr=some (.int J (.ofNat m)):=hi;simp only[xoS];rw[hi];rfl
    exact o (λv d h=>h) rfl (by rw[e];exact u)
   .exact h.elim
 case pick cc x y=>
  simp only[zCD,wop]at h;have t:(zG cc=true/\zG x=true)/\zG y=true:=by simp only[zx,XO.qb,z7,List.all_append,QY,List.all_nil,QT,QA]at z;exact z
  split at h
  .rename_i cb ad;split at h
   .rename_i n;have U:st.fr.get n=some (.bool cb):=ad;rcases zDz h with⟨rfl,h2⟩|⟨rfl,h2⟩
    .split at h2
     .rename_i v I;rw[qt U]at h2;exact val (by simp only[xoS,ad,I]) (zY T C t.1.2 I) h2
     .exact h2.elim
    .split at h2
     .rename_i v I;rw[qt U]at h2;exact val (by simp only[xoS,ad,I]) (zY T C t.2 I) h2
     .exact h2.elim
   .exact o (λv d h=>h) rfl h
  .exact h.elim
 case bin op x y=>
  simp only[zCD,wop]at h;split at h
  .rename_i s1 g;split at h
   .split at h
    .rename_i s2 N;obtain⟨h1,h2⟩:=h;have hb:Nat.ble (s1.length+s2.length) zh=true:=by rw[Qr];exact h1
     exact val (by simp only[xoS,g,N,zEo,hb]) (.str _) h2
    .exact h.elim
   .exact o (λv d h=>h) rfl h
  .rename_i k1 n1 g;split at h
   .split at h
    .rename_i k2 n2 N;split at h
     .rename_i u;obtain⟨h1,h2⟩:=h;have hb:(n2==0)=false:=by rw[beq_eq_false_iff_ne];exact h1
      exact val (by simp only[xoS,g,N,zEo,u,hb]) (.int _ _) h2
     .exact h.elim
    .exact h.elim
   .split at h
    .rename_i k2 n2 N;split at h
     .rename_i u;obtain⟨h1,h2⟩:=h;have hb:(n2==0)=false:=by rw[beq_eq_false_iff_ne];exact h1
      exact val (by simp only[xoS,g,N,zEo,u,hb]) (.int _ _) h2
     .exact h.elim
    .exact h.elim
   .split at h
    .rename_i k2 n2 N;obtain⟨h1,h2⟩:=h;have hb:decide (n2<0)=false:=by rw[decide_eq_false_iff_not];omega
     exact val (by simp only[xoS,g,N,zEo,hb]) (.int _ _) h2
    .exact h.elim
   .split at h
    .rename_i k2 n2 N;obtain⟨h1,h2⟩:=h;have hb:decide (n2<0)=false:=by rw[decide_eq_false_iff_not];omega
     exact val (by simp only[xoS,g,N,zEo,hb]) (.int _ _) h2
    .exact h.elim
   .exact o (λv d h=>h) rfl h
  .exact h.elim
 case wG neg J x y=>
  simp only[zCD,wop]at h;split at h
  .rename_i p g;split at h
   .rename_i q N;split at h
    .rename_i r hr;obtain⟨X,e2,e3⟩:=zRk hr;have:eqs J p q=some r:=by simp only[eqs,e2,e3,Nat.beq_refl,X]
     exact val (by simp only[xoS,g,N,this]) (by unfold zCk;exact .bool _) h
    .exact h.elim
   .exact h.elim
  .exact h.elim
 case wW x i=>
  simp only[zCD,wop]at h;split at h
  .rename_i s g;split at h
   .rename_i J n hi;obtain⟨b,hb,u⟩:=h;unfold ixN at hb;split at hb
    .exact val (by simp only[xoS,g,hi,hb]) (.int _ _) u
    .cases hb
   .exact h.elim
  .exact h.elim
 case load x sz ag=>
  simp only[zCD,wop]at h;split at h
  .exact o (λv d h=>h) rfl h
  .exact h.elim
  .exact h.elim
  .exact o (λv d h=>h) rfl h
 case store x y sz=>
  simp only[zCD,wop]at h;split at h
  .exact h.elim
  .exact o (λv d h=>h) rfl h
 case qD x off=>
  simp only[zCD,wop]at h;split at h
  .exact h.elim
  .exact o (λv d h=>h) rfl h
 case qB x i sz=>
  simp only[zCD,wop]at h;have t:zG x=true/\zG i=true:=by simp only[zx,XO.qb,z7,QT,List.all_append,QY,List.all_nil,QA]at z;exact z
  split at h
  .rename_i aj es g;split at h
   .rename_i hb;split at h
    .rename_i J n hi;obtain⟨v,I,u⟩:=h;obtain⟨X,e2⟩:=zWI (k:=J) I;have D:=zY T C t.1 g;cases D with
     |qf _ _ ac=>exact val (by simp only[xoS,g,hi,hb,X]) (.qc _ _ (ac v e2)) u
    .exact h.elim
   .exact h.elim
  .exact h.elim
  .split at h
   .rename_i J n hi;obtain⟨⟨h1,h2⟩,h3⟩:=h;obtain⟨m,rfl⟩:=Int.eq_ofNat_of_zero_le h1;have u:=zDE h3 m (Int.ofNat_lt.1 h2) rfl;have e:xoS G zf st.fr st.H st.m (.qB x i sz)=xoS G zf st.fr st.H st.m (.qB x (.c (.int J (.ofNat m))) sz):=by
     have hi:i.ev G st.fr=some (.int J (.ofNat m)):=hi;simp only[xoS];rw[hi];rfl
    exact o (λv d h=>h) rfl (by rw[e];exact u)
   .exact h.elim
  .exact h.elim
 case wP x lo hi=>
  simp only[zCD,wop]at h;split at h
  .rename_i s g;split at h
   .rename_i aq Y;split at h
    .rename_i ai ab;obtain⟨l,r,u,X,e2,_,_⟩:=zJp h;exact val (by simp only[xoS,g,Y,ab,X,e2]) (.str _) u
    .exact h.elim
   .exact h.elim
  .exact h.elim
 case wA x lo hi mx sz=>
  simp only[zCD,wop]at h;simp only[zx,QA]at z;split at h
  .rename_i aj es g;split at h
   .rename_i hb;split at h
    .split at h
     .rename_i aq Y;split at h
      .rename_i ai ab;obtain⟨l,r,u,X,e2,_,_⟩:=zJp h;have B:zG x=true:=QH.1 z.1 x (by simp[XO.qb])
       have D:=zY T C B g;cases D with
       |qf _ _ ac=>exact val (by simp only[xoS,g,Y,ab,zVc,zIW,hb,X,e2]) (.qf _ _ λe he=>ac e (QO (QX he))) u
      .exact h.elim
     .exact h.elim
    .exact h.elim
   .exact h.elim
  .rename_i g;unfold WXd at h;split at h
   .rename_i v H' L B;have:v=.qa/\H'=st.H/\L=st.m:=by
     simp only[xoS,g]at B;split at B
     .rename_i v0 aw ax ay e0 _ _ _;cases e0;simp only[zIW]at B;split at B
      .rename_i v1 F;cases B;split at F
       .split at F
        .split at F
         .cases F;exact⟨rfl,rfl,rfl⟩
         .cases F
        .cases F
       .cases F
      .cases B
     .cases B
    obtain⟨rfl,rfl,rfl⟩:=this;exact val B .qa h
   .exact h.elim
  .exact h.elim
 case wq x=>
  simp only[zCD,wop]at h;split at h
  .exact h.elim
  .exact o (λv d h=>h) rfl h
 case call f xs=>
  simp only[zCD,wop]at h;have t:xs.all zG=true:=by simp only[zx,XO.qb,z7,QT]at z;exact z
  split at h
  .rename_i W I;exact O (by simp only[xoS,I]) (zFT T C t I) h
  .exact h.elim
 case qO fx xs=>
  simp only[zCD,wop]at h;have t:zG fx=true/\xs.all zG=true:=by simp only[zx,XO.qb,z7,List.all_append,QY,List.all_nil,QT,QA]at z;exact z
  split at h
  .rename_i f first au hf;split at h
   .rename_i W I;refine O (by simp only[xoS,hf,I,zHq]) (λa S=>?_) h
    have D:=zY T C t.1 hf;cases D with
    |func _ _ _ h1 h2=>
     rcases QI.1 S with S|S
     .rcases QI.1 S with S|S
      .exact h1 a S
      .exact zFT T C t.2 I a S
     .exact h2 a S
   .exact h.elim
  .exact h.elim
structure KD(K:Sta->Prop)(V:Vecs)(mv:Nat)(fr:Fr)(H:Heap)(nx:Nat):Prop where
 k:K ⟨fr,H,V,nx,mv⟩
 cf:zDj mv nx fr
 cH:HCP mv nx H
theorem zRn(l:TbW P G tb)(A:GPP G){V:Vecs}{mv:Nat}{K:Sta->Prop}:∀(ops:List TOp){fr:Fr}{H:Heap}{m:Nat},(∀t∈ops,zx t.o.op=true)->zDj mv m fr->HCP mv m H->(∀p∈H,p.1<m)->zCo G tb ops K ⟨fr,H,V,m,mv⟩->WN G (zGl mv tb) (ops.map TOp.o) (KD K V mv) fr H m
 |[],fr,H,m,_,f,g,_,h=>⟨h,f,g⟩
 |o::r,fr,H,m,s,f,g,q,h=>by
  have i:∀t∈r,zx t.o.op=true:=λt B=>s t (.tail _ B)
  have step:zCD G tb ⟨fr,H,V,m,mv⟩ o.o.op o.ks (λv st=>zCo G tb r K (st.put o.o.dst v))->∃v y u,xoS G (zGl mv tb) fr H m o.o.op=some (v,y,u)/\WN G (zGl mv tb) (r.map TOp.o) (KD K V mv) (qv fr o.o.dst v) y u:=by
   intro h;obtain⟨v,y,C,d⟩:=zcr (st:=⟨fr,H,V,m,mv⟩) l A (s o (.head _)) f g q h;exact⟨v,y,C,d.x,zRn l A r i ((f.mono (QB _) d.le).qv d.cv) d.cH d.lt d.k⟩
  have skip:zCo G tb r K ⟨qv fr o.o.dst (.qd []),H,V,m,mv⟩->WN G (zGl mv tb) (r.map TOp.o) (KD K V mv) (qv fr o.o.dst (.qd [])) H m:=λh=>
   zRn l A r i (f.qv (.qd _ λe D=>by cases D)) g q h
  simp only[zCo]at h;simp only[QZ,WN];cases hg:o.o.guard with
  |none=>
   rw[hg]at h;exact step h
  |some z=>
   obtain⟨t,b⟩:=z;rw[hg]at h;simp only at h⊢;split at h
   .rename_i c hc;rw[hc];unfold brT at h;rcases zDz h with⟨rfl,h2⟩|⟨rfl,h2⟩
    .have h2:(match true==b with
      |true=>zCD G tb ⟨fr.put t (.bool true),H,V,m,mv⟩ o.o.op o.ks λv st=>zCo G tb r K (st.put o.o.dst v)
      |false=>zCo G tb r K (Sta.put ⟨fr.put t (.bool true),H,V,m,mv⟩ o.o.dst (.qd []))):=h2
     rw[qt hc]at h2;cases b with
     |true=>exact⟨λ_=>step h2,λe=>(by cases e)⟩
     |false=>exact⟨λe=>(by cases e),λ_=>skip h2⟩
    .have h2:(match false==b with
      |true=>zCD G tb ⟨fr.put t (.bool false),H,V,m,mv⟩ o.o.op o.ks λv st=>zCo G tb r K (st.put o.o.dst v)
      |false=>zCo G tb r K (Sta.put ⟨fr.put t (.bool false),H,V,m,mv⟩ o.o.dst (.qd []))):=h2
     rw[qt hc]at h2;cases b with
     |true=>exact⟨λe=>(by cases e),λ_=>skip h2⟩
     |false=>exact⟨λ_=>step h2,λe=>(by cases e)⟩
   .rename_i hc;rw[hc];exact skip h
   .exact h.elim
end
end Go.Sy
