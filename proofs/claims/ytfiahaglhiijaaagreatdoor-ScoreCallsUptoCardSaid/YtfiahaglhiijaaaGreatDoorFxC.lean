/- A LIBRARY: WHAT A FUNCTION'S CODE RECKONS, AS A LEAN FUNCTION, AND THAT ITS WORD IS THE MODEL'S: part 3 of 6. No condition. -/
import Derived.Test.YtfiahaglhiijaaaGreatDoorFxB
import Derived.Below
import Derived.Lib.LaidTab
import Derived.Lib.LaidU8
import Derived.Lib.Join
import Derived.Stop.LaidErr
set_option linter.unusedVariables false
set_option linter.unusedSimpArgs false
namespace Go.Sy
open Go.RowKit
section
variable{P:Program}{G:Cx}{E:Env}{w w':World}{H:Heap}
theorem zPN(g:HR E H w)(d:Below w.heap.size w w')(a:Nat):HR E H w'/\Tr E H w E H w' a a/\∀{v cv},VR E w v cv->VR E w' v cv:=by
 have o:zA7 w w':=λb c e f h=>⟨c,f,(d.block b (Array.getElem?_eq_some_iff.1 h).1).trans h,rfl⟩
 have l:∀{v cv},VR E w v cv->VR E w' v cv:=λr=>VR.mono (E:=E) (E':=E) (λ_ h=>⟨h,rfl⟩) (λb h=>⟨h,d.block b (g.wa b h)⟩) o r
 exact⟨⟨g.nodup,g.qz,g.inj,λp i=>(g.obj p i).mono (d.block _ (g.lt i)) l,g.nz,λb h=>Qf (g.wa b h) d.size⟩,
  ⟨QA _,λ_ _=>rfl,λh=>⟨.inl,λh=>h.elim id λ⟨x,y⟩=>by omega⟩,λ_ h=>h,λ_ h=>.inl h,λp i=>.inl ⟨p,i,rfl⟩,d.tape,d.os,d.output,d.size,λx q _=>d.block x q,o,rfl⟩,l⟩
theorem zVX{n:String}{g:Nat}{cs:JB}(d:P.globalNamed n=some g)(h:w.var? P n=some cs):∃t f,w.heap[g]?=some (.cells cs t f):=by
 unfold World.var? at h;rw[d]at h;simp only[Option.bind_some]at h;split at h
 .rename_i c t f hc;cases h;exact⟨t,f,hc⟩
 .cases h
def zZa(k:IntKind)(z:Int):Bool:=decide (k.min<=z)&&decide (z<=k.max)
theorem zTd{l:List (String×DataW Unit)}{W:World}{σ:Nat->Value}(J:laidMet P l W){n:String}{d:List Int}{k:IntKind}(hm:(n,Lib.tabData k d)∈l){g:Nat}(B:P.globalNamed n=some g)
  {t e:TypeId} {len:Nat} (r:(P.globals[g]?).map (·.type)=some t) (F:P.underlying t=some (.array len e)) (S:P.underlying e=some (.int k)) (u:P.cellsOf e=1) (s:P.cellsOf t=len)
  (M:d.all (zZa k)=true):VR (Env.still W σ) W (.qd (.agg (d.map λz=>.int k z)) 0) (.pointer (some ⟨g,0,none⟩))/\zH9 W g (.qd (.agg (d.map λz=>.int k z)) 0):=by
 obtain⟨U,T,cs,D,p,h1,A,N,I⟩:=Lib.laidMet.reads J hm;rw[B]at h1;cases h1;rw[r]at A;cases A;obtain⟨O,f,hblk⟩:=zVX B N;have hc:=Lib.cells_of_tab F S u s I;have q:g<W.heap.size:=(Array.getElem?_eq_some_iff.1 hblk).1;have:=VR.qd (E:=Env.still W σ) (w:=W) (.agg (d.map λz=>.int k z)) 0 g 0 (.agg cs) rfl q ?_ λj c R=>?_
 .exact⟨by simpa using this,λL n e=>⟨cs,O,f,hblk,by cases e;rw[←Array.length_toList,hc];simp⟩⟩
 .refine VR.qN ?_ λv h=>?_
  .rw[hc];refine⟨by simp,λi x v o h=>?_⟩
   rw[Qn]at o h;cases hz:d[i]? with
   |none=>rw[hz]at o;cases o
   |some z=>
    rw[hz]at o h;cases o;cases h;have C:=QD.1 M z (QE hz);simp only[zZa,qr,decide_eq_true_eq]at C;exact .int k z C
  .rw[hc]at h;obtain⟨z,_,rfl⟩:=Qg.1 h;rfl
 .have y:cs[j]?=some c:=R;simp only[World.cell?,hblk,QY]
  simpa using y
end
section
variable{P:Program}
theorem zbg{l:List (String×DataW Unit)}{W:World}(q:laidMet P l W){n nm:String}{text:List UInt8}{g:Nat}{D d z ts:TypeId}{ms:Array (String×TypeId)}{f:Field}(hm:(n,(.iface nm (.ptr (.agg [.lit (.string text)])):DataW Unit))∈l)
  (C:P.globalNamed n=some g) (J:(P.globals[g]?).map (·.type)=some D) (O:P.underlying D=some (.interface ms)) (i:∀u,P.typeName? 3 u=some nm->u=d)
  (t:P.underlying d=some (.pointer z)) (S:P.underlying z=some (.struct #[f])) (B:f.type=ts) (p:f.offset=0) (N:P.underlying ts=some .string) (hc:P.cellsOf z=1) (A:P.cellsOf ts=1):
  ∃(a:Addr) (s:ByteArray),W.var? P n=some #[.iface d (.pointer (some a))]/\a.spot=none/\W.cell? a=some (.string s)/\s.data.toList=text/\s.size<=maxLen:=by
 induction l with
 |nil=>cases hm
 |cons x r R=>
  rcases QH.1 hm with e|e
  .subst e;obtain⟨a,s,h1,I,M,L⟩:=laid_sentinel q C J O i t S B p N hc A;refine⟨a,s,h1,?_,I,M,L⟩
   obtain⟨V,⟨g0,t0,v,f0,X,q0,h,T,y,U,_,F⟩,_,c⟩:=q;obtain rfl:=Qw (C.symm.trans h);subst F;have o:v=#[.iface d (.pointer (some a))]:=Qw (y.symm.trans h1);subst o;have ok:=(c g 0 (by simp[MemPlace.row])).2 d (.pointer (some a)) (by simpa using World.var?_cell h h1 0)
   unfold Value.okWide at ok;simp only[t]at ok;unfold Cell.okWide at ok;simp only[Cell.ok,t]at ok;exact ok.2.1
  .exact R q.tail e
theorem zVY{l:List (String×DataW Unit)}{W:World}{σ:Nat->Value}(M:laidMet P l W){n nm:String}{text:List UInt8}{g:Nat}{F d x ts:TypeId}{ms:Array (String×TypeId)}{f:Field}(hm:(n,(.iface nm (.ptr (.agg [.lit (.string text)])):DataW Unit))∈l)
  (B:P.globalNamed n=some g) (I:(P.globals[g]?).map (·.type)=some F) (U:P.underlying F=some (.interface ms)) (p:∀u,P.typeName? 3 u=some nm->u=d)
  (N:P.underlying d=some (.pointer x)) (V:P.underlying x=some (.struct #[f])) (z:f.type=ts) (t:f.offset=0) (T:P.underlying ts=some .string) (hc:P.cellsOf x=1) (y:P.cellsOf ts=1):
  VR (Env.still W σ) W (.qd (.agg [.iface d (.qd (.agg [.str (text.map UInt8.toNat)]) 0)]) 0) (.pointer (some ⟨g,0,none⟩))/\zH9 W g (.qd (.agg [.iface d (.qd (.agg [.str (text.map UInt8.toNat)]) 0)]) 0):=by
 obtain⟨⟨b,o,X⟩,s,h1,A,q,C,D⟩:=zbg M hm B I U p N V z t T hc y;simp only at A;subst A;obtain⟨S,L,hblk⟩:=zVX B h1;have r:g<W.heap.size:=(Array.getElem?_eq_some_iff.1 hblk).1;have J:b<W.heap.size:=by
  unfold World.cell? at q;split at q
  .rename_i R;exact(Array.getElem?_eq_some_iff.1 R).1
  .cases q
 have inner:VR (Env.still W σ) W (.qd (.agg [.str (text.map UInt8.toNat)]) 0) (.pointer (some ⟨b,o,none⟩)):=by
  have:=VR.qd (E:=Env.still W σ) (w:=W) (.agg [.str (text.map UInt8.toNat)]) 0 b o (.agg #[.string s]) rfl J ?_ λj c h=>?_
  .simpa using this
  .refine VR.qN (VRs.cons (.str _ s (by rw[C]) (by rw[QG,←C,Array.length_toList];unfold maxLen at D;unfold zh;exact D)) VRs.nil) λv i=>?_
   simp at i;subst i;rfl
  .cases j with
   |zero=>
    have e:c=.string s:=(Qw h).symm;rw[e];exact q
   |succ j=>simp[Value.cells]at h
 have:=VR.qd (E:=Env.still W σ) (w:=W) (.agg [.iface d (.qd (.agg [.str (text.map UInt8.toNat)]) 0)]) 0 g 0 (.agg #[.iface d (.pointer (some ⟨b,o,none⟩))]) rfl r ?_ λj c h=>?_
 .exact⟨by simpa using this,λO n e=>⟨_,S,L,hblk,by cases e;rfl⟩⟩
 .refine VR.qN (VRs.cons (.iface _ _ _ inner) VRs.nil) λv i=>?_
  simp at i;subst i;rfl
 .cases j with
  |zero=>
   have e:c=.iface d (.pointer (some ⟨b,o,none⟩)):=(Qw h).symm;rw[e];simp[World.cell?,hblk]
  |succ j=>simp[Value.cells]at h
end
end Go.Sy
namespace Go.Sy
def zBL:Nat->AV->Bool
 |0,_=>false
 |d+1,v=>match v with
  |.bool _|.int _ _|.str _|.qm|.qa|.ql|.qk|.qf|.sym _=>true
  |.qd e _=>zBL d e
  |.qg _ es=>es.all (zBL d)
  |.func _ a b=>a.all (zBL d)&&b.all (zBL d)
  |.iface _ v=>zBL d v
  |.agg cs=>cs.all (zBL d)
  |.qc cs=>cs.all (zBL d)
  |_=>false
section
variable{P:Program}{G:Cx}{E E':Env}{w w':World}{H:Heap}
theorem zNz{p:AV->Bool}{l:JE}(h:l.all p=true){i:Nat}{x:AV}(hx:l[i]?=some x):p x=true:=
 QD.1 h x (QE hx)
theorem VR.vy(L:∀b,E.Z b->E'.Z b)(V:E'.σ=E.σ){v:AV}{cv:Value}(h:VR E w v cv):∀d,zBL d v=true->VR E' w v cv:=by
 induction h with
 |bool b=>intro d _;exact .bool b
 |int k n h=>intro d _;exact .int k n h
 |str l s h A=>intro d _;exact .str l s h A
 |qm=>intro d _;exact .qm
 |ptr h off I=>intro d g;cases d<;>simp[zBL]at g
 |qd e off b o cv y F _ hc r=>
  intro d g;cases d with
  |zero=>simp[zBL]at g
  |succ d=>exact .qd e off b o cv y (L b F) (r d (by simpa[zBL]using g)) hc
 |qa=>intro d _;exact .qa
 |wc sz a c hc=>intro d _;exact .wc sz a c hc
 |qg es b o cap sz f F u C y _ hc r=>
  intro d g;cases d with
  |zero=>simp[zBL]at g
  |succ d=>
   have p:es.all (zBL d)=true:=g;exact .qg es b o cap sz f (L b F) u C y (λi e B=>r i e B d (zNz p B)) hc
 |row h off len sz cp cap ex I J u R M T X=>intro d g;cases d<;>simp[zBL]at g
 |we h off sz ex a=>intro d g;cases d<;>simp[zBL]at g
 |ql=>intro d _;exact .ql
 |map h I=>intro d g;cases d<;>simp[zBL]at g
 |qk=>intro d _;exact .qk
 |func fn f c N U S hc _ _ O W=>
  intro d g;cases d with
  |zero=>simp[zBL]at g
  |succ d=>
   have p:(f.all (zBL d)&&c.all (zBL d))=true:=g;rw[qr]at p;exact .func fn f c N U S hc (λi x v q z=>O i x v q z d (zNz p.1 q)) (λi x v q z=>W i x v q z d (zNz p.2 q))
 |qf=>intro d _;exact .qf
 |iface t v cv _ r=>
  intro d g;cases d with
  |zero=>simp[zBL]at g
  |succ d=>exact .iface t v cv (r d (by simpa[zBL]using g))
 |agg cs D A _ h1 r=>
  intro d g;cases d with
  |zero=>simp[zBL]at g
  |succ d=>
   have p:cs.all (zBL d)=true:=g;exact .agg cs D A (λi x v q z=>r i x v q z d (zNz p q)) h1
 |qc cs D A _ r=>
  intro d g;cases d with
  |zero=>simp[zBL]at g
  |succ d=>
   have p:cs.all (zBL d)=true:=g;exact .qc cs D A (λi x v q z=>r i x v q z d (zNz p q))
 |sym i cv B h1=>intro d _;exact .sym i cv (B.trans (congrFun V i).symm) h1
def zUe(G:Cx):Prop:=∀g v,G.wV g=some v->zBL 20 v=true
theorem zYJ{f:FuncId}{args:JE}{v:AV}{n:Nat}(T:zUe G)(V:args.all (zBL 40)=true)(W:zBL 40 v=true)(N:FnT P G f args [] 0 v [] n)(H:Heap)(nx:Nat):FnT P G f args H nx v H nx:=by
 intro E w o r t I M;have A:HR ⟨E.ρ,λ_=>False,E.Z,E.σ⟩ [] w:=⟨.nil,λp c=>by simp at c,λp c=>by simp at c,λp c=>by simp at c,λp c=>by simp at c,r.wa⟩
 have z:VRs ⟨E.ρ,λ_=>False,E.Z,E.σ⟩ w args o.toList:=⟨t.1,λi x u q B=>VR.vy (E:=E) (E':=⟨E.ρ,λ_=>False,E.Z,E.σ⟩) (λ_ h=>h) rfl (t.2 i x u q B) 40 (zNz V q)⟩
 have C:GR G ⟨E.ρ,λ_=>False,E.Z,E.σ⟩ w:=λg u h=>⟨VR.vy (E:=E) (E':=⟨E.ρ,λ_=>False,E.Z,E.σ⟩) (λ_ h=>h) rfl (I g u h).1 20 (T g u h),(I g u h).2⟩
 refine(N _ w o A z C λ_ _ _ h=>h).mono λe w' h=>?_
 obtain⟨O,s,rfl,h1,d,S⟩:=h;have l:∀x,x<w.heap.size->w'.heap[x]? = w.heap[x]?:=λx q=>d.qI x q λp c=>by simp at c
 have L:∀x,s.Z x->E.Z x\/w.heap.size<=x:=λx q=>(d.qP x q).imp id λh=>h.elim (λ⟨p,c,_⟩=>by simp at c) id
 have U:∀{u J},VR E w u J->VR ⟨E.ρ,E.D,s.Z,E.σ⟩ w' u J:=λB=>VR.mono (E:=E) (E':=⟨E.ρ,E.D,s.Z,E.σ⟩) (λ_ h=>⟨h,rfl⟩) (λb F=>⟨d.qF b F,l b (r.wa b F)⟩) d.qn B rfl
 refine⟨O,⟨E.ρ,E.D,s.Z,E.σ⟩,rfl,⟨r.nodup,r.qz,r.inj,λp c=>(r.obj p c).mono (l _ (r.lt c)) U,λp c R=>?_,h1.wa⟩,
  ⟨QA _,λ_ _=>rfl,λh=>⟨.inl,λh=>h.elim id λ⟨x,y⟩=>by omega⟩,d.qF,λx q=>(L x q).imp id .inr,λp c=>.inl ⟨p,c,rfl⟩,d.tape,d.os,d.output,d.size,λx q _=>l x q,d.qn,rfl⟩,?_⟩
 .rcases L _ R with h|h
  .exact r.nz p c h
  .have h1:=r.lt c;have d:w.heap.size<=E.ρ p.1:=h;omega
 .exact VR.vy (E:=s) (E':=⟨E.ρ,E.D,s.Z,E.σ⟩) (λ_ h=>h) d.sig.symm S 40 W
noncomputable section
end
end
section
variable{G:Cx}{call:Call}
def zh0(o:JF)(A B:Prop):Prop:=match o with
 |some (.bool true)=>A
 |some (.bool false)=>B
 |_=>False
def zWI(o:JF)(d:Bool)(A B:Prop):Prop:=match o with
 |some (.bool c)=>(c=d->A)/\(c=!d->B)
 |some (.qc [])=>B
 |_=>False
variable{Q Q':Ext->Fr->Heap->Nat->Prop}{fr:Fr}{H:Heap}{nx:Nat}
end
section
variable{P:Program}{G:Cx}
structure FnX(P:Program)(f:Nat)(xf:XF):Prop where
 ok:∃fn,P.funcs[f]?=some fn/\compF P fn=some xf/\(fn.name == "runtime.NumGoroutine")=false
def zXk(P:Program)(G:Cx)(f:Nat)(g:JE->JF):Prop:=∀args v,g args=some v->Enters P f/\∀H nx,FnT P G f args H nx v H nx
end
theorem zY:∀(a b:JV),zo a b=decide (a=b)
 |[],[]=>by simp[zo]
 |[],_::_=>by simp[zo]
 |_::_,[]=>by simp[zo]
 |a::x,b::y=>by
  simp only[zo];by_cases h:a=b
  .subst h;have:Nat.beq a a=true:=Nat.beq_refl a;simp[this,zY x y]
  .have:Nat.beq a b=false:=by
    cases hb:Nat.beq a b with
    |false=>rfl
    |true=>exact absurd (zc hb) h
   simp[this,h]
section
variable{G:Cx}{call:Call}{Q:Ext->Fr->Heap->Nat->Prop}{K:Fr->Heap->Nat->Prop}{fr:Fr}{H:Heap}{nx:Nat}
theorem zJZ{n:Nat}{v:AV}:qu fr (some n) v=fr.put n v:=rfl
end
def zM3:Nat->AV->Bool
 |0,_=>false
 |d+1,v=>match v with
  |.bool _|.int _ _|.str _|.qm|.ptr _ _|.qa|.row _ _ _ _ _ _|.ql|.map _|.qk|.qf|.sym _=>true
  |.qd e _=>zM3 d e
  |.qg _ es=>es.all (zM3 d)
  |.func (.func _) a b=>a.all (zM3 d)&&b.all (zM3 d)
  |.iface _ v=>zM3 d v
  |.agg cs=>cs.all (zM3 d)
  |.qc cs=>cs.all (zM3 d)
  |_=>false
theorem zRb(a:JV):zo a a=true:=by rw[zY];simp
section
variable{G:Cx}{call:Call}{fr:Fr}{H:Heap}{nx:Nat}
theorem zVh{o:XO}(hk:zAn o=0):xoS G call fr H nx o=match xoS G zj fr [] nx o with|some (v,_,n)=>some (v,H,n)|none=>none:=by
 cases o<;>first|(simp[zAn]at hk;done)|(simp only[xoS];repeat' split)<;>first|rfl|simp_all
def Calm(call:Call):Prop:=∀f args H nx v d c,call f args H nx=some (v,d,c)->d=H/\c=nx
theorem zRc:∀{ts:JV}{t:Nat},fr.get t=none->(only ts fr).get t=none
 |[],t,h=>rfl
 |a::ts,t,h=>by
  simp only[only];split
  .rename_i v c;simp only[Fr.get];have:Nat.beq a t=false:=by
    cases hb:Nat.beq a t with
    |false=>rfl
    |true=>rw[zc hb,h]at c;cases c
   rw[this];exact zRc h
  .exact zRc h
theorem zRd:∀{ts:JV}{t:Nat}{v:AV},inN t ts=true->fr.get t=some v->(only ts fr).get t=some v
 |[],t,v,h,_=>by cases h
 |a::ts,t,v,h,d=>by
  simp only[only];by_cases e:t=a
  .subst e;have c:Nat.beq t t=true:=Nat.beq_refl t;simp only[d,Fr.get,c]
  .have h1:Nat.beq t a=false:=by
    cases c:Nat.beq t a with
    |false=>rfl
    |true=>exact absurd (zc c) e
   have f:Nat.beq a t=false:=by
    cases c:Nat.beq a t with
    |false=>rfl
    |true=>exact absurd (zc c).symm e
   simp only[inN,h1]at h;split
   .simp only[Fr.get,f];exact zRd h d
   .exact zRd h d
theorem zZb{ts:JV}{t:Nat}(h:inN t ts=true):(only ts fr).get t=fr.get t:=by
 cases hv:fr.get t with
 |none=>exact zRc hv
 |some v=>exact zRd h hv
theorem zeo{o:XO}{ts:JV}(h:(zM2 o.qb).all (λt=>inN t ts)=true)(call:Call)(H:Heap)(nx:Nat):xo G call (only ts fr) H nx o=xoS G call fr H nx o:=by
 rw[←zKo];refine zXj λx c=>?_
 cases x with
 |t n=>exact zZb (QD.1 h n (zGS c))
 |_=>rfl
end
section
variable{G:Cx}{call:Call}{fr:Fr}{H:Heap}{nx:Nat}
def WM(G:Cx)(call:Call):List XOper->(Fr->Heap->Nat->Prop)->Fr->Heap->Nat->Prop
 |[],K,fr,H,nx=>K fr H nx
 |o::r,K,fr,H,nx=>match o.guard with
  |none=>∃v d c,xoS G call fr H nx o.op=some (v,d,c)/\zM3 40 v=true/\WM G call r K (qu fr o.dst v) d c
  |some (t,b)=>zWI (fr.get t) b (∃v d c,xoS G call fr H nx o.op=some (v,d,c)/\zM3 40 v=true/\WM G call r K (qu fr o.dst v) d c) (WM G call r K (qu fr o.dst (.qc [])) H nx)
def zgj(g:Option (Nat×Bool))(l:JV):Bool:=match g with
 |none=>true
 |some (t,_)=>inN t l
theorem zZ8{o:XO}(hk:zAn o=1){v:AV}{H':Heap}{n:Nat}(h:xoS G call fr H nx o=some (v,H',n))(m:Nat):xoS G zj fr H m o=some (v,H,m)/\H'=H/\n=nx:=by
 cases o<;>first|(simp[zAn]at hk;done)|(simp only[xoS]at h⊢;repeat' split at h)<;>first|(cases h;done)|(cases h;simp_all)
theorem zKs{fr:Fr}{t:Nat}{b c:Bool}(h:fr.get t=some (.bool c)):zDR fr (some (t,b))=some (c==b):=by
 simp only[zDR,h];cases c<;>cases b<;>rfl
variable{K:Fr->Heap->Nat->Prop}
end
section
variable{G:Cx}{call:Call}{fr:Fr}{H:Heap}{nx:Nat}
def zZc:XO->Bool
 |.call _ _|.qM _ _=>true
 |_=>false
def WN(G:Cx)(call:Call):List XOper->(Fr->Heap->Nat->Prop)->Fr->Heap->Nat->Prop
 |[],K,fr,H,nx=>K fr H nx
 |o::r,K,fr,H,nx=>match o.guard with
  |none=>∃v d c,xoS G call fr H nx o.op=some (v,d,c)/\WN G call r K (qu fr o.dst v) d c
  |some (t,b)=>zWI (fr.get t) b (∃v d c,xoS G call fr H nx o.op=some (v,d,c)/\WN G call r K (qu fr o.dst v) d c) (WN G call r K (qu fr o.dst (.qc [])) H nx)
def zRe:List XOper->List XD->Bool
 |[],_=>true
 |o::r,d::ds=>(zM2 o.op.qb).all (λt=>inN t d.looks)&&zgj o.guard d.looks&&zRe r ds
 |_::_,[]=>false
def zSb(c:JV):XO->Bool
 |.vA (.t b)|.qR (.t b) _=>!zFL b c
 |_=>false
def zZ9(c:JV):XO->Bool
 |.load (.t b) _ _=>!zFL b c
 |_=>false
def zGt(c:JV)(o:XOper):JV:=match o.dst with
 |none=>c
 |some d=>match zSb c o.op with
  |true=>c
  |false=>d::c
def zLW:Nat->JV->JV->JV->JV->JV->JV->List XOper->List XD->Bool
 |_,_,_,_,_,_,_,[],_=>true
 |i,f,g,cs,cur,qI,e,o::r,d::ds=>match zZc o.op with
  |true=>(g++cs).all (λc=>d.qe.testBit c)&&f.all (λc=>d.qe.testBit c)&&qI.all (λc=>d.qe.testBit c)&&Nat.blt d.qe (2 ^ i)&&zLW (i+1) f g (i::cs) cur qI (zGt e o) r ds
  |false=>match zAn o.op with
   |0=>zLW (i+1) f g cs cur qI (zGt e o) r ds
   |1=>match f.all (λc=>d.qe.testBit c)with
    |true=>g.all (λc=>d.qe.testBit c)&&Nat.blt d.qe (2 ^ i)&&zLW (i+1) f g cs (i::cur) qI (zGt e o) r ds
    |false=>zZ9 e o.op&&(g.all (λc=>d.qe.testBit c)&&Nat.blt d.qe (2 ^ i)&&zLW (i+1) f g cs cur (i::qI) (zGt e o) r ds)
   |2=>zLW (i+1) (i::f) g cs [] (cur++qI) (zGt e o) r ds
   |_=>(g++cs).all (λc=>d.qe.testBit c)&&f.all (λc=>d.qe.testBit c)&&(cur++qI).all (λc=>d.qe.testBit c)&&Nat.blt d.qe (2 ^ i)&&zLW (i+1) f (i::g) cs [] (cur++qI) (zGt e o) r ds
 |_,_,_,_,_,_,_,_::_,[]=>false
theorem zXl{o:XO}(hk:zAn o=2){v:AV}{H':Heap}{n:Nat}(h:xoS G call fr H nx o=some (v,H',n)):∃c,xoS G zj fr [] nx o=some (v,[(nx,c)],nx+1)/\H'=(nx,c)::H/\n=nx+1:=by
 cases o<;>first|(simp[zAn]at hk;done)|(simp only[xoS]at h⊢;repeat' split at h)<;>first|(cases h;done)|(cases h;simp_all)
abbrev DAl:=List (Nat×Nat×HO)
def Fut(n0 i:Nat)(al c:DAl):Prop:=∃new,c=new++al/\∀x∈new,i<=x.1/\n0<=x.2.1
noncomputable def rdH(G:Cx)(r:DRead)(H:Heap)(nx:Nat):Bool:=match xo G zj r.fr H nx r.op with
 |some (v,_,_)=>eqC v r.v
 |none=>false
def zIw(H:Heap)(al:DAl)(d:JV):JN->List (Heap×Nat)->Prop
 |[],(m,inc)::_=>within (λj=>!inc.testBit j) al++m=H
 |(c,_)::ch,(m,inc)::ms=>within (λj=>!inc.testBit j) al++m=H/\(c∈d\/zIw H al d ch ms)
 |_,[]=>False
theorem zPf{p i j:Nat}(h:p<2 ^ i)(c:i<=j):p.testBit j=false:=Nat.testBit_lt_two_pow (Qf h (Nat.pow_le_pow_right (by omega) c))
theorem zPO{n0 i inc p:Nat}{al c:DAl}(e:Fut n0 i al c)(d:p<2 ^ i):within (but p inc) c=within (but p inc) al:=by
 obtain⟨new,rfl,g⟩:=e;rw[zHm,zGh (al:=new),List.nil_append];intro x f;simp[but,zPf d (g x f).1]
theorem zPP{inc p:Nat}{al:DAl}(h:∀x∈al,p.testBit x.1=true):within (but p inc) al=within (λj=>!inc.testBit j) al:=
 zE6 λx c=>by simp[but,h x c]
theorem zG4{n0 h:Nat}{f:Nat->Bool}{m:Heap}(g:h<n0):∀{al:DAl},(∀x∈al,n0<=x.2.1)->Heap.get (within f al++m) h=m.get h
 |[],_=>rfl
 |(i,k,o)::r,d=>by
  have h1:n0<=k:=d _ (.head _);have c:=zG4 (f:=f) (m:=m) g (al:=r) λx l=>d x (.tail _ l)
  simp only[within];split
  .have:Nat.beq k h=false:=by
    cases e:Nat.beq k h with
    |false=>rfl
    |true=>have:=zc e;omega
   simp only[List.cons_append,Heap.get,this];exact c
  .exact c
theorem zVZ{n0:Nat}{al d:DAl}{t:JV}{r:DRead}(q:∀x∈al,n0<=x.2.1)(e:∀x∈d,n0<=x.2.1){H:Heap}(o:∀H2 nx,(∀h,h<n0->H2.get h=H.get h)->rdH G r H2 nx=true){nx:Nat}:∀{ch:JN}{ms:List (Heap×Nat)},zIw H al t ch ms →
  (∀c∈t,r.qe.testBit c=true)->(∀c∈ch,c.2.testBit r.i=false)->zD7 G d nx r ch ms=true
 |[],[],h,_,_=>h.elim
 |[],(m,inc)::ms,h,_,_=>by
  have h:within (λj=>!inc.testBit j) al++m=H:=h
  have:=o (within (but r.qe inc) d++m) nx λk hk=>by rw[zG4 hk e,←h,zG4 hk q]
  simp only[zD7,zGz];exact this
 |(c,p)::ch,[],h,_,_=>h.elim
 |(c,p)::ch,(m,inc)::ms,h,u,hc=>by
  obtain⟨h1,f⟩:=h;have g:zGz G d nx r m inc=true:=by
   have:=o (within (but r.qe inc) d++m) nx λk hk=>by rw[zG4 hk e,←h1,zG4 hk q]
   simp only[zGz];exact this
  simp only[zD7];split
  .exact g
  .rename_i s;rcases f with f|f
   .rw[u c f]at s;cases s
   .simp only[hc _ (.head _),g];exact zVZ q e o f u λv l=>hc v (.tail _ l)
theorem zUf{n0:Nat}{al d:DAl}{u:JV}{r:DRead}{i:Nat}(q:Fut n0 i al d)(o:r.qe<2 ^ i)(e:∀x∈al,r.qe.testBit x.1=true)(s:∀nx,rdH G r H nx=true):∀{ch:JN}{ms:List (Heap×Nat)},zIw H al u ch ms →
  (∀c∈u,r.qe.testBit c=true)->(∀c∈ch,c.2.testBit r.i=false)->zD7 G d nx r ch ms=true
 |[],[],h,_,_=>h.elim
 |[],(m,inc)::ms,h,_,_=>by
  have h:within (λj=>!inc.testBit j) al++m=H:=h
  have:=s nx;simp only[zD7,zGz,zPO q o,zPP e,h];exact this
 |(c,p)::ch,[],h,_,_=>h.elim
 |(c,p)::ch,(m,inc)::ms,h,v,hc=>by
  obtain⟨h1,f⟩:=h;have g:zGz G d nx r m inc=true:=by
   have:=s nx;simp only[zGz,zPO q o,zPP e,h1];exact this
  simp only[zD7];split
  .exact g
  .rename_i t;rcases f with f|f
   .rw[v c f]at t;cases t
   .simp only[hc _ (.head _),g];exact zUf q o e s f v λy l=>hc y (.tail _ l)
structure SN(n0:Nat)(G:Cx)(H:Heap)(nx:Nat)(fr:Fr)(s:DS)(i:Nat)(als ws cs cur qI news:JV):Prop where
 uO:∀t h o,zFL t news=false->fr.get t=some (.ptr h o)->h<n0
 vZ:∀x∈s.al,n0<=x.2.1
 nn:n0<=nx
 uc:s.fr=fr
 ub:s.nx=nx
 uV:∀x∈s.al,x.1∈als/\x.1<i
 uP:∀c∈s.ch,(c.1∈ws\/c.1∈cs)/\c.1<i/\c.2<2 ^ c.1
 uz:∃m inc rest,s.ms=(m,inc)::rest
 uE:∀x∈s.ms,x.2<2 ^ i
 chain:zIw H s.al ws s.ch s.ms
 rd:∀r∈s.rd,r.i<i/\r.qe<2 ^ r.i/\((r.i∈cur/\(∀x∈s.al,r.qe.testBit x.1=true)/\∀nx,rdH G r H nx=true)\/r.i∈qI)/\∀nx al',Fut n0 i s.al al'->zD7 G al' nx r s.ch s.ms=true
theorem zUg{al:DAl}{e:JV}{ch:JN}{m:Heap}{inc:Nat}{d:List (Heap×Nat)}(h:zIw H al e ch ((m,inc)::d)):within (λj=>!inc.testBit j) al++m=H:=by
 cases ch with
 |nil=>exact h
 |cons c ch=>exact h.1
theorem Fut.step{n0 i:Nat}{al c:DAl}(h:Fut n0 (i+1) al c):Fut n0 i al c:=let ⟨new,e,hn⟩:=h;⟨new,e,λx d=>by have:=hn x d;omega⟩
theorem zbh{t d:Nat}{l:JV}(h:zFL t (d::l)=false):t≠d/\zFL t l=false:=by
 simp only[zFL]at h;split at h
 .cases h
 .rename_i e;exact⟨zBX e,h⟩
theorem zXm{n0:Nat}{c:JV}{o:XOper}{v:AV}(i:∀t h o,zFL t c=false->fr.get t=some (.ptr h o)->h<n0)(p:zSb c o.op=true->∀h k,v=.ptr h k->h<n0):
  ∀t h k,zFL t (zGt c o)=false->(qu fr o.dst v).get t=some (.ptr h k)->h<n0:=by
 intro t h k g f;unfold zGt at g;cases hd:o.dst with
 |none=>rw[hd]at g f;exact i t h k g f
 |some d=>
  rw[hd]at g f;have f:(fr.put d v).get t=some (.ptr h k):=f;rw[Fr.qq]at f;cases ho:zSb c o.op with
  |true=>
   rw[ho]at g;split at f
   .cases f;exact p ho h k rfl
   .exact i t h k g f
  |false=>
   rw[ho]at g;obtain⟨h1,l⟩:=zbh g;rw[if_neg λe=>h1 e.symm]at f
   exact i t h k l f
theorem zep{n0:Nat}{c:JV}{o:XO}(d:∀t h o,zFL t c=false->fr.get t=some (.ptr h o)->h<n0){v:AV}{H':Heap}{n':Nat}(hx:xoS G call fr H nx o=some (v,H',n'))(ho:zSb c o=true):∀h k,v=.ptr h k->h<n0:=by
 intro h k e;subst e;cases o<;>try (cases ho;done)
 case vA x=>
  cases x<;>try (cases ho;done)
  rename_i b;have ho:zFL b c=false:=by simpa[zSb]using ho
  simp only[xoS]at hx;split at hx
  .rename_i u f;cases hx;exact d b h k ho f
  .cases hx
 case qR x off=>
  cases x<;>try (cases ho;done)
  rename_i b;have ho:zFL b c=false:=by simpa[zSb]using ho
  simp only[xoS]at hx;split at hx
  .rename_i g i f;cases hx;exact d b _ _ ho f
  .cases hx
  .cases hx
theorem zfL{n0:Nat}{c:JV}{o:XO}(e:∀t h o,zFL t c=false->fr.get t=some (.ptr h o)->h<n0){v:AV}{H':Heap}{n':Nat}(hx:xoS G call fr H nx o=some (v,H',n'))(ho:zZ9 c o=true){H2:Heap}(i:∀h,h<n0->H2.get h=H.get h)(d:Nat):xoS G zj fr H2 d o=some (v,H2,d):=by
 cases o<;>try (cases ho;done)
 case load x sz ag=>
  cases x<;>try (cases ho;done)
  rename_i b;have ho:zFL b c=false:=by simpa[zZ9]using ho
  simp only[xoS]at hx⊢;split at hx
  .rename_i u g;split at hx
   .rename_i x f;cases hx;have:zHh H2 sz ag u=zHh H sz ag u:=by
     cases u with
     |ptr h o=>simp only[zHh,i h (e b h o ho g)]
     |_=>rfl
    rw[this,f]
   .cases hx
  .cases hx
theorem zTe{al:DAl}{f d:JV}(e:∀c∈f,c∈d):∀{ch:JN}{ms:List (Heap×Nat)},zIw H al f ch ms->zIw H al d ch ms
 |[],[],h=>h.elim
 |[],(m,inc)::_,h=>h
 |(c,p)::ch,[],h=>h.elim
 |(c,p)::ch,(m,inc)::ms,h=>⟨h.1,h.2.imp (e c) (zTe e)⟩
theorem zS0{al:DAl}{g:JV}{i e:Nat}{f:HO}:∀{ch:JN}{ms:List (Heap×Nat)},zIw H al g ch ms->(∀x∈ms,x.2<2 ^ i)->zIw ((e,f)::H) ((i,e,f)::al) g ch ms
 |[],[],h,_=>h.elim
 |[],(m,inc)::_,h,d=>by
  have h:within (λj=>!inc.testBit j) al++m=H:=h
  have:=zPf (d _ (.head _)) (QA i);show within (λj=>!inc.testBit j) ((i,e,f)::al)++m=_
  simp only[within,this,Bool.not_false,List.cons_append,h]
 |(c,p)::ch,[],h,_=>h.elim
 |(c,p)::ch,(m,inc)::ms,h,d=>by
  have:=zPf (d _ (.head _)) (QA i);refine⟨?_,h.2.imp id λh=>zS0 h λx l=>d x (.tail _ l)⟩
  simp only[within,this,Bool.not_false,List.cons_append,h.1]
theorem zUh{a b i:Nat}(c:a<2 ^ i)(d:b<2 ^ i):a ||| b<2 ^ i:=Nat.or_lt_two_pow c d
theorem zRf{p i:Nat}:∀{al:DAl},(∀x∈al,x.1<i)->zDd p al<2 ^ i
 |[],_=>Nat.pow_pos (by omega)
 |(j,h,o)::r,c=>by
  simp only[zDd];split
  .exact zUh (Nat.pow_lt_pow_right (by omega) (c _ (.head _))) (zRf λx d=>c x (.tail _ d))
  .exact zRf λx d=>c x (.tail _ d)
theorem zbi{o:XO}(h:zZc o=true):zAn o=3:=by cases o<;>first|(cases h;done)|rfl
theorem zIc(I:Calm call){n0:Nat}:∀(ops:List XOper)(ds:List XD)(i:Nat)(L ws cs cur qI C:JV){K:Fr->Heap->Nat->Prop}{fr:Fr}{H:Heap}{nx:Nat}{s:DS},WN G call ops K fr H nx->zRe ops ds=true->zLW i L ws cs cur qI C ops ds=true->SN n0 G H nx fr s i L ws cs cur qI C →
  ∃s' i' B A cs' g f F fr' H' D,zDe G call i ops ds s=some s'/\SN n0 G H' D fr' s' i' B A cs' g f F/\K fr' H' D
 |[],ds,i,L,ws,cs,cur,qI,C,K,fr,H,nx,s,X,_,_,u=>⟨s,i,L,ws,cs,cur,qI,C,fr,H,nx,by cases ds<;>rfl,u,X⟩
 |o::r,[],i,L,ws,cs,cur,qI,C,K,fr,H,nx,s,X,hc,_,u=>by cases hc
 |o::r,d::ds,i,L,ws,cs,cur,qI,C,K,fr,H,nx,s,X,hc,z,u=>by
  simp only[zRe,qr]at hc;obtain⟨⟨c1,cg⟩,c3⟩:=hc;have R:∀{g f:JV},(∀r∈s.rd,r.i∈cur->r.i∈g\/r.i∈f)->(∀x∈qI,x∈f)->∀r∈s.rd,r.i<i+1/\r.qe<2 ^ r.i/\((r.i∈g/\(∀x∈s.al,r.qe.testBit x.1=true)/\∀nx,rdH G r H nx=true)\/r.i∈f)/\∀nx J,Fut n0 (i+1) s.al J->zD7 G J nx r s.ch s.ms=true:=by
   intro g f h1 h2 r hr;obtain⟨k1,k2,k3,k4⟩:=u.rd r hr;refine⟨by omega,k2,?_,λnx J hf=>k4 nx J hf.step⟩
   rcases k3 with⟨k5,k6,k7⟩|k5
   .rcases h1 r hr k5 with h|h
    .exact .inl ⟨h,k6,k7⟩
    .exact .inr h
   .exact .inr (h2 _ k5)
  have O:∀x∈s.al,x.1∈L/\x.1<i+1:=λx y=>⟨(u.uV x y).1,Nat.lt_succ_of_lt (u.uV x y).2⟩
  have M:∀x∈s.ms,x.2<2 ^ (i+1):=λx y=>Qf (u.uE x y) (Nat.pow_le_pow_right (by omega) (Qd i))
  have T:∀{A cs':JV},(∀x∈ws,x∈A)->(∀x∈cs,x∈cs')->∀c∈s.ch,(c.1∈A\/c.1∈cs')/\c.1<i+1/\c.2<2 ^ c.1:=λh1 h2 c hc=>by
   obtain⟨k1,k2,k3⟩:=u.uP c hc;exact⟨k1.imp (h1 _) (h2 _),by omega,k3⟩
  have ar:(∃v H' D,xoS G call fr H nx o.op=some (v,H',D)/\WN G call r K (qu fr o.dst v) H' D)->zDR (only d.looks s.fr) o.guard=some true →
    ∃s' i' B A cs' g f F fr' H' D,zDe G call i (o::r) (d::ds) s=some s'/\SN n0 G H' D fr' s' i' B A cs' g f F/\K fr' H' D:=by
   rintro ⟨v,H',D,y,hw2⟩ N
   clear X
   have W:∀(call:Call)(H:Heap)(n:Nat),xo G call (only d.looks s.fr) H n o.op=xoS G call fr H n o.op:=λcall H n=>by rw[u.uc];exact zeo c1 call H n
   have V:=zXm (o:=o) u.uO (zep u.uO y);have a8:nx<=D:=zZ6 (λ_ _ _ _ _ _ _ h=>by rw[(I _ _ _ _ _ _ _ h).2];exact QA _) y
   obtain⟨m,inc,bf,ab⟩:=u.uz;have hH:within (λj=>!inc.testBit j) s.al++m=H:=zUg (ab▸u.chain)
   have S:∀{l:JV} ,L.all (λc=>d.qe.testBit c)=true->∀x∈s.al,d.qe.testBit x.1=true:=λh x y=>QD.1 h _ (u.uV x y).1
   have ah:L.all (λc=>d.qe.testBit c)=true->within (but d.qe inc) s.al++m=H:=λh=>by rw[zPP (S (l:=[]) h),hH]
   have af:∀{A cs' g f:JV},(∃k,zAn o.op=k+3)->(ws++cs).all (λc=>d.qe.testBit c)=true->L.all (λc=>d.qe.testBit c)=true->d.qe<2 ^ i->zLW (i+1) L A cs' g f (zGt C o) r ds=true->(∀x∈ws,x∈A)->(∀x∈cs,x∈cs')->(i∈A\/i∈cs') →
     (i∈A\/H'=H) →
     (∀q∈s.rd,((q.i∈g/\(∀x∈s.al,q.qe.testBit x.1=true)/\∀nx,rdH G q H' nx=true)\/(q.i∈f))/\(d.qe.testBit q.i=true\/(∀x∈s.al,q.qe.testBit x.1=true)/\∀nx,rdH G q H' nx=true)) →
     ∃s' i' B A cs' g f F fr' H' D,zDe G call i (o::r) (d::ds) s=some s'/\SN n0 G H' D fr' s' i' B A cs' g f F/\K fr' H' D:=by
    intro A cs' g f hk q1 q2 Y q5 au bc a7 bb ba;obtain⟨k,hk⟩:=hk;have aw:(s.ch.all λc=>d.qe.testBit c.1)=true:=by
     rw[QD];intro c hc;refine QD.1 q1 c.1 (QK.2 ?_)
     exact(u.uP c hc).1
    have e:zE5 G call i o d s=some { s with fr:=qu s.fr o.dst v,nx:=D,ms:=(H',inc ||| zDd d.qe s.al)::s.ms,ch:=(i,d.qe)::s.ch,tr:=(i,o.dst,v)::s.tr }:=by
     simp only[zE5,N,hk,ab,aw,ah q2,W,u.ub,y]
    simp only[zDe,e];have ak:inc ||| zDd d.qe s.al<2 ^ (i+1):=zUh (M _ (by rw[ab];exact .head _)) (zRf λx y=>(O x y).2)
    have aj:∀p:Nat,p<2 ^ i->∀J,Fut n0 (i+1) s.al J->within (but p (inc ||| zDd d.qe s.al)) J=[]:=by
     intro p hp J hf;rw[zPO hf (Qf hp (Nat.pow_le_pow_right (by omega) (Qd i)))]
     refine zGh λx y=>?_
     have:(zDd d.qe s.al).testBit x.1=true:=zKr.2 ⟨S (l:=[]) q2 x y,x,y,rfl⟩;simp[but,this]
    have ad:within (λj=>!(inc ||| zDd d.qe s.al).testBit j) s.al=[]:=by
     refine zGh λx y=>?_
     have:(zDd d.qe s.al).testBit x.1=true:=zKr.2 ⟨S (l:=[]) q2 x y,x,y,rfl⟩;simp[this]
    refine zIc I r ds (i+1) L A cs' g f (zGt C o) hw2 c3 q5 ⟨V,u.vZ,Qj u.nn a8,by simp only[u.uc],rfl,O,λc hc=>?_,⟨_,_,_,rfl⟩,λx y=>?_,?_,λq U=>?_⟩
    .rcases QH.1 hc with rfl|hc
     .exact⟨a7,QX i,Y⟩
     .exact T au bc c hc
    .rcases QH.1 y with rfl|y
     .exact ak
     .exact M x y
    .refine⟨by rw[ad,List.nil_append],?_⟩
     rcases bb with h|h
     .exact .inl h
     .exact .inr (by rw[h];exact zTe au u.chain)
    .obtain⟨k1,k2,k3,k4⟩:=u.rd q U;obtain⟨k5,k6⟩:=ba q U;refine⟨by omega,k2,k5,λn J hf=>?_⟩
     have a6:q.qe.testBit i=false:=zPf k2 (by omega)
     simp only[zD7,a6];rcases k6 with k6|⟨_,k6⟩
     .simp only[k6];exact k4 n J hf.step
     .cases hb:d.qe.testBit q.i with
      |true=>simp only;exact k4 n J hf.step
      |false=>
       have a1:zGz G J n q H' (inc ||| zDd d.qe s.al)=true:=by
        have:=k6 n;simp only[zGz,aj q.qe (Qf k2 (Nat.pow_le_pow_right (by omega) (by omega))) J hf,List.nil_append]
        exact this
       simp only[a1];exact k4 n J hf.step
   simp only[zLW]at z;split at z
   ·
    rename_i aq;simp only[qr]at z;obtain⟨⟨⟨⟨q1,q2⟩,Y⟩,q4⟩,q5⟩:=z;have q4:d.qe<2 ^ i:=by simpa[Ql]using q4
    have ay:H'=H:=by
     cases ho:o.op<;>rw[ho]at aq y<;>first|(cases aq;done)|skip
     .simp only[xoS]at y;split at y
      .exact(I _ _ _ _ _ _ _ y).1
      .cases y
     .simp only[xoS]at y;split at y
      .unfold zJu at y;split at y
       .exact(I _ _ _ _ _ _ _ y).1
       .cases y
      .cases y
    subst ay;refine af ⟨0,zbi aq⟩ q1 q2 q4 q5 (λx h=>h) (λx h=>.tail _ h) (.inr (.head _)) (.inr rfl) λq U=>?_
    obtain⟨k1,k2,k3,k4⟩:=u.rd q U;refine⟨k3,?_⟩
    rcases k3 with⟨_,k5,k6⟩|k5
    .exact .inr ⟨k5,k6⟩
    .exact .inl (QD.1 Y _ k5)
   .rename_i be;by_cases h0:zAn o.op=0
    .simp only[h0]at z;have h1:=zVh (G:=G) (call:=call) (fr:=fr) (H:=H) (nx:=nx) h0;have h2:=zVh (G:=G) (call:=zj) (fr:=fr) (H:=[]) (nx:=nx) h0;rw[y]at h1;cases hz:xoS G zj fr [] nx o.op with
     |none=>rw[hz]at h1;cases h1
     |some t=>
      obtain⟨v',H2,n2⟩:=t;rw[hz]at h1 h2;simp only[QN,Prod.mk.injEq]at h1 h2;obtain⟨rfl,rfl,rfl⟩:=h1;obtain⟨_,rfl,_⟩:=h2;have hn:D=nx:=by
       have:∀{o:XO},zAn o=0->∀{v H2 n2},xoS G zj fr [] nx o=some (v,H2,n2)->n2=nx:=λ{o} hk {v H2 n2} h=>by
        cases o<;>first|(simp[zAn]at hk;done)|(simp only[xoS]at h;repeat' split at h)<;>first|(cases h;done)|(cases h;rfl)
       exact this h0 hz
      subst hn;have e:zE5 G call i o d s=some { s with fr:=qu s.fr o.dst v,tr:=(i,o.dst,v)::s.tr }:=by
       simp only[zE5,N,h0,W,u.ub,hz,Nat.beq_refl]
      simp only[zDe,e];exact zIc I r ds (i+1) L ws cs cur qI (zGt C o) hw2 c3 z ⟨V,u.vZ,u.nn,by simp only[u.uc],u.ub,O,T (λx h=>h) (λx h=>h),u.uz,M,u.chain,R (λ_ _ h=>.inl h) (λx h=>h)⟩
    .by_cases h1:zAn o.op=1
     .simp only[h1]at z;split at z
      .rename_i q2;simp only[qr]at z;obtain⟨⟨q1,Y⟩,q4⟩:=z;have Y:d.qe<2 ^ i:=by simpa[Ql]using Y
       obtain⟨k1,rfl,rfl⟩:=zZ8 h1 y nx;have e:zE5 G call i o d s=some { s with fr:=qu s.fr o.dst v,rd:=⟨i,o.op,only d.looks s.fr,d.qe,v⟩::s.rd,tr:=(i,o.dst,v)::s.tr }:=by
        simp only[zE5,N,h1,ab,ah q2,W,u.ub,k1]
       have aa:∀n,rdH G ⟨i,o.op,only d.looks s.fr,d.qe,v⟩ H' n=true:=λn=>by
        have h4:=(zZ8 h1 y n).1;simp only[rdH,W,h4];exact zW3 v
       simp only[zDe,e];refine zIc I r ds (i+1) L ws cs (i::cur) qI (zGt C o) hw2 c3 q4 ⟨V,u.vZ,u.nn,by simp only[u.uc],u.ub,O,T (λx h=>h) (λx h=>h),u.uz,M,u.chain,λq U=>?_⟩
       rcases QH.1 U with rfl|U
       .refine⟨QX i,Y,.inl ⟨.head _,S (l:=[]) q2,aa⟩,λn J hf=>?_⟩
        refine zUf hf.step Y (S (l:=[]) q2) aa u.chain (λc hc=>QD.1 q1 c hc) λc hc=>?_
        obtain⟨_,g2,g3⟩:=u.uP c hc;exact zPf g3 (by show c.1<=i;omega)
       .exact R (λ_ _ h=>.inl (.tail _ h)) (λx h=>h) q U
      .simp only[qr]at z;obtain⟨q0,⟨q1,Y⟩,q4⟩:=z;have Y:d.qe<2 ^ i:=by simpa[Ql]using Y
       obtain⟨k1,rfl,rfl⟩:=zZ8 h1 y nx;have ae:∀(H2:Heap)(n:Nat),(∀h,h<n0->H2.get h=H'.get h)->xoS G zj fr H2 n o.op=some (v,H2,n):=λH2 n he=>zfL u.uO y q0 he n
       have e:zE5 G call i o d s=some { s with fr:=qu s.fr o.dst v,rd:=⟨i,o.op,only d.looks s.fr,d.qe,v⟩::s.rd,tr:=(i,o.dst,v)::s.tr }:=by
        have:=ae (within (but d.qe inc) s.al++m) s.nx λk hk=>by rw[zG4 hk u.vZ,←hH,zG4 hk u.vZ]
        simp only[zE5,N,h1,ab,W,this]
       have aa:∀(H2:Heap)(n:Nat),(∀h,h<n0->H2.get h=H'.get h)->rdH G ⟨i,o.op,only d.looks s.fr,d.qe,v⟩ H2 n=true:=λH2 n he=>by
        simp only[rdH,W,ae H2 n he];exact zW3 v
       simp only[zDe,e];refine zIc I r ds (i+1) L ws cs cur (i::qI) (zGt C o) hw2 c3 q4 ⟨V,u.vZ,u.nn,by simp only[u.uc],u.ub,O,T (λx h=>h) (λx h=>h),u.uz,M,u.chain,λq U=>?_⟩
       rcases QH.1 U with rfl|U
       .refine⟨QX i,Y,.inr (.head _),λn J hf=>?_⟩
        refine zVZ u.vZ (λx y=>?_) aa u.chain (λc hc=>QD.1 q1 c hc) λc hc=>?_
        .obtain⟨new,rfl,hn⟩:=hf;rcases QK.1 y with y|y
         .exact(hn x y).2
         .exact u.vZ x y
        .obtain⟨_,g2,g3⟩:=u.uP c hc;exact zPf g3 (by show c.1<=i;omega)
       .exact R (λ_ _ h=>.inl h) (λx h=>.tail _ h) q U
     .by_cases h2:zAn o.op=2
      .simp only[h2]at z;obtain⟨ob,k1,rfl,rfl⟩:=zXl h2 y;have e:zE5 G call i o d s=some { s with fr:=qu s.fr o.dst v,nx:=nx+1,al:=(i,nx,ob)::s.al,tr:=(i,o.dst,v)::s.tr }:=by
        simp only[zE5,N,h2,W,u.ub,k1,Nat.beq_refl]
       simp only[zDe,e];refine zIc I r ds (i+1) (i::L) ws cs [] (cur++qI) (zGt C o) hw2 c3 z ⟨V,λx y=>?_,Nat.le_succ_of_le u.nn,by simp only[u.uc],rfl,λx y=>?_,T (λx h=>h) (λx h=>h),u.uz,M,zS0 u.chain u.uE,λq U=>?_⟩
       .rcases QH.1 y with rfl|y
        .exact u.nn
        .exact u.vZ x y
       .rcases QH.1 y with rfl|y
        .exact⟨.head _,QX i⟩
        .exact⟨.tail _ (O x y).1,(O x y).2⟩
       .obtain⟨g1,g2,g3,g4⟩:=u.rd q U;refine⟨by omega,g2,.inr ?_,λn J hf=>g4 n J ?_⟩
        .rcases g3 with⟨g5,_⟩|g5
         .exact QK.2 (.inl g5)
         .exact QK.2 (.inr g5)
        .obtain⟨new,rfl,hn⟩:=hf;refine⟨new++[(i,nx,ob)],by simp,λx y=>?_⟩
         rcases QK.1 y with y|y
         .have:=hn x y;omega
         .simp only[Qa]at y;subst y;exact⟨QA _,u.nn⟩
      .have h3:∃k,zAn o.op=k+3:=⟨zAn o.op-3,by omega⟩
       obtain⟨k,h3⟩:=h3;simp only[h3,qr]at z;obtain⟨⟨⟨⟨q1,q2⟩,Y⟩,q4⟩,q5⟩:=z;have q4:d.qe<2 ^ i:=by simpa[Ql]using q4
       refine af ⟨k,h3⟩ q1 q2 q4 q5 (λx h=>.tail _ h) (λx h=>h) (.inl (.head _)) (.inl (.head _)) λq U=>?_
       obtain⟨g1,g2,g3,g4⟩:=u.rd q U;have az:q.i∈cur++qI:=by
        rcases g3 with⟨g5,_⟩|g5
        .exact QK.2 (.inl g5)
        .exact QK.2 (.inr g5)
       exact⟨.inr az,.inl (QD.1 Y _ az)⟩
  have ac:WN G call r K (qu fr o.dst (.qc [])) H nx->zDR (only d.looks s.fr) o.guard=some false →
    ∃s' i' B A cs' g f F fr' H' D,zDe G call i (o::r) (d::ds) s=some s'/\SN n0 G H' D fr' s' i' B A cs' g f F/\K fr' H' D:=by
   intro X N;have e:zE5 G call i o d s=some { s with fr:=qu s.fr o.dst (.qc []),tr:=(i,o.dst,.qc [])::s.tr }:=by
    simp only[zE5,N]
   simp only[zDe,e];have base:∀{B A cs' g f:JV},zLW (i+1) B A cs' g f (zGt C o) r ds=true->(∀x∈L,x∈B)->(∀x∈ws,x∈A)->(∀x∈cs,x∈cs')->(∀x∈cur,x∈g\/x∈f)->(∀x∈qI,x∈f) →
     ∃s' i' B A cs' g f F fr' H' D,zDe G call (i+1) r ds { s with fr:=qu s.fr o.dst (.qc []),tr:=(i,o.dst,.qc [])::s.tr }=some s'/\SN n0 G H' D fr' s' i' B A cs' g f F/\K fr' H' D:=by
    intro B A cs' g f U h1 h2 h3 h4 h5;exact zIc I r ds (i+1) B A cs' g f (zGt C o) X c3 U ⟨zXm u.uO (λ_ h k e=>by cases e),u.vZ,u.nn,by simp only[u.uc],u.ub,λx y=>⟨h1 _ (O x y).1,(O x y).2⟩,T h2 h3,u.uz,M,zTe h2 u.chain,R (λq _ U=>h4 _ U) h5⟩
   simp only[zLW]at z;split at z
   .simp only[qr]at z;exact base z.2 (λx h=>h) (λx h=>h) (λx h=>.tail _ h) (λx h=>.inl h) (λx h=>h)
   .split at z
    .exact base z (λx h=>h) (λx h=>h) (λx h=>h) (λx h=>.inl h) (λx h=>h)
    .split at z
     .simp only[qr]at z;exact base z.2 (λx h=>h) (λx h=>h) (λx h=>h) (λx h=>.inl (.tail _ h)) (λx h=>h)
     .simp only[qr]at z;exact base z.2.2 (λx h=>h) (λx h=>h) (λx h=>h) (λx h=>.inl h) (λx h=>.tail _ h)
    .exact base z (λx h=>.tail _ h) (λx h=>h) (λx h=>h) (λx h=>.inr (QK.2 (.inl h))) (λx h=>QK.2 (.inr h))
    .simp only[qr]at z;exact base z.2 (λx h=>h) (λx h=>.tail _ h) (λx h=>h) (λx h=>.inr (QK.2 (.inl h))) (λx h=>QK.2 (.inr h))
  unfold WN at X;cases hg:o.guard with
  |none=>
   rw[hg]at X;exact ar X (by rw[hg];rfl)
  |some tb=>
   obtain⟨t,b⟩:=tb;rw[hg]at X cg;have ag:(only d.looks s.fr).get t=fr.get t:=by rw[u.uc];exact zZb cg
   simp only[zWI]at X;split at X
   .rename_i c hc;obtain⟨w1,w2⟩:=X;have ao:=zKs (b:=b) (ag.trans hc);rw[←hg]at ao;by_cases ax:c=b
    .exact ar (w1 ax) (by rw[ao,ax];simp)
    .have ai:c=!b:=by cases c<;>cases b<;>simp_all
     exact ac (w2 ai) (by rw[ao,ai];simp)
   .rename_i hc;exact ac X (by rw[hg];simp only[zDR,ag,hc])
   .exact X.elim
theorem zbj(g:Calm call){ops:List XOper}{ds:List XD}{K:Fr->Heap->Nat->Prop}(q:∀t h o,fr.get t=some (.ptr h o)->h<nx)(hc:zRe ops ds=true)(v:zLW 0 [] [] [] [] [] [] ops ds=true)(h:WN G call ops K fr H nx):∃fr' H' d,zR6 G call ops ds (fr,H,nx)=some (fr',H',d)/\K fr' H' d:=by
 obtain⟨s,i,B,D,cs,cur,qI,y,fr',H',d,h1,l,C⟩:=zIc g (n0:=nx) ops ds 0 [] [] [] [] [] [] (s:=⟨fr,nx,[(H,0)],[],[],[],[]⟩) h hc v ⟨λt h o _ A=>q t h o A,λx e=>(by cases e),QA _,rfl,rfl,λx e=>(by cases e),λc hc=>(by cases hc),⟨_,_,_,rfl⟩,λx e=>(by simp only[Qa]at e;subst e;exact Nat.one_pos),rfl,λr u=>(by cases u)⟩
 obtain⟨m,inc,z,f⟩:=l.uz;refine⟨fr',H',d,?_,C⟩
 have p:(s.rd.all λr=>zD7 G s.al s.nx r s.ch s.ms)=true:=by
  rw[QD];intro r u;exact(l.rd r u).2.2.2 _ _ ⟨[],rfl,λx e=>by cases e⟩
 have hH:within (λj=>!inc.testBit j) s.al++m=H':=zUg (f▸l.chain)
 rw[f]at p;simp only[zR6,h1,f,p,hH];rw[l.uc,l.ub]
end
def zBp:Nat->AV->Bool
 |0,_=>false
 |d+1,v=>match v with
  |.bool _|.int _ _|.str _|.qm|.qa|.ql|.qk|.qf=>true
  |.qd e _=>zBp d e
  |.qg _ es=>es.all (zBp d)
  |.func _ a b=>a.all (zBp d)&&b.all (zBp d)
  |.iface _ v=>zBp d v
  |.agg cs=>cs.all (zBp d)
  |.qc cs=>cs.all (zBp d)
  |_=>false
def ppS:Nat->AV->Bool
 |0,_=>false
 |d+1,v=>match v with
  |.bool _|.int _ _|.str _|.qm|.qa|.ql|.qk|.qf|.qg _ _|.qd _ _=>true
  |.func _ a b=>a.all (ppS d)&&b.all (ppS d)
  |.iface _ v=>ppS d v
  |.agg cs=>cs.all (ppS d)
  |.qc cs=>cs.all (ppS d)
  |_=>false
inductive K where
 |b
 |i (k:IntKind)
 |s
 |l (sz:Nat)
 |c (v:AV)
 |agg (n:Nat)
 |qc (n:Nat)
 |ep (off:Nat)
 |uR (t:Nat)
 |av
inductive VI where
 |vec (sz:Nat) (es:JE)
 |mp (es:List (AV×AV))
 |qU (j i off:Nat)
abbrev Vecs:=List (Nat×VI)
def Vecs.get:Vecs->Nat->Option VI
 |[],_=>none
 |(k,o)::r,h=>match Nat.beq k h with
  |true=>some o
  |false=>Vecs.get r h
def Vecs.del:Vecs->Nat->Vecs
 |[],_=>[]
 |(k,o)::r,h=>match Nat.beq k h with
  |true=>Vecs.del r h
  |false=>(k,o)::Vecs.del r h
inductive WK:AV->AV->Prop where
 |refl (v:AV):WK v v
 |nil (sz:Nat):WK .qa (.qg sz [])
 |qd {e e':AV} (off:Nat) (h:WK e e'):WK (.qd e off) (.qd e' off)
 |iface (t:Nat) {v v':AV} (h:WK v v'):WK (.iface t v) (.iface t v')
 |agg {cs cs':JE} (hl:cs.length=cs'.length) (h:∀(i:Nat) c c',cs[i]?=some c->cs'[i]?=some c'->WK c c'):WK (.agg cs) (.agg cs')
 |qc {cs cs':JE} (hl:cs.length=cs'.length) (h:∀(i:Nat) c c',cs[i]?=some c->cs'[i]?=some c'->WK c c'):WK (.qc cs) (.qc cs')
def Br(b:Bool)(A B:Prop):Prop:=match b with
 |true=>A
 |false=>B
def ixN{α:Type}(l:List α):Int->Option α
 |.ofNat n=>l[n]?
 |.negSucc _=>none
structure Sta where
 fr:Fr
 H:Heap
 V:Vecs
 m:Nat
 mv:Nat
def Sta.put(st:Sta)(d:Option Nat)(v:AV):Sta:=⟨qu st.fr d v,st.H,st.V,st.m,st.mv⟩
abbrev TblS:=List (Nat×(JE->Prop)×(JE->JF))
def zIx:TblS->Nat->JE->(AV->Prop)->Prop
 |[],_,_,_=>False
 |s::r,f,args,k=>match Nat.beq f s.1 with
  |true=>s.2.1 args/\match s.2.2 args with
   |some v=>k v
   |none=>False
  |false=>zIx r f args k
def zDF:Nat->AV->Bool
 |0,_=>false
 |d+1,v=>match v with
  |.bool _|.int _ _|.str _|.qm|.qa|.ql|.qk|.qf=>true
  |.iface _ v=>zDF d v
  |.agg cs=>cs.all (zDF d)
  |.qc cs=>cs.all (zDF d)
  |_=>false
def zF(f:AV->JF):JE->Option JE
 |[]=>some []
 |v::r=>match f v with
  |some v=>match zF f r with
   |some r=>some (v::r)
   |none=>none
  |none=>none
def zEk:Nat->AV->Bool
 |0,_=>true
 |d+1,v=>match v with
  |.sym _|.ptr _ _|.row _ _ _ _ _ _|.map _=>true
  |.func _ a b=>a.any (zEk d)||b.any (zEk d)
  |.iface _ v=>zEk d v
  |.agg cs|.qc cs=>cs.any (zEk d)
  |_=>false
def zE7(sz len:Nat)(cs:JE):Option JE:=
 match Nat.ble (len*sz) cs.length&&Nat.blt 0 sz&&cs.all AV.one with
 |true=>some (chunks sz len cs)
 |false=>none
def frz(H:Heap)(V:Vecs):Nat->AV->JF
 |0,_=>none
 |d+1,v=>match v with
  |.sym j=>match V.get j with
   |some (.vec sz es)=>some (.qg sz es)
   |_=>none
  |.ptr h off=>match H.get h with
   |some (.cells _ cs)=>match zF (frz H V d) cs with
    |some cs=>some (.qd (.agg cs) off)
    |none=>none
   |_=>none
  |.func f a b=>match zF (frz H V d) a with
   |some a=>match zF (frz H V d) b with
    |some b=>some (.func f a b)
    |none=>none
   |none=>none
  |.agg cs=>match zF (frz H V d) cs with
   |some cs=>some (.agg cs)
   |none=>none
  |.row h off len sz _ _=>match H.get h with
   |some (.cells _ cs)=>match Nat.ble (off+len*sz) cs.length with
    |true=>match zE7 sz len (cs.drop off)with
     |some es=>match es.all (ppS 8)with
      |true=>some (.qg sz es)
      |false=>none
     |none=>none
    |false=>none
   |_=>none
  |v=>match zEk d v with
   |true=>none
   |false=>some v
def zEW(tb:TblS)(f:Nat)(args:JE)(st:Sta)(k:AV->Sta->Prop):Prop:=
 match args.any (zEk 8)with
 |false=>zIx tb f args λv=>k v st
 |true=>match zF (frz st.H st.V 8) args with
  |some args=>zIx tb f args λv=>match zDF 8 v with
   |true=>k v st
   |false=>False
  |none=>False
def zMb(n:Int)(lo c:JF)(k:Int->Int->Prop):Prop:=
 match lo with
 |none=>match c with
  |none=>k 0 n
  |some (.int _ h)=>(0<=h/\h<=n)/\k 0 h
  |_=>False
 |some (.int _ l)=>match c with
  |none=>(0<=l/\l<=n)/\k l n
  |some (.int _ h)=>(0<=l/\l<=h/\h<=n)/\k l h
  |_=>False
 |_=>False
def eqv:List Kd->JE->JE->Option Bool
 |[],[],[]=>some true
 |k::ks,a::x,b::y=>match eqb k a b with
  |some p=>match ks with
   |[]=>match x,y with
    |[],[]=>some p
    |_,_=>none
   |_=>match eqv ks x y with
    |some q=>some (p&&q)
    |none=>none
  |none=>none
 |_,_,_=>none
def zEa(H:Heap)(sz:Nat):AV->Option JE
 |.qa=>some []
 |.qg c es=>match Nat.beq sz c with
  |true=>some es
  |false=>none
 |.row h off len c _ _=>match Nat.beq sz c with
  |true=>match H.get h with
   |some (.cells _ cs)=>match Nat.ble (off+len*sz) cs.length with
    |true=>zE7 sz len (cs.drop off)
    |false=>none
   |_=>none
  |false=>none
 |.str s=>match Nat.beq sz 1 with
  |true=>some (s.map λb=>.int .u8 (.ofNat b))
  |false=>none
 |_=>none
def ldE(es:JE)(i off sz:Nat)(c:Bool):JF:=match es[i]? with
 |some e=>part e.cells off sz c
 |none=>none
def lkV(ok b:Bool)(u:AV):AV:=match ok with
 |true=>.qc [u,.bool b]
 |false=>u
def lkR(ok:Bool)(z:AV):Option JF->JF
 |some (some u)=>some (lkV ok true u)
 |some none=>some (lkV ok false z)
 |none=>none
def zSc:AV->Bool
 |.qg _ _=>true
 |_=>false
def zRg:XV->Bool
 |.c (.qg _ _)=>true
 |_=>false
def WXd(st:Sta)(x:Option Out)(k:AV->Sta->Prop):Prop:=match x with
 |some (v,H,m)=>k v ⟨st.fr,H,st.V,m,st.mv⟩
 |none=>False
def zKt(n:Int):Nat->(Nat->Prop)->Prop
 |0,_=>True
 |m+1,k=>zKt n m k/\(n=.ofNat m->k m)
def bsL(G:Cx)(fr:Fr)(len sz:Nat)(z:JE)(c:List (Nat×Nat×XV)):Option JE:=match zCs G fr z c with
 |some cs=>match Nat.beq cs.length (len*sz)with
  |true=>match zE7 sz len cs with
   |some es=>match es.all (ppS 12)with
    |true=>some es
    |false=>none
   |none=>none
  |false=>none
 |none=>none
def isC:List K->Bool
 |.c _::_=>true
 |_=>false
def wop(G:Cx)(tb:TblS)(st:Sta)(o:XO)(J:List K)(k:AV->Sta->Prop):Prop:=
 match o with
 |.bin op x y=>match x.ev G st.fr with
  |some (.str a)=>match op with
   |.add=>match y.ev G st.fr with
    |some (.str b)=>(a.length+b.length<=zh)/\k (.str (a++b)) st
    |_=>False
   |op=>WXd st (xoS G zj st.fr st.H st.m (.bin op x y)) k
  |some (.int g a)=>match op with
   |.quo=>match y.ev G st.fr with
    |some (.int N b)=>match zH5 g N with
     |true=>(b≠0)/\k (.int g (wrapx g (a.tdiv b))) st
     |false=>False
    |_=>False
   |.rem=>match y.ev G st.fr with
    |some (.int N b)=>match zH5 g N with
     |true=>(b≠0)/\k (.int g (a.tmod b)) st
     |false=>False
    |_=>False
   |.shl=>match y.ev G st.fr with
    |some (.int _ b)=>(0<=b)/\k (.int g (wrapx g (a*2 ^ (Min.min b.toNat g.bits)))) st
    |_=>False
   |.shr=>match y.ev G st.fr with
    |some (.int _ b)=>(0<=b)/\k (.int g (a.fdiv (2 ^ (Min.min b.toNat g.bits)))) st
    |_=>False
   |op=>WXd st (xoS G zj st.fr st.H st.m (.bin op x y)) k
  |_=>False
 |.wF neg kd x y=>match x.ev G st.fr with
  |some (.agg a)=>match y.ev G st.fr with
   |some (.agg b)=>match eqv kd a b with
    |some r=>k (zEV neg r) st
    |none=>False
   |_=>False
  |_=>False
 |.pick c a b=>match c.ev G st.fr with
  |some (.bool R)=>match c with
   |.t n=>Br R (match a.ev G st.fr with
     |some v=>k v ⟨st.fr.put n (.bool true),st.H,st.V,st.m,st.mv⟩
     |none=>False) (match b.ev G st.fr with
     |some v=>k v ⟨st.fr.put n (.bool false),st.H,st.V,st.m,st.mv⟩
     |none=>False)
   |_=>WXd st (xoS G zj st.fr st.H st.m (.pick c a b)) k
  |_=>False
 |.wK x i=>match x.ev G st.fr with
  |some (.str s)=>match i.ev G st.fr with
   |some (.int _ n)=>∃c,ixN s n=some c/\k (.int .u8 (.ofNat c)) st
   |_=>False
  |_=>False
 |.wC x B A=>match x.ev G st.fr with
  |some (.str s)=>match evo G st.fr B with
   |some B=>match evo G st.fr A with
    |some A=>zMb (.ofNat s.length) B A λl h=>k (.str ((s.take h.toNat).drop l.toNat)) st
    |none=>False
   |none=>False
  |_=>False
 |.wv x B A O sz=>match x.ev G st.fr with
  |some (.qg d es)=>match Nat.beq sz d with
   |true=>match O with
    |none=>match evo G st.fr B with
     |some B=>match evo G st.fr A with
      |some A=>zMb (.ofNat es.length) B A λl h=>k (.qg sz ((es.take h.toNat).drop l.toNat)) st
      |none=>False
     |none=>False
    |some _=>False
   |false=>False
  |some .qa=>WXd st (xoS G zj st.fr st.H st.m (.wv x B A O sz)) k
  |_=>False
 |.qC x i sz=>match x.ev G st.fr with
  |some (.qg d es)=>match Nat.beq sz d with
   |true=>match i.ev G st.fr with
    |some (.int _ n)=>∃v,ixN es n=some v/\k (.qd v 0) st
    |_=>False
   |false=>False
  |some (.sym j)=>match st.V.get j with
   |some (.vec d es)=>match Nat.beq sz d with
    |true=>match i.ev G st.fr with
     |some (.int _ n)=>(0<=n/\n<.ofNat es.length)/\k (.sym st.mv) ⟨st.fr,st.H,(st.mv,.qU j n.toNat 0)::st.V,st.m,st.mv+1⟩
     |_=>False
    |false=>False
   |_=>False
  |some (.row _ _ l _ _ _)=>match i.ev G st.fr with
   |some (.int kd n)=>(0<=n/\n<.ofNat l)/\zKt n l λm=>WXd st (xoS G zj st.fr st.H st.m (.qC x (.c (.int kd (.ofNat m))) sz)) k
   |_=>False
  |_=>False
 |.wj x=>match x.ev G st.fr with
  |some (.sym j)=>match st.V.get j with
   |some (.vec _ es)=>k (.int .i64 (.ofNat es.length)) st
   |_=>False
  |_=>WXd st (xoS G zj st.fr st.H st.m (.wj x)) k
 |.load x sz q=>match isC J,x.ev G st.fr with
  |true,some (.qd _ _)=>WXd st (xoS G zj st.fr st.H st.m (.load x sz q)) k
  |true,_=>False
  |false,some (.sym p)=>match st.V.get p with
   |some (.qU j i off)=>match st.V.get j with
    |some (.vec _ es)=>∃v,ldE es i off sz q=some v/\k v st
    |_=>False
   |_=>False
  |false,_=>WXd st (xoS G zj st.fr st.H st.m (.load x sz q)) k
 |.qR x off=>match x.ev G st.fr with
  |some (.sym p)=>match st.V.get p with
   |some (.qU j i o)=>match st.V.get j with
    |some (.vec _ _)=>k (.sym st.mv) ⟨st.fr,st.H,(st.mv,.qU j i (o+off))::st.V,st.m,st.mv+1⟩
    |_=>False
   |_=>False
  |_=>WXd st (xoS G zj st.fr st.H st.m (.qR x off)) k
 |.store x y sz=>match x.ev G st.fr with
  |some (.sym p)=>match st.V.get p with
   |some (.qU j i off)=>match st.V.get j with
    |some (.vec d es)=>match y.ev G st.fr with
     |some v=>match Nat.beq off 0&&Nat.beq sz d&&ppS 12 v with
      |true=>match cellsOf v sz with
       |some _=>k (.qc []) ⟨st.fr,st.H,(j,.vec d (es.set i v))::st.V.del j,st.m,st.mv⟩
       |none=>False
      |false=>False
     |none=>False
    |_=>False
   |_=>False
  |_=>WXd st (xoS G zj st.fr st.H st.m (.store x y sz)) k
 |.vB x=>match x.ev G st.fr with
  |some (.str s)=>k (.sym st.mv) ⟨st.fr,st.H,(st.mv,.vec 1 (s.map λb=>.int .u8 (.ofNat b)))::st.V,st.m,st.mv+1⟩
  |_=>False
 |.vj x=>match x.ev G st.fr with
  |some (.sym j)=>match st.V.get j with
   |some (.vec sz es)=>match Nat.beq sz 1 with
    |true=>∃s,zBw es=some s/\k (.str s) st
    |false=>False
   |_=>False
  |some (.qg sz es)=>match Nat.beq sz 1 with
   |true=>∃s,zBw es=some s/\k (.str s) st
   |false=>False
  |some .qa=>k (.str []) st
  |_=>False
 |.qx len sz z L=>match J with
  |[]=>match zCs G st.fr z L with
   |some cs=>match Nat.beq cs.length (len*sz)with
    |true=>match zE7 sz len cs with
     |some es=>match es.all (ppS 12)with
      |true=>k (.sym st.mv) ⟨st.fr,st.H,(st.mv,.vec sz es)::st.V,st.m,st.mv+1⟩
      |false=>False
     |none=>False
    |false=>False
   |none=>False
  |.c _::_=>match bsL G st.fr len sz z L with
   |some es=>k (.qg sz es) st
   |none=>False
  |_=>WXd st (xoS G zj st.fr st.H st.m (.qx len sz z L)) k
 |.qL l c sz bytes z=>match l.ev G st.fr with
  |some (.int _ n)=>match c.ev G st.fr with
   |some (.int _ c)=>match zE7 sz 1 z,Nat.beq z.length sz with
    |some [e],true=>(0<=n/\n<=c/\c.toNat*bytes<=zg/\c.toNat<=zg) ∧
     k (.sym st.mv) ⟨st.fr,st.H,(st.mv,.vec sz (List.replicate n.toNat e))::st.V,st.m,st.mv+1⟩
    |_,_=>False
   |_=>False
  |_=>False
 |.append x y sz bytes=>match zRg y with
  |true=>False
  |false=>match x.ev G st.fr with
   |some v=>match y.ev G st.fr with
    |some u=>match zEa st.H sz u with
     |some D=>match zSc u||ppS 12 (.agg D)with
      |true=>match v with
       |.qa=>(D.length*bytes<=zg)/\k (.sym st.mv) ⟨st.fr,st.H,(st.mv,.vec sz D)::st.V,st.m,st.mv+1⟩
       |.sym j=>match st.V.get j with
        |some (.vec d es)=>match Nat.beq sz d with
         |true=>((es.length+D.length)*bytes<=zg/\es.length+D.length<=zg)/\k (.sym st.mv) ⟨st.fr,st.H,(st.mv,.vec sz (es++D))::st.V.del j,st.m,st.mv+1⟩
         |false=>False
        |_=>False
       |_=>False
      |false=>False
     |none=>False
    |none=>False
   |none=>False
 |.q9 x i l s a=>match J with
  |[]=>WXd st (xoS G zj st.fr st.H st.m (.q9 x i l s a)) k
  |_=>match i.ev G st.fr with
   |some (.int kd n)=>(0<=n/\n<.ofNat l)/\zKt n l λm=>WXd st (xoS G zj st.fr st.H st.m (.q9 x (.c (.int kd (.ofNat m))) l s a)) k
   |_=>False
 |.qy x i l s=>match J with
  |[]=>WXd st (xoS G zj st.fr st.H st.m (.qy x i l s)) k
  |_=>match i.ev G st.fr with
   |some (.int kd n)=>(0<=n/\n<.ofNat l)/\zKt n l λm=>WXd st (xoS G zj st.fr st.H st.m (.qy x (.c (.int kd (.ofNat m))) l s)) k
   |_=>False
 |.wm=>k (.sym st.mv) ⟨st.fr,st.H,(st.mv,.mp [])::st.V,st.m,st.mv+1⟩
 |.lookup q kd m x z ok=>match m.ev G st.fr with
  |some (.sym j)=>match st.V.get j with
   |some (.mp es)=>match x.ev G st.fr with
    |some C=>match zFV q kd C with
     |true=>∃v,lkR ok z (zCt q kd C es)=some v/\k v st
     |false=>False
    |none=>False
   |_=>False
  |_=>False
 |.wE q kd m x y=>match m.ev G st.fr with
  |some (.sym j)=>match st.V.get j with
   |some (.mp es)=>match x.ev G st.fr with
    |some C=>match y.ev G st.fr with
     |some u=>match zFV q kd C&&ppS 12 C&&ppS 12 u with
      |true=>∃F,zGn q kd C u es=some F/\k (.qc []) ⟨st.fr,st.H,(j,.mp F)::st.V.del j,st.m,st.mv⟩
      |false=>False
     |none=>False
    |none=>False
   |_=>False
  |_=>False
 |.call f args=>match evs G st.fr args with
  |some M=>zEW tb f M st k
  |none=>False
 |.qM f args=>match f.ev G st.fr with
  |some (.func (.func f) first I)=>match evs G st.fr args with
   |some M=>zEW tb f (first++M++I) st k
   |none=>False
  |_=>False
 |.vA _|.beq _ _ _|.peq _ _ _|.vN _ _ _ _ _|.seq _ _ _|.vV _ _ _|.vT _ _ _|.un _ _|.conv _ _|.v8 _|.w7 _ _|.w8 _ _|.vY _ _ _ _|.ext _ _
 |.box _ _|.alloc _|.build _ _|.wq _|.vb _|.wP _|.min _ _|.max _ _|.wb _ _ _|.wQ _ _|.vK _ _ _ _=>WXd st (xoS G zj st.fr st.H st.m o) k
 |_=>False
def brT(t:Nat)(c:Bool)(st:Sta)(k:Bool->Sta->Prop):Prop:=
 Br c (k true ⟨st.fr.put t (.bool true),st.H,st.V,st.m,st.mv⟩) (k false ⟨st.fr.put t (.bool false),st.H,st.V,st.m,st.mv⟩)
def zgk(h:Nat)(l:JV):JV:=match inN h l with
 |true=>l
 |false=>l++[h]
def hsA:Nat->AV->JV->JV
 |0,_,c=>c
 |d+1,v,c=>match v with
  |.ptr h _|.map h|.row h _ _ _ _ _=>zgk h c
  |.func _ a b=>b.foldl (λc v=>hsA d v c) (a.foldl (λc v=>hsA d v c) c)
  |.iface _ v=>hsA d v c
  |.agg cs|.qc cs=>cs.foldl (λc v=>hsA d v c) c
  |_=>c
def zJx:Nat->AV->JV->JV
 |0,_,c=>c
 |d+1,v,c=>match v with
  |.sym j=>zgk j c
  |.func _ a b=>b.foldl (λc v=>zJx d v c) (a.foldl (λc v=>zJx d v c) c)
  |.iface _ v=>zJx d v c
  |.agg cs|.qc cs=>cs.foldl (λc v=>zJx d v c) c
  |_=>c
def zJn(H:Heap):Nat->Nat->JV->JV
 |0,_,c=>c
 |f+1,i,c=>match c[i]? with
  |none=>c
  |some h=>match H.get h with
   |some (.cells _ cs)=>zJn H f (i+1) (cs.foldl (λa v=>hsA 8 v a) c)
   |_=>zJn H f (i+1) c
def posN(h:Nat):Nat->JV->Option Nat
 |_,[]=>none
 |i,a::r=>match Nat.beq h a with
  |true=>some i
  |false=>posN h (i+1) r
def rnV(hm g:JV):Nat->AV->JF
 |0,_=>none
 |d+1,v=>match v with
  |.ptr h o=>match posN h 0 hm with
   |some i=>some (.ptr i o)
   |none=>none
  |.row h o l s c e=>match posN h 0 hm with
   |some i=>some (.row i o l s c e)
   |none=>none
  |.map h=>match posN h 0 hm with
   |some i=>some (.map i)
   |none=>none
  |.sym j=>match posN j 0 g with
   |some i=>some (.sym i)
   |none=>none
  |.func f a b=>match zF (rnV hm g d) a with
   |some a=>match zF (rnV hm g d) b with
    |some b=>some (.func f a b)
    |none=>none
   |none=>none
  |.iface t v=>match rnV hm g d v with
   |some v=>some (.iface t v)
   |none=>none
  |.agg cs=>match zF (rnV hm g d) cs with
   |some cs=>some (.agg cs)
   |none=>none
  |.qc cs=>match zF (rnV hm g d) cs with
   |some cs=>some (.qc cs)
   |none=>none
  |v=>some v
def zUi(fr:Fr):JV->Option JE
 |[]=>some []
 |t::r=>match fr.get t with
  |some v=>match zUi fr r with
   |some c=>some (v::c)
   |none=>none
  |none=>none
def rnH(H:Heap)(hm c:JV):Nat->JV->Option Heap
 |_,[]=>some []
 |i,h::r=>match H.get h with
  |some (.cells str cs)=>match zF (rnV hm c 8) cs with
   |some cs=>match rnH H hm c (i+1) r with
    |some d=>some ((i,.cells str cs)::d)
    |none=>none
   |none=>none
  |_=>none
def zNI:JV->Bool
 |[]=>true
 |a::r=>!(inN a r)&&zNI r
def zOh(V:Vecs):Nat->JV->Option Vecs
 |_,[]=>some []
 |i,j::r=>match V.get j with
  |some (.vec sz es)=>match zOh V (i+1) r with
   |some c=>some ((i,.vec sz es)::c)
   |none=>none
  |some (.mp es)=>match zOh V (i+1) r with
   |some c=>some ((i,.mp es)::c)
   |none=>none
  |_=>none
structure Cut where
 qE:JV
 grow:JN
 pins:Nat
def zOt(H:Heap)(h sz:Nat):AV->Option (Nat×JE)
 |.row c o l s _ _=>match Nat.beq o 0&&(Nat.beq s sz&&!Nat.beq c h)with
  |true=>match H.get c with
   |some (.cells _ cs)=>match Nat.beq cs.length (l*sz)with
    |true=>match zE7 sz l cs with
     |some es=>match es.all (ppS 12)with
      |true=>some (c,es)
      |false=>none
     |none=>none
    |false=>none
   |_=>none
  |false=>none
 |_=>none
def qD(h:Nat):JN->Sta->Sta
 |[],st=>st
 |(i,sz)::r,st=>match st.H.get h with
  |some (.cells str cs)=>match cs[i]? with
   |some .qa=>qD h r ⟨st.fr,st.H.put h (.cells str (cs.set i (.sym st.mv))),(st.mv,.vec sz [])::st.V,st.m,st.mv+1⟩
   |some v=>match zOt st.H h sz v with
    |some (c,es)=>qD h r ⟨st.fr,(st.H.del c).put h (.cells str (cs.set i (.sym st.mv))),(st.mv,.vec sz es)::st.V,st.m,st.mv+1⟩
    |none=>qD h r st
   |none=>qD h r st
  |_=>st
def wy(V:Vecs):AV->AV
 |.sym j=>match V.get j with
  |some (.vec sz es)=>.qg sz es
  |_=>.sym j
 |v=>v
def zSd:AV->Bool
 |.sym _=>true
 |_=>false
def wG(st:Sta):Sta:=⟨st.fr.map λp=>(p.1,wy st.V p.2),st.H,[],st.m,st.mv⟩
def wz(n:Nat)(st:Sta):Sta:=match st.fr.get (Nat.mod n 100)with
 |some (.sym j)=>match st.V.get j with
  |some (.vec sz es)=>match Nat.beq (Nat.div n 100) es.length&&Nat.ble 1 (Nat.div n 100)with
   |true=>match flatten sz es with
    |some fl=>⟨st.fr.put (Nat.mod n 100) (.row st.m 0 (Nat.div n 100) sz 0 false),(st.m,.cells true fl)::st.H,st.V.del j,st.m+1,st.mv⟩
    |none=>st
   |false=>st
  |_=>st
 |_=>st
def zG5:JN->Sta->Sta
 |[],st=>st
 |(t,sz)::r,st=>match Nat.beq sz 0,Nat.blt t 1000 with
  |true,_=>zG5 r (match t with
   |0=>wG st
   |t=>wz t st)
  |false,true=>match st.fr.get t with
   |some .qa=>zG5 r ⟨st.fr.put t (.sym st.mv),st.H,(st.mv,.vec sz [])::st.V,st.m,st.mv+1⟩
   |some v=>match zOt st.H st.m sz v with
    |some (c,es)=>zG5 r ⟨st.fr.put t (.sym st.mv),st.H.del c,(st.mv,.vec sz es)::st.V,st.m,st.mv+1⟩
    |none=>zG5 r st
   |none=>zG5 r st
  |false,false=>match st.fr.get (Nat.sub (Nat.div t 1000) 1)with
   |some (.ptr h _)=>zG5 r (qD h [(Nat.mod t 1000,sz)] st)
   |_=>zG5 r st
def zFQ(H:Heap):JV->JV->JV
 |[],c=>c
 |h::r,c=>match H.get h with
  |some (.cells _ cs)=>zFQ H r (cs.foldl (λa v=>zJx 8 v a) c)
  |_=>zFQ H r c
def zE8(hm c:JV)(vs:JE)(st:Sta)(k:JE->Heap->Vecs->Prop):Prop:=
 match zNI hm&&zNI c with
 |true=>match zF (rnV hm c 8) vs with
  |some vs=>match rnH st.H hm c 0 hm with
   |some H=>match zOh st.V 0 c with
    |some V=>k vs H V
    |none=>False
   |none=>False
  |none=>False
 |false=>False
def zNJ(c:Nat)(vs:JE)(st:Sta)(F:JV->JV->Prop):Prop:=
 (λd=>F d (zFQ st.H d (vs.foldl (λa v=>zJx 8 v a) []))) (zJn st.H 30 0 (vs.foldl (λa v=>hsA 8 v a) (List.range c)))
def canon(c:Cut)(st:Sta)(k:JE->Heap->Vecs->Prop):Prop:=
 match zUi st.fr c.qE with
 |none=>False
 |some d=>zNJ c.pins d st λe f=>zE8 e f d st k
abbrev Inv:=JE->Heap->Vecs->Prop
def zVH(c:Cut)(P:Inv)(st:Sta):Prop:=canon c (zG5 c.grow st) P
def zYp:JV->JE->Fr
 |t::ts,v::vs=>(t,v)::zYp ts vs
 |_,_=>[]
def mkW(c:Cut)(vs:JE)(H:Heap)(V:Vecs):Sta:=⟨zYp c.qE vs,H,V,H.length,V.length⟩
structure HEnt where
 f:Nat
 grow:JN
 pre:JE->Heap->Vecs->Prop
 val:JE->Heap->Vecs->Option (AV×Heap×Vecs)
structure TOp where
 o:XOper
 ks:List K
 h:Option (List HEnt)
def qH(g:JN)(args:JE)(st:Sta):Sta:=match args with
 |.ptr h _::_=>qD h g st
 |_=>st
def vg(mv:Nat):AV->AV
 |.sym j=>.sym (mv+j)
 |v=>v
def zKu(hm:JV)(mv:Nat)(H2 H:Heap):Heap:=H.map λp=>match posN p.1 0 hm with
 |some i=>match H2[i]? with
  |some (_,.cells str cs)=>(p.1,.cells str (cs.map (vg mv)))
  |_=>p
 |none=>p
def zOu(c:JV)(mv:Nat):Vecs->Vecs->Vecs
 |[],V=>V.filter λp=>!inN p.1 c
 |(j,d)::r,V=>(mv+j,d)::zOu c mv r V
def inpl:JN->Bool
 |[(0,0)]=>true
 |_=>false
def zM4(d:JV)(V2 V:Vecs):Vecs:=V.map λp=>match posN p.1 0 d with
 |some i=>match V2.get i with
  |some c=>(p.1,c)
  |none=>p
 |none=>p
def zM5(g:JN)(hm c:JV)(st:Sta)(H2:Heap)(V2:Vecs):Sta:=match inpl g with
 |true=>⟨st.fr,st.H,zM4 c V2 st.V,st.m,st.mv⟩
 |false=>⟨st.fr,zKu hm st.mv H2 st.H,zOu c st.mv V2 st.V,st.m,st.mv+V2.length⟩
def zOv(g:JN)(mv:Nat)(v:AV):AV:=match inpl g with
 |true=>v
 |false=>vg mv v
def zHn(e:HEnt)(args:JE)(st:Sta)(k:AV->Sta->Prop):Prop:=
 (λst=>zNJ 0 args st λd f=>zE8 d f args st λc H V=>e.pre c H V/\match e.val c H V with
  |some (v,g,h)=>k (zOv e.grow st.mv v) (zM5 e.grow d f st g h)
  |none=>False) (qH e.grow args st)
def zM6:List HEnt->Nat->Option HEnt
 |[],_=>none
 |s::r,f=>match Nat.beq f s.f with
  |true=>some s
  |false=>zM6 r f
def zIy(F:JV):Heap->Heap
 |[]=>[]
 |p::r=>match inN p.1 F with
  |true=>p::zIy F r
  |false=>zIy F r
def zPQ(F:JV):Heap->Heap
 |[]=>[]
 |p::r=>match inN p.1 F with
  |true=>zPQ F r
  |false=>p::zPQ F r
def zVI(d:Heap)(v:AV):AV:=match zEk 8 v with
 |false=>v
 |true=>match frz d [] 8 v with
  |some c=>c
  |none=>v
def zOw(c:Heap)(fr0:Fr):Fr->Fr
 |[]=>[]
 |(t,_)::r=>match fr0.get t with
  |some v=>(t,zVI c v)::zOw c fr0 r
  |none=>zOw c fr0 r
def vu(F:JV)(c:Heap)(st:Sta):Sta:=⟨zOw c st.fr st.fr,zPQ F st.H,st.V,st.m,st.mv⟩
def zVJ(st:Sta)(v:AV)(k:AV->Sta->Prop):Prop:=match zSd v with
 |true=>k (wy st.V v) (wG st)
 |false=>(λF=>(λc=>match frz c [] 8 v with
  |some d=>k d (vu F c st)
  |none=>False) (zIy F st.H)) (zJn st.H 30 0 (hsA 8 v []))
def zVK{α:Type}(h:Option α):XO->Bool
 |.wb _ _ _|.vA _|.box _ _=>h.isSome
 |_=>false
def zRh(G:Cx)(g:List HEnt)(st:Sta)(o:XO)(k:AV->Sta->Prop):Prop:=match o with
 |.call f args=>match zM6 g f with
  |some e=>match evs G st.fr args with
   |some d=>zHn e d st k
   |none=>False
  |none=>False
 |.qM f args=>match f.ev G st.fr with
  |some (.func (.func f) first c)=>match zM6 g f with
   |some e=>match evs G st.fr args with
    |some d=>zHn e (first++d++c) st k
    |none=>False
   |none=>False
  |_=>False
 |_=>False
def zDZ(G:Cx)(tb:TblS)(st:Sta)(o:TOp)(k:AV->Sta->Prop):Prop:=match o.h with
 |none=>wop G tb st o.o.op o.ks k
 |some e=>zRh G e st o.o.op k
def zOi(G:Cx)(tb:TblS)(st:Sta)(o:TOp)(k:AV->Sta->Prop):Prop:=match zVK o.h o.o.op with
 |true=>WXd st (xoS G zj st.fr st.H st.m o.o.op) λv st=>zVJ st v k
 |false=>zDZ G tb st o k
def zGQ(G:Cx)(tb:TblS):List TOp->(Sta->Prop)->Sta->Prop
 |[],k,st=>k st
 |o::r,k,st=>match o.o.guard with
  |none=>zOi G tb st o λv st=>∃d,WK v d/\zGQ G tb r k (st.put o.o.dst d)
  |some (t,b)=>match st.fr.get t with
   |some (.bool c)=>brT t c st λc st=>match c==b with
    |true=>zOi G tb st o λv st=>∃d,WK v d/\zGQ G tb r k (st.put o.o.dst d)
    |false=>zGQ G tb r k (st.put o.o.dst (.qc []))
   |some (.qc [])=>zGQ G tb r k (st.put o.o.dst (.qc []))
   |_=>False
inductive PP:AV->Prop where
 |bool (b:Bool):PP (.bool b)
 |int (k:IntKind) (n:Int):PP (.int k n)
 |str (s:JV):PP (.str s)
 |qm:PP .qm
 |qa:PP .qa
 |ql:PP .ql
 |qk:PP .qk
 |qf:PP .qf
 |qd (e:AV) (off:Nat) (h:PP e):PP (.qd e off)
 |qg (sz:Nat) (es:JE) (h:∀e∈es,PP e):PP (.qg sz es)
 |func (fn:Fn) (a b:JE) (ha:∀e∈a,PP e) (hb:∀e∈b,PP e):PP (.func fn a b)
 |iface (t:Nat) (v:AV) (h:PP v):PP (.iface t v)
 |agg (cs:JE) (h:∀e∈cs,PP e):PP (.agg cs)
 |qc (cs:JE) (h:∀e∈cs,PP e):PP (.qc cs)
inductive CP(n k:Nat):AV->Prop where
 |bool (b:Bool):CP n k (.bool b)
 |int (q:IntKind) (m:Int):CP n k (.int q m)
 |str (s:JV):CP n k (.str s)
 |qm:CP n k .qm
 |qa:CP n k .qa
 |ql:CP n k .ql
 |qk:CP n k .qk
 |qf:CP n k .qf
 |ptr (h o:Nat) (hk:h<k):CP n k (.ptr h o)
 |row (h o l s c:Nat) (e:Bool) (hk:h<k):CP n k (.row h o l s c e)
 |map (h:Nat) (hk:h<k):CP n k (.map h)
 |sym (i:Nat) (h:i<n):CP n k (.sym i)
 |qd (e:AV) (off:Nat) (h:PP e):CP n k (.qd e off)
 |qg (sz:Nat) (es:JE) (h:∀e∈es,PP e):CP n k (.qg sz es)
 |func (fn:Fn) (a b:JE) (ha:∀e∈a,CP n k e) (hb:∀e∈b,CP n k e):CP n k (.func fn a b)
 |iface (t:Nat) (v:AV) (h:CP n k v):CP n k (.iface t v)
 |agg (cs:JE) (h:∀e∈cs,CP n k e):CP n k (.agg cs)
 |qc (cs:JE) (h:∀e∈cs,CP n k e):CP n k (.qc cs)
def zFn(n k:Nat)(fr:Fr):Prop:=∀t v,fr.get t=some v->CP n k v
def HCP(n k:Nat)(H:Heap):Prop:=∀p∈H,∃str cs,p.2=.cells str cs/\∀c∈cs,CP n k c
structure HV(s r:Sta):Prop where
 H:r.H=s.H
 V:r.V=s.V
 m:r.m=s.m
 mv:r.mv=s.mv
def clsQ(t:TOp):Nat:=match t.h with
 |some _=>3
 |none=>match t.o.op with
  |.wj _|.lookup _ _ _ _ _ _|.call _ _|.qM _ _=>1
  |.load _ _ _=>match isC t.ks with
   |true=>0
   |false=>1
  |.cap _=>3
  |.box _ _|.alloc _=>2
  |.qx _ _ _ _=>match t.ks with
   |[]=>3
   |.c _::_=>0
   |_=>2
  |.store _ _ _=>match t.ks with
   |[]=>3
   |_=>2
  |o=>match zAn o with
   |0=>0
   |_=>3
def zMU:Nat->JV->JV->JV->List TOp->List XD->Bool
 |_,_,_,_,[],_=>true
 |i,e,f,g,t::r,d::ds=>match clsQ t with
  |0=>zMU (i+1) e f g r ds
  |1=>f.all (λc=>d.qe.testBit c)&&zMU (i+1) e f (i::g) r ds
  |2=>e.all (λc=>d.qe.testBit c)&&zMU (i+1) (i::e) f g r ds
  |_=>e.all (λc=>d.qe.testBit c)&&g.all (λc=>d.qe.testBit c)&&zMU (i+1) (i::e) (i::f) g r ds
 |_,_,_,_,_::_,[]=>false
def zKv:List TOp->List XD->Bool
 |[],_=>true
 |o::r,d::ds=>(zM2 o.o.op.qb).all (λt=>inN t d.looks)&&zgj o.o.guard d.looks&&zKv r ds
 |_::_,[]=>false
inductive TC where
 |skip
 |ret
 |exit (i:Nat)
 |wH (ops:List TOp)
 |draw (pn:JV) (ops:List TOp) (ds:List XD)
 |wX (ops:List TOp) (ds:List XD)
 |qQ (ops:List TOp) (ds:List XD)
 |seq (a b:TC)
 |cond (c:XV) (a b:TC)
 |block (i:Nat) (b:TC)
 |loop (c:Cut) (I:JV->Inv) (b:TC)
 |qB (k:Nat) (b:TC)
 |wg (c:Cut) (J:JV->Inv) (a b:TC)
def er:TC->XC
 |.skip=>.skip
 |.ret=>.ret
 |.exit i=>.exit i
 |.wH d=>.wH (d.map TOp.o)
 |.draw _ d e=>.draw (d.map TOp.o) e
 |.wX d e=>.draw (d.map TOp.o) e
 |.qQ d e=>.draw (d.map TOp.o) e
 |.seq a b=>.seq (er a) (er b)
 |.cond c a b=>.cond c (er a) (er b)
 |.block i b=>.block i (er b)
 |.loop _ _ b=>.loop (er b)
 |.qB _ b=>.loop (er b)
 |.wg _ _ a b=>.seq (er a) (er b)
def zEl(G:Cx)(tb:TblS)(st:Sta)(o:XO)(e:List K)(k:AV->Sta->Prop):Prop:=
 match o with
 |.vB _|.qL _ _ _ _ _|.append _ _ _ _|.wm|.wE _ _ _ _ _|.lookup _ _ _ _ _ _=>False
 |.qx len sz z d=>WXd st (xoS G zj st.fr st.H st.m (.qx len sz z d)) k
 |.vj x=>WXd st (xoS G zj st.fr st.H st.m (.vj x)) k
 |o=>wop G tb ⟨st.fr,st.H,[],st.m,st.mv⟩ o e λv c=>k v ⟨c.fr,c.H,st.V,c.m,c.mv⟩
def zD1(G:Cx)(tb:TblS):List TOp->(Sta->Prop)->Sta->Prop
 |[],k,st=>k st
 |o::r,k,st=>match o.o.guard with
  |none=>zEl G tb st o.o.op o.ks λv st=>zD1 G tb r k (st.put o.o.dst v)
  |some (t,b)=>match st.fr.get t with
   |some (.bool c)=>brT t c st λc st=>match c==b with
    |true=>zEl G tb st o.o.op o.ks λv st=>zD1 G tb r k (st.put o.o.dst v)
    |false=>zD1 G tb r k (st.put o.o.dst (.qc []))
   |some (.qc [])=>zD1 G tb r k (st.put o.o.dst (.qc []))
   |_=>False
def zWJ(Q:Ext->Sta->Prop)(k:Sta->Prop):Ext->Sta->Prop
 |.normal,st=>k st
 |.exit i,st=>Q (.exit i) st
 |.ret,st=>Q .ret st
def zXn(id:Nat)(Q:Ext->Sta->Prop):Ext->Sta->Prop
 |.normal,st=>Q .normal st
 |.exit i,st=>match Nat.beq i id with
  |true=>Q .normal st
  |false=>Q (.exit i) st
 |.ret,st=>Q .ret st
def zUj(ops:List XOper)(ds:List XD):Bool:=zRe ops ds&&zLW 0 [] [] [] [] [] [] ops ds
def zGu(G:Cx)(tb:TblS)(st:Sta)(o:TOp)(k:Sta->Prop):Prop:=match o.o.guard with
 |none=>zDZ G tb st o λv st=>∃d,WK v d/\k (st.put o.o.dst d)
 |some (t,b)=>match st.fr.get t with
  |some (.bool c)=>brT t c st λc st=>match c==b with
   |true=>zDZ G tb st o λv st=>∃d,WK v d/\k (st.put o.o.dst d)
   |false=>k (st.put o.o.dst (.qc []))
  |some (.qc [])=>k (st.put o.o.dst (.qc []))
  |_=>False
def zSe(F:Nat->TOp->Prop)(listed:Nat):Nat->List TOp->List XD->Prop
 |i,t::ts,d::ds=>match !listed.testBit i&&Nat.beq (d.qe &&& listed) d.qe with
  |true=>F i t/\zSe F listed (i+1) ts ds
  |false=>zSe F listed (i+1) ts ds
 |_,_,_=>True
def zWK(G:Cx)(tb:TblS)(ops:List TOp)(ds:List XD)(K:Sta->Prop):Nat->Nat->Sta->Prop
 |0,_,st=>K st
 |n+1,listed,st=>zSe (λi t=>zGu G tb st t (zWK G tb ops ds K n (listed ||| 2 ^ i))) listed 0 ops ds
def zWL(fr:Fr)(t:Nat):Bool:=match fr.get t with
 |some (.ptr _ _)=>true
 |_=>false
def zEX:Option Nat->Nat->Nat
 |none,m=>m
 |some l,m=>Min.min l m
def ltH:Nat->Nat->AV->Bool
 |0,_,_=>false
 |d+1,l,v=>match v with
  |.ptr h _|.row h _ _ _ _ _|.map h=>Nat.blt h l
  |.func _ a b=>a.all (ltH d l)&&b.all (ltH d l)
  |.iface _ v=>ltH d l v
  |.agg cs|.qc cs=>cs.all (ltH d l)
  |_=>true
def zYq(l:Nat):Heap->Bool
 |[]=>true
 |(h,.cells _ cs)::r=>(!(Nat.blt h l)||cs.all (ltH 12 l))&&zYq l r
 |_::_=>false
structure ChQ(G:Cx)(tb:TblS)(lo:Option Nat)(ops:List TOp)(c:Nat->Sta):Prop where
 st:∀(i:Nat) t,ops[i]?=some t->zGu G tb (c i) t (λx=>x=c (i+1))
 hv:∀(i:Nat) t,ops[i]?=some t->clsQ t<=1->HV (c i) (c (i+1))
 al:∀(i:Nat) t,ops[i]?=some t->clsQ t=2->(c (i+1)).V=(c i).V/\(c (i+1)).mv=(c i).mv/\(c i).m<=(c (i+1)).m/\∀h,h<zEX lo (c i).m->(c (i+1)).H.get h=(c i).H.get h
 cp:∀i,i<=ops.length->zFn (c i).mv (c i).m (c i).fr/\HCP (c i).mv (c i).m (c i).H
 rd:∀(i:Nat) t,ops[i]?=some t->clsQ t=1->(∀g v,XV.t g∈t.o.op.qb->(c i).fr.get g=some v->CP (c i).mv (zEX lo (c i).m) v)/\∀h str cs,h<zEX lo (c i).m->(c i).H.get h=some (.cells str cs)->∀x∈cs,CP (c i).mv (zEX lo (c i).m) x
def zSf(B:Nat->(Ext->Sta->Prop)->Sta->Prop)(Q:Ext->Sta->Prop):Nat->Sta->Prop
 |0,_=>False
 |n+1,st=>B n (zWJ Q (zSf B Q n)) st
def WT(G:Cx)(tb:TblS):TC->JV->(Ext->Sta->Prop)->Sta->Prop
 |.skip,d,Q,st=>Q .normal st
 |.ret,d,Q,st=>Q .ret st
 |.exit i,d,Q,st=>Q (.exit i) st
 |.wH e,d,Q,st=>zGQ G tb e (Q .normal) st
 |.draw p e f,d,Q,st=>match zUj (e.map TOp.o) f&&p.all (zWL st.fr)with
  |true=>zD1 G tb e (Q .normal) st
  |false=>False
 |.wX e f,d,Q,st=>zWK G tb e f (Q .normal) e.length 0 st
 |.qQ e f,d,Q,st=>(zKv e f&&zMU 0 [] [] [] e f)=true/\∃q c,c 0=st/\ChQ G tb q e c/\Q .normal (c e.length)
 |.seq a b,d,Q,st=>WT G tb a d (zWJ Q (WT G tb b d Q)) st
 |.cond c a b,d,Q,st=>match c.ev G st.fr with
  |some (.bool h)=>match c with
   |.t n=>brT n h st λh st=>match h with
    |true=>WT G tb a d Q st
    |false=>WT G tb b d Q st
   |_=>Br h (WT G tb a d Q st) (WT G tb b d Q st)
  |_=>False
 |.block i b,d,Q,st=>WT G tb b d (zXn i Q) st
 |.qB k b,d,Q,st=>zSf (λn Q st=>WT G tb b (n::d) Q st) Q k st
 |.loop c I b,d,Q,st=>(∃n,zVH c (I (n::d)) st)/\∀n g H V,I (n::d) g H V->WT G tb b (n::d) (zWJ Q λst=>∃l,l<n/\zVH c (I (l::d)) st) (mkW c g H V)
 |.wg c J a b,d,Q,st=>WT G tb a d (zWJ Q (zVH c (J d))) st/\∀g H V,J d g H V->WT G tb b d Q (mkW c g H V)
def zG:XV->Bool
 |.c v=>zBp 12 v
 |_=>true
def zAm:XO->Bool
 |.alloc z|.build z _|.qx _ _ z _|.qL _ _ _ _ z=>z.all (zBp 12)
 |.lookup _ _ _ _ z _|.vK _ _ _ z=>zBp 12 z
 |_=>true
def zy(o:XO):Bool:=o.qb.all zG&&zAm o
def zFN:TC->Bool
 |.wH c|.draw _ c _|.wX c _|.qQ c _=>c.all λt=>zy t.o.op
 |.seq a b|.wg _ _ a b|.cond _ a b=>zFN a&&zFN b
 |.block _ b|.loop _ _ b|.qB _ b=>zFN b
 |_=>true
def zRY(c:List XR)(R:AV->Sta->Prop):Ext->Sta->Prop
 |.exit _,_=>False
 |_,st=>match zJi st.H st.fr c with
  |some d=>R (zEn d) st
  |none=>False
def tcH(F:HEnt->Prop):TC->Prop
 |.wH c|.wX c _|.qQ c _=>∀t∈c,∀es,t.h=some es->∀e∈es,F e
 |.seq a b|.wg _ _ a b|.cond _ a b=>tcH F a/\tcH F b
 |.block _ b|.loop _ _ b|.qB _ b=>tcH F b
 |_=>True
def zCA(H:Heap)(V:Vecs):Nat->AV->JF
 |0,_=>none
 |d+1,v=>match v with
  |.sym j=>match V.get j with
   |some (.vec sz es)=>some (.qg sz es)
   |_=>none
  |.agg cs=>match zF (zCA H V d) cs with
   |some cs=>some (.agg cs)
   |none=>none
  |.qc cs=>match zF (zCA H V d) cs with
   |some cs=>some (.qc cs)
   |none=>none
  |.ptr h off=>match H.get h with
   |some (.cells _ cs)=>match zF (zCA H V d) cs with
    |some cs=>some (.qd (.agg cs) off)
    |none=>none
   |_=>none
  |.iface t v=>match zCA H V d v with
   |some v=>some (.iface t v)
   |none=>none
  |.func f a b=>match zF (zCA H V d) a with
   |some a=>match zF (zCA H V d) b with
    |some b=>some (.func f a b)
    |none=>none
   |none=>none
  |.row _ _ _ _ _ _|.map _=>none
  |v=>some v
def zRZ(c:List XR)(R:AV->Prop):Ext->Sta->Prop:=zRY c λv st=>match zCA st.H st.V 8 v with
 |some v=>R v
 |none=>False
def zLX(fr:Fr):Nat->JV->Bool
 |_,[]=>true
 |i,t::r=>(match fr.get t with
  |some (.ptr h 0)=>Nat.beq h i
  |_=>false)&&zLX fr (i+1) r
def zO8(c:List XR)(pn:JV)(R:AV->Heap->Vecs->Prop):Ext->Sta->Prop:=zRY c λv st=>match zSd v with
 |false=>match zEk 8 v||!zLX st.fr 0 pn with
  |false=>zE8 (List.range pn.length) (zFQ st.H (List.range pn.length) []) [] st λ_ H V=>R v H V
  |true=>False
 |true=>match zLX st.fr 0 pn with
  |true=>zE8 (List.range pn.length) (zFQ st.H (List.range pn.length) (zJx 8 v [])) [v] st λus H V=>match us with
   |[u]=>R u H V
   |_=>False
  |false=>False
def tcN(pn:JV):TC->Bool
 |.wH c|.wX c _|.qQ c _=>c.all λt=>match t.o.dst with
  |some d=>!inN d pn
  |none=>true
 |.draw e c _=>(c.all λt=>match t.o.dst with
  |some d=>!inN d pn
  |none=>true)&&pn.all λt=>inN t e
 |.seq a b|.wg _ _ a b|.cond _ a b=>tcN pn a&&tcN pn b
 |.block _ b|.loop _ _ b|.qB _ b=>tcN pn b
 |_=>true
theorem PP.cp{n k:Nat}{v:AV}(h:PP v):CP n k v:=by
 induction h with
 |bool b=>exact .bool b
 |int k m=>exact .int k m
 |str s=>exact .str s
 |qm=>exact .qm
 |qa=>exact .qa
 |ql=>exact .ql
 |qk=>exact .qk
 |qf=>exact .qf
 |qd e off h _=>exact .qd e off h
 |qg sz es h _=>exact .qg sz es h
 |func fn a b _ _ f d=>exact .func fn a b f d
 |iface t v _ c=>exact .iface t v c
 |agg cs _ c=>exact .agg cs c
 |qc cs _ c=>exact .qc cs c
theorem CP.mono{n m k l:Nat}(hm:n<=m)(f:k<=l){v:AV}(h:CP n k v):CP m l v:=by
 induction h with
 |bool b=>exact .bool b
 |int k m=>exact .int k m
 |str s=>exact .str s
 |qm=>exact .qm
 |qa=>exact .qa
 |ql=>exact .ql
 |qk=>exact .qk
 |qf=>exact .qf
 |ptr h o hk=>exact .ptr h o (Qf hk f)
 |row h o l s c e hk=>exact .row h o l s c e (Qf hk f)
 |map h hk=>exact .map h (Qf hk f)
 |sym i h=>exact .sym i (Qf h hm)
 |qd e off h=>exact .qd e off h
 |qg sz es h=>exact .qg sz es h
 |func fn a b _ _ p g=>exact .func fn a b p g
 |iface t v _ d=>exact .iface t v d
 |agg cs _ d=>exact .agg cs d
 |qc cs _ d=>exact .qc cs d
theorem CP.min{n k l:Nat}{v:AV}(h:CP n k v)(h':CP n l v):CP n (Min.min l k) v:=by
 induction h with
 |bool b=>exact .bool b
 |int k m=>exact .int k m
 |str s=>exact .str s
 |qm=>exact .qm
 |qa=>exact .qa
 |ql=>exact .ql
 |qk=>exact .qk
 |qf=>exact .qf
 |ptr h o hk=>cases h' with|ptr _ _ f=>exact .ptr h o (Nat.lt_min.2 ⟨f,hk⟩)
 |row h o l s c e hk=>cases h' with|row _ _ _ _ _ _ f=>exact .row h o l s c e (Nat.lt_min.2 ⟨f,hk⟩)
 |map h hk=>cases h' with|map _ f=>exact .map h (Nat.lt_min.2 ⟨f,hk⟩)
 |sym i h=>exact .sym i h
 |qd e off h=>exact .qd e off h
 |qg sz es h=>exact .qg sz es h
 |func fn a b _ _ r q=>cases h' with|func _ _ _ u p=>exact .func fn a b (λe d=>r e d (u e d)) (λe d=>q e d (p e d))
 |iface t v _ g=>cases h' with|iface _ _ x=>exact .iface t v (g x)
 |agg cs _ g=>cases h' with|agg _ hc=>exact .agg cs λe d=>g e d (hc e d)
 |qc cs _ g=>cases h' with|qc _ hc=>exact .qc cs λe d=>g e d (hc e d)
theorem CP.lt{n k l:Nat}:∀(d:Nat){v:AV},CP n k v->ltH d l v=true->CP n (Min.min l k) v:=by
 intro d
 induction d with
 |zero=>intro v _ h;cases h
 |succ d x=>
  intro v hc h;have p:∀{r:JE},(∀e∈r,CP n k e)->r.all (ltH d l)=true->∀e∈r,CP n (Min.min l k) e:=λhc A e f=>x (hc e f) (QD.1 A e f)
  have q:∀{a:Nat},a<k->Nat.blt a l=true->a<Min.min l k:=λh1 y=>Nat.lt_min.2 ⟨by simpa[Ql]using y,h1⟩
  cases hc with
  |bool b=>exact .bool b
  |int k m=>exact .int k m
  |str s=>exact .str s
  |qm=>exact .qm
  |qa=>exact .qa
  |ql=>exact .ql
  |qk=>exact .qk
  |qf=>exact .qf
  |ptr g o hk=>exact .ptr g o (q hk h)
  |row g o l s c e hk=>exact .row g o l s c e (q hk h)
  |map g hk=>exact .map g (q hk h)
  |sym i B=>exact .sym i B
  |qd e off f=>exact .qd e off f
  |qg sz es f=>exact .qg sz es f
  |func fn a b C z=>
   have h:(a.all (ltH d l)&&b.all (ltH d l))=true:=h;rw[qr]at h;exact .func fn a b (p C h.1) (p z h.2)
  |iface t v D=>exact .iface t v (x D h)
  |agg cs u=>exact .agg cs (p u h)
  |qc cs u=>exact .qc cs (p u h)
theorem zXo{l:Nat}:∀{H:Heap}{h:Nat}{str:Bool}{cs:JE},zYq l H=true->h<l->H.get h=some (.cells str cs)->cs.all (ltH 12 l)=true
 |[],_,_,_,_,_,h=>by cases h
 |(g,.cells p i)::r,h,str,cs,c,f,d=>by
  simp only[zYq,qr,Bool.or_eq_true]at c;simp only[Heap.get]at d;split at d
  .rename_i e;cases d;have e:=zc e;subst e;rcases c.1 with h1|h1
   .have o:Nat.blt g l=true:=by rw[Ql];exact f
    rw[o]at h1;cases h1
   .exact h1
  .exact zXo c.2 f d
 |(g,.map es)::r,h,str,cs,c,f,d=>by simp[zYq]at c
theorem zeq{lo:Option Nat}{m:Nat}:zEX lo m<=m:=by
 cases lo with
 |none=>exact QA _
 |some l=>exact Nat.min_le_right _ _
theorem zV0{lo:Option Nat}{m c:Nat}(h:m<=c):zEX lo m<=zEX lo c:=by
 cases lo with
 |none=>exact h
 |some l=>simp only[zEX];omega
theorem zcI{lo:Option Nat}{m c:Nat}(h:c<=m):Min.min c (zEX lo m)<=zEX lo c:=by
 cases lo with
 |none=>simp only[zEX];omega
 |some l=>simp only[zEX];omega
theorem zCb:∀(d:Nat){v:AV},zBp d v=true->PP v:=by
 intro d
 induction d with
 |zero=>intro v h;cases h
 |succ d f=>
  intro v h;have c:∀{l:JE},l.all (zBp d)=true->∀e∈l,PP e:=λg e i=>f (QD.1 g e i)
  cases v with
  |bool b=>exact .bool b
  |int k m=>exact .int k m
  |str s=>exact .str s
  |qm=>exact .qm
  |qa=>exact .qa
  |ql=>exact .ql
  |qk=>exact .qk
  |qf=>exact .qf
  |qd e off=>exact .qd e off (f h)
  |qg sz es=>exact .qg sz es (c h)
  |func fn a b=>
   have h:(a.all (zBp d)&&b.all (zBp d))=true:=h;rw[qr]at h;exact .func fn a b (c h.1) (c h.2)
  |iface t v=>exact .iface t v (f h)
  |agg cs=>exact .agg cs (c h)
  |qc cs=>exact .qc cs (c h)
  |_=>cases h
theorem zEH{n k:Nat}:∀(d:Nat){v:AV},CP n k v->ppS d v=true->PP v:=by
 intro d
 induction d with
 |zero=>intro v _ h;cases h
 |succ d i=>
  intro v hc h;have f:∀{l:JE},(∀e∈l,CP n k e)->l.all (ppS d)=true->∀e∈l,PP e:=λhc p e c=>i (hc e c) (QD.1 p e c)
  cases hc with
  |bool b=>exact .bool b
  |int k m=>exact .int k m
  |str s=>exact .str s
  |qm=>exact .qm
  |qa=>exact .qa
  |ql=>exact .ql
  |qk=>exact .qk
  |qf=>exact .qf
  |qd e off c=>exact .qd e off c
  |qg sz es c=>exact .qg sz es c
  |func fn a b q o=>
   have h:(a.all (ppS d)&&b.all (ppS d))=true:=h;rw[qr]at h;exact .func fn a b (f q h.1) (f o h.2)
  |iface t v r=>exact .iface t v (i r h)
  |agg cs g=>exact .agg cs (f g h)
  |qc cs g=>exact .qc cs (f g h)
  |_=>cases h
theorem CP.cells{n k:Nat}{v:AV}(h:CP n k v):∀c∈v.cells,CP n k c:=by
 cases h with
 |agg cs h=>exact h
 |_=>intro c hc;simp only[AV.cells,Qa]at hc;subst hc;constructor<;>assumption
theorem PP.cells{v:AV}(h:PP v):∀c∈v.cells,PP c:=by
 cases h with
 |agg cs h=>exact h
 |_=>intro c hc;simp only[AV.cells,Qa]at hc;subst hc;constructor<;>assumption
theorem zVi{n k:Nat}{cs:JE}{off sz:Nat}{e:Bool}{v:AV}(h:∀c∈cs,CP n k c)(d:part cs off sz e=some v):CP n k v:=by
 unfold part at d;split at d
 .split at d
  .cases d;exact .agg _ λc hc=>h c (Qc (QT hc))
  .cases d
 .exact h v (QE d)
theorem zVj{cs:JE}{off sz:Nat}{e:Bool}{v:AV}(h:∀c∈cs,PP c)(d:part cs off sz e=some v):PP v:=by
 unfold part at d;split at d
 .split at d
  .cases d;exact .agg _ λc hc=>h c (Qc (QT hc))
  .cases d
 .exact h v (QE d)
theorem zM7{cs new:JE}{off:Nat}{c:AV}(h:c∈qi cs off new):c∈cs\/c∈new:=by
 unfold qi at h;rcases QK.1 h with h|h
 .rcases QK.1 h with h|h
  .exact .inl (QT h)
  .exact .inr h
 .exact .inl (Qc h)
theorem zPR{n k:Nat}{v:AV}{sz:Nat}{cs:JE}(h:CP n k v)(hc:cellsOf v sz=some cs):∀c∈cs,CP n k c:=by
 unfold cellsOf at hc;split at hc
 .split at hc
  .cases hc;exact h.cells
  .cases hc
 .cases hc
section
variable{G:Cx}{fr:Fr}{H:Heap}{m n k:Nat}
def GPP(G:Cx):Prop:=∀g v,G.wV g=some v->PP v
theorem zAc(e:GPP G)(d:zFn n k fr){x:XV}(hx:zG x=true){v:AV}(h:x.ev G fr=some v):CP n k v:=by
 cases x with
 |t k=>exact d k v h
 |c u=>cases h;exact(zCb 12 hx).cp
 |g k=>exact(e k v h).cp
theorem zId(g:GPP G)(f:zFn n k fr):∀{xs:List XV}{vs:JE},xs.all zG=true->evs G fr xs=some vs->∀v∈vs,CP n k v
 |[],vs,_,h,v,c=>by cases h;cases c
 |x::xs,vs,e,h,v,c=>by
  rw[Qb,qr]at e;simp only[evs]at h;split at h
  .rename_i u i;split at h
   .rename_i us d;cases h;rcases QH.1 c with rfl|c
    .exact zAc g f e.1 i
    .exact zId g f e.2 d v c
   .cases h
  .cases h
theorem HCP.mono{n' e:Nat}(h:n<=n')(hk:k<=e)(hH:HCP n k H):HCP n' e H:=λp f=>let ⟨a,b,c,d⟩:=hH p f;⟨a,b,c,λx g=>(d x g).mono h hk⟩
theorem zFn.mono{n' c:Nat}(e:n<=n')(hk:k<=c)(d:zFn n k fr):zFn n' c fr:=λt v h=>(d t v h).mono e hk
theorem HCP.get(hH:HCP n k H){h:Nat}{o:HO}(d:H.get h=some o):∃str cs,o=.cells str cs/\∀c∈cs,CP n k c:=hH _ (Heap.qj d)
theorem HCP.cons(hH:HCP n k H){h:Nat}{str:Bool}{cs:JE}(hc:∀c∈cs,CP n k c):HCP n k ((h,.cells str cs)::H):=λp d=>by
 rcases QH.1 d with rfl|d
 .exact⟨str,cs,rfl,hc⟩
 .exact hH p d
theorem zE9:∀{H:Heap}{h:Nat}{o:HO}{p:Nat×HO},p∈H.put h o->p=(h,o)\/p∈H
 |(k,e)::r,h,o,p,c=>by
  simp only[Heap.put]at c;split at c
  .rename_i d;rcases QH.1 c with rfl|c
   .rw[zc d];exact .inl rfl
   .exact .inr (.tail _ c)
  .rcases QH.1 c with rfl|c
   .exact .inr (.head _)
   .exact(zE9 c).imp id (.tail _)
theorem HCP.put(hH:HCP n k H){h:Nat}{str:Bool}{cs:JE}(hc:∀c∈cs,CP n k c):HCP n k (H.put h (.cells str cs)):=λp d=>by
 rcases zE9 d with rfl|d
 .exact⟨str,cs,rfl,hc⟩
 .exact hH p d
theorem zTf(hH:HCP n k H){a v:AV}{sz:Nat}{g:Bool}(f:CP n k a)(h:zHh H sz g a=some v):CP n k v:=by
 cases f with
 |ptr i o=>
  simp only[zHh]at h;split at h
  .rename_i str cs c;obtain⟨_,_,e,hc⟩:=hH.get c;cases e;exact zVi hc h
  .cases h
 |qd e off d=>exact(zVj d.cells h).cp
 |_=>cases h
theorem zLs(g:GPP G)(f:zFn n k fr):∀{e:List (Nat×Nat×XV)}{cs cs':JE},(e.all λp=>zG p.2.2)=true->(∀c∈cs,CP n k c)->zCs G fr cs e=some cs'->∀c∈cs',CP n k c
 |[],cs,cs',_,hc,h=>by cases h;exact hc
 |(off,sz,x)::r,cs,cs',d,hc,h=>by
  rw[Qb,qr]at d;simp only[zCs]at h;split at h
  .rename_i v o;split at h
   .rename_i new i;split at h
    .exact zLs g f d.2 (λc l=>(zM7 l).elim (hc c) (zPR (zAc g f d.1 o) i c)) h
    .cases h
   .cases h
  .cases h
theorem zer{op:BinOp}{a b v:AV}(h:zGP op a b=some v):PP v:=by
 unfold zGP at h;split at h
 .rename_i k a c b;split at h
  .split at h
   .cases h
   .cases h;exact .int _ _
  .split at h
   .cases h
   .cases h;exact .int _ _
  .split at h
   .cases h
   .split at h
    all_goals first
     |(cases h;exact .int _ _)
     |(split at h<;>first|(cases h;done)|(cases h;exact .int _ _))
     |(unfold zW1 at h;split at h<;>first|(cases h;done)|(cases h;exact .int _ _))
     |(unfold zdt at h;split at h<;>first|(cases h;done)|(cases h;exact .bool _))
 .rename_i a b;split at h
  .split at h
   .cases h;exact .str _
   .cases h
  all_goals first|(cases h;done)|(cases h;exact .bool _)
 .cases h
theorem zfM{op:UnOp}{a v:AV}(h:xun op a=some v):PP v:=by
 unfold xun at h;split at h
 .split at h
  .cases h;exact .int _ _
  .unfold zW1 at h;cases h;exact .int _ _
  .cases h
 .split at h
  .cases h;exact .bool _
  .cases h
 .cases h
def zPg:XO->Bool
 |.vA _|.pick _ _ _|.bin _ _ _|.beq _ _ _|.peq _ _ _|.vN _ _ _ _ _|.seq _ _ _|.vV _ _ _|.vT _ _ _|.un _ _|.conv _ _|.v8 _|.w7 _ _|.w8 _ _|.vY _ _ _ _|.ext _ _|.q9 _ _ _ _ _
 |.box _ _|.alloc _|.build _ _|.wq _|.qy _ _ _ _|.vb _|.wP _|.wj _|.min _ _|.max _ _|.wb _ _ _|.wQ _ _|.vK _ _ _ _|.load _ _ _|.store _ _ _|.qR _ _|.qx _ _ _ _|.qC _ _ _=>true
 |_=>false
theorem zRi{o:XO}(I:zPg o=true)(ho:zy o=true)(g:GPP G)(f:zFn n m fr)(hH:HCP n m H){v:AV}{H':Heap}{A:Nat}(h:xoS G zj fr H m o=some (v,H',A)):CP n A v/\HCP n A H':=by
 simp only[zy,qr]at ho;obtain⟨ho,p⟩:=ho;cases o<;>first|(cases I;done)|skip
 all_goals simp only[XO.qb,Qb,List.all_nil,List.all_append,QV,qr]at ho
 all_goals simp only[xoS]at h
 case vA x=>
  split at h
  .rename_i u l;cases h;exact⟨zAc g f ho l,hH⟩
  .cases h
 case pick c a b=>
  split at h
  .split at h
   .rename_i u l;cases h;exact⟨zAc g f ho.1.2 l,hH⟩
   .cases h
  .split at h
   .rename_i u l;cases h;exact⟨zAc g f ho.2 l,hH⟩
   .cases h
  .cases h
 case bin op x y=>
  split at h
  .split at h
   .rename_i u l;cases h;exact⟨(zer l).cp,hH⟩
   .cases h
  .cases h
 case un op x=>
  split at h
  .split at h
   .rename_i u l;cases h;exact⟨(zfM l).cp,hH⟩
   .cases h
  .cases h
 case vY x off sz ag=>
  split at h
  .rename_i cs d;have hc:=zAc g f ho d;cases hc with
   |agg _ hc=>
    split at h
    .rename_i u l;cases h;exact⟨zVi hc l,hH⟩
    .cases h
  .cases h
 case ext x i=>
  split at h
  .rename_i R d;have hc:=zAc g f ho d;cases hc with
   |qc _ hc=>
    split at h
    .rename_i u l;cases h;exact⟨hc _ (QE l),hH⟩
    .cases h
  .cases h
 case q9 x i len sz ag=>
  split at h
  .rename_i cs F d _;have hc:=zAc g f ho.1 d;cases hc with
   |agg _ hc=>
    split at h
    .split at h
     .rename_i u l;cases h;exact⟨zVi hc l,hH⟩
     .cases h
    .cases h
  .cases h
 case box x sz=>
  split at h
  .rename_i u l;split at h
   .rename_i cs q;cases h;exact⟨.ptr _ _ (QX _),HCP.cons (hH.mono (QA _) (Qd _)) λc hc=>(zPR (zAc g f ho l) q c hc).mono (QA _) (Qd _)⟩
   .cases h
  .cases h
 case alloc z=>
  cases h;have p:z.all (zBp 12)=true:=p;exact⟨.ptr _ _ (QX _),HCP.cons (hH.mono (QA _) (Qd _)) λc hc=>(zCb 12 (QD.1 p c hc)).cp⟩
 case build z ps=>
  have p:z.all (zBp 12)=true:=p;split at h
  .rename_i cs q;cases h;refine⟨.agg _ (zLs g f ?_ (λc hc=>(zCb 12 (QD.1 p c hc)).cp) q),hH⟩
   simpa[List.all_map]using ho
  .cases h
 case qx len sz z ps=>
  have p:z.all (zBp 12)=true:=p;split at h
  .rename_i cs q;cases h;exact⟨.row _ _ _ _ _ _ (QX _),HCP.cons (hH.mono (QA _) (Qd _)) λc hc=>(zLs g f (by simpa[List.all_map]using ho) (λc hc=>(zCb 12 (QD.1 p c hc)).cp) q c hc).mono (QA _) (Qd _)⟩
  .cases h
 case load x sz ag=>
  split at h
  .rename_i a d;split at h
   .rename_i u l;cases h;exact⟨zTf hH (zAc g f ho d) l,hH⟩
   .cases h
  .cases h
 case store a x sz=>
  split at h
  .rename_i S off u D d;split at h
   .rename_i str cs L;split at h
    .rename_i new N;split at h
     .cases h;obtain⟨_,_,e,hc⟩:=hH.get L;cases e;exact⟨.qc _ (λc hc=>by cases hc),hH.put λc O=>(zM7 O).elim (hc c) (zPR (zAc g f ho.2 d) N c)⟩
     .cases h
    .cases h
   .cases h
  .cases h
 case wq x=>
  split at h<;>first|(cases h;done)|(rename_i d;cases h;exact⟨zAc g f ho d,hH⟩)
 case qR x off=>
  split at h
  .rename_i d;have hc:=zAc g f ho d;cases hc with
   |ptr _ _ hk=>cases h;exact⟨.ptr _ _ hk,hH⟩
  .rename_i e o d;have hc:=zAc g f ho d;cases hc with
   |qd _ _ r=>cases h;exact⟨.qd _ _ r,hH⟩
  .cases h
 case qC x i sz=>
  split at h
  .rename_i M es F d _;have hc:=zAc g f ho.1 d;cases hc with
   |qg _ _ B=>
    split at h
    .split at h
     .rename_i e r;cases h;refine⟨.qd _ _ (B e ?_),hH⟩
      unfold idx at r;split at r
      .exact QE r
      .cases r
     .cases h
    .cases h
  .rename_i d _;have hc:=zAc g f ho.1 d;cases hc with
   |row _ _ _ _ _ _ hk=>
    split at h
    .split at h
     .cases h;exact⟨.ptr _ _ hk,hH⟩
     .cases h
    .cases h
  .cases h
 case qy x i len sz=>
  split at h
  .rename_i d _;have hc:=zAc g f ho.1 d;cases hc with
   |ptr _ _ hk=>
    split at h
    .cases h;exact⟨.ptr _ _ hk,hH⟩
    .cases h
  .rename_i e o F d _;have hc:=zAc g f ho.1 d;cases hc with
   |qd _ _ r=>
    split at h
    .cases h;exact⟨.qd _ _ r,hH⟩
    .cases h
  .cases h
 case wb fn first caps=>
  split at h
  .rename_i a b D J;cases h;exact⟨.func _ _ _ (zId g f ho.1 D) (zId g f ho.2 J),hH⟩
  .cases h
 case wQ t x=>
  split at h
  .rename_i u l;cases h;exact⟨.iface _ _ (zAc g f ho l),hH⟩
  .cases h
 case vK x t ok z=>
  have p:zBp 12 z=true:=p;have s:CP n m z:=(zCb 12 p).cp;split at h
  .rename_i u w d;have hc:=zAc g f ho d;cases hc with
   |iface _ _ C=>
    split at h
    .cases h;refine⟨?_,hH⟩
     split
     .exact .qc _ λc hc=>by
       simp only[QH,List.not_mem_nil,or_false]at hc;rcases hc with rfl|rfl
       .exact C
       .exact .bool _
     .exact C
    .split at h
     .cases h;exact⟨.qc _ λc hc=>by
       simp only[QH,List.not_mem_nil,or_false]at hc;rcases hc with rfl|rfl
       .exact s
       .exact .bool _,hH⟩
     .cases h
  .split at h
   .cases h;exact⟨.qc _ λc hc=>by
     simp only[QH,List.not_mem_nil,or_false]at hc;rcases hc with rfl|rfl
     .exact s
     .exact .bool _,hH⟩
   .cases h
  .cases h
 all_goals
  (repeat' split at h)<;>first
   |(cases h;done)
   |(cases h;exact⟨by first|exact .bool _|exact .int _ _|exact .str _|(unfold zEV;exact .bool _),hH⟩)
end
section
variable{E E':Env}{w w':World}
theorem VR.pp(B:∀b,E.Z b->E'.Z b/\w'.heap[b]? = w.heap[b]?){v:AV}{cv:Value}(h:VR E w v cv):PP v->VR E' w' v cv:=by
 induction h with
 |bool b=>intro _;exact .bool b
 |int k n h=>intro _;exact .int k n h
 |str l s h z=>intro _;exact .str l s h z
 |qm=>intro _;exact .qm
 |ptr h off J=>intro d;cases d
 |qd e off b o cv u y _ hc q=>
  intro d;cases d with
  |qd _ _ C=>exact .qd e off b o cv u (B b y).1 (q C) λj c I=>by rw[zFP (B b y).2];exact hc j c I
 |qa=>intro _;exact .qa
 |wc sz a c hc=>intro _;exact .wc sz a c hc
 |qg es b o cap sz f y r D u _ hc q=>
  intro d;cases d with
  |qg _ _ C=>exact .qg es b o cap sz f (B b y).1 r D u (λi e A=>q i e A (C e (QE A))) λi A=>⟨(hc i A).1,λj c I=>by rw[zFP (B b y).2];exact(hc i A).2 j c I⟩
 |row h off len sz cp cap ex J M r S N U L=>intro d;cases d
 |we h off sz ex a=>intro d;cases d
 |ql=>intro _;exact .ql
 |map h J=>intro d;cases d
 |qk=>intro _;exact .qk
 |func fn f c O V T hc _ _ R X=>
  intro d;cases d with
  |func _ _ _ W L=>exact .func fn f c O V T hc (λi x v g p=>R i x v g p (W x (QE g))) (λi x v g p=>X i x v g p (L x (QE g)))
 |qf=>intro _;exact .qf
 |iface t v cv _ q=>intro d;cases d with|iface _ _ p=>exact .iface t v cv (q p)
 |agg cs F z _ h1 q=>intro d;cases d with|agg _ hc=>exact .agg cs F z (λi x v g p=>q i x v g p (hc x (QE g))) h1
 |qc cs F z _ q=>intro d;cases d with|qc _ hc=>exact .qc cs F z (λi x v g p=>q i x v g p (hc x (QE g)))
 |sym i cv C h1=>intro d;cases d
theorem VR.vl{n k:Nat}(u:∀h,h<k->E.D h->E'.D h/\E'.ρ h=E.ρ h)(B:∀b,E.Z b->E'.Z b/\w'.heap[b]? = w.heap[b]?)(hS:zA7 w w')(Y:∀i,i<n->E'.σ i=E.σ i){v:AV}{cv:Value}(h:VR E w v cv):CP n k v->VR E' w' v cv:=by
 induction h with
 |bool b=>intro _;exact .bool b
 |int k n h=>intro _;exact .int k n h
 |str l s h I=>intro _;exact .str l s h I
 |qm=>intro _;exact .qm
 |ptr h off r=>
  intro d;cases d with
  |ptr _ _ hk=>rw[←(u h hk r).2];exact .ptr h off (u h hk r).1
 |qd e off b o cv z F g hc y=>
  intro d;cases d with
  |qd _ _ J=>exact .qd e off b o cv z (B b F).1 (g.pp B J) λj c R=>by rw[zFP (B b F).2];exact hc j c R
 |qa=>intro _;exact .qa
 |wc sz a c hc=>intro _;exact .wc sz a c hc
 |qg es b o cap sz f F p S z g hc y=>
  intro d;cases d with
  |qg _ _ J=>exact .qg es b o cap sz f (B b F).1 p S z (λi e A=>(g i e A).pp B (J e (QE A))) λi A=>⟨(hc i A).1,λj c R=>by rw[zFP (B b F).2];exact(hc i A).2 j c R⟩
 |row h off len sz cp cap ex r C p O L T M=>
  intro d;cases d with
  |row _ _ _ _ _ _ hk=>
   obtain⟨c,e,f,h1,h2⟩:=M;obtain⟨c',X,k1,k2⟩:=hS _ c e f h1;rw[←(u h hk r).2];exact .row h off len sz cp cap ex (u h hk r).1 C p O L T ⟨c',e,X,by rw[(u h hk r).2];exact k1,by omega⟩
 |we h off sz ex a=>intro _;exact .we h off sz ex a
 |ql=>intro _;exact .ql
 |map h r=>intro d;cases d with|map _ hk=>rw[←(u h hk r).2];exact .map h (u h hk r).1
 |qk=>intro _;exact .qk
 |func fn f c W vc V hc _ _ rf U=>
  intro d;cases d with
  |func _ _ _ ha M=>exact .func fn f c W vc V hc (λi x v q g=>rf i x v q g (ha x (QE q))) (λi x v q g=>U i x v q g (M x (QE q)))
 |qf=>intro _;exact .qf
 |iface t v cv _ y=>intro d;cases d with|iface _ _ g=>exact .iface t v cv (y g)
 |agg cs N I _ h1 y=>intro d;cases d with|agg _ hc=>exact .agg cs N I (λi x v q g=>y i x v q g (hc x (QE q))) h1
 |qc cs N I _ y=>intro d;cases d with|qc _ hc=>exact .qc cs N I (λi x v q g=>y i x v q g (hc x (QE q)))
 |sym i cv J h1=>intro d;cases d with|sym _ A=>exact .sym i cv (J.trans (Y i A).symm) h1
end
def zJj(w:World)(b len sz cp:Nat)(ex:Bool)(cv:Value):Prop:=
 (∃a,cv=.slice (some a) 0 0/\len=0/\cp=0) ∨
 ∃cap,cv=.slice (some ⟨b,0,none⟩) len cap/\len<=cap/\cap<=zh/\0<sz/\cp<=cap/\(ex=true->cap=cp)/\∃c e f,w.heap[b]?=some (.cells c e f)/\0+cap*sz<=c.size
section
variable{E E':Env}{w w':World}
theorem zJj.ui{h len sz cp:Nat}{ex:Bool}{cv:Value}(l:VR E w (.row h 0 len sz cp ex) cv):zJj w (E.ρ h) len sz cp ex cv:=by
 cases l with
 |row _ _ _ _ _ cap _ o d c f e g i=>exact .inr ⟨cap,rfl,d,c,f,e,g,i⟩
 |we _ _ _ _ a=>exact .inl ⟨a,rfl,rfl,rfl⟩
theorem zJj.vr{b h len sz cp:Nat}{ex:Bool}{cv:Value}(o:zJj w b len sz cp ex cv)(f:E.ρ h=b)(l:E.D h):VR E w (.row h 0 len sz cp ex) cv:=by
 subst f;rcases o with⟨a,rfl,rfl,rfl⟩|⟨cap,rfl,d,c,i,e,g,f⟩
 .exact .we _ _ _ _ _
 .exact .row _ _ _ _ _ _ _ l d c i e g f
theorem zJj.mono{b len sz cp:Nat}{ex:Bool}{cv:Value}(t:zJj w b len sz cp ex cv)(u:zA7 w w'):zJj w' b len sz cp ex cv:=by
 rcases t with h|⟨cap,h1,g,r,l,o,s,c,e,f,p,h8⟩
 .exact .inl h
 .obtain⟨i,q,d,v⟩:=u _ c e f p;exact .inr ⟨cap,h1,g,r,l,o,s,i,e,q,d,by omega⟩
theorem zJj.one{b len sz cp:Nat}{ex:Bool}{cv:Value}(c:zJj w b len sz cp ex cv):cv.oneCell'=true:=by
 rcases c with⟨a,rfl,_⟩|⟨cap,rfl,_⟩<;>rfl
theorem OR.pp{b:Nat}{str:Bool}{cs:JE}(s:w'.heap[b]? = w.heap[b]?)(q:∀b,E.Z b->E'.Z b/\w'.heap[b]? = w.heap[b]?)(l:∀c∈cs,PP c)(h:OR E w b (.cells str cs)):OR E' w' b (.cells str cs):=by
 obtain⟨c,e,f,h1,o,r,p⟩:=h;exact⟨c,e,f,s.trans h1,o,r,λi x g=>let ⟨v,a,b,d⟩:=p i x g;⟨v,a,b,d.pp q (l x (QE g))⟩⟩
theorem OR.vl{n k b:Nat}{str:Bool}{cs:JE}(o:w'.heap[b]? = w.heap[b]?)(hm:∀{v cv},CP n k v->VR E w v cv->VR E' w' v cv)(q:∀c∈cs,CP n k c)(h:OR E w b (.cells str cs)):OR E' w' b (.cells str cs):=by
 obtain⟨c,e,f,h1,l,r,p⟩:=h;exact⟨c,e,f,o.trans h1,l,r,λi x g=>let ⟨v,a,b,d⟩:=p i x g;⟨v,a,b,hm (q x (QE g)) d⟩⟩
theorem OR.pm{b:Nat}{es:List (AV×AV)}(s:w'.heap[b]? = w.heap[b]?)(l:∀b,E.Z b->E'.Z b/\w'.heap[b]? = w.heap[b]?)(g:∀p∈es,PP p.1/\PP p.2)(h:OR E w b (.map es)):OR E' w' b (.map es):=by
 obtain⟨c,clock,h1,o,r,q⟩:=h;exact⟨c,clock,s.trans h1,o,λi k x f=>let ⟨m,a,b,d,e⟩:=r i k x f;⟨m,a,b.pp l (g _ (QE f)).1,d.pp l (g _ (QE f)).2,e⟩,q⟩
end
def VI.qA:VI->Bool
 |.qU _ _ _=>false
 |_=>true
def VOK(E:Env)(w:World)(V:Vecs)(β:Nat->Option Nat)(j:Nat):VI->Prop
 |.vec sz es=>(∀e∈es,PP e)/\((β j=none/\E.σ j=.slice none 0 0/\es=[]) ∨
   ∃b str cs cp ex,β j=some b/\OR E w b (.cells str cs)/\zJj w b es.length sz cp ex (E.σ j)/\(∀c∈cs,PP c)/\es.length*sz<=cs.length/\flatten sz es=some (cs.take (es.length*sz)))
 |.mp es=>(∀p∈es,PP p.1/\PP p.2)/\∃b,β j=some b/\OR E w b (.map es)/\E.σ j=.map (some b)
 |.qU d i off=>∀sz es,V.get d=some (.vec sz es)->i<es.length/\∃b,β d=some b/\E.σ j=.pointer (some ⟨b,i*sz+off,none⟩)
def BS(E:Env)(β:Nat->Option Nat)(H:Heap)(V:Vecs)(x:Nat):Prop:=(∃p∈H,E.ρ p.1=x)\/∃j c,V.get j=some c/\c.qA=true/\β j=some x
structure Kp(Z B:Nat->Prop)(w:World)(Z' B':Nat->Prop)(w':World):Prop where
 qF:∀x,Z x->Z' x
 qP:∀x,Z' x->Z x\/B x\/w.heap.size<=x
 own:∀x,B' x->B x\/w.heap.size<=x
 tape:w'.tape=w.tape
 os:w'.os=w.os
 output:w'.output=w.output
 size:w.heap.size<=w'.heap.size
 qI:∀x,x<w.heap.size->¬B x->w'.heap[x]? = w.heap[x]?
 qn:zA7 w w'
theorem Kp.refl{Z B:Nat->Prop}{w:World}:Kp Z B w Z B w:=⟨λ_ h=>h,λ_ h=>.inl h,λ_ h=>.inl h,rfl,rfl,rfl,QA _,λ_ _ _=>rfl,.refl w⟩
theorem Kp.less{Z B c:Nat->Prop}{w:World}(h:∀x,c x->B x):Kp Z B w Z c w:=⟨λ_ h=>h,λ_ h=>.inl h,λx d=>.inl (h x d),rfl,rfl,rfl,QA _,λ_ _ _=>rfl,.refl w⟩
theorem Kp.trans{Z B i f d e:Nat->Prop}{w c g:World}(h:Kp Z B w i f c)(k:Kp i f c d e g):Kp Z B w d e g where
 qF x hx:=k.qF x (h.qF x hx)
 qP x hx:=by
  rcases k.qP x hx with a|a|a
  .exact h.qP x a
  .rcases h.own x a with b|b
   .exact .inr (.inl b)
   .exact .inr (.inr b)
  .exact .inr (.inr (Qj h.size a))
 own x hx:=by
  rcases k.own x hx with a|a
  .exact h.own x a
  .exact .inr (Qj h.size a)
 tape:=k.tape.trans h.tape
 os:=k.os.trans h.os
 output:=k.output.trans h.output
 size:=Qj h.size k.size
 qI x hx hb:=(k.qI x (Qf hx h.size) λh1=>(h.own x h1).elim hb λl=>by omega).trans (h.qI x hx hb)
 qn:=h.qn.trans k.qn
structure SR(G:Cx)(nt:Nat)(E:Env)(w:World)(a:Act)(β:Nat->Option Nat)(st:Sta):Prop where
 hr:HR E st.H w
 hf:FrR E w st.fr a nt
 hg:GR G E w
 qz:∀h,E.D h->h<st.m
 qW:zFn st.mv st.m st.fr
 cH:HCP st.mv st.m st.H
 qT:∀j vi,st.V.get j=some vi->j<st.mv/\VOK E w st.V β j vi
 vp:∀j j2 i off,st.V.get j=some (.qU j2 i off)->j2<st.mv
 bz:∀j vi b,st.V.get j=some vi->vi.qA=true->β j=some b->¬E.Z b/\∀p∈st.H,E.ρ p.1≠b
 qS:∀j j' vi vi' b,st.V.get j=some vi->st.V.get j'=some vi'->vi.qA=true->vi'.qA=true->β j=some b->β j'=some b->j=j'
section
variable{P:Program}{G:Cx}{nt:Nat}{E:Env}{w:World}{a:Act}{β:Nat->Option Nat}{st:Sta}
theorem VOK.lt{V:Vecs}{j:Nat}{vi:VI}{b:Nat}(h:VOK E w V β j vi)(ho:vi.qA=true)(c:β j=some b):b<w.heap.size:=by
 cases vi with
 |vec sz es=>
  obtain⟨_,⟨h1,_⟩|⟨e,str,cs,cp,ex,h1,d,_⟩⟩:=h
  .rw[h1]at c;cases c
  .rw[h1]at c;cases c;exact d.lt
 |mp es=>
  obtain⟨_,e,h1,d,_⟩:=h;rw[h1]at c;cases c;exact d.lt
 |qU=>cases ho
theorem VOK.mono{E':Env}{w':World}{V t:Vecs}{q:Nat->Option Nat}{j:Nat}{vi:VI}(h:VOK E w V β j vi)(l:E'.σ j=E.σ j)(o:vi.qA=true->q j=β j)(r:∀b,vi.qA=true->β j=some b->w'.heap[b]? = w.heap[b]?)
  (u:∀b,E.Z b->E'.Z b/\w'.heap[b]? = w.heap[b]?) (C:zA7 w w') (D:∀e i off,vi=.qU e i off->∀sz es,t.get e=some (.vec sz es)->q e=β e/\∃c,V.get e=some (.vec sz c)/\c.length=es.length):VOK E' w' t q j vi:=by
 cases vi with
 |vec sz es=>
  obtain⟨f,⟨h1,d,g⟩|⟨b,str,cs,cp,ex,h1,d,g,s,x,z⟩⟩:=h
  .exact⟨f,.inl ⟨(o rfl).trans h1,l.trans d,g⟩⟩
  .exact⟨f,.inr ⟨b,str,cs,cp,ex,(o rfl).trans h1,d.pp (r b rfl h1) u s,by rw[l];exact g.mono C,s,x,z⟩⟩
 |mp es=>
  obtain⟨f,b,h1,d,g⟩:=h;exact⟨f,b,(o rfl).trans h1,d.pm (r b rfl h1) u f,l.trans g⟩
 |qU e i off=>
  intro sz es p;obtain⟨A,c,y,B⟩:=D e i off rfl sz es p;obtain⟨v,b,h1,d⟩:=h sz c y;exact⟨B▸v,b,A.trans h1,l.trans d⟩
theorem zFn.qu{n k:Nat}{fr:Fr}(e:zFn n k fr){d:Option Nat}{v:AV}(f:CP n k v):zFn n k (qu fr d v):=by
 cases d with
 |none=>exact e
 |some t=>
  intro u x c;simp only[zJZ,Fr.qq]at c;split at c
  .cases c;exact f
  .exact e u x c
theorem SR.step(s:SR G nt E w a β st){E':Env}{w':World}{H':Heap}{y:Nat}{d:Option Nat}{v:AV}{cv:Value}(z:HR E' H' w')(t:Tr E st.H w E' H' w' st.m y)(N:VR E' w' v cv)(D:CP st.mv y v)(C:HCP st.mv y H')(F:∀n,d=some n->n<nt):
  SR G nt E' w' (a.put d cv) β ⟨qu st.fr d v,H',st.V,y,st.mv⟩/\Kp E.Z (BS E β st.H st.V) w E'.Z (BS E' β H' st.V) w':=by
 have r:∀b,E.Z b->E'.Z b/\w'.heap[b]? = w.heap[b]?:=λb i=>⟨t.qF b i,t.qI b (s.hr.wa b i) λp f e=>s.hr.nz p f (e▸i)⟩
 have hblk:∀j c b,st.V.get j=some c->c.qA=true->β j=some b->b<w.heap.size/\w'.heap[b]? = w.heap[b]?:=λj c b h1 g o=>by
  have l:=(s.qT j c h1).2.lt g o;exact⟨l,t.qI b l λp f e=>(s.bz j c b h1 g o).2 p f e⟩
 refine⟨⟨z,s.hf.put (t.vr s.hr) F N,s.hg.step s.hr t,λh M=>?_,(s.qW.mono (QA _) t.le).qu D,C,λj c h1=>⟨(s.qT j c h1).1,?_⟩,s.vp,λj c b h1 g o=>⟨λJ=>?_,λp f e=>?_⟩,s.qS⟩,?_⟩
 .rcases(t.qz h).1 M with h1|h1
  .exact Qf (s.qz h h1) t.le
  .exact h1.2
 .exact(s.qT j c h1).2.mono (congrFun t.sig j) (λ_=>rfl) (λb L i=>(hblk j c b h1 L i).2) r t.qn λ_ _ _ _ sz es h=>⟨rfl,es,h,rfl⟩
 .have l:=s.bz j c b h1 g o;rcases t.qP b J with B|⟨p,f,e⟩|B
  .exact l.1 B
  .exact l.2 p f e
  .have:=(hblk j c b h1 g o).1;omega
 .have l:=s.bz j c b h1 g o;rcases t.own p f with⟨q,A,I⟩|B
  .exact l.2 q A (I.trans e)
  .have:=(hblk j c b h1 g o).1;omega
 .refine⟨t.qF,λx u=>?_,λx u=>?_,t.tape,t.os,t.output,t.size,λx u i=>t.qI x u λp f e=>i (.inl ⟨p,f,e⟩),t.qn⟩
  .rcases t.qP x u with h|h|h
   .exact .inl h
   .exact .inr (.inl (.inl h))
   .exact .inr (.inr h)
  .rcases u with⟨p,f,rfl⟩|h
   .rcases t.own p f with⟨q,A,e⟩|h
    .exact .inl (.inl ⟨q,A,e⟩)
    .exact .inr h
   .exact .inl (.inr h)
end
theorem Vecs.qh{V:Vecs}{k j:Nat}{o:VI}:Vecs.get ((k,o)::V) j=if k=j then some o else V.get j:=by
 simp only[Vecs.get];by_cases h:k=j
 .subst h;have:Nat.beq k k=true:=Nat.beq_refl k;simp[this]
 .have:Nat.beq k j=false:=by
   cases hb:Nat.beq k j with
   |false=>rfl
   |true=>exact absurd (zc hb) h
  simp[this,h]
theorem Vecs.qO:∀{V:Vecs}{k j:Nat},(V.del k).get j=if k=j then none else V.get j
 |[],k,j=>by simp[Vecs.del,Vecs.get]
 |(i,o)::r,k,j=>by
  simp only[Vecs.del];cases hb:Nat.beq i k with
  |true=>
   have:=zc hb;subst this;simp only[Vecs.qO,Vecs.qh];split<;>rfl
  |false=>
   have c:=zBX hb;simp only[Vecs.qh,Vecs.qO];by_cases h1:i=j
   .subst h1;have:¬k=i:=λe=>c e.symm
    simp[this]
   .simp[h1]
abbrev XB:=Option (Nat×HO)
def zB3(E:Env)(m:Nat):XB->Env
 |none=>E
 |some (b,_)=>⟨λh=>if h=m then b else E.ρ h,λh=>E.D h\/h=m,E.Z,E.σ⟩
def extH(H:Heap)(m:Nat):XB->Heap
 |none=>H
 |some (_,o)=>(m,o)::H
def zJU(m:Nat):XB->Nat
 |none=>m
 |some _=>m+1
def zJ(E E':Env)(mv:Nat)(x:Value):Env:=⟨E.ρ,E.D,E'.Z,λi=>if i=mv then x else E.σ i⟩
structure OutW(G:Cx)(E:Env)(w:World)(st:Sta)(xb:XB)(E':Env)(w':World)(H':Heap)(v:AV)(cv:Value):Prop where
 vt:HR E' H' w'
 hv:VR E' w' v cv
 agree:∀h,E.D h->E'.ρ h=E.ρ h
 w5:∀b o,xb=some (b,o)->E'.ρ st.m=b
 uZ:∀h,h<st.m->E'.D h->E.D h
 uL:∀z,E.Z z->E'.Z z/\w'.heap[z]? = w.heap[z]?
 qP:∀z,E'.Z z->E.Z z\/(∃p∈st.H,E.ρ p.1=z)\/(∃b o,xb=some (b,o)/\z=b)\/w.heap.size<=z
 own:∀p∈H',(∃q∈st.H,E.ρ q.1=E'.ρ p.1)\/(∃b o,xb=some (b,o)/\E'.ρ p.1=b)\/w.heap.size<=E'.ρ p.1
 qI:∀x,x<w.heap.size->¬(∃p∈st.H,E.ρ p.1=x)->(∀b o,xb=some (b,o)->x≠b)->w'.heap[x]? = w.heap[x]?
 tape:w'.tape=w.tape
 os:w'.os=w.os
 output:w'.output=w.output
 size:w.heap.size<=w'.heap.size
 qn:zA7 w w'
 sig:E'.σ=E.σ
 back:∀x,HR (zJ E E' st.mv x) st.H w'
 conv:∀x {v c},CP st.mv st.m v->VR E w v c->VR (zJ E E' st.mv x) w' v c
 gr:∀x,GR G (zJ E E' st.mv x) w'
section
variable{P:Program}{G:Cx}{nt:Nat}{E:Env}{w:World}{a:Act}{β:Nat->Option Nat}{st:Sta}
theorem zMc(s:SR G nt E w a β st){xb:XB}{v:AV}{cv:Value}(h:VR E w v cv):VR (zB3 E st.m xb) w v cv:=by
 cases xb with
 |none=>exact h
 |some p=>
  refine VR.mono (E:=E) (E':=zB3 E st.m (some p)) (λh c=>⟨Or.inl c,?_⟩) (λb d=>⟨d,rfl⟩) (.refl w) h
  have:h≠st.m:=by have:=s.qz h c;omega
  simp[zB3,this]
theorem zZd(s:SR G nt E w a β st){xb:XB}(i:∀b o,xb=some (b,o)->OR E w b o/\¬E.Z b/\∀p∈st.H,E.ρ p.1≠b):HR (zB3 E st.m xb) (extH st.H st.m xb) w:=by
 cases xb with
 |none=>exact s.hr
 |some p=>
  obtain⟨b,o⟩:=p;obtain⟨h1,r,l⟩:=i b o rfl;have h:∀p∈st.H,p.1≠st.m:=λp c=>by have:=s.qz p.1 (s.hr.qz p c);omega
  have g:∀p∈st.H,(zB3 E st.m (some (b,o))).ρ p.1=E.ρ p.1:=λp c=>by simp[zB3,h p c]
  have f:(zB3 E st.m (some (b,o))).ρ st.m=b:=by simp[zB3]
  refine⟨Qz.2 ⟨λf=>?_,s.hr.nodup⟩,λp c=>?_,λp c q d e=>?_,λp c=>?_,λp c=>?_,s.hr.wa⟩
  .obtain⟨p,c,e⟩:=Qg.1 f;exact h p c e
  .rcases QH.1 c with rfl|c
   .exact .inr rfl
   .exact .inl (s.hr.qz p c)
  .rcases QH.1 c with rfl|c
   .rcases QH.1 d with rfl|d
    .rfl
    .rw[f,g q d]at e;exact absurd e.symm (l q d)
   .rcases QH.1 d with rfl|d
    .rw[g p c,f]at e;exact absurd e (l p c)
    .rw[g p c,g q d]at e;exact s.hr.inj p c q d e
  .rcases QH.1 c with rfl|c
   .rw[f];exact h1.mono rfl (zMc s)
   .rw[g p c];exact(s.hr.obj p c).mono rfl (zMc s)
  .rcases QH.1 c with rfl|c
   .rw[f];exact r
   .rw[g p c];exact s.hr.nz p c
theorem zbk(s:SR G nt E w a β st)(hG:GPP G)(hm:zCa P G){xb:XB}(R:∀b o,xb=some (b,o)->OR E w b o/\¬E.Z b/\∀p∈st.H,E.ρ p.1≠b){fr':Fr}(X:FrR (zB3 E st.m xb) w fr' a nt)
  {o:Oper} {U:XO} (hc:zDf P o.op=some U) {v:AV} {H':Heap} {n':Nat} (hx:xoS G zj fr' (extH st.H st.m xb) (zJU st.m xb) U=some (v,H',n')) (hH:∀p∈st.H,p∈H'):
  ∀next Q,(∀cv E' w',OutW G E w st xb E' w' H' v cv->next (a.put o.dst cv) w')->o.wp P a w next Q:=by
 intro next Q hn;have ab:=zZd s R;have Y:GR G (zB3 E st.m xb) w:=λg u h=>⟨zMc s (s.hg g u h).1,(s.hg g u h).2⟩
 have B:zH6 (zB3 E st.m xb) (zJU st.m xb) n':=by
  intro h h1 W O;cases xb with
  |none=>have:=s.qz h O;have h1:st.m<=h:=h1;omega
  |some p=>
   have h1:st.m+1<=h:=h1;rcases O with O|O
   .have:=s.qz h O;omega
   .omega
 refine zJI ab X Y hm zHD hc B hx next Q λcv E' w' V l k3=>hn cv E' w' ?_
 have S:(zB3 E st.m xb).Z=E.Z:=by cases xb<;>rfl
 have N:(zB3 E st.m xb).σ=E.σ:=by cases xb<;>rfl
 have J:∀h,E.D h->(zB3 E st.m xb).D h/\(zB3 E st.m xb).ρ h=E.ρ h:=λh y=>by
  cases xb with
  |none=>exact⟨y,rfl⟩
  |some p=>
   have:h≠st.m:=by have:=s.qz h y;omega
   exact⟨.inl y,by simp[zB3,this]⟩
 have f:∀h,E.D h->E'.ρ h=E.ρ h:=λh y=>(l.agree h (J h y).1).trans (J h y).2
 have hblk:∀x,(∃p∈extH st.H st.m xb,(zB3 E st.m xb).ρ p.1=x)->(∃p∈st.H,E.ρ p.1=x)\/∃b o,xb=some (b,o)/\x=b:=by
  rintro x ⟨p,d,e⟩
  cases xb with
  |none=>exact .inl ⟨p,d,e⟩
  |some q=>
   obtain⟨b,o⟩:=q;rcases QH.1 d with rfl|d
   .exact .inr ⟨b,o,rfl,by simpa[zB3]using e.symm⟩
   .exact .inl ⟨p,d,by rw[←(J p.1 (s.hr.qz p d)).2];exact e⟩
 have F:∀x,x<w.heap.size->¬(∃p∈st.H,E.ρ p.1=x)->(∀b o,xb=some (b,o)->x≠b)->w'.heap[x]? = w.heap[x]?:=λx h1 W C=>l.qI x h1 λp d e=>by
  rcases hblk x ⟨p,d,e⟩with h|⟨b,o,e1,e2⟩
  .exact W h
  .exact C b o e1 e2
 have A:∀z,E.Z z->E'.Z z/\w'.heap[z]? = w.heap[z]?:=λz L=>⟨l.qF z (by rw[S];exact L),F z (s.hr.wa z L) (λ⟨p,d,e⟩=>s.hr.nz p d (e▸L)) λb o e1 e2=>(R b o e1).2.1 (e2▸L)⟩
 have r:∀h,h<st.m->E'.D h->E.D h:=λh h1 W=>by
  rcases(l.qz h).1 W with C|C
  .cases xb with
   |none=>exact C
   |some p=>exact C.resolve_right (by omega)
  .cases xb with
   |none=>have C:st.m<=h/\_:=C;omega
   |some p=>have C:st.m+1<=h/\_:=C;omega
 have T:∀(x:Value) i,i<st.mv->(zJ E E' st.mv x).σ i=E.σ i:=λx i hi=>by
  have:i≠st.mv:=by omega
  simp[zJ,this]
 have t:∀x {v c},CP st.mv st.m v->VR E w v c->VR (zJ E E' st.mv x) w' v c:=λx v c I hv=>
  VR.vl (E:=E) (E':=zJ E E' st.mv x) (w:=w) (w':=w') (λh _ y=>⟨y,rfl⟩) A l.qn (T x) hv I
 refine⟨V,k3,f,λb o e=>?_,r,A,λz L=>?_,λp d=>?_,F,l.tape,l.os,l.output,l.size,l.qn,l.sig.trans N,λx=>?_,t,λx g u h=>⟨t x (hG g u h).cp (s.hg g u h).1,(s.hg g u h).2.mono l.qn⟩⟩
 .subst e;have:(zB3 E st.m (some (b,o))).D st.m:=.inr rfl;rw[l.agree _ this];simp[zB3]
 .rcases l.qP z L with h|h|h
  .rw[S]at h;exact .inl h
  .rcases hblk z h with h|h
   .exact .inr (.inl h)
   .exact .inr (.inr (.inl h))
  .exact .inr (.inr (.inr h))
 .rcases l.own p d with h|h
  .rcases hblk _ h with h|h
   .exact .inl h
   .exact .inr (.inl h)
  .exact .inr (.inr h)
 .have hρ:∀p∈st.H,E'.ρ p.1=E.ρ p.1:=λp d=>f p.1 (s.hr.qz p d)
  refine⟨s.hr.nodup,s.hr.qz,s.hr.inj,λp d=>?_,λp d=>?_,V.wa⟩
  .obtain⟨str,cs,e,aa⟩:=s.cH p d;have h1:=V.obj p (hH p d);rw[e]at h1⊢;rw[hρ p d]at h1;refine OR.vl rfl (λI hv=>?_) aa h1
   exact VR.vl (E':=zJ E E' st.mv x) (λh M y=>⟨r h M y,(f h (r h M y)).symm⟩) (λb hb=>⟨hb,rfl⟩) (.refl w') (λi hi=>by rw[T x i hi,l.sig,N]) hv I
  .have:=V.nz p (hH p d);rw[hρ p d]at this;exact this
theorem FrR.ur{n k:Nat}{fr:Fr}{E2:Env}{c:World}{d:Option Nat}{v:AV}{cv:Value}(f:FrR E w fr a nt)(hc:zFn n k fr)(hm:∀{v cv},CP n k v->VR E w v cv->VR E2 c v cv)(g:∀n,d=some n->n<nt)(i:VR E2 c v cv):FrR E2 c (qu fr d v) (a.put d cv) nt:=by
 have e:FrR E2 c fr a nt:=⟨f.size,λt u h=>hm (hc t u h) (f.get t u h)⟩
 exact e.put id g i
theorem OutW.sr(s:SR G nt E w a β st){xb:XB}{E':Env}{w':World}{H':Heap}{v:AV}{cv:Value}(O:OutW G E w st xb E' w' H' v cv)(N:∀b o,xb=some (b,o)->∃j vi,st.V.get j=some vi/\vi.qA=true/\β j=some b)
  (x:Value) (M:Vecs) (B:Nat) (C:Nat->Option Nat) {d:Option Nat} {v2:AV} (F:st.mv<=B) (Y:VR (zJ E E' st.mv x) w' v2 cv) (T:CP B st.m v2) (hd:∀n,d=some n->n<nt)
  (R:∀j vi,M.get j=some vi->(st.V.get j=some vi/\(vi.qA=true->C j=β j/\∀b o,xb=some (b,o)->β j≠some b)) ∨
   (j<B/\VOK (zJ E E' st.mv x) w' M C j vi/\(∀u i off,vi=.qU u i off->u<B)/\(vi.qA=true->∀S,C j=some S->¬E'.Z S/\(∀p∈st.H,E.ρ p.1≠S)/\((∃b o,xb=some (b,o)/\S=b)\/w.heap.size<=S))))
  (W:∀j q vi l,M.get j=some vi->M.get q=some l->vi.qA=true->l.qA=true->¬(st.V.get j=some vi/\C j=β j/\∀b o,xb=some (b,o)->β j≠some b)->¬(st.V.get q=some l/\C q=β q/\∀b o,xb=some (b,o)->β q≠some b)->j=q)
  (ab:∀u sz es,u<st.mv->M.get u=some (.vec sz es)->C u=β u/\∃U,st.V.get u=some (.vec sz U)/\U.length=es.length):
  SR G nt (zJ E E' st.mv x) w' (a.put d cv) C ⟨qu st.fr d v2,st.H,M,st.m,B⟩/\Kp E.Z (BS E β st.H st.V) w (zJ E E' st.mv x).Z (BS (zJ E E' st.mv x) C st.H M) w':=by
 have r:∀j vi b,st.V.get j=some vi->vi.qA=true->β j=some b->(∀c o,xb=some (c,o)->β j≠some c)->b<w.heap.size/\w'.heap[b]? = w.heap[b]?/\¬E'.Z b/\∀p∈st.H,E.ρ p.1≠b:=λj vi b h1 g f t=>by
  have I:=(s.qT j vi h1).2.lt g f;have L:=s.bz j vi b h1 g f;have h7:∀c o,xb=some (c,o)->b≠c:=λc o e y=>t c o e (by rw[f,y])
  refine⟨I,O.qI b I (λ⟨p,hp,e⟩=>L.2 p hp e) h7,λJ=>?_,L.2⟩
  rcases O.qP b J with h|⟨p,hp,e⟩|⟨c,o,e,y⟩|h
  .exact L.1 h
  .exact L.2 p hp e
  .exact h7 c o e y
  .omega
 have hσ:∀i,i<st.mv->(zJ E E' st.mv x).σ i=E.σ i:=λi hi=>by
  have:i≠st.mv:=by omega
  simp[zJ,this]
 refine⟨⟨O.back x,s.hf.ur s.qW (O.conv x) hd Y,O.gr x,s.qz,(s.qW.mono F (QA _)).qu T,s.cH.mono F (QA _),λj vi h1=>?_,λj u i off h1=>?_,λj vi b h1 g f=>?_,λj q vi l b h1 g f t I L=>?_⟩,?_⟩
 .rcases R j vi h1 with⟨g,f⟩|⟨g,f,_⟩
  .have t:=s.qT j vi g;refine⟨Qf t.1 F,t.2.mono (hσ j t.1) (λX=>(f X).1) (λb X D=>(r j vi b g X D (f X).2).2.1) O.uL O.qn λu i off e sz es aa=>?_⟩
   subst e;exact ab u sz es (s.vp j u i off g) aa
  .exact⟨g,f⟩
 .rcases R j _ h1 with⟨g,f⟩|⟨g,_,f,_⟩
  .exact Qf (s.vp j u i off g) F
  .exact f u i off rfl
 .rcases R j vi h1 with⟨t,I⟩|⟨_,_,_,t⟩
  .rw[(I g).1]at f;have:=r j vi b t g f (I g).2;exact⟨this.2.2.1,this.2.2.2⟩
  .have:=t g b f;exact⟨this.1,this.2.1⟩
 .by_cases c1:st.V.get j=some vi/\C j=β j/\∀b o,xb=some (b,o)->β j≠some b
  .by_cases c2:st.V.get q=some l/\C q=β q/\∀b o,xb=some (b,o)->β q≠some b
   .exact s.qS j q vi l b c1.1 c2.1 f t (by rw[←c1.2.1];exact I) (by rw[←c2.2.1];exact L)
   .exfalso
    have D:β j=some b:=by rw[←c1.2.1];exact I
    have hk:=r j vi b c1.1 f D c1.2.2;rcases R q l g with⟨q1,A⟩|⟨_,_,_,A⟩
    .exact c2 ⟨q1,(A t).1,(A t).2⟩
    .rcases(A t b L).2.2 with⟨c,o,e,y⟩|h
     .exact c1.2.2 c o e (by rw[D,y])
     .omega
  .by_cases c2:st.V.get q=some l/\C q=β q/\∀b o,xb=some (b,o)->β q≠some b
   .exfalso
    have D:β q=some b:=by rw[←c2.2.1];exact L
    have hk:=r q l b c2.1 t D c2.2.2;rcases R j vi h1 with⟨q1,A⟩|⟨_,_,_,A⟩
    .exact c1 ⟨q1,(A f).1,(A f).2⟩
    .rcases(A f b I).2.2 with⟨c,o,e,y⟩|h
     .exact c2.2.2 c o e (by rw[D,y])
     .omega
   .exact W j q vi l h1 g f t c1 c2
 .refine⟨λz J=>(O.uL z J).1,λz J=>?_,λz J=>?_,O.tape,O.os,O.output,O.size,λz J D=>O.qI z J (λh=>D (.inl h)) λb o e y=>?_,O.qn⟩
  .rcases O.qP z J with h|h|⟨b,o,e,y⟩|h
   .exact .inl h
   .exact .inr (.inl (.inl h))
   .obtain⟨j,vi,h1,g,f⟩:=N b o e;exact .inr (.inl (.inr ⟨j,vi,h1,g,by rw[y];exact f⟩))
   .exact .inr (.inr h)
  .rcases J with h|⟨j,vi,h1,g,f⟩
   .exact .inl (.inl h)
   .rcases R j vi h1 with⟨q1,A⟩|⟨_,_,_,A⟩
    .exact .inl (.inr ⟨j,vi,q1,g,by rw[←(A g).1];exact f⟩)
    .rcases(A g z f).2.2 with⟨b,o,e,y⟩|h
     .obtain⟨j,vi,h1,g,f⟩:=N b o e;exact .inl (.inr ⟨j,vi,h1,g,by rw[y];exact f⟩)
     .exact .inr h
  .obtain⟨j,vi,h1,g,f⟩:=N b o e;exact D (.inr ⟨j,vi,h1,g,by rw[y];exact f⟩)
end
theorem z6{v:AV}{sz:Nat}{cs:JE}(h:cellsOf v sz=some cs):cs.length=sz/\v.cells=cs/\v.flat=true:=by
 unfold cellsOf at h;cases hf:v.flat with
 |false=>rw[hf]at h;cases h
 |true=>
  rw[hf]at h;simp only at h;split at h
  .rename_i c;cases h;exact⟨zc c,rfl,rfl⟩
  .cases h
theorem zAo{sz:Nat}:∀{es f:JE},flatten sz es=some f->f.length=es.length*sz/\∀(i:Nat) e,es[i]?=some e->cellsOf e sz=some ((f.drop (i*sz)).take sz)
 |[],f,h=>by cases h;exact⟨by simp,λi e d=>by simp at d⟩
 |a::r,f,h=>by
  simp only[flatten]at h;split at h
  .rename_i c hc;split at h
   .rename_i cs l;cases h;obtain⟨h1,o⟩:=zAo l;obtain⟨g,_,_⟩:=z6 hc;refine⟨by simp[h1,g,Nat.succ_mul];omega,λi e d=>?_⟩
    cases i with
    |zero=>
     simp only[List.getElem?_cons_zero,QN]at d;subst d;rw[hc];simp[←g]
    |succ i=>
     rw[List.getElem?_cons_succ]at d;rw[o i e d];have:(i+1)*sz=c.length+i*sz:=by rw[Nat.succ_mul,g];omega
     rw[this,←List.drop_drop,List.drop_left]
   .cases h
  .cases h
theorem zPh{sz:Nat}:∀{a b x y:JE},flatten sz a=some x->flatten sz b=some y->flatten sz (a++b)=some (x++y)
 |[],b,x,y,h,k=>by cases h;simpa using k
 |e::r,b,x,y,h,k=>by
  simp only[flatten]at h;split at h
  .rename_i c hc;split at h
   .rename_i cs d;cases h;simp only[List.cons_append,flatten,hc,zPh d k,Qo]
   .cases h
  .cases h
theorem zS1{sz:Nat}{v:AV}{new:JE}(l:cellsOf v sz=some new):∀{es e:JE}{i:Nat},flatten sz es=some e->i<es.length->flatten sz (es.set i v)=some (qi e (i*sz) new)
 |[],e,i,h,g=>by simp at g
 |a::r,e,i,h,g=>by
  simp only[flatten]at h;split at h
  .rename_i c hc;split at h
   .rename_i cs d;cases h;obtain⟨o,_,_⟩:=z6 hc;obtain⟨p,_,_⟩:=z6 l;cases i with
    |zero=>
     simp only[List.set_cons_zero,flatten,l,d,qi,Nat.zero_mul,List.take_zero,List.nil_append,QY];rw[p,←o,List.drop_left]
    |succ i=>
     have f:i<r.length:=by simpa using g
     simp only[List.set_cons_succ,flatten,hc,zS1 l d f,qi];have s:(i+1)*sz=c.length+i*sz:=by rw[Nat.succ_mul,o];omega
     have q:(i+1)*sz+new.length=c.length+(i*sz+new.length):=by omega
     rw[q,s,List.take_length_add_append,List.drop_length_add_append];simp[Qo]
   .cases h
  .cases h
theorem zRj{c:AV}(h:c.one=true):cellsOf c 1=some [c]:=by
 cases c<;>first|(cases h;done)|rfl
theorem zAQ{sz:Nat}:∀{len:Nat}{cs es:JE},zE7 sz len cs=some es->es=chunks sz len cs/\es.length=len/\0<sz/\len*sz<=cs.length/\flatten sz es=some (cs.take (len*sz))
 |len,cs,es,h=>by
  unfold zE7 at h;split at h
  .rename_i hc;cases h;simp only[qr,Qt,Ql]at hc;obtain⟨⟨h1,p⟩,s⟩:=hc;refine⟨rfl,zQH _ _ _,p,h1,?_⟩
   have key:∀(len:Nat)(cs:JE),len*sz<=cs.length->cs.all AV.one=true->flatten sz (chunks sz len cs)=some (cs.take (len*sz)):=by
    intro len
    induction len with
    |zero=>intro cs _ _;simp[chunks,flatten]
    |succ len v=>
     intro cs o d;have l:len*sz<=(cs.drop sz).length:=by rw[Qp];rw[Nat.succ_mul]at o;omega
     have e:(cs.drop sz).all AV.one=true:=QD.2 λx t=>QD.1 d x (Qc t)
     have f:=v (cs.drop sz) l e;have g:sz<=cs.length:=by rw[Nat.succ_mul]at o;omega
     obtain⟨i,q,u⟩:∃i,chunks sz (len+1) cs=i::chunks sz len (cs.drop sz)/\cellsOf i sz=some (cs.take sz):=by
      by_cases h1:sz=1
      .subst h1;cases cs with
       |nil=>simp at g
       |cons c r=>
        rw[Qb,qr]at d;exact⟨c,rfl,by simpa using zRj d.1⟩
      .refine⟨.agg (cs.take sz),?_,?_⟩
       .simp only[chunks]
       .have:(AV.agg (cs.take sz)).cells.length=sz:=by simp[AV.cells,g]
        simp only[cellsOf,AV.flat,this,Nat.beq_refl];rfl
     simp only[q,flatten,u,f];rw[Nat.succ_mul,Nat.add_comm (len*sz) sz,List.take_add]
   exact key _ _ h1 s
  .cases h
theorem zJy:∀s:JV,flatten 1 (s.map λb=>AV.int .u8 (.ofNat b))=some (s.map λb=>AV.int .u8 (.ofNat b))
 |[]=>rfl
 |a::r=>by
  simp only[Qe,flatten,zRj (c:=.int .u8 (.ofNat a)) rfl,zJy r];rfl
theorem zNK:∀{es:JE}{s:JV},zBw es=some s->flatten 1 es=some es
 |[],s,h=>rfl
 |a::r,s,h=>by
  unfold zBw at h;split at h
  .cases ‹_::_=[]›
  .rename_i b g e;cases e;split at h
   .rename_i f d;simp only[flatten,zRj (c:=.int .u8 (.ofNat b)) rfl,zNK d];rfl
   .cases h
  .cases h
theorem zMV{sz:Nat}{e:AV}{c:JE}(h:cellsOf e sz=some c):∀n:Nat,flatten sz (List.replicate n e)=some (rep n c)
 |0=>rfl
 |n+1=>by simp only[List.replicate_succ,flatten,h,zMV h n,rep]
theorem zUk(c:JE):∀n:Nat,(rep n c).length=n*c.length
 |0=>by simp[rep]
 |n+1=>by simp[rep,zUk c n,Nat.succ_mul];omega
theorem zXp(c:JE):∀{l n:Nat},l<=n->(rep n c).take (l*c.length)=rep l c
 |0,n,_=>by simp[rep]
 |l+1,0,h=>by omega
 |l+1,n+1,h=>by
  simp only[rep];rw[Nat.succ_mul,Nat.add_comm,List.take_length_add_append,zXp c (by omega)]
theorem zWy{E:Env}{w:World}{sz:Nat}{es:JE}{cv:Value}(h:VR E w (.qg sz es) cv):∃d,flatten sz es=some d:=by
 have key:∀(es:JE),(∀(i:Nat) e,es[i]?=some e->∃c,cellsOf e sz=some c)->∃d,flatten sz es=some d:=by
  intro es
  induction es with
  |nil=>intro _;exact⟨[],rfl⟩
  |cons a r x=>
   intro hk;obtain⟨c,hc⟩:=hk 0 a rfl;obtain⟨d,l⟩:=x λi e g=>hk (i+1) e g
   exact⟨c++d,by simp only[flatten,hc,l]⟩
 cases h with
 |wc=>exact⟨[],rfl⟩
 |qg _ b o cap _ f z q t p y hc=>
  refine key es λi e g=>?_
  have v:i<es.length:=(QB.1 g).1;have h1:e.flat=true:=by have:=p i e g;cases e<;>first|rfl|cases this
  have s:=((y i e g).cells h1).1.1;have u:=(hc i v).1;refine⟨e.cells,?_⟩
  have:e.cells.length=sz:=by rw[s];simpa using u
  simp only[cellsOf,h1,this,Nat.beq_refl]
theorem zS2{H:Heap}{sz:Nat}{es c:JE}(h:flatten sz es=some c):content H sz (.qg sz es)=some (es.length,c):=by
 simp only[content,Nat.beq_refl,h]
theorem zQJ{E:Env}{w:World}{H:Heap}{sz:Nat}{u:AV}{f:JE}{cv:Value}(r:VR E w u cv)(h:zEa H sz u=some f):∃d,flatten sz f=some d/\content H sz u=some (f.length,d)/\d.length=f.length*sz:=by
 unfold zEa at h;split at h
 .cases h;exact⟨[],rfl,rfl,by simp⟩
 .rename_i g es;split at h
  .rename_i e;cases h;have e:=zc e;subst e;obtain⟨d,c⟩:=zWy r;exact⟨d,c,zS2 c,(zAo c).1⟩
  .cases h
 .rename_i t off len g cp ex;split at h
  .rename_i e;split at h
   .rename_i str cs p;split at h
    .rename_i i;obtain⟨_,o,_,v,l⟩:=zAQ h;refine⟨_,l,?_,(zAo l).1⟩
     simp only[content,e,p,i,o]
    .cases h
   .cases h
  .cases h
 .rename_i s;split at h
  .rename_i e;cases h;have q:=zc e;subst q;exact⟨_,zJy s,by simp[content,e],by simp⟩
  .cases h
 .cases h
theorem zes{sz:Nat}{es q cs:JE}{i off s:Nat}{l:Bool}{e v:AV}(u:flatten sz es=some q)(h:q=cs.take (es.length*sz))(z:es.length*sz<=cs.length)(r:es[i]?=some e)(d:part e.cells off s l=some v):part cs (i*sz+off) s l=some v:=by
 obtain⟨h1,t⟩:=zAo u;obtain⟨x,p,_⟩:=z6 (t i e r);have y:i<es.length:=(QB.1 r).1;have o:i*sz+sz<=es.length*sz:=by rw[←Nat.succ_mul];exact Nat.mul_le_mul_right _ y
 have c:e.cells=(cs.drop (i*sz)).take sz:=by
  rw[p,h,List.drop_take,List.take_take,Nat.min_eq_left (by omega)]
 have f:e.cells.length=sz:=by rw[p];exact x
 unfold part at d⊢;cases l with
 |true=>
  simp only at d⊢;split at d
  .rename_i g;have g:=QS g;rw[f]at g;have:Nat.ble (i*sz+off+s) cs.length=true:=by rw[Qt];omega
   rw[this];cases d;simp only;rw[c,List.drop_take,List.take_take,Nat.min_eq_left (by omega),List.drop_drop]
  .cases d
 |false=>
  simp only at d⊢;rw[c,List.getElem?_take]at d;split at d
  .rw[List.getElem?_drop]at d;exact d
  .cases d
theorem zTg:∀{d:List Kd}{a b:JE}{r:Bool},eqv d a b=some r->zDY d a b=some r/\a.length=d.length/\b.length=d.length
 |[],a,b,r,h=>by
  unfold eqv at h;split at h
  .cases h;exact⟨rfl,rfl,rfl⟩
  .cases ‹_=_::_›
  .cases h
 |k::d,a,b,r,h=>by
  unfold eqv at h;split at h
  .cases ‹_=[]›
  .rename_i z t a x b y e;cases e;split at h
   .rename_i p l;cases d with
    |nil=>
     simp only at h;split at h
     .cases h;simp only[zDY,l];cases r<;>simp[zDY]
     .cases h
    |cons A d=>
     simp only at h;split at h
     .rename_i q v;cases h;obtain⟨h1,g,o⟩:=zTg v;simp only[zDY,l];cases p with
      |true=>simp only[h1,Bool.true_and];exact⟨trivial,by simp[g],by simp[o]⟩
      |false=>exact⟨by simp,by simp[g],by simp[o]⟩
     .cases h
   .cases h
  .cases h
structure Rs(G:Cx)(nt:Nat)(Z0 B0:Nat->Prop)(w0:World)(dl:List Deferred)(E:Env)(w:World)(a:Act)(st:Sta):Prop where
 out:∃β,SR G nt E w a β st/\Kp Z0 B0 w0 E.Z (BS E β st.H st.V) w/\a.defers=dl
def OpK(P:Program)(G:Cx)(nt:Nat)(f e:Nat->Prop)(w0:World)(dl:List Deferred)(o:Oper)(w:World)(a:Act)(k:AV->Sta->Prop):Prop:=
 ∀(next:Act->World->Prop)(Q:Exit->Act->World->Prop),(∀v c d E' w',k v c->Rs G nt f e w0 dl E' w' (a.put o.dst d) (c.put o.dst v)->next (a.put o.dst d) w')->o.wp P a w next Q
section
variable{P:Program}{G:Cx}{nt:Nat}{E:Env}{w:World}{a:Act}{β:Nat->Option Nat}{st:Sta}
theorem FrR.uU{c:Env}{fr:Fr}{t:Nat}{X:AV}(d:FrR E w fr a nt)(hm:∀{v cv},VR E w v cv->VR c w v cv)(f:VR c w X (a.tmps.getD t undef)):FrR c w (fr.put t X) a nt:=
 ⟨d.size,λu v h=>by
  rw[Fr.qq]at h;split at h
  .rename_i e;subst e;cases h;exact f
  .exact hm (d.get u v h)⟩
theorem zKw(d:GPP G){fr:Fr}{x:XV}{j:Nat}(hx:zG x=true)(h:x.ev G fr=some (.sym j)):∃t,x=.t t/\fr.get t=some (.sym j):=by
 cases x with
 |t n=>exact⟨n,rfl,h⟩
 |c v=>cases h;cases hx
 |g n=>have:=d n _ h;cases this
theorem zIe{fr:Fr}{y:XV}{u X:AV}{t j:Nat}(h:y.ev G fr=some u)(f:fr.get t=some (.sym j))(d:u≠.sym j):y.ev G (fr.put t X)=some u:=by
 cases y with
 |t n=>
  have h:fr.get n=some u:=h;show(fr.put t X).get n=some u
  rw[Fr.qq];split
  .rename_i e;subst e;rw[f]at h;cases h;exact absurd rfl d
  .exact h
 |c v=>exact h
 |g n=>exact h
theorem zAX{fr:Fr}{X:AV}{t:Nat}:(XV.t t).ev G (fr.put t X)=some X:=by
 show(fr.put t X).get t=some X
 rw[Fr.qq];simp
theorem VR.vF{j:Nat}{cv:Value}(h:VR E w (.sym j) cv):cv=E.σ j:=by
 cases h with
 |sym _ _ c _=>exact c
theorem VR.bk{E':Env}{w':World}{mv:Nat}{x cv:Value}{v:AV}(h:VR E' w' v cv)(c:PP v):VR (zJ E E' mv x) w' v cv:=
 VR.pp (E:=E') (E':=zJ E E' mv x) (w:=w') (w':=w') (λb d=>⟨d,rfl⟩) h c
theorem OR.bk{E':Env}{w':World}{mv b:Nat}{x:Value}{str:Bool}{cs:JE}(h:OR E' w' b (.cells str cs))(d:∀c∈cs,PP c):OR (zJ E E' mv x) w' b (.cells str cs):=
 OR.pp (E:=E') (E':=zJ E E' mv x) (w:=w') (w':=w') rfl (λb e=>⟨e,rfl⟩) d h
theorem OR.uX{E':Env}{w':World}{mv b:Nat}{x:Value}{es:List (AV×AV)}(h:OR E' w' b (.map es))(c:∀p∈es,PP p.1/\PP p.2):OR (zJ E E' mv x) w' b (.map es):=
 OR.pm (E:=E') (E':=zJ E E' mv x) (w:=w') (w':=w') rfl (λb d=>⟨d,rfl⟩) c h
theorem OutW.w4(s:SR G nt E w a β st){xb:XB}{E':Env}{w':World}{H':Heap}{v:AV}{cv:Value}(O:OutW G E w st xb E' w' H' v cv)(D:∀b o,xb=some (b,o)->∃j vi,st.V.get j=some vi/\vi.qA=true/\β j=some b)
  {V0:Vecs} (g:∀j vi,V0.get j=some vi->st.V.get j=some vi/\(vi.qA=true->∀b o,xb=some (b,o)->β j≠some b)) {h' sz cp:Nat} {str ex:Bool} {cs es:JE} (f:(h',HO.cells str cs)∈H') (t:∀p∈st.H,p∈H'/\p.1≠h')
  (hv:v=.row h' 0 es.length sz cp ex) (I:∀e∈es,PP e) (u:∀c∈cs,PP c) (Y:es.length*sz<=cs.length) (F:flatten sz es=some (cs.take (es.length*sz))) {d:Option Nat} (S:∀n,d=some n->n<nt):
  ∃x R,SR G nt (zJ E E' st.mv x) w' (a.put d cv) R ⟨qu st.fr d (.sym st.mv),st.H,(st.mv,.vec sz es)::V0,st.m,st.mv+1⟩/\Kp E.Z (BS E β st.H st.V) w (zJ E E' st.mv x).Z (BS (zJ E E' st.mv x) R st.H ((st.mv,.vec sz es)::V0)) w':=by
 subst hv;have l:=zJj.ui O.hv;have r:∀j vi,V0.get j=some vi->j≠st.mv:=λj vi h=>by have:=(s.qT j vi (g j vi h).1).1;omega
 refine⟨cv,λj=>if j=st.mv then some (E'.ρ h')else β j,O.sr s D cv _ (st.mv+1) _ (Qd _) ?_ (.sym _ (QX _)) S ?_ ?_ ?_⟩
 .exact .sym _ _ (by simp[zJ]) l.one
 .intro j vi h;rw[Vecs.qh]at h;split at h
  .rename_i e;subst e;cases h;refine .inr ⟨QX _,⟨I,.inr ⟨E'.ρ h',str,cs,cp,ex,by simp,?_,?_,u,Y,F⟩⟩,λz i off e=>(by cases e),λ_ b' y=>?_⟩
   .exact(O.vt.obj _ f).bk u
   .simpa[zJ]using l
   .simp only[if_true,QN]at y;subst y;refine⟨O.vt.nz _ f,λp M e=>?_,?_⟩
    .obtain⟨q1,J⟩:=t p M;rw[←O.agree p.1 (s.hr.qz p M)]at e;exact J (O.vt.inj p q1 _ f e)
    .rcases O.own _ f with⟨q,L,e⟩|h|h
     .exfalso
      obtain⟨q1,J⟩:=t q L;rw[←O.agree q.1 (s.hr.qz q L)]at e;exact J (O.vt.inj q q1 _ f e)
     .exact .inl h
     .exact .inr h
  .refine .inl ⟨(g j vi h).1,λC=>⟨?_,(g j vi h).2 C⟩⟩
   simp[r j vi h]
 .intro j T vi A h1 U h3 W X h6;have key:∀j vi,Vecs.get ((st.mv,VI.vec sz es)::V0) j=some vi->vi.qA=true->¬(st.V.get j=some vi/\(if j=st.mv then some (E'.ρ h')else β j)=β j/\∀b o,xb=some (b,o)->β j≠some b)->j=st.mv:=by
   intro j vi h C hn;rw[Vecs.qh]at h;split at h
   .rename_i e;exact e.symm
   .exact absurd ⟨(g j vi h).1,by simp[r j vi h],(g j vi h).2 C⟩ hn
  rw[key j vi h1 h3 X,key T A U W h6]
 .intro z aa B N h;rw[Vecs.qh]at h;split at h
  .omega
  .exact⟨by simp[show z≠st.mv by omega],B,(g z _ h).1,rfl⟩
theorem OutW.v7(s:SR G nt E w a β st){E':Env}{w':World}{H':Heap}{v:AV}{cv:Value}(O:OutW G E w st none E' w' H' v cv)
  {V0:Vecs} (c:∀j vi,V0.get j=some vi->st.V.get j=some vi) {sz:Nat} (J:v=.qa) {d:Option Nat} (y:∀n,d=some n->n<nt):
  ∃x u,SR G nt (zJ E E' st.mv x) w' (a.put d cv) u ⟨qu st.fr d (.sym st.mv),st.H,(st.mv,.vec sz [])::V0,st.m,st.mv+1⟩/\Kp E.Z (BS E β st.H st.V) w (zJ E E' st.mv x).Z (BS (zJ E E' st.mv x) u st.H ((st.mv,.vec sz [])::V0)) w':=by
 subst J;have g:cv=.slice none 0 0:=by cases O.hv;rfl
 have f:∀j vi,V0.get j=some vi->j≠st.mv:=λj vi h=>by have:=(s.qT j vi (c j vi h)).1;omega
 refine⟨cv,λj=>if j=st.mv then none else β j,O.sr s (λb o e=>(by cases e)) cv _ (st.mv+1) _ (Qd _) ?_ (.sym _ (QX _)) y ?_ ?_ ?_⟩
 .exact .sym _ _ (by simp[zJ]) (by rw[g];rfl)
 .intro j vi h;rw[Vecs.qh]at h;split at h
  .rename_i e;subst e;cases h;exact .inr ⟨QX _,⟨λe I=>(by cases I),.inl ⟨by simp,by simp[zJ,g],rfl⟩⟩,λr i off e=>(by cases e),λ_ L q=>(by simp at q)⟩
  .exact .inl ⟨c j vi h,λN=>⟨by simp[f j vi h],λb o e=>(by cases e)⟩⟩
 .intro j z vi l h1 A R M B F;have key:∀j vi,Vecs.get ((st.mv,VI.vec sz [])::V0) j=some vi->¬(st.V.get j=some vi/\(if j=st.mv then none else β j)=β j/\∀b o,(none:XB)=some (b,o)->β j≠some b)->j=st.mv:=by
   intro j vi h D;rw[Vecs.qh]at h;split at h
   .rename_i e;exact e.symm
   .exact absurd ⟨c j vi h,by simp[f j vi h],λb o e=>by cases e⟩ D
  rw[key j vi h1 B,key z l A F]
 .intro r C p t h;rw[Vecs.qh]at h;split at h
  .omega
  .exact⟨by simp[show r≠st.mv by omega],p,c r _ h,rfl⟩
theorem OutW.wZ(s:SR G nt E w a β st){xb:XB}{E':Env}{w':World}{H':Heap}{v:AV}{cv:Value}(O:OutW G E w st xb E' w' H' v cv)(r:∀b o,xb=some (b,o)->(st.m,o)∈H'/\∃j vi,st.V.get j=some vi/\vi.qA=true/\β j=some b)
  (g:∀j vi b o,st.V.get j=some vi->vi.qA=true->xb=some (b,o)->β j=some b->VOK (zJ E E' st.mv undef) w' st.V β j vi) (t:∀b o,xb=some (b,o)->∀p∈st.H,E.ρ p.1≠b) (A:PP v) {d:Option Nat} (B:∀n,d=some n->n<nt):
  SR G nt (zJ E E' st.mv undef) w' (a.put d cv) β ⟨qu st.fr d v,st.H,st.V,st.m,st.mv⟩/\Kp E.Z (BS E β st.H st.V) w (zJ E E' st.mv undef).Z (BS (zJ E E' st.mv undef) β st.H st.V) w':=by
 refine O.sr s (λb o e=>(r b o e).2) undef st.V st.mv β (QA _) (O.hv.bk A) A.cp B ?_ ?_ ?_
 .intro j vi h;by_cases q:vi.qA=true/\∃b o,xb=some (b,o)/\β j=some b
  .obtain⟨q,b,o,e,f⟩:=q;refine .inr ⟨(s.qT j vi h).1,g j vi b o h q e f,λM i off e=>(by subst e;cases q),λ_ C c=>?_⟩
   rw[f]at c;cases c;have h1:=O.vt.nz _ (r b o e).1;rw[O.w5 b o e]at h1;exact⟨h1,t b o e,.inl ⟨b,o,e,rfl⟩⟩
  .exact .inl ⟨h,λu=>⟨rfl,λb o e f=>q ⟨u,b,o,e,f⟩⟩⟩
 .intro j x vi l h1 y I D F L;have key:∀j vi,st.V.get j=some vi->¬(st.V.get j=some vi/\β j=β j/\∀b o,xb=some (b,o)->β j≠some b)->∃b o,xb=some (b,o)/\β j=some b:=by
   intro j vi h J;apply Classical.byContradiction;intro hc;exact J ⟨h,rfl,λb o e f=>hc ⟨b,o,e,f⟩⟩
  obtain⟨b,o,e,f⟩:=key j vi h1 F;obtain⟨C,N,z,c⟩:=key x l y L;rw[e]at z;cases z;exact s.qS j x vi l b h1 y I D f c
 .intro M sz es _ h;exact⟨rfl,es,h,rfl⟩
theorem OutW.uh(s:SR G nt E w a β st){xb:XB}{E':Env}{w':World}{H':Heap}{v:AV}{cv:Value}(O:OutW G E w st xb E' w' H' v cv)(t:∀b o,xb=some (b,o)->(st.m,o)∈H'/\∃j vi,st.V.get j=some vi/\vi.qA=true/\β j=some b)
  (l:∀j vi b o,st.V.get j=some vi->vi.qA=true->xb=some (b,o)->β j=some b->VOK (zJ E E' st.mv cv) w' st.V β j vi) (B:∀b o,xb=some (b,o)->∀p∈st.H,E.ρ p.1≠b) {q i off u:Nat} {x:JE} (y:st.V.get q=some (.vec u x)) (Y:i<x.length) {b0:Nat} (C:β q=some b0)
  (A:cv=.pointer (some ⟨b0,i*u+off,none⟩)) {d:Option Nat} (S:∀n,d=some n->n<nt):
  SR G nt (zJ E E' st.mv cv) w' (a.put d cv) β ⟨qu st.fr d (.sym st.mv),st.H,(st.mv,.qU q i off)::st.V,st.m,st.mv+1⟩/\Kp E.Z (BS E β st.H st.V) w (zJ E E' st.mv cv).Z (BS (zJ E E' st.mv cv) β st.H ((st.mv,.qU q i off)::st.V)) w':=by
 have I:=(s.qT q _ y).1;refine O.sr s (λb o e=>(t b o e).2) cv _ (st.mv+1) β (Qd _) (.sym _ _ (by simp[zJ]) (by rw[A];rfl)) (.sym _ (QX _)) S ?_ ?_ ?_
 .intro j vi h;rw[Vecs.qh]at h;split at h
  .rename_i e;subst e;cases h;refine .inr ⟨QX _,?_,λR i2 M e=>(by cases e;omega),λc=>(by cases c)⟩
   intro sz es z;rw[Vecs.qh,if_neg (by omega),y]at z
   cases z;exact⟨Y,b0,C,by simp[zJ,A]⟩
  .by_cases c:vi.qA=true/\∃b o,xb=some (b,o)/\β j=some b
   .obtain⟨c,b,o,e,g⟩:=c;refine .inr ⟨Nat.lt_succ_of_lt (s.qT j vi h).1,?_,λR i off e=>(by subst e;cases c),λ_ W f=>?_⟩
    .have:=l j vi b o h c e g;cases vi with
     |qU=>cases c
     |_=>exact this
    .rw[g]at f;cases f;have h1:=O.vt.nz _ (t b o e).1;rw[O.w5 b o e]at h1;exact⟨h1,B b o e,.inl ⟨b,o,e,rfl⟩⟩
   .exact .inl ⟨h,λD=>⟨rfl,λb o e g=>c ⟨D,b,o,e,g⟩⟩⟩
 .intro j F vi r h1 U N J X h6;have key:∀j vi,Vecs.get ((st.mv,VI.qU q i off)::st.V) j=some vi->vi.qA=true->¬(st.V.get j=some vi/\β j=β j/\∀b o,xb=some (b,o)->β j≠some b)->st.V.get j=some vi/\∃b o,xb=some (b,o)/\β j=some b:=by
   intro j vi h c hn;rw[Vecs.qh]at h;split at h
   .cases h;cases c
   .refine⟨h,Classical.byContradiction λhc=>hn ⟨h,rfl,λb o e g=>hc ⟨b,o,e,g⟩⟩⟩
  obtain⟨g1,b,o,e,g⟩:=key j vi h1 N X;obtain⟨g2,W,o',L,f⟩:=key F r U J h6;rw[e]at L;cases L;exact s.qS j F vi r b g1 g2 N J g f
 .intro R sz es T h;rw[Vecs.qh,if_neg (by omega)]at h
  exact⟨rfl,es,h,rfl⟩
theorem OutW.replace(s:SR G nt E w a β st){b0:Nat}{A:HO}{E':Env}{w':World}{H':Heap}{v:AV}{cv:Value}(O:OutW G E w st (some (b0,A)) E' w' H' v cv){c:Nat}{g vi1:VI}(l:st.V.get c=some g)(q:g.qA=true)(p:β c=some b0)
  (I:vi1.qA=true) (u:VOK (zJ E E' st.mv undef) w' ((c,vi1)::st.V.del c) β c vi1) {W:HO} (z:(st.m,W)∈H') (x:∀sz es,vi1=.vec sz es->∃r,g=.vec sz r/\r.length=es.length) (J:PP v) {d:Option Nat} (L:∀n,d=some n->n<nt):
  SR G nt (zJ E E' st.mv undef) w' (a.put d cv) β ⟨qu st.fr d v,st.H,(c,vi1)::st.V.del c,st.m,st.mv⟩/\Kp E.Z (BS E β st.H st.V) w (zJ E E' st.mv undef).Z (BS (zJ E E' st.mv undef) β st.H ((c,vi1)::st.V.del c)) w':=by
 have C:=s.bz c g b0 l q p;refine O.sr s (λb o e=>(by cases e;exact⟨c,g,l,q,p⟩)) undef _ st.mv β (QA _) (O.hv.bk J) J.cp L ?_ ?_ ?_
 .intro j t h;rw[Vecs.qh]at h;split at h
  .rename_i e;subst e;cases h;refine .inr ⟨(s.qT _ _ l).1,u,λj2 i off e=>(by subst e;cases I),λ_ b' y=>?_⟩
   rw[p]at y;cases y;have h1:=O.vt.nz _ z;rw[O.w5 b0 A rfl]at h1;exact⟨h1,C.2,.inl ⟨b0,A,rfl,rfl⟩⟩
  .rename_i f;rw[Vecs.qO,if_neg f]at h;refine .inl ⟨h,λF=>⟨rfl,λb o e B=>?_⟩⟩
   cases e;exact f (s.qS c j g t b0 l h q F p B)
 .intro j M t D h1 R X S T h6;have key:∀j t,Vecs.get ((c,vi1)::st.V.del c) j=some t->t.qA=true->¬(st.V.get j=some t/\β j=β j/\∀b o,(some (b0,A):XB)=some (b,o)->β j≠some b)->j=c:=by
   intro j t h F Y;rw[Vecs.qh]at h;split at h
   .rename_i e;exact e.symm
   .rename_i f;rw[Vecs.qO,if_neg f]at h;refine absurd ⟨h,rfl,λb o e B=>?_⟩ Y
    cases e;exact f (s.qS c j g t b0 l h q F p B)
  rw[key j t h1 X T,key M D R S h6]
 .intro j2 sz es N h;rw[Vecs.qh]at h;split at h
  .rename_i e;subst e;cases h;obtain⟨r,e1,U⟩:=x sz es rfl;exact⟨rfl,r,by rw[l,e1],U⟩
  .rename_i f;rw[Vecs.qO,if_neg f]at h;exact⟨rfl,es,h,rfl⟩
end
section
variable{P:Program}{G:Cx}{nt:Nat}{E:Env}{w:World}{a:Act}{β:Nat->Option Nat}{st:Sta}
 {Z0 B0:Nat->Prop} {w0:World} {dl:List Deferred} {o:Oper} {k:AV->Sta->Prop}
theorem zIz{H:Heap}{h:Nat}{o:HO}:Heap.get ((h,o)::H) h=some o:=by simp only[Heap.get,Nat.beq_refl]
theorem zD2{n k:Nat}{e:AV}(d:e.flat=true)(h:∀c∈e.cells,CP n k c):CP n k e:=by
 cases e with
 |agg cs=>exact .agg _ h
 |qc cs=>cases d
 |_=>exact h _ (.head _)
theorem zS3{e:AV}(d:e.flat=true)(h:∀c∈e.cells,PP c):PP e:=by
 cases e with
 |agg cs=>exact .agg _ h
 |qc cs=>cases d
 |_=>exact h _ (.head _)
structure Ctx(P:Program)(G:Cx)(nt:Nat)(Z0 B0:Nat->Prop)(w0:World)(dl:List Deferred)(E:Env)(w:World)(a:Act)(β:Nat->Option Nat)(st:Sta)(o:Oper)(xop:XO):Prop where
 s:SR G nt E w a β st
 kp:Kp Z0 B0 w0 E.Z (BS E β st.H st.V) w
 df:a.defers=dl
 hG:GPP G
 hm:zCa P G
 hc:zDf P o.op=some xop
 hd:∀n,o.dst=some n->n<nt
 ok:zy xop=true
theorem zaa{E2:Env}{c:World}{β2:Nat->Option Nat}{st2:Sta}{d:Option Nat}{cv:Value}(h:SR G nt E2 c (a.put d cv) β2 st2/\Kp E.Z (BS E β st.H st.V) w E2.Z (BS E2 β2 st2.H st2.V) c)(f:Kp Z0 B0 w0 E.Z (BS E β st.H st.V) w)(e:a.defers=dl):Rs G nt Z0 B0 w0 dl E2 c (a.put d cv) st2:=
 ⟨β2,h.1,f.trans h.2,by rw[DRun.put_defers];exact e⟩
theorem Ctx.gen{f:XO}(c:Ctx P G nt Z0 B0 w0 dl E w a β st o f){call:Sy.Call}(d:zIb P G call){v:AV}{H':Heap}{e:Nat}(hx:xoS G call st.fr st.H st.m f=some (v,H',e))(i:CP st.mv e v)(g:HCP st.mv e H')(hk:k v ⟨st.fr,H',st.V,e,st.mv⟩):
  OpK P G nt Z0 B0 w0 dl o w a k:=by
 intro next Q t;refine zJI c.s.hr c.s.hf c.s.hg c.hm d c.hc (λh h1 l q=>by have:=c.s.qz h q;omega) hx next Q λp E' w' h1 l r=>?_
 exact t v _ p E' w' hk (zaa (st:=st) (st2:=⟨qu st.fr o.dst v,H',st.V,e,st.mv⟩) (c.s.step h1 l r i g c.hd) c.kp c.df)
theorem Ctx.wA{d:XO}(c:Ctx P G nt Z0 B0 w0 dl E w a β st o d)(e:zPg d=true)(h:WXd st (xoS G zj st.fr st.H st.m d) k):OpK P G nt Z0 B0 w0 dl o w a k:=by
 unfold WXd at h;split at h
 .rename_i v i l f;obtain⟨h1,g⟩:=zRi e c.ok c.hG c.s.qW c.s.cH f;exact c.gen zHD f h1 g h
 .exact h.elim
theorem Ctx.val{d:XO}(c:Ctx P G nt Z0 B0 w0 dl E w a β st o d){v:AV}(hx:xoS G zj st.fr st.H st.m d=some (v,st.H,st.m))(e:CP st.mv st.m v)(hk:k v st):OpK P G nt Z0 B0 w0 dl o w a k:=
 c.gen zHD hx e c.s.cH hk
theorem Ctx.ext{d:XO}(c:Ctx P G nt Z0 B0 w0 dl E w a β st o d){xb:XB}(g:∀b o,xb=some (b,o)->OR E w b o/\¬E.Z b/\∀p∈st.H,E.ρ p.1≠b){fr':Fr}(e:FrR (zB3 E st.m xb) w fr' a nt)
  {v:AV} {H':Heap} {n':Nat} (hx:xoS G zj fr' (extH st.H st.m xb) (zJU st.m xb) d=some (v,H',n')) (hH:∀p∈st.H,p∈H') {v2:AV} {H2:Heap} {V2:Vecs} {m2 mv2:Nat}
  (i:∀cv E' w',OutW G E w st xb E' w' H' v cv->∃E2 β2,SR G nt E2 w' (a.put o.dst cv) β2 ⟨qu st.fr o.dst v2,H2,V2,m2,mv2⟩/\Kp E.Z (BS E β st.H st.V) w E2.Z (BS E2 β2 H2 V2) w') (hk:k v2 ⟨st.fr,H2,V2,m2,mv2⟩):OpK P G nt Z0 B0 w0 dl o w a k:=by
 intro next Q f;refine zbk c.s c.hG c.hm g e c.hc hx hH next Q λcv E' w' O=>?_
 obtain⟨E2,β2,h⟩:=i cv E' w' O;exact f v2 _ cv E2 w' hk (zaa (st:=st) (st2:=⟨qu st.fr o.dst v2,H2,V2,m2,mv2⟩) h c.kp c.df)
theorem zDT(s:SR G nt E w a β st){t j:Nat}(c:st.fr.get t=some (.sym j)){xb:XB}{X:AV}(d:VR (zB3 E st.m xb) w X (E.σ j)):FrR (zB3 E st.m xb) w (st.fr.put t X) a nt:=
 s.hf.uU (zMc s) (by rw[(s.hf.get t _ c).vF];exact d)
structure VecIn(E:Env)(w:World)(st:Sta)(β:Nat->Option Nat)(j sz:Nat)(es:JE)(b:Nat)(str:Bool)(cs:JE)(cp:Nat)(ex:Bool):Prop where
 hb:β j=some b
 um:OR E w b (.cells str cs)
 row:zJj w b es.length sz cp ex (E.σ j)
 pc:∀c∈cs,PP c
 hl:es.length*sz<=cs.length
 ud:flatten sz es=some (cs.take (es.length*sz))
theorem zIf(s:SR G nt E w a β st){j sz:Nat}{es:JE}(h:st.V.get j=some (.vec sz es)):(∀e∈es,PP e)/\((β j=none/\E.σ j=.slice none 0 0/\es=[])\/∃b str cs cp ex,VecIn E w st β j sz es b str cs cp ex):=by
 obtain⟨h1,c⟩:=(s.qT j _ h).2;refine⟨h1,c.imp id ?_⟩
 rintro ⟨b,str,cs,cp,ex,q1,q2,q3,q4,q5,q6⟩
 exact⟨b,str,cs,cp,ex,q1,q2,q3,q4,q5,q6⟩
section
variable{j sz b cp:Nat}{es cs:JE}{str ex:Bool}
theorem VecIn.xb(s:SR G nt E w a β st)(h:st.V.get j=some (.vec sz es))(v:VecIn E w st β j sz es b str cs cp ex):∀c o',(some (b,HO.cells str cs):XB)=some (c,o')->OR E w c o'/\¬E.Z c/\∀p∈st.H,E.ρ p.1≠c:=by
 intro c o' e;cases e;have:=s.bz j _ b h rfl v.hb;exact⟨v.um,this.1,this.2⟩
theorem VecIn.uB(h:st.V.get j=some (.vec sz es))(v:VecIn E w st β j sz es b str cs cp ex):∀c o',(some (b,HO.cells str cs):XB)=some (c,o')->∃j vi,st.V.get j=some vi/\vi.qA=true/\β j=some c:=by
 intro c o' e;cases e;exact⟨j,_,h,rfl,v.hb⟩
theorem VecIn.vr(v:VecIn E w st β j sz es b str cs cp ex):VR (zB3 E st.m (some (b,.cells str cs))) w (.row st.m 0 es.length sz cp ex) (E.σ j):=
 v.row.vr (by simp[zB3]) (.inr rfl)
theorem VecIn.self(s:SR G nt E w a β st)(g:∀e∈es,PP e)(h:st.V.get j=some (.vec sz es))(v:VecIn E w st β j sz es b str cs cp ex){E':Env}{w':World}{H':Heap}{u:AV}{cv:Value}(O:OutW G E w st (some (b,.cells str cs)) E' w' H' u cv)(d:(st.m,HO.cells str cs)∈H')(x:Value):
  ∀c vi f o',st.V.get c=some vi->vi.qA=true->(some (b,HO.cells str cs):XB)=some (f,o')->β c=some f->VOK (zJ E E' st.mv x) w' st.V β c vi:=by
 intro c vi f o' h1 l e o;cases e;have:=s.qS j c _ _ b h h1 rfl l v.hb o;subst this;rw[h]at h1;cases h1;have i:=O.vt.obj _ d;rw[O.w5 b _ rfl]at i;have p:j≠st.mv:=by have:=(s.qT j _ h).1;omega
 refine⟨g,.inr ⟨b,str,cs,cp,ex,v.hb,i.bk v.pc,?_,v.pc,v.hl,v.ud⟩⟩
 have:(zJ E E' st.mv x).σ j=E.σ j:=by simp[zJ,p]
 rw[this];exact v.row.mono O.qn
theorem VecIn.bz(s:SR G nt E w a β st)(h:st.V.get j=some (.vec sz es))(v:VecIn E w st β j sz es b str cs cp ex):∀c o',(some (b,HO.cells str cs):XB)=some (c,o')->∀p∈st.H,E.ρ p.1≠c:=λc o' e=>(v.xb s h c o' e).2.2
end
theorem zfN{x:XV}(c:Ctx P G nt Z0 B0 w0 dl E w a β st o (.wj x)){j sz:Nat}{es:JE}(hx:x.ev G st.fr=some (.sym j))(d:st.V.get j=some (.vec sz es))(hk:k (.int .i64 (.ofNat es.length)) st):OpK P G nt Z0 B0 w0 dl o w a k:=by
 have g:zG x=true:=by have:=c.ok;simp only[zy,XO.qb,zAm,QV,Qb,List.all_nil]at this;exact this
 obtain⟨t,rfl,i⟩:=zKw c.hG g hx;obtain⟨h,⟨h1,l,rfl⟩|⟨b,str,cs,cp,ex,v⟩⟩:=zIf c.s d
 .refine c.ext (xb:=none) (λb o e=>by cases e) (zDT c.s i (X:=.qa) (xb:=none) (by rw[l];exact .qa)) (v:=.int .i64 (.ofNat 0)) (H':=st.H) (n':=st.m) (by simp only[xoS,zAX];rfl) (λp f=>f) (λr E' w' O=>⟨_,_,O.wZ c.s (λb o e=>by cases e) (λ_ _ _ _ _ _ e=>by cases e) (λb o e=>by cases e) (.int _ _) c.hd⟩) hk
 .refine c.ext (v.xb c.s d) (zDT c.s i v.vr) (v:=.int .i64 (.ofNat es.length)) (H':=(st.m,.cells str cs)::st.H) (n':=st.m+1) (by simp only[xoS,zAX];rfl) (λp f=>.tail _ f) (λr E' w' O=>⟨_,_,O.wZ c.s (λq u e=>⟨by cases e;exact .head _,v.uB d q u e⟩) (v.self c.s h d O (.head _) undef) (v.bz c.s d) (.int _ _) c.hd⟩) hk
theorem zcJ{x i:XV}{sz:Nat}(c:Ctx P G nt Z0 B0 w0 dl E w a β st o (.qC x i sz)){j:Nat}{es:JE}(hx:x.ev G st.fr=some (.sym j))(f:st.V.get j=some (.vec sz es)){kd:IntKind}{n:Int}(F:i.ev G st.fr=some (.int kd n))(A:0<=n)(h1:n<.ofNat es.length)
  (hk:k (.sym st.mv) ⟨st.fr,st.H,(st.mv,.qU j n.toNat 0)::st.V,st.m,st.mv+1⟩):OpK P G nt Z0 B0 w0 dl o w a k:=by
 have h:zG x=true:=by have:=c.ok;simp only[zy,XO.qb,zAm,QV,List.all_append,Qb,List.all_nil,qr]at this;exact this.1
 obtain⟨t,rfl,q⟩:=zKw c.hG h hx;obtain⟨m,rfl⟩:=Int.eq_ofNat_of_zero_le A;have d:m<es.length:=by have h1:(m:Int)<(es.length:Int):=h1;omega
 rw[Int.toNat_natCast]at hk;obtain⟨l,⟨_,_,rfl⟩|⟨b,str,cs,cp,ex,v⟩⟩:=zIf c.s f
 .simp at d
 .have g:=zIe (X:=.row st.m 0 es.length sz cp ex) F q (by simp)
  refine c.ext (v.xb c.s f) (zDT c.s q v.vr) (v:=.ptr st.m (0+m*sz)) (H':=(st.m,.cells str cs)::st.H) (n':=st.m+1) ?_ (λp B=>.tail _ B) (v2:=.sym st.mv) (λz E' w' O=>⟨_,_,O.uh c.s (λu D e=>⟨by cases e;exact .head _,v.uB f u D e⟩) (v.self c.s l f O (.head _) z) (v.bz c.s f) f d v.hb ?_ c.hd⟩) hk
  .have y:Nat.blt m es.length=true:=by rw[Ql];exact d
   have:zHS es.length (.int kd (m:Int))=some m:=by
    show(match Nat.blt m es.length with|true=>some m|false=>none)=some m
    rw[y]
   simp only[xoS,zAX,g,Nat.beq_refl,this];rfl
  .have r:=O.hv;have C:=O.w5 b _ rfl;cases r with
   |ptr _ _ I=>rw[C];simp
theorem zXq(c:SR G nt E w a β st){p j i off sz:Nat}{es:JE}(g:st.V.get p=some (.qU j i off))(e:st.V.get j=some (.vec sz es)):∃b str cs cp ex,i<es.length/\E.σ p=.pointer (some ⟨b,i*sz+off,none⟩)/\VecIn E w st β j sz es b str cs cp ex:=by
 obtain⟨h1,b,d,h⟩:=(c.qT p _ g).2 sz es e;obtain⟨l,⟨f,_,_⟩|⟨o,str,cs,cp,ex,v⟩⟩:=zIf c e
 .rw[f]at d;cases d
 .have:=v.hb;rw[d]at this;cases this;exact⟨b,str,cs,cp,ex,h1,h,v⟩
theorem zXr{b off:Nat}{ho:HO}{cv:Value}(h:cv=.pointer (some ⟨b,off,none⟩)):VR (zB3 E st.m (some (b,ho))) w (.ptr st.m off) cv:=by
 subst h;have:=VR.ptr (E:=zB3 E st.m (some (b,ho))) (w:=w) st.m off (.inr rfl)
 simpa[zB3]using this
theorem zfO{x:XV}{s:Nat}{z:Bool}(c:Ctx P G nt Z0 B0 w0 dl E w a β st o (.load x s z)){p j i off sz:Nat}{es:JE}(hx:x.ev G st.fr=some (.sym p))(r:st.V.get p=some (.qU j i off))(g:st.V.get j=some (.vec sz es)){v:AV}
  (l:ldE es i off s z=some v) (hk:k v st):OpK P G nt Z0 B0 w0 dl o w a k:=by
 have u:zG x=true:=by have:=c.ok;simp only[zy,XO.qb,zAm,QV,Qb,List.all_nil]at this;exact this
 obtain⟨t,rfl,B⟩:=zKw c.hG u hx;obtain⟨b,str,cs,cp,ex,I,D,f⟩:=zXq c.s r g;have h:=(zIf c.s g).1;unfold ldE at l;split at l
 rotate_left
 .cases l
 rename_i e y;have d:=zes f.ud rfl f.hl y l;have q:PP v:=zVj (h e (QE y)).cells l;refine c.ext (f.xb c.s g) (zDT c.s B (X:=.ptr st.m (i*sz+off)) (zXr D)) (v:=v) (H':=(st.m,.cells str cs)::st.H) (n':=st.m+1) ?_ (λp r=>.tail _ r) (λF E' w' O=>⟨_,_,O.wZ c.s (λA C e=>⟨by cases e;exact .head _,f.uB g A C e⟩) (f.self c.s h g O (.head _) undef) (f.bz c.s g) q c.hd⟩) hk
 simp only[xoS,zAX,zHh,extH,zIz,d,zJU]
theorem zet{x:XV}{f:Nat}(c:Ctx P G nt Z0 B0 w0 dl E w a β st o (.qR x f)){p j i off sz:Nat}{es:JE}(hx:x.ev G st.fr=some (.sym p))(h:st.V.get p=some (.qU j i off))(d:st.V.get j=some (.vec sz es))
  (hk:k (.sym st.mv) ⟨st.fr,st.H,(st.mv,.qU j i (off+f))::st.V,st.m,st.mv+1⟩):OpK P G nt Z0 B0 w0 dl o w a k:=by
 have l:zG x=true:=by have:=c.ok;simp only[zy,XO.qb,zAm,QV,Qb,List.all_nil]at this;exact this
 obtain⟨t,rfl,y⟩:=zKw c.hG l hx;obtain⟨b,str,cs,cp,ex,B,D,g⟩:=zXq c.s h d;have q:=(zIf c.s d).1;refine c.ext (g.xb c.s d) (zDT c.s y (X:=.ptr st.m (i*sz+off)) (zXr D)) (v:=.ptr st.m (i*sz+off+f)) (H':=(st.m,.cells str cs)::st.H) (n':=st.m+1) ?_ (λp h=>.tail _ h) (v2:=.sym st.mv) (λz E' w' O=>⟨_,_,O.uh c.s (λu C e=>⟨by cases e;exact .head _,g.uB d u C e⟩) (g.self c.s q d O (.head _) z) (g.bz c.s d) d B g.hb ?_ c.hd⟩) hk
 .simp only[xoS,zAX];rfl
 .have r:=O.hv;have A:=O.w5 b _ rfl;cases r with
  |ptr _ _ F=>rw[A,Nat.add_assoc]
theorem zeu{x y:XV}{sz:Nat}(c:Ctx P G nt Z0 B0 w0 dl E w a β st o (.store x y sz)){p j i:Nat}{es:JE}(hx:x.ev G st.fr=some (.sym p))(z:st.V.get p=some (.qU j i 0))(r:st.V.get j=some (.vec sz es)){v:AV}{new:JE}
  (W:y.ev G st.fr=some v) (f:PP v) (C:cellsOf v sz=some new) (hk:k (.qc []) ⟨st.fr,st.H,(j,.vec sz (es.set i v))::st.V.del j,st.m,st.mv⟩):OpK P G nt Z0 B0 w0 dl o w a k:=by
 have D:zG x=true:=by have:=c.ok;simp only[zy,XO.qb,zAm,QV,List.all_append,Qb,List.all_nil,qr]at this;exact this.1
 obtain⟨t,rfl,N⟩:=zKw c.hG D hx;obtain⟨b,str,cs,cp,ex,R,I,d⟩:=zXq c.s z r;have F:=(zIf c.s r).1;have I:E.σ p=.pointer (some ⟨b,i*sz,none⟩):=I;have B:=zIe (X:=.ptr st.m (i*sz)) W N (by intro e;rw[e]at f;cases f)
 obtain⟨U,A,_⟩:=z6 C;have M:i*sz+sz<=es.length*sz:=by rw[←Nat.succ_mul];exact Nat.mul_le_mul_right _ R
 have l:(qi cs (i*sz) new).length=cs.length:=by
  have:=d.hl;simp only[qi,QC,Qh,Qp];omega
 have g:flatten sz (es.set i v)=some ((qi cs (i*sz) new).take (es.length*sz)):=by
  rw[zS1 C d.ud R];congr 1;have:=d.hl;simp only[qi];rw[List.take_append,List.take_append,List.take_take,List.drop_take];simp only[QC,Qh,List.take_take];congr 1
  .congr 1
   .congr 1;omega
   .rw[List.take_of_length_le (by omega)]
  .congr 1;omega
 have q:∀c∈qi cs (i*sz) new,PP c:=λc hc=>(zM7 hc).elim (d.pc c) λh=>by rw[←A]at h;exact f.cells c h
 have u:∀e∈es.set i v,PP e:=λe J=>(List.mem_or_eq_of_mem_set J).elim (F e) λh=>h▸f
 refine c.ext (d.xb c.s r) (zDT c.s N (X:=.ptr st.m (i*sz)) (zXr I)) (v:=.qc []) (H':=(st.m,.cells str (qi cs (i*sz) new))::st.H) (n':=st.m+1) ?_ (λp z=>.tail _ z) (λcv E' w' O=>⟨_,_,O.replace c.s r rfl d.hb (vi1:=.vec sz (es.set i v)) rfl ?_ (.head _) (λY T e=>by cases e;exact⟨es,rfl,by simp⟩) (.qc _ λe J=>by cases J) c.hd⟩) hk
 .have L:Nat.ble (i*sz+sz) cs.length=true:=by rw[Qt];have:=d.hl;omega
  simp only[xoS,zAX,B,extH,zIz,C,L,Heap.put,Nat.beq_refl,zJU]
 .have S:=O.vt.obj _ (.head _);rw[O.w5 b _ rfl]at S;have hj:j≠st.mv:=by have:=(c.s.qT j _ r).1;omega
  refine⟨u,.inr ⟨b,str,_,cp,ex,d.hb,S.bk q,?_,q,by rw[List.length_set,l];exact d.hl,by rw[List.length_set];exact g⟩⟩
  have:(zJ E E' st.mv undef).σ j=E.σ j:=by simp[zJ,hj]
  rw[this,List.length_set];exact d.row.mono O.qn
theorem zIA{sz:Nat}{es f:JE}(h:flatten sz es=some f)(i:∀e∈es,PP e):∀c∈f,PP c:=by
 induction es generalizing f with
 |nil=>cases h;intro c hc;cases hc
 |cons e r p=>
  simp only[flatten]at h;split at h
  .rename_i c hc;split at h
   .rename_i cs g;cases h;intro x d;rcases QK.1 d with d|d
    .obtain⟨_,l,_⟩:=z6 hc;rw[←l]at d;exact(i e (.head _)).cells x d
    .exact p g (λe o=>i e (.tail _ o)) x d
   .cases h
  .cases h
theorem Ctx.uy{d:XO}(c:Ctx P G nt Z0 B0 w0 dl E w a β st o d){sz cp:Nat}{str ex:Bool}{cs es:JE}(hx:xoS G zj st.fr st.H st.m d=some (.row st.m 0 es.length sz cp ex,(st.m,.cells str cs)::st.H,st.m+1))(l:∀e∈es,PP e)(i:∀c∈cs,PP c)(q:es.length*sz<=cs.length)(g:flatten sz es=some (cs.take (es.length*sz)))
  (hk:k (.sym st.mv) ⟨st.fr,st.H,(st.mv,.vec sz es)::st.V,st.m,st.mv+1⟩):OpK P G nt Z0 B0 w0 dl o w a k:=by
 refine c.ext (xb:=none) (λb o e=>by cases e) c.s.hf hx (λp f=>.tail _ f) (λt E' w' O=>?_) hk
 obtain⟨x,r,h⟩:=O.w4 c.s (λb o e=>by cases e) (V0:=st.V) (λj u h=>⟨h,λ_ b o e=>by cases e⟩) (.head _) (λp f=>⟨.tail _ f,λe=>by have:=c.s.qz p.1 (c.s.hr.qz p f);omega⟩) rfl l i q g c.hd
 exact⟨_,r,h⟩
theorem zgv{x:XV}(c:Ctx P G nt Z0 B0 w0 dl E w a β st o (.vB x)){s:JV}(hx:x.ev G st.fr=some (.str s))(hk:k (.sym st.mv) ⟨st.fr,st.H,(st.mv,.vec 1 (s.map λb=>.int .u8 (.ofNat b)))::st.V,st.m,st.mv+1⟩):OpK P G nt Z0 B0 w0 dl o w a k:=by
 have d:∀e∈s.map λb=>AV.int .u8 (.ofNat b),PP e:=λe f=>by
  obtain⟨b,_,rfl⟩:=Qg.1 f;exact .int _ _
 refine c.uy (sz:=1) (cp:=s.length) (str:=true) (ex:=false) (cs:=s.map λb=>.int .u8 (.ofNat b)) ?_ d d (by simp) ?_ hk
 .simp only[xoS,hx,QG]
 .rw[zJy,List.take_of_length_le (by simp)]
theorem zXs{len sz:Nat}{z:JE}{r:List (Nat×Nat×XV)}(c:Ctx P G nt Z0 B0 w0 dl E w a β st o (.qx len sz z r)){cs es:JE}(u:zCs G st.fr z r=some cs)(t:cs.length=len*sz)(I:zE7 sz len cs=some es)(D:es.all (ppS 12)=true)
  (hk:k (.sym st.mv) ⟨st.fr,st.H,(st.mv,.vec sz es)::st.V,st.m,st.mv+1⟩):OpK P G nt Z0 B0 w0 dl o w a k:=by
 obtain⟨h1,p,N,A,h⟩:=zAQ I;have f:=c.ok;simp only[zy,XO.qb,qr]at f;have C:z.all (zBp 12)=true:=f.2;have l:∀q∈cs,CP st.mv st.m q:=zLs c.hG c.s.qW (by simpa[List.all_map]using f.1) (λq hc=>(zCb 12 (QD.1 C q hc)).cp) u
 have g:∀e∈es,PP e:=by
  intro e y;obtain⟨i,J⟩:=List.getElem?_of_mem y;obtain⟨q1,L⟩:=zAo h;obtain⟨M,F,B⟩:=z6 (L i e J);refine zEH (n:=st.mv) (k:=st.m) 12 (zD2 B λx v=>l x ?_) (QD.1 D e y)
  rw[F]at v;exact QT (Qc (QT v))
 have d:cs.take (len*sz)=cs:=List.take_of_length_le (by omega)
 refine c.uy (sz:=sz) (cp:=len) (str:=false) (ex:=true) (cs:=cs) ?_ g ?_ (by rw[p];exact A) (by rw[p];exact h) hk
 .simp only[xoS,u,p]
 .rw[d]at h;exact zIA h g
theorem zbl{l s:XV}{sz bytes:Nat}{z:JE}(c:Ctx P G nt Z0 B0 w0 dl E w a β st o (.qL l s sz bytes z)){y F:IntKind}{n m:Int}{e:AV}(M:l.ev G st.fr=some (.int y n))(p:s.ev G st.fr=some (.int F m))(N:zE7 sz 1 z=some [e])(C:z.length=sz)
  (B:0<=n) (h1:n<=m) (A:m.toNat*bytes<=zg) (D:m.toNat<=zg) (hk:k (.sym st.mv) ⟨st.fr,st.H,(st.mv,.vec sz (List.replicate n.toNat e))::st.V,st.m,st.mv+1⟩):OpK P G nt Z0 B0 w0 dl o w a k:=by
 obtain⟨n,rfl⟩:=Int.eq_ofNat_of_zero_le B;obtain⟨m,rfl⟩:=Int.eq_ofNat_of_zero_le (Int.le_trans B h1);rw[Int.toNat_natCast]at A D hk;have h1:n<=m:=by omega
 obtain⟨q1,W,T,U,L⟩:=zAQ N;have f:=c.ok;simp only[zy,XO.qb,qr]at f;have t:z.all (zBp 12)=true:=f.2;have h:∀d∈z,PP d:=λd hc=>zCb 12 (QD.1 t d hc)
 have i:cellsOf e sz=some z:=by
  have:=(zAo L).2 0 e rfl;rw[this,Nat.zero_mul,List.drop_zero,List.take_take,Nat.one_mul,Nat.min_self,List.take_of_length_le (by omega)]
 have q:PP e:=by
  obtain⟨_,J,S⟩:=z6 i;exact zS3 S λx v=>h x (by rw[←J];exact v)
 have g:∀d∈rep m z,PP d:=by
  have:∀m,∀d∈rep m z,PP d:=by
   intro m
   induction m with
   |zero=>intro d hc;cases hc
   |succ m R=>intro d hc;exact(QK.1 hc).elim (h d) (R d)
  exact this m
 refine c.uy (sz:=sz) (cp:=m) (str:=false) (ex:=true) (cs:=rep m z) ?_ (λx v=>by rw[(List.mem_replicate.1 v).2];exact q) g ?_ ?_ hk
 .have I:Nat.ble n m=true:=by rw[Qt];exact h1
  have O:Nat.ble (m*bytes) zg=true:=by rw[Qt];exact A
  have b3:Nat.ble m zg=true:=by rw[Qt];exact D
  have u:l.ev G st.fr=some (.int y (.ofNat n)):=M;have r:s.ev G st.fr=some (.int F (.ofNat m)):=p;simp only[xoS,u,r,I,O,b3,List.length_replicate]
 .rw[List.length_replicate,zUk,C];exact Nat.mul_le_mul_right _ h1
 .rw[zMV i,List.length_replicate,←C,zXp z h1]
theorem zev(c:Ctx P G nt Z0 B0 w0 dl E w a β st o .wm)(hk:k (.sym st.mv) ⟨st.fr,st.H,(st.mv,.mp [])::st.V,st.m,st.mv+1⟩):OpK P G nt Z0 B0 w0 dl o w a k:=by
 refine c.ext (xb:=none) (λb o e=>by cases e) c.s.hf (v:=.map st.m) (H':=(st.m,.map [])::st.H) (n':=st.m+1) rfl (λp f=>.tail _ f) (v2:=.sym st.mv) (λz E' w' O=>?_) hk
 have g:∀j d,st.V.get j=some d->j≠st.mv:=λj d h=>by have:=(c.s.qT j d h).1;omega
 have t:z=.map (some (E'.ρ st.m)):=by cases O.hv;rfl
 have l:∀p∈st.H,p.1≠st.m:=λp f e=>by have:=c.s.qz p.1 (c.s.hr.qz p f);omega
 refine⟨_,λj=>if j=st.mv then some (E'.ρ st.m)else β j,O.sr c.s (λb o e=>by cases e) z _ (st.mv+1) _ (Qd _) (.sym _ _ (by simp[zJ]) (by rw[t];rfl)) (.sym _ (QX _)) c.hd ?_ ?_ ?_⟩
 .intro j d h;rw[Vecs.qh]at h;split at h
  .rename_i e;subst e;cases h;refine .inr ⟨QX _,⟨λp f=>(by cases f),E'.ρ st.m,by simp,(O.vt.obj _ (.head _)).uX (λp f=>by cases f),by simp[zJ,t]⟩,λB i off e=>(by cases e),λ_ M r=>?_⟩
   simp only[if_true,QN]at r;subst r;refine⟨O.vt.nz _ (.head _),λp f e=>?_,?_⟩
   .rw[←O.agree p.1 (c.s.hr.qz p f)]at e;exact l p f (O.vt.inj p (.tail _ f) _ (.head _) e)
   .rcases O.own _ (.head _)with⟨q,u,e⟩|h|h
    .exfalso
     rw[←O.agree q.1 (c.s.hr.qz q u)]at e;exact l q u (O.vt.inj q (.tail _ u) _ (.head _) e)
    .exact .inl h
    .exact .inr h
  .exact .inl ⟨h,λR=>⟨by simp[g j d h],λb o e=>(by cases e)⟩⟩
 .intro j C d x h1 D S N F L;have key:∀j d,Vecs.get ((st.mv,VI.mp [])::st.V) j=some d->¬(st.V.get j=some d/\(if j=st.mv then some (E'.ρ st.m)else β j)=β j/\∀b o,(none:XB)=some (b,o)->β j≠some b)->j=st.mv:=by
   intro j d h J;rw[Vecs.qh]at h;split at h
   .rename_i e;exact e.symm
   .exact absurd ⟨h,by simp[g j d h],λb o e=>by cases e⟩ J
  rw[key j d h1 F,key C x D L]
 .intro B I y A h;rw[Vecs.qh,if_neg (by omega)]at h
  exact⟨by simp[show B≠st.mv by omega],y,h,rfl⟩
end
section
variable{P:Program}{G:Cx}{nt:Nat}{E:Env}{w:World}{a:Act}{β:Nat->Option Nat}{st:Sta}
 {Z0 B0:Nat->Prop} {w0:World} {dl:List Deferred} {o:Oper} {k:AV->Sta->Prop}
theorem zYK{n m sz:Nat}{H:Heap}{o:HO}{u:AV}(c:CP n m u):content ((m,o)::H) sz u=content H sz u:=by
 cases c with
 |row h _ _ _ _ _ hk=>
  have:Nat.beq m h=false:=by
   cases hb:Nat.beq m h with
   |false=>rfl
   |true=>have:=zc hb;omega
  simp only[content,Heap.get,this]
 |_=>rfl
theorem zYL{cs c:JE}{n:Nat}(h:n<=cs.length):(qi cs n c).take (n+c.length)=cs.take n++c:=by
 unfold qi;rw[List.take_append_of_le_length (by simp;omega),List.take_of_length_le (by simp;omega)]
theorem zab{cs c:JE}{n:Nat}(h:n<=cs.length):n+c.length<=(qi cs n c).length:=by
 simp only[qi,QC,Qh,Qp];omega
theorem zV1{x y:XV}{sz bytes:Nat}(c:Ctx P G nt Z0 B0 w0 dl E w a β st o (.append x y sz bytes)){u:AV}{l:JE}(L:zRg y=false)(A:y.ev G st.fr=some u)(d:zEa st.H sz u=some l)(f:(zSc u||ppS 12 (.agg l))=true):
  ∃q,flatten sz l=some q/\content st.H sz u=some (l.length,q)/\q.length=l.length*sz/\(∀e∈l,PP e)/\CP st.mv st.m u:=by
 have B:zG x=true/\zG y=true:=by have:=c.ok;simp only[zy,XO.qb,zAm,QV,List.all_append,Qb,List.all_nil,qr]at this;exact this
 have r:CP st.mv st.m u:=zAc c.hG c.s.qW B.2 A;obtain⟨q,C,v,F⟩:∃q,flatten sz l=some q/\content st.H sz u=some (l.length,q)/\q.length=l.length*sz:=by
  cases y with
  |t n=>exact zQJ (c.s.hf.get n u A) d
  |g n=>exact zQJ (c.s.hg n u A).1 d
  |c M=>
   have A:M=u:=by simpa[XV.ev]using A
   subst A;cases M with
   |qa=>cases d;exact⟨[],rfl,rfl,by simp⟩
   |qg=>cases L
   |row=>exact absurd B.2 (by simp[zG,zBp])
   |str s=>
    simp only[zEa]at d;split at d
    .rename_i R;cases d;have U:=zc R;subst U;exact⟨_,zJy s,by simp[content],by simp⟩
    .cases d
   |_=>cases d
 refine⟨q,C,v,F,?_,r⟩
 rw[Bool.or_eq_true]at f;rcases f.symm with f|f
 ·
  have D:CP st.mv st.m (.agg l):=by
   refine .agg _ λe p=>?_
   cases u with
   |qa=>cases d;cases p
   |qg I es=>
    simp only[zEa]at d;split at d
    .cases d;cases r with
     |qg _ _ h=>exact(h e p).cp
    .cases d
   |row=>
    simp only[zEa]at d;split at d
    .split at d
     .rename_i str cs S;split at d
      .obtain⟨_,q2,_,q4,W⟩:=zAQ d;obtain⟨i,Y⟩:=List.getElem?_of_mem p;obtain⟨r1,r2⟩:=zAo W;obtain⟨r3,T,V⟩:=z6 (r2 i e Y);obtain⟨N,X,e1,J⟩:=c.s.cH.get S;cases e1;refine zD2 V λz O=>J z ?_
       rw[T]at O;exact Qc (QT (Qc (QT O)))
      .cases d
     .cases d
    .cases d
   |str s=>
    simp only[zEa]at d;split at d
    .cases d;obtain⟨b,_,rfl⟩:=Qg.1 p;exact .int _ _
    .cases d
   |_=>cases d
  have:=zEH 12 D f;cases this with
  |agg _ h=>exact h
 .cases u with
  |qg I es=>
   simp only[zEa]at d;split at d
   .cases d;cases r with
    |qg _ _ h=>exact h
   .cases d
  |_=>cases f
theorem zRk{x y:XV}{sz bytes:Nat}(c:Ctx P G nt Z0 B0 w0 dl E w a β st o (.append x y sz bytes)){u:AV}{t:JE}(C:zRg y=false){fr':Fr}(i:FrR E w fr' a nt)(hx:x.ev G fr'=some .qa)(l:y.ev G fr'=some u)(L:y.ev G st.fr=some u)(T:zEa st.H sz u=some t)(B:(zSc u||ppS 12 (.agg t))=true)
  (I:t.length*bytes<=zg) {V0:Vecs} (q:∀j vi,V0.get j=some vi->st.V.get j=some vi) (hk:k (.sym st.mv) ⟨st.fr,st.H,(st.mv,.vec sz t)::V0,st.m,st.mv+1⟩):OpK P G nt Z0 B0 w0 dl o w a k:=by
 obtain⟨N,g,d,M,r,R⟩:=zV1 c C L T B;cases t with
 |nil=>
  refine c.ext (xb:=none) (λb o e=>by cases e) i (v:=.qa) (H':=st.H) (n':=st.m) ?_ (λp f=>f) (λJ E' w' O=>?_) hk
  .simp only[xoS,hx,l,zFU,extH,zJU,d];rfl
  .obtain⟨z,D,h⟩:=O.v7 c.s q (sz:=sz) rfl c.hd;exact⟨_,D,h⟩
 |cons S A=>
  have F:Nat.ble ((A.length+1)*bytes) zg=true:=by rw[Qt];simpa using I
  refine c.ext (xb:=none) (λb o e=>by cases e) i (v:=.row st.m 0 (A.length+1) sz (A.length+1) false) (H':=(st.m,.cells false N)::st.H) (n':=st.m+1) ?_ (λp f=>.tail _ f) (λJ E' w' O=>?_) hk
  .simp only[xoS,hx,l,zFU,extH,zJU,d,QL,F]
  .obtain⟨z,D,h⟩:=O.w4 c.s (λb o e=>by cases e) (V0:=V0) (λj vi h=>⟨q j vi h,λ_ b o e=>by cases e⟩) (.head _) (λp f=>⟨.tail _ f,λe=>by have:=c.s.qz p.1 (c.s.hr.qz p f);omega⟩) (es:=S::A) rfl r (zIA g r) (by omega) (by rw[List.take_of_length_le (by omega)];exact g) c.hd
   exact⟨_,D,h⟩
theorem zXt{x y:XV}{sz bytes:Nat}(c:Ctx P G nt Z0 B0 w0 dl E w a β st o (.append x y sz bytes)){u:AV}{j:Nat}{es f:JE}(ae:zRg y=false)(hx:x.ev G st.fr=some (.sym j))(hV:st.V.get j=some (.vec sz es))(hy:y.ev G st.fr=some u)(he:zEa st.H sz u=some f)(ac:(zSc u||ppS 12 (.agg f))=true)
  (hb:(es.length+f.length)*bytes<=zg) (ai:es.length+f.length<=zg) (hk:k (.sym st.mv) ⟨st.fr,st.H,(st.mv,.vec sz (es++f))::st.V.del j,st.m,st.mv+1⟩):OpK P G nt Z0 B0 w0 dl o w a k:=by
 have ag:zG x=true:=by have:=c.ok;simp only[zy,XO.qb,zAm,QV,List.all_append,Qb,List.all_nil,qr]at this;exact this.1
 obtain⟨t,rfl,ht⟩:=zKw c.hG ag hx;have M:∀i,u≠.sym i:=λi e=>by subst e;cases he
 have Y:∀A C,(st.V.del j).get A=some C->st.V.get A=some C/\j≠A:=λA C h=>by
  rw[Vecs.qO]at h;split at h
  .cases h
  .rename_i r;exact⟨h,r⟩
 obtain⟨aq,⟨h1,h2,rfl⟩|⟨b,str,cs,cp,ex,v⟩⟩:=zIf c.s hV
 .exact zRk c ae (fr':=st.fr.put t .qa) (zDT c.s ht (xb:=none) (by rw[h2];exact .qa)) zAX (zIe hy ht (M j)) hy he ac (by simpa using hb) (λA C h=>(Y A C h).1) (by simpa using hk)
 .obtain⟨q,F,W,ah,U,ao⟩:=zV1 c ae hy he ac;have L:=zIe (X:=.row st.m 0 es.length sz cp ex) hy ht (M j);have d:content ((st.m,HO.cells str cs)::st.H) sz u=some (f.length,q):=by rw[zYK ao];exact W
  have aa:∀e∈es++f,PP e:=λe B=>(QK.1 B).elim (aq e) (U e)
  have S:flatten sz (es++f)=some (cs.take (es.length*sz)++q):=zPh v.ud F;have N:(es++f).length*sz=es.length*sz+q.length:=by rw[QC,Nat.add_mul,ah]
  have ad:∀I∈cs.take (es.length*sz)++q,PP I:=λI B=>(QK.1 B).elim (λh=>v.pc I (QT h)) (zIA F U I)
  have c1:Nat.ble (0+es.length*sz) cs.length=true:=by rw[Qt];have:=v.hl;omega
  have J:Nat.ble (es.length*sz) cs.length=true:=by rw[Qt];exact v.hl
  have c2:Nat.ble ((es.length+f.length)*bytes) zg=true:=by rw[Qt];exact hb
  have c3:Nat.ble (es.length+f.length) zg=true:=by rw[Qt];exact ai
  have r:∀p∈st.H,p.1≠st.m/\p.1≠st.m+1:=λp l=>by have:=c.s.qz p.1 (c.s.hr.qz p l);omega
  have aw:∀A C,(st.V.del j).get A=some C->st.V.get A=some C/\(C.qA=true->∀b' o,(some (b,HO.cells str cs):XB)=some (b',o)->β A≠some b'):=λA C h=>by
   obtain⟨q1,q2⟩:=Y A C h;refine⟨q1,λho b' o e ak=>?_⟩
   cases e;exact q2 (c.s.qS j A _ _ b hV q1 rfl ho v.hb ak)
  have au:=zDT c.s ht v.vr;have D:∀{h' cp':Nat}{str' ex':Bool}{cs':JE}{H':Heap}{n':Nat},xoS G zj (st.fr.put t (.row st.m 0 es.length sz cp ex)) (extH st.H st.m (some (b,.cells str cs))) (zJU st.m (some (b,.cells str cs))) (.append (.t t) y sz bytes)=some (.row h' 0 (es.length+f.length) sz cp' ex',H',n') →
    (h',HO.cells str' cs')∈H'->(∀p∈st.H,p∈H'/\p.1≠h')->(∀I∈cs',PP I)->es.length*sz+q.length<=cs'.length->cs'.take (es.length*sz+q.length)=cs.take (es.length*sz)++q->OpK P G nt Z0 B0 w0 dl o w a k:=by
   intro h' cp' str' ex' cs' H' n' aj ab R al hl af;refine c.ext (v.xb c.s hV) au aj (λp l=>(R p l).1) (λcv E' w' O=>?_) hk
   obtain⟨z,β',h⟩:=O.w4 c.s (v.uB hV) (V0:=st.V.del j) aw ab R (es:=es++f) (by rw[QC]) aa al (by rw[N];exact hl) (by rw[N,af];exact S) c.hd
   exact⟨_,β',h⟩
  by_cases g:Nat.ble (es.length+f.length) cp=true
  .refine D (h':=st.m) (cp':=cp) (str':=str) (ex':=ex) (cs':=qi cs (es.length*sz) q) (H':=(st.m,.cells str (qi cs (es.length*sz) q))::st.H) (n':=st.m+1) ?_ (.head _) (λp l=>⟨.tail _ l,(r p l).1⟩) (λI B=>(zM7 B).elim (v.pc I) (zIA F U I)) (zab v.hl) (zYL v.hl)
   simp only[xoS,zAX,L,zFU,extH,zJU,d,Nat.beq_refl,zIz,c1,J,c2,c3,g,QV,Heap.put,QY]
  .have g:Nat.ble (es.length+f.length) cp=false:=Bool.eq_false_iff.2 g;cases ex with
   |true=>
    refine D (h':=st.m+1) (cp':=es.length+f.length) (str':=false) (ex':=false) (cs':=cs.take (es.length*sz)++q) (H':=(st.m+1,.cells false (cs.take (es.length*sz)++q))::(st.m,.cells str cs)::st.H) (n':=st.m+1+1) ?_ (.head _) (λp l=>⟨.tail _ (.tail _ l),(r p l).2⟩) ad (by have:=v.hl;simp;omega) (by rw[List.take_of_length_le (by simp;omega)])
    simp only[xoS,zAX,L,zFU,extH,zJU,d,Nat.beq_refl,zIz,c1,J,c2,c3,g,QV,List.drop_zero]
   |false=>
    by_cases T:f.length=0
    .have ar:f=[]:=List.eq_nil_of_length_eq_zero T;subst ar;have ax:q=[]:=by cases F;rfl
     subst ax;refine D (h':=st.m) (cp':=cp) (str':=str) (ex':=false) (cs':=cs) (H':=(st.m,.cells str cs)::st.H) (n':=st.m+1) ?_ (.head _) (λp l=>⟨.tail _ l,(r p l).1⟩) v.pc (by have:=v.hl;simpa using this) (by simp)
     simp only[xoS,zAX,L,zFU,extH,zJU,d,Nat.beq_refl,zIz,c1,J,c2,c3,g,QV,QZ,Nat.add_zero];simp only[QZ,Nat.add_zero]at c2 c3 g;simp only[c2,c3,g,QV]
    .obtain⟨n0,T⟩:∃n0,f.length=n0+1:=⟨f.length-1,by omega⟩
     refine D (h':=st.m+1) (cp':=es.length+f.length) (str':=str) (ex':=false) (cs':=cs.take (es.length*sz)++q) (H':=(st.m+1,.cells str (cs.take (es.length*sz)++q))::st.H) (n':=st.m+1+1) ?_ (.head _) (λp l=>⟨.tail _ l,(r p l).2⟩) ad (by have:=v.hl;simp;omega) (by rw[List.take_of_length_le (by simp;omega)])
     rw[T]at d c2 c3 g⊢;simp only[xoS,zAX,L,zFU,extH,zJU,d,Nat.beq_refl,zIz,c1,J,c2,c3,g,QV,Heap.del]
theorem zgw{x:XV}(c:Ctx P G nt Z0 B0 w0 dl E w a β st o (.vj x)){j:Nat}{es:JE}{s:JV}(hx:x.ev G st.fr=some (.sym j))(f:st.V.get j=some (.vec 1 es))(h:zBw es=some s)(hk:k (.str s) st):OpK P G nt Z0 B0 w0 dl o w a k:=by
 have i:zG x=true:=by have:=c.ok;simp only[zy,XO.qb,zAm,QV,Qb,List.all_nil]at this;exact this
 obtain⟨t,rfl,q⟩:=zKw c.hG i hx;obtain⟨l,⟨h1,r,rfl⟩|⟨b,str,cs,cp,ex,v⟩⟩:=zIf c.s f
 .cases h;refine c.ext (xb:=none) (λb o e=>by cases e) (zDT c.s q (X:=.qa) (xb:=none) (by rw[r];exact .qa)) (v:=.str []) (H':=st.H) (n':=st.m) (by simp only[xoS,zAX,content,zBw];rfl) (λp g=>g) (λy E' w' O=>⟨_,_,O.wZ c.s (λb o e=>by cases e) (λ_ _ _ _ _ _ e=>by cases e) (λb o e=>by cases e) (.str _) c.hd⟩) hk
 .have d:=v.ud;rw[zNK h]at d;have d:es=cs.take (es.length*1):=by simpa using d
  have c1:Nat.ble (0+es.length*1) cs.length=true:=by rw[Qt];have:=v.hl;omega
  refine c.ext (v.xb c.s f) (zDT c.s q v.vr) (v:=.str s) (H':=(st.m,.cells str cs)::st.H) (n':=st.m+1) ?_ (λp g=>.tail _ g) (λy E' w' O=>⟨_,_,O.wZ c.s (λu z e=>⟨by cases e;exact .head _,v.uB f u z e⟩) (v.self c.s l f O (.head _) undef) (v.bz c.s f) (.str _) c.hd⟩) hk
  have:content ((st.m,HO.cells str cs)::st.H) 1 (.row st.m 0 es.length 1 cp ex)=some (es.length,es):=by
   simp only[content,Nat.beq_refl,zIz,c1,List.drop_zero,←d]
  simp only[xoS,zAX,extH,zJU,this,h]
theorem zcK{m x:XV}{J ok:Bool}{kd:List Kd}{z:AV}(c:Ctx P G nt Z0 B0 w0 dl E w a β st o (.lookup J kd m x z ok)){j:Nat}{es:List (AV×AV)}{C v:AV}(hm:m.ev G st.fr=some (.sym j))(B:st.V.get j=some (.mp es))(hx:x.ev G st.fr=some C)(I:zFV J kd C=true)
  (d:lkR ok z (zCt J kd C es)=some v) (hk:k v st):OpK P G nt Z0 B0 w0 dl o w a k:=by
 have F:(zG m=true/\zG x=true)/\zBp 12 z=true:=by have:=c.ok;simp only[zy,XO.qb,zAm,List.all_append,Qb,List.all_nil,QV,qr]at this;exact this
 obtain⟨t,rfl,U⟩:=zKw c.hG F.1.1 hm;have M:C≠.sym j:=by intro e;subst e;cases I
 obtain⟨y,b,h1,h2,Y⟩:=(c.s.qT j _ B).2;have l:=c.s.bz j _ b B rfl h1;have L:=zIe (X:=.map st.m) hx U M;have hj:j≠st.mv:=by have:=(c.s.qT j _ B).1;omega
 have S:PP z:=zCb 12 F.2;have A:∀{es:List (AV×AV)}{u:AV},(∀p∈es,PP p.1/\PP p.2)->zCt J kd C es=some (some u)->PP u:=by
  intro es
  induction es with
  |nil=>intro u _ h;cases h
  |cons q r ih=>
   intro u W h;simp only[zCt]at h;split at h
   .cases h;exact(W _ (.head _)).2
   .exact ih (λp y=>W p (.tail _ y)) h
   .cases h
 have D:∀(b:Bool){u:AV},PP u->PP (lkV ok b u):=λb u g=>by
  cases ok with
  |true=>
   refine .qc _ λe he=>?_
   simp only[QH,List.not_mem_nil,or_false]at he;rcases he with rfl|rfl
   .exact g
   .exact .bool _
  |false=>exact g
 have R:PP v:=by
  unfold lkR at d;split at d
  .rename_i u g;cases d;exact D true (A y g)
  .cases d;exact D false S
  .cases d
 refine c.ext (xb:=some (b,.map es)) (λN T e=>by cases e;exact⟨h2,l.1,l.2⟩) (zDT c.s U (X:=.map st.m) (by rw[Y];have:=VR.map (E:=zB3 E st.m (some (b,.map es))) (w:=w) st.m (.inr rfl);simpa[zB3]using this)) (v:=v) (H':=(st.m,.map es)::st.H) (n':=st.m+1) ?_ (λp y=>.tail _ y)
  (λcv E' w' O=>⟨_,_,O.wZ c.s (λN T e=>by cases e;exact⟨.head _,j,_,B,rfl,h1⟩) (λj' vi N T q1 q2 e q3=>?_) (λN T e=>by cases e;exact l.2) R c.hd⟩) hk
 .simp only[xoS,zAX,L,I,extH,zJU,zIz];unfold lkR at d;split at d
  .rename_i u g;cases d;simp only[g];cases ok<;>rfl
  .rename_i g;cases d;simp only[g];cases ok<;>rfl
  .cases d
 .cases e;have:=c.s.qS j j' _ _ b B q1 rfl q2 h1 q3;subst this;rw[B]at q1;cases q1;have hm:=O.vt.obj _ (.head _);rw[O.w5 b _ rfl]at hm;exact⟨y,b,h1,hm.uX y,by simp[zJ,hj,Y]⟩
theorem zfP{m x y:XV}{N:Bool}{kd:List Kd}(c:Ctx P G nt Z0 B0 w0 dl E w a β st o (.wE N kd m x y)){j:Nat}{es d:List (AV×AV)}{z u:AV}(hm:m.ev G st.fr=some (.sym j))(M:st.V.get j=some (.mp es))(hx:x.ev G st.fr=some z)(hy:y.ev G st.fr=some u)(J:zFV N kd z=true)(Y:ppS 12 z=true)(I:ppS 12 u=true)
  (l:zGn N kd z u es=some d) (hk:k (.qc []) ⟨st.fr,st.H,(j,.mp d)::st.V.del j,st.m,st.mv⟩):OpK P G nt Z0 B0 w0 dl o w a k:=by
 have A:(zG m=true/\zG x=true)/\zG y=true:=by have:=c.ok;simp only[zy,XO.qb,zAm,List.all_append,Qb,List.all_nil,QV,qr]at this;exact this
 obtain⟨t,rfl,T⟩:=zKw c.hG A.1.1 hm;have S:z≠.sym j:=by intro e;subst e;cases J
 have B:u≠.sym j:=by intro e;subst e;cases I
 obtain⟨g,b,h1,h2,h3⟩:=(c.s.qT j _ M).2;have F:=c.s.bz j _ b M rfl h1;have R:=zIe (X:=.map st.m) hx T S;have aa:=zIe (X:=.map st.m) hy T B;have hj:j≠st.mv:=by have:=(c.s.qT j _ M).1;omega
 have L:PP z:=zEH 12 (zAc c.hG c.s.qW A.1.2 hx) Y;have D:PP u:=zEH 12 (zAc c.hG c.s.qW A.2 hy) I;have W:∀{es d:List (AV×AV)},(∀p∈es,PP p.1/\PP p.2)->zGn N kd z u es=some d->∀p∈d,PP p.1/\PP p.2:=by
  intro es
  induction es with
  |nil=>intro d _ h p g;cases h;simp only[Qa]at g;subst g;exact⟨L,D⟩
  |cons q r ih=>
   intro d U h p g;simp only[zGn]at h;split at h
   .cases h;rcases QH.1 g with rfl|g
    .exact⟨L,D⟩
    .exact U p (.tail _ g)
   .split at h
    .rename_i r' hr;cases h;rcases QH.1 g with rfl|g
     .exact U _ (.head _)
     .exact ih (λp g=>U p (.tail _ g)) hr p g
    .cases h
   .cases h
 have C:=W g l;refine c.ext (xb:=some (b,.map es)) (λb' o' e=>by cases e;exact⟨h2,F.1,F.2⟩) (zDT c.s T (X:=.map st.m) (by rw[h3];have:=VR.map (E:=zB3 E st.m (some (b,.map es))) (w:=w) st.m (.inr rfl);simpa[zB3]using this)) (v:=.qc []) (H':=(st.m,.map d)::st.H) (n':=st.m+1) ?_ (λp g=>.tail _ g)
  (λcv E' w' O=>⟨_,_,O.replace c.s M rfl h1 (vi1:=.mp d) rfl ?_ (.head _) (λsz es e=>by cases e) (.qc _ λe he=>by cases he) c.hd⟩) hk
 .simp only[xoS,zAX,R,aa,J,extH,zJU,zIz,l,Heap.put,Nat.beq_refl]
 .have hm:=O.vt.obj _ (.head _);rw[O.w5 b _ rfl]at hm;exact⟨C,b,h1,hm.uX C,by simp[zJ,hj,h3]⟩
end
def TbW(P:Program)(G:Cx)(tb:TblS):Prop:=∀s∈tb,∀args v,s.2.1 args->s.2.2 args=some v->Enters P s.1/\PP v/\∀H nx,FnT P G s.1 args H nx v H nx
theorem zG6:∀{tb:TblS}{f:Nat}{args:JE}{k:AV->Prop},zIx tb f args k->∃s∈tb,s.1=f/\s.2.1 args/\∃v,s.2.2 args=some v/\k v
 |[],f,args,k,h=>h.elim
 |s::r,f,args,k,h=>by
  simp only[zIx]at h;split at h
  .rename_i e;obtain⟨h1,c⟩:=h;split at c
   .rename_i v g;exact⟨s,.head _,(zc e).symm,h1,v,g,c⟩
   .exact c.elim
  .obtain⟨d,h1,c⟩:=zG6 h;exact⟨d,.tail _ h1,c⟩
open Classical in
noncomputable def zUl(f0:Nat)(a0:JE)(v:AV):Call:=λf args H nx=>if f=f0/\args=a0 then some (v,H,nx)else none
theorem zTh{P:Program}{G:Cx}{f:Nat}{args:JE}{v:AV}(h1:Enters P f)(g:∀H nx,FnT P G f args H nx v H nx):zIb P G (zUl f args v):=by
 intro l c H nx i o d h;simp only[zUl]at h;split at h
 .rename_i e;obtain⟨rfl,rfl⟩:=e;cases h;exact⟨h1,QA _,g _ _⟩
 .cases h
theorem zM8{f:Nat}{args:JE}{v:AV}{H:Heap}{nx:Nat}:zUl f args v f args H nx=some (v,H,nx):=by simp[zUl]
theorem zCc{f:AV->JF}:∀{xs c:JE},zF f xs=some c->c.length=xs.length/\∀(i:Nat) x y,xs[i]?=some x->c[i]?=some y->f x=some y
 |[],c,h=>by cases h;exact⟨rfl,λi x y d=>by simp at d⟩
 |x::xs,c,h=>by
  simp only[zF]at h;split at h
  .rename_i v g;split at h
   .rename_i r o;cases h;obtain⟨h1,l⟩:=zCc o;refine⟨by simp[h1],λi p y d e=>?_⟩
    cases i with
    |zero=>simp at d e;subst d;subst e;exact g
    |succ i=>exact l i p y (by simpa using d) (by simpa using e)
   .cases h
  .cases h
theorem zNL{f:AV->JF}:∀{a b c:JE},zF f (a++b)=some c->∃x y,zF f a=some x/\zF f b=some y/\c=x++y
 |[],b,c,h=>⟨[],c,rfl,h,rfl⟩
 |e::r,b,c,h=>by
  simp only[List.cons_append,zF]at h;split at h
  .rename_i v g;split at h
   .rename_i q d;cases h;obtain⟨x,y,h1,i,rfl⟩:=zNL d;exact⟨v::x,y,by simp only[zF,g,h1],i,rfl⟩
   .cases h
  .cases h
theorem zIB{f g:AV->JF}(c:∀x y,f x=some y->g x=some y):∀{xs d:JE},zF f xs=some d->zF g xs=some d
 |[],d,h=>h
 |x::xs,d,h=>by
  simp only[zF]at h⊢;split at h
  .rename_i v e;rw[c _ _ e];split at h
   .rename_i r i;rw[zIB c i];exact h
   .cases h
  .cases h
theorem zNA{n k:Nat}:∀(d:Nat){v:AV},CP n k v->zEk d v=false->PP v:=by
 intro d
 induction d with
 |zero=>intro v _ h;cases h
 |succ d o=>
  intro v hc h;have f:∀{l:JE},(∀e∈l,CP n k e)->l.any (zEk d)=false->∀e∈l,PP e:=λhc i e c=>o (hc e c) (by
   rw[List.any_eq_false]at i
   simpa using i e c)
  cases hc with
  |bool b=>exact .bool b
  |int k m=>exact .int k m
  |str s=>exact .str s
  |qm=>exact .qm
  |qa=>exact .qa
  |ql=>exact .ql
  |qk=>exact .qk
  |qf=>exact .qf
  |qd e off c=>exact .qd e off c
  |qg sz es c=>exact .qg sz es c
  |func fn a b q p=>
   have h:(a.any (zEk d)||b.any (zEk d))=false:=h;rw[Bool.or_eq_false_iff]at h;exact .func fn a b (f q h.1) (f p h.2)
  |iface t v r=>exact .iface t v (o r h)
  |agg cs g=>exact .agg cs (f g h)
  |qc cs g=>exact .qc cs (f g h)
  |_=>cases h
theorem zbm:∀(d:Nat){v:AV},zEk d v=false->zEk (d+1) v=false:=by
 intro d
 induction d with
 |zero=>intro v h;cases h
 |succ d f=>
  intro v h;have c:∀{l:JE},l.any (zEk d)=false->l.any (zEk (d+1))=false:=λe=>by
   rw[List.any_eq_false]at e⊢;intro x g;have:=f (v:=x) (by simpa using e x g)
   simp[this]
  cases v with
  |func fn a b=>
   have h:(a.any (zEk d)||b.any (zEk d))=false:=h;rw[Bool.or_eq_false_iff]at h;show(a.any (zEk (d+1))||b.any (zEk (d+1)))=false
   rw[c h.1,c h.2];rfl
  |iface t v=>exact f h
  |agg cs=>exact c h
  |qc cs=>exact c h
  |_=>exact h
theorem zcL{H:Heap}{V:Vecs}:∀(d:Nat){v v':AV},frz H V d v=some v'->frz H V (d+1) v=some v':=by
 intro d
 induction d with
 |zero=>intro v v' h;cases h
 |succ d e=>
  intro v v' h;unfold frz at h⊢;split at h
  .exact h
  .split at h
   .split at h
    .rename_i f c;rw[zIB (λx y=>e) c]
     exact h
    .cases h
   .cases h
  .split at h
   .rename_i o g;rw[zIB (λx y=>e) g]
    split at h
    .rename_i p l;rw[zIB (λx y=>e) l]
     exact h
    .cases h
   .cases h
  .split at h
   .rename_i f c;rw[zIB (λx y=>e) c]
    exact h
   .cases h
  .exact h
  .split at h
   .cases h
   .rename_i i;rw[zbm d i];exact h
theorem zbn{H:Heap}{V:Vecs}:∀(d:Nat){v v':AV},PP v->frz H V d v=some v'->v'=v:=by
 intro d
 induction d with
 |zero=>intro v v' _ h;cases h
 |succ d D=>
  intro v v' y h;have g:∀{l c:JE},(∀e∈l,PP e)->zF (frz H V d) l=some c->c=l:=by
   intro l
   induction l with
   |nil=>intro c _ h;cases h;rfl
   |cons e r f=>
    intro c s h;simp only[zF]at h;split at h
    .rename_i u A;split at h
     .rename_i q x;cases h;rw[D (s _ (.head _)) A,f (λe C=>s e (.tail _ C)) x]
     .cases h
    .cases h
  unfold frz at h;cases y with
  |func fn a b F t=>
   simp only at h;split at h
   .rename_i J o;split at h
    .rename_i I p;cases h;rw[g F o,g t p]
    .cases h
   .cases h
  |agg cs B=>
   simp only at h;split at h
   .rename_i z i;cases h;rw[g B i]
   .cases h
  |_=>
   simp only at h;split at h
   .cases h
   .cases h;rfl
section
variable{P:Program}{G:Cx}{nt:Nat}{E:Env}{w:World}{a:Act}{β:Nat->Option Nat}{st:Sta}
 {Z0 B0:Nat->Prop} {w0:World} {dl:List Deferred} {o:Oper} {k:AV->Sta->Prop}
theorem zXu{e:AV}{sz:Nat}{xs:JE}{vs:JC}(hc:cellsOf e sz=some xs)(d:VRs E w xs vs)(h1:∀v∈vs,v.oneCell'=true):∃u,VR E w e u/\u.cells.toList=vs:=by
 obtain⟨o,c,h⟩:=z6 hc;cases e with
 |agg cs=>
  have c:cs=xs:=c;subst c;exact⟨.agg vs.toArray,VR.qN (by simpa using d) (λv d=>h1 v (by simpa using d)),by simp[Value.cells]⟩
 |qc=>cases h
 |_=>
  have c:[_]=xs:=c;subst c;obtain⟨v,i,rfl,g,l⟩:=d.of_cons;have:=l.of_nil;subst this;have f:v.oneCell'=true:=h1 v (.head _);refine⟨v,g,?_⟩
  cases v<;>first|(simp[Value.oneCell']at f;done)|simp[Value.cells]
def zCz(E:Env)(β:Nat->Option Nat)(H:Heap)(V:Vecs):Env:=⟨E.ρ,λ_=>False,λx=>E.Z x\/BS E β H V x,E.σ⟩
theorem zPS{b:Nat}{str:Bool}{cs:JE}(h:OR E w b (.cells str cs)):∃vs:JC,VRs E w cs vs/\(∀v∈vs,v.oneCell'=true)/\∀(j:Nat) c,vs[j]?=some c->w.cell? ⟨b,j,none⟩=some c:=by
 obtain⟨c,e,f,h1,A,B,y⟩:=h;have q:∀(i:Nat)(x:AV)(v:Value),cs[i]?=some x->(c.toList.take cs.length)[i]?=some v->v.oneCell'=true/\VR E w x v/\c[i]?=some v:=λi x v p g=>by
  obtain⟨u,r,z,t⟩:=y i x p;have o:i<cs.length:=(QB.1 p).1;rw[List.getElem?_take,if_pos o]at g;have:c[i]?=some v:=by simpa using g
  rw[r]at this;cases this;exact⟨z,t,r⟩
 have l:(c.toList.take cs.length).length=cs.length:=by simp;omega
 refine⟨c.toList.take cs.length,⟨l.symm,λi x v p g=>(q i x v p g).2.1⟩,λv g=>?_,λj u s=>?_⟩
 .obtain⟨i,o⟩:=List.getElem?_of_mem g;have d:i<cs.length:=by have:=(QB.1 o).1;omega
  exact(q i _ v (QF d) o).1
 .have d:j<cs.length:=by have:=(QB.1 s).1;omega
  have:=(q j _ u (QF d) s).2.2;simp only[World.cell?,h1];exact this
theorem zGT(s:SR G nt E w a β st):∀(d:Nat){v v':AV}{cv:Value},CP st.mv st.m v->VR E w v cv->frz st.H st.V d v=some v'->VR (zCz E β st.H st.V) w v' cv:=by
 have O:∀{v:AV}{cv:Value},PP v->VR E w v cv->VR (zCz E β st.H st.V) w v cv:=λhp l=>VR.pp (E:=E) (E':=zCz E β st.H st.V) (w:=w) (w':=w) (λb hb=>⟨.inl hb,rfl⟩) l hp
 intro d
 induction d with
 |zero=>intro v v' cv _ _ h;cases h
 |succ d ih=>
  intro v v' cv C l h;have al:∀{xs ys:JE}{vs:JC},(∀e∈xs,CP st.mv st.m e)->VRs E w xs vs->zF (frz st.H st.V d) xs=some ys->VRs (zCz E β st.H st.V) w ys vs:=λhc U hm=>by
   obtain⟨m1,m2⟩:=zCc hm;refine⟨m1.trans U.1,λi y u hy hu=>?_⟩
   have z:i<_:=(QB.1 hy).1;rw[m1]at z;have q:=QF z;exact ih (hc _ (QE q)) (U.2 i _ u q hu) (m2 i _ y q hy)
  unfold frz at h;split at h
  ·
   rename_i j;split at h
   .rename_i sz es hV;cases h;have ae:=l.vF;subst ae;obtain⟨M,⟨h1,h2,rfl⟩|⟨b,str,cs,cp,ex,vi⟩⟩:=zIf s hV
    .rw[h2];exact .wc _ _ _ (QI _)
    .rcases vi.row with⟨ad,J,e2,_⟩|⟨cap,J,t,A,ai,_,_,_⟩
     .have:=List.eq_nil_of_length_eq_zero e2;subst this;rw[J];exact .wc _ _ _ (QI _)
     .rw[J];obtain⟨vs,F,I,k3⟩:=zPS vi.um;obtain⟨q1,R⟩:=zAo vi.ud;have key:∀i,∃u:Value,∀e,es[i]?=some e->VR E w e u/\e.flat=true/\u.cells.toList=(vs.drop (i*sz)).take sz:=by
       intro i;cases o:es[i]? with
       |none=>exact⟨.bool true,λe h=>by cases h⟩
       |some e=>
        have z:i<es.length:=(QB.1 o).1;have B:i*sz+sz<=es.length*sz:=by rw[←Nat.succ_mul];exact Nat.mul_le_mul_right _ z
        have r:=R i e o;rw[List.drop_take,List.take_take,Nat.min_eq_left (by omega)]at r
        obtain⟨u,r1,r2⟩:=zXu r (F.extract (i*sz) sz) (λv l=>I v (Qc (QT l)))
        exact⟨u,λe' h=>by cases h;exact⟨r1,(z6 r).2.2,r2⟩⟩
      obtain⟨f,D⟩:=Classical.axiomOfChoice key;refine .qg es b 0 cap sz f (.inr (.inr ⟨j,_,hV,rfl,vi.hb⟩)) t A (λi e o=>?_) (λi e o=>O (M e (QE o)) (D i e o).1) (λi z=>?_)
      .have:=(D i e o).2.1;unfold AV.flat at this;exact this
      .have o:es[i]?=some es[i]:=QF z;obtain⟨_,_,T⟩:=D i _ o;have ag:vs.length=cs.length:=F.1.symm;have B:i*sz+sz<=es.length*sz:=by rw[←Nat.succ_mul];exact Nat.mul_le_mul_right _ z
       have:=vi.hl;refine⟨?_,λj' c hc=>?_⟩
       .have:(f i).cells.toList.length=sz:=by rw[T];simp;omega
        simpa using this
       .have g:(f i).cells.toList[j']?=some c:=by simpa using hc
        rw[T,List.getElem?_take]at g;split at g
        .rw[List.getElem?_drop]at g;have:=k3 _ c g;rw[QY];exact this
        .cases g
   .cases h
  ·
   rename_i X off;split at h
   .rename_i str cs W;split at h
    .rename_i S L;cases h;have p:=Heap.qj W;have ab:=s.hr.obj _ p;obtain⟨vs,F,I,k3⟩:=zPS ab;obtain⟨_,_,J,N⟩:=s.cH.get W;cases J;cases l with
     |ptr _ _ hd=>
      have:=VR.qd (E:=zCz E β st.H st.V) (w:=w) (.agg S) off (E.ρ X) 0 (.agg vs.toArray) rfl (.inr (.inl ⟨_,p,rfl⟩)) (VR.qN (by simpa using al N F L) (λv l=>I v (by simpa using l))) (λj c hj=>by
       rw[QY];exact k3 j c (by simpa[Value.cells]using hj))
      rw[QY]at this;exact this
    .cases h
   .cases h
  .rename_i f x y;split at h
   .rename_i x' q;split at h
    .rename_i y' hy;cases h;cases C with
     |func _ _ _ ha hb=>
      cases l with
      |func _ _ _ vf vc D hc rf rc=>
       obtain⟨g1,g2⟩:=al (vs:=vf.toList) ha ⟨by simpa using D,λi x v q l=>rf i x v q (by simpa using l)⟩ q
       obtain⟨g3,g4⟩:=al (vs:=vc.toList) hb ⟨by simpa using hc,λi x v q l=>rc i x v q (by simpa using l)⟩ hy
       exact .func _ _ _ vf vc (by simpa using g1) (by simpa using g3) (λi x v q l=>g2 i x v q (by simpa using l)) (λi x v q l=>g4 i x v q (by simpa using l))
    .cases h
   .cases h
  .rename_i cs;split at h
   .rename_i S L;cases h;cases C with
    |agg _ hc=>
     obtain⟨vs,rfl,F,I⟩:=l.qY;exact VR.qN (al hc F L) I
   .cases h
  .rename_i X off len sz cp ex;split at h
   .rename_i str cs W;split at h
    .rename_i Y;split at h
     .rename_i es hr;split at h
      .rename_i af;cases h;obtain⟨_,_,J,N⟩:=s.cH.get W;cases J;obtain⟨q1,R,q3,q4,q5⟩:=zAQ hr;obtain⟨g1,g2⟩:=zAo q5;have M:∀e∈es,PP e:=by
        intro e o;obtain⟨i,z⟩:=List.getElem?_of_mem o;obtain⟨r1,r2,r3⟩:=z6 (g2 i e z);refine zEH (n:=st.mv) (k:=st.m) 8 (zD2 r3 λx q=>N x ?_) (QD.1 af e o)
        rw[r2]at q;exact Qc (QT (Qc (QT q)))
       have p:=Heap.qj W;cases l with
       |we _ _ _ _ ad=>
        have:=List.eq_nil_of_length_eq_zero R;subst this;exact .wc _ _ _ (QI _)
       |row _ _ _ _ _ cap _ hD t A ah C ak aj=>
        obtain⟨vs,F,I,k3⟩:=zPS (s.hr.obj _ p);have aa:=F.extract off cs.length;have ac:(cs.drop off).take cs.length=cs.drop off:=List.take_of_length_le (by simp)
        rw[ac]at aa;have Y:=QS Y;have key:∀i,∃u:Value,∀e,es[i]?=some e->VR E w e u/\e.flat=true/\u.cells.toList=(((vs.drop off).take cs.length).drop (i*sz)).take sz:=by
         intro i;cases o:es[i]? with
         |none=>exact⟨.bool true,λe h=>by cases h⟩
         |some e=>
          have z:i<es.length:=(QB.1 o).1;have B:i*sz+sz<=len*sz:=by rw[←Nat.succ_mul,←R];exact Nat.mul_le_mul_right _ z
          have r:=g2 i e o;rw[List.drop_take,List.take_take,Nat.min_eq_left (by omega)]at r
          obtain⟨u,r1,r2⟩:=zXu r (aa.extract (i*sz) sz) (λv l=>I v (Qc (QT (Qc (QT l)))))
          exact⟨u,λe' h=>by cases h;exact⟨r1,(z6 r).2.2,r2⟩⟩
        obtain⟨f,D⟩:=Classical.axiomOfChoice key;rw[←R]at t⊢;refine .qg es (E.ρ X) off cap sz f (.inr (.inl ⟨_,p,rfl⟩)) t A (λi e o=>?_) (λi e o=>O (M e (QE o)) (D i e o).1) (λi z=>?_)
        .have:=(D i e o).2.1;unfold AV.flat at this;exact this
        .have o:es[i]?=some es[i]:=QF z;obtain⟨_,_,T⟩:=D i _ o;have ag:vs.length=cs.length:=F.1.symm;have B:i*sz+sz<=len*sz:=by rw[←Nat.succ_mul,←R];exact Nat.mul_le_mul_right _ z
         refine⟨?_,λj' c hc=>?_⟩
         .have:(f i).cells.toList.length=sz:=by rw[T];simp;omega
          simpa using this
         .have g:(f i).cells.toList[j']?=some c:=by simpa using hc
          rw[T,List.getElem?_take]at g;split at g
          .rw[List.getElem?_drop,List.getElem?_take]at g;split at g
           .rw[List.getElem?_drop]at g;have:=k3 _ c g;rw[Nat.add_assoc];exact this
           .cases g
          .cases g
      .cases h
     .cases h
    .cases h
   .cases h
  .split at h
   .cases h
   .rename_i X;cases h;exact O (zNA d C X) l
end
theorem zV2{E E':Env}{w:World}:∀(d:Nat){v:AV}{cv:Value},zDF d v=true->VR E w v cv->VR E' w v cv:=by
 intro d
 induction d with
 |zero=>intro v cv h;cases h
 |succ d r=>
  intro v cv h q;cases q with
  |bool b=>exact .bool b
  |int k n g=>exact .int k n g
  |str l s g c=>exact .str l s g c
  |qm=>exact .qm
  |qa=>exact .qa
  |ql=>exact .ql
  |qk=>exact .qk
  |qf=>exact .qf
  |iface t v cv q=>exact .iface t v cv (r h q)
  |agg cs f c o h1=>
   have h:cs.all (zDF d)=true:=h;exact .agg cs f c (λi x v e p=>r (QD.1 h x (QE e)) (o i x v e p)) h1
  |qc cs f c o=>
   have h:cs.all (zDF d)=true:=h;exact .qc cs f c (λi x v e p=>r (QD.1 h x (QE e)) (o i x v e p))
  |_=>cases h
theorem zFR{b:Bool}{A B:Prop}(h:Br b A B):(b=true/\A)\/(b=false/\B):=by
 cases b with
 |true=>exact .inl ⟨rfl,h⟩
 |false=>exact .inr ⟨rfl,h⟩
section
variable{P:Program}{G:Cx}{nt:Nat}{E:Env}{w:World}{a:Act}{β:Nat->Option Nat}{st:Sta}
 {Z0 B0:Nat->Prop} {w0:World} {dl:List Deferred} {o:Oper} {k:AV->Sta->Prop} {tb:TblS}
theorem zXv{y:XO}(c:Ctx P G nt Z0 B0 w0 dl E w a β st o y){f:Nat}{q:JE}{v:AV}{fr':Fr}(B:FrR (zCz E β st.H st.V) w fr' a nt)(hx:xoS G (zUl f q v) fr' [] 0 y=some (v,[],0))(h1:Enters P f)(J:∀H nx,FnT P G f q H nx v H nx)(S:zDF 8 v=true)(A:PP v)
  (hk:k v st):OpK P G nt Z0 B0 w0 dl o w a k:=by
 intro next Q T;have t:∀b,(zCz E β st.H st.V).Z b->b<w.heap.size:=by
  rintro b (l|⟨p,i,rfl⟩|⟨j,z,q1,q2,q3⟩)
  .exact c.s.hr.wa b l
  .exact c.s.hr.lt i
  .exact(c.s.qT j z q1).2.lt q2 q3
 have C:HR (zCz E β st.H st.V) [] w:=⟨.nil,λp i=>by simp at i,λp i=>by simp at i,λp i=>by simp at i,λp i=>by simp at i,t⟩
 have D:GR G (zCz E β st.H st.V) w:=λg u h=>⟨VR.pp (E:=E) (E':=zCz E β st.H st.V) (w:=w) (w':=w) (λb l=>⟨.inl l,rfl⟩) (c.s.hg g u h).1 (c.hG g u h),(c.s.hg g u h).2⟩
 refine zJI C B D c.hm (zTh h1 J) c.hc (λh _ _ M=>M) hx next Q λL E' w' U r N=>?_
 have e:∀x,x<w.heap.size->w'.heap[x]? = w.heap[x]?:=λx hx=>r.qI x hx λp i=>by simp at i
 have F:∀{u I},VR E w u I->VR E w' u I:=λR=>VR.mono (E:=E) (E':=E) (λ_ h=>⟨h,rfl⟩) (λb l=>⟨l,e b (c.s.hr.wa b l)⟩) r.qn R
 have d:=c.s;refine T v st L E w' hk (zaa (E:=E) (E2:=E) (w:=w) (β:=β) (β2:=β) (st:=st) (st2:=st.put o.dst v) ⟨⟨⟨d.hr.nodup,d.hr.qz,d.hr.inj,λp i=>(d.hr.obj p i).mono (e _ (d.hr.lt i)) F,d.hr.nz,λb l=>Qf (d.hr.wa b l) r.size⟩,d.hf.put F c.hd (zV2 8 S N),λg u h=>⟨F (d.hg g u h).1,(d.hg g u h).2.mono r.qn⟩,d.qz,d.qW.qu A.cp,d.cH,λj z h=>⟨(d.qT j z h).1,(d.qT j z h).2.mono rfl (λ_=>rfl) (λb O l=>e b ((d.qT j z h).2.lt O l)) (λb l=>⟨l,e b (d.hr.wa b l)⟩) r.qn λ_ _ _ _ sz es h=>⟨rfl,es,h,rfl⟩⟩,d.vp,d.bz,d.qS⟩,
  ⟨λ_ h=>h,λ_ h=>.inl h,λ_ h=>.inl h,r.tape,r.os,r.output,r.size,λx hx _=>e x hx,r.qn⟩⟩ c.kp c.df)
theorem zcM{H:Heap}{V:Vecs}{d:Nat}{f:Fn}{a b x y:JE}(c:zF (frz H V d) a=some x)(e:zF (frz H V d) b=some y):frz H V (d+1) (.func f a b)=some (.func f x y):=by
 conv=>lhs;unfold frz
 simp only[c,e]
def zM9:List XV->JE->Fr
 |.t t::xs,v::vs=>(t,v)::zM9 xs vs
 |_::xs,_::vs=>zM9 xs vs
 |_,_=>[]
theorem zRl{G:Cx}{fr:Fr}{f:AV->JF}:∀{xs:List XV}{vs d:JE},evs G fr xs=some vs->zF f vs=some d->∀t,((zM9 xs d).get t=none/\XV.t t ∉ xs)\/∃v v',fr.get t=some v/\f v=some v'/\(zM9 xs d).get t=some v'
 |[],vs,d,h,l,t=>.inl ⟨by cases d<;>rfl,by simp⟩
 |x::xs,vs,d,h,l,t=>by
  simp only[evs]at h;split at h
  .rename_i v s;split at h
   .rename_i us q;cases h;simp only[zF]at l;split at l
    .rename_i v' p;split at l
     .rename_i r o;cases l;have i:=zRl q o t;cases x with
      |t n=>
       simp only[zM9,Fr.get];by_cases e:n=t
       .subst e;simp only[Nat.beq_refl];exact .inr ⟨v,v',s,p,rfl⟩
       .have:Nat.beq n t=false:=by
         cases hb:Nat.beq n t with
         |false=>rfl
         |true=>exact absurd (zc hb) e
        simp only[this];rcases i with⟨i1,i2⟩|i
        .exact .inl ⟨i1,by simp only[QH,XV.t.injEq,not_or];exact⟨λh=>e h.symm,i2⟩⟩
        .exact .inr i
      |c u=>
       rcases i with⟨i1,i2⟩|i
       .exact .inl ⟨i1,by simpa using i2⟩
       .exact .inr i
      |g u=>
       rcases i with⟨i1,i2⟩|i
       .exact .inl ⟨i1,by simpa using i2⟩
       .exact .inr i
     .cases l
    .cases l
   .cases h
  .cases h
theorem zRm{G:Cx}{fr fr':Fr}{H:Heap}{V:Vecs}{d:Nat}(s:GPP G):∀{xs:List XV}{vs e:JE},xs.all zG=true->(∀t,XV.t t∈xs->∀v v',fr.get t=some v->frz H V d v=some v'->fr'.get t=some v')->evs G fr xs=some vs->zF (frz H V d) vs=some e->evs G fr' xs=some e
 |[],vs,e,_,_,h,f=>by cases h;cases f;rfl
 |x::xs,vs,e,l,r,h,f=>by
  rw[Qb,qr]at l;simp only[evs]at h⊢;split at h
  .rename_i v p;split at h
   .rename_i us q;cases h;simp only[zF]at f;split at f
    .rename_i v' i;split at f
     .rename_i z o;cases f;have B:=zRm s l.2 (λt y=>r t (.tail _ y)) q o
      have A:x.ev G fr'=some v':=by
       cases x with
       |t n=>exact r n (.head _) v v' p i
       |c u=>cases p;rw[zbn d (zCb 12 l.1) i];rfl
       |g u=>rw[zbn d (s u v p) i];exact p
      rw[A,B]
     .cases f
    .cases f
   .cases h
  .cases h
theorem zfQ{f:Nat}{xs:List XV}(r:TbW P G tb)(c:Ctx P G nt Z0 B0 w0 dl E w a β st o (.call f xs)){vs:JE}(D:evs G st.fr xs=some vs)(h:zEW tb f vs st k):OpK P G nt Z0 B0 w0 dl o w a k:=by
 have C:xs.all zG=true:=by have:=c.ok;simp only[zy,XO.qb,zAm,QV]at this;exact this
 unfold zEW at h;split at h
 .obtain⟨s,B,rfl,g,v,d,hk⟩:=zG6 h;obtain⟨q1,I,z⟩:=r s B vs v g d;exact c.gen (zTh q1 z) (by simp only[xoS,D,zM8]) I.cp c.s.cH hk
 .split at h
  .rename_i p i;obtain⟨s,B,rfl,g,v,d,hk⟩:=zG6 h;obtain⟨q1,I,z⟩:=r s B p v g d;split at hk
   rotate_left
   .exact hk.elim
   rename_i F;have l:=zRl (f:=frz st.H st.V 8) D i;refine zXv c (fr':=zM9 xs p) ⟨c.s.hf.size,λt u q=>?_⟩ ?_ q1 z F I hk
   .rcases l t with⟨e,_⟩|⟨v1,v2,x,A,y⟩
    .rw[e]at q;cases q
    .rw[y]at q;cases q;exact zGT c.s 8 (c.s.qW t v1 x) (c.s.hf.get t v1 x) A
   .have:=zRm (fr':=zM9 xs p) c.hG C (λt q v1 v2 x A=>by
     rcases l t with⟨_,e⟩|⟨v3,v4,y,J,L⟩
     .exact absurd q e
     .rw[x]at y;cases y;rw[A]at J;cases J;exact L) D i
    simp only[xoS,this,zM8]
  .exact h.elim
theorem zew{z:XV}{xs:List XV}(I:TbW P G tb)(c:Ctx P G nt Z0 B0 w0 dl E w a β st o (.qM z xs)){f:Nat}{first i vs:JE}(hf:z.ev G st.fr=some (.func (.func f) first i))(hv:evs G st.fr xs=some vs)(h:zEW tb f (first++vs++i) st k):OpK P G nt Z0 B0 w0 dl o w a k:=by
 have D:zG z=true/\xs.all zG=true:=by have:=c.ok;simp only[zy,XO.qb,zAm,List.all_append,Qb,List.all_nil,QV,qr]at this;exact this
 unfold zEW at h;split at h
 .obtain⟨s,T,rfl,p,v,l,hk⟩:=zG6 h;obtain⟨q1,Y,N⟩:=I s T _ v p l;exact c.gen (zTh q1 N) (by simp only[xoS,hf,hv,zJu,zM8]) Y.cp c.s.cH hk
 .split at h
  .rename_i U C;obtain⟨s,T,rfl,p,v,l,hk⟩:=zG6 h;obtain⟨q1,Y,N⟩:=I s T U v p l;split at hk
   rotate_left
   .exact hk.elim
   rename_i W;obtain⟨xy,g,h1,h2,rfl⟩:=zNL C;obtain⟨d,q,h3,h4,rfl⟩:=zNL h1;have X:frz st.H st.V 9 (.func (.func s.1) first i)=some (.func (.func s.1) d g):=zcM h3 h2;have M:zF (frz st.H st.V 9) vs=some q:=zIB (λx y=>zcL 8) h4
   have B:evs G st.fr (z::xs)=some (.func (.func s.1) first i::vs):=by simp only[evs,hf,hv]
   have F:zF (frz st.H st.V 9) (.func (.func s.1) first i::vs)=some (.func (.func s.1) d g::q):=by simp only[zF,X,M]
   have r:=zRl (f:=frz st.H st.V 9) B F;refine zXv c (fr':=zM9 (z::xs) (.func (.func s.1) d g::q)) ⟨c.s.hf.size,λt u A=>?_⟩ ?_ q1 N W Y hk
   .rcases r t with⟨e,_⟩|⟨v1,v2,J,S,L⟩
    .rw[e]at A;cases A
    .rw[L]at A;cases A;exact zGT c.s 9 (c.s.qW t v1 J) (c.s.hf.get t v1 J) S
   .have:=zRm (fr':=zM9 (z::xs) (.func (.func s.1) d g::q)) c.hG (xs:=z::xs) (by rw[Qb,D.1,D.2];rfl) (λt A v1 v2 J S=>by
     rcases r t with⟨_,e⟩|⟨v3,v4,L,e4,e5⟩
     .exact absurd A e
     .rw[J]at L;cases L;rw[S]at e4;cases e4;exact e5) B F
    simp only[evs]at this;split at this
    .rename_i g1 O;split at this
     .rename_i g2 R;cases this;simp only[xoS,O,R,zJu,zM8]
     .cases this
    .cases this
  .exact h.elim
theorem zPT{k:IntKind}{n:Int}{c top:Nat}(d:0<=n)(h1:n.toNat<=top):bnd (some (.int k n)) c top=some n.toNat:=by
 obtain⟨m,rfl⟩:=Int.eq_ofNat_of_zero_le d;rw[Int.toNat_natCast]at h1⊢;have:Nat.ble m top=true:=by rw[Qt];exact h1
 show(match Nat.ble m top with|true=>some m|false=>none)=some m
 rw[this]
theorem zLZ{N:Nat}{lo f:JF}{k:Int->Int->Prop}(h:zMb (.ofNat N) lo f k):∃l r:Int,k l r/\bnd f N N=some r.toNat/\bnd lo 0 r.toNat=some l.toNat/\l.toNat<=r.toNat/\r.toNat<=N:=by
 unfold zMb at h;split at h
 .split at h
  .exact⟨0,.ofNat N,h,rfl,rfl,QI _,QA _⟩
  .rename_i kd r;obtain⟨⟨h1,c⟩,e⟩:=h;have c:r<=(N:Int):=c;exact⟨0,r,e,zPT h1 (by omega),rfl,QI _,by omega⟩
  .exact h.elim
 .rename_i kd l;split at h
  .obtain⟨⟨h1,c⟩,e⟩:=h;have c:l<=(N:Int):=c;refine⟨l,.ofNat N,e,rfl,zPT h1 ?_,?_,QA _⟩
   .show l.toNat<=N;omega
   .show l.toNat<=N;omega
  .rename_i g r;obtain⟨⟨h1,c,d⟩,e⟩:=h;have d:r<=(N:Int):=d;exact⟨l,r,e,zPT (by omega) (by omega),zPT h1 (by omega),by omega,by omega⟩
  .exact h.elim
 .exact h.elim
theorem zXw{fr:Fr}:evo G fr none=some none:=rfl
theorem zZe{es:JE}{k:IntKind}{n:Int}{v:AV}(h:ixN es n=some v):idx es (.int k n)=some v/\v∈es:=by
 unfold ixN at h;split at h
 .exact⟨h,QE h⟩
 .cases h
theorem SR.known(s:SR G nt E w a β st){n:Nat}{v:AV}(h:st.fr.get n=some v):SR G nt E w a β ⟨st.fr.put n v,st.H,st.V,st.m,st.mv⟩:=by
 have d:∀t,(st.fr.put n v).get t=st.fr.get t:=λt=>by
  rw[Fr.qq];split
  .rename_i e;subst e;exact h.symm
  .rfl
 exact⟨s.hr,⟨s.hf.size,λt u c=>s.hf.get t u (by rw[←d t];exact c)⟩,s.hg,s.qz,λt u c=>s.qW t u (by rw[←d t];exact c),s.cH,s.qT,s.vp,s.bz,s.qS⟩
theorem zXx{fr:Fr}{n:Nat}{v:AV}(h:fr.get n=some v)(x:XV):x.ev G (fr.put n v)=x.ev G fr:=by
 cases x with
 |t t=>
  show(fr.put n v).get t=fr.get t
  rw[Fr.qq];split
  .rename_i e;subst e;exact h.symm
  .rfl
 |_=>rfl
theorem zFX{n:Int}:∀{l:Nat}{k:Nat->Prop},zKt n l k->∀m,m<l->n=.ofNat m->k m
 |0,k,_,m,c,_=>by omega
 |l+1,k,h,m,c,e=>by
  rcases Nat.lt_succ_iff_lt_or_eq.1 c with h1|rfl
  .exact zFX h.1 m h1 e
  .exact h.2 e
theorem zXy{G:Cx}{fr:Fr}{len sz:Nat}{z:JE}{c:List (Nat×Nat×XV)}{es:JE}(h:bsL G fr len sz z c=some es):∃cs,zCs G fr z c=some cs/\cs.length=len*sz/\zE7 sz len cs=some es/\es.all (ppS 12)=true:=by
 unfold bsL at h;split at h
 .rename_i cs e;split at h
  .rename_i f;split at h
   .rename_i i g;split at h
    .rename_i d;cases h;exact⟨cs,e,zc f,g,d⟩
    .cases h
   .cases h
  .cases h
 .cases h
theorem SR.uv{d:Option Nat}{cv:Value}{sz:Nat}{es:JE}{E:Env}{w:World}{a:Act}{β:Nat->Option Nat}{st:Sta}(N:zFn st.mv st.m st.fr)(O:HCP st.mv st.m st.H)(y:∀j vi,st.V.get j=some vi->j<st.mv)(S:∀j z i off,st.V.get j=some (.qU z i off)->z<st.mv)
  (s:SR G nt E w (a.put d cv) β ⟨qu st.fr d (.sym st.mv),st.H,(st.mv,.vec sz es)::st.V,st.m,st.mv+1⟩):
  ∃E2,SR G nt E2 w (a.put d cv) β ⟨qu st.fr d (.qg sz es),st.H,st.V,st.m,st.mv⟩/\Kp E.Z (BS E β st.H ((st.mv,.vec sz es)::st.V)) w E2.Z (BS E2 β st.H st.V) w:=by
 have gv:Vecs.get ((st.mv,VI.vec sz es)::st.V) st.mv=some (.vec sz es):=by rw[Vecs.qh,if_pos rfl]
 have go:∀{j vi},st.V.get j=some vi->Vecs.get ((st.mv,VI.vec sz es)::st.V) j=some vi:=λ{j vi} h=>by
  rw[Vecs.qh,if_neg (by have:=y j vi h;omega)];exact h
 have sF:SR G nt E w (a.put d cv) β ⟨qu st.fr d (.sym st.mv),[],[(st.mv,.vec sz es)],st.m,st.mv+1⟩:=by
  have g1:∀{j vi},Vecs.get [(st.mv,VI.vec sz es)] j=some vi->j=st.mv/\vi=.vec sz es:=λ{j vi} h=>by
   rw[Vecs.qh]at h;split at h
   .rename_i e;cases h;exact⟨e.symm,rfl⟩
   .cases h
  refine⟨⟨.nil,λp c=>(by cases c),λp c=>(by cases c),λp c=>(by cases c),λp c=>(by cases c),s.hr.wa⟩,s.hf,s.hg,s.qz,s.qW,λp c=>(by cases c),λj vi h=>?_,λj z i off h=>?_,λj vi b h L l=>?_,λj U vi C b h1 r _ _ _ _=>(g1 h1).1.trans (g1 r).1.symm⟩
  .obtain⟨rfl,rfl⟩:=g1 h;exact s.qT st.mv _ gv
  .have:=(g1 h).2;cases this
  .obtain⟨rfl,rfl⟩:=g1 h;exact⟨(s.bz st.mv _ b gv L l).1,λp c=>(by cases c)⟩
 let E2:Env:=⟨E.ρ,E.D,λx=>E.Z x\/BS E β [] [(st.mv,.vec sz es)] x,E.σ⟩
 have up:∀{u F},VR (zCz E β [] [(st.mv,.vec sz es)]) w u F->VR E2 w u F:=λf=>VR.mono (E:=zCz E β [] [(st.mv,.vec sz es)]) (E':=E2) (λ_ h=>h.elim) (λb l=>⟨l,rfl⟩) (.refl w) f
 have same:∀{u F},VR E w u F->VR E2 w u F:=λf=>VR.mono (E:=E) (E':=E2) (λ_ h=>⟨h,rfl⟩) (λb l=>⟨.inl l,rfl⟩) (.refl w) f
 have q:∀{x},BS E β [] [(st.mv,.vec sz es)] x->β st.mv=some x:=λ{x} o=>by
  rcases o with⟨p,c,_⟩|⟨j,vi,h1,r,J⟩
  .cases c
  .rw[Vecs.qh]at h1;split at h1
   .rename_i e;rw[e];exact J
   .cases h1
 have T:∀e∈es,PP e:=(s.qT st.mv _ gv).2.1;have I:∀n,d=some n->VR E2 w (.qg sz es) ((a.put d cv).tmps.getD n undef):=λn e=>by
  subst e;have h1:(qu st.fr (some n) (.sym st.mv)).get n=some (.sym st.mv):=by simp[zJZ,Fr.qq]
  have r:frz [] [(st.mv,VI.vec sz es)] 1 (.sym st.mv)=some (.qg sz es):=by
   have:Vecs.get [(st.mv,VI.vec sz es)] st.mv=some (.vec sz es):=by rw[Vecs.qh,if_pos rfl]
   simp only[frz,this]
  exact up (zGT sF 1 (.sym _ (QX _)) (s.hf.get n _ h1) r)
 have B:∀t u,d≠some t->st.fr.get t=some u->VR E2 w u ((a.put d cv).tmps.getD t undef):=λt u M f=>by
  refine same (s.hf.get t u ?_)
  cases d with
  |none=>exact f
  |some n=>
   show(qu st.fr (some n) (.sym st.mv)).get t=_
   rw[zJZ,Fr.qq,if_neg (λe=>M (by rw[e]))]
   exact f
 have v:∀t u,(qu st.fr d (.qg sz es)).get t=some u->VR E2 w u ((a.put d cv).tmps.getD t undef)/\CP st.mv st.m u:=λt u f=>by
  by_cases e:d=some t
  .subst e;rw[zJZ,Fr.qq,if_pos rfl]at f;cases f;exact⟨I t rfl,.qg _ _ T⟩
  .have f:st.fr.get t=some u:=by
    cases d with
    |none=>exact f
    |some n=>
     rw[zJZ,Fr.qq,if_neg (λh=>e (by rw[h]))]at f
     exact f
   exact⟨B t u e f,N t u f⟩
 refine⟨E2,⟨⟨s.hr.nodup,s.hr.qz,s.hr.inj,λp c=>(s.hr.obj p c).mono rfl same,?_,?_⟩,⟨s.hf.size,λt u f=>(v t u f).1⟩,λg u h=>⟨same (s.hg g u h).1,(s.hg g u h).2⟩,s.qz,λt u f=>(v t u f).2,O,λj vi h=>?_,λj z i off h=>S j z i off h,λj vi b h L l=>?_,λj U vi C b h1 r J W Y h6=>s.qS j U vi C b (go h1) (go r) J W Y h6⟩,⟨λx o=>.inl o,λx o=>?_,λx o=>?_,rfl,rfl,rfl,QA _,λ_ _ _=>rfl,.refl w⟩⟩
 .rintro p c (hz|hz)
  .exact s.hr.nz p c hz
  .exact(s.bz st.mv _ _ gv rfl (q hz)).2 p c rfl
 .rintro b (l|l)
  .exact s.hr.wa b l
  .exact(s.qT st.mv _ gv).2.lt rfl (q l)
 .have h1:=s.qT j vi (go h);exact⟨y j vi h,h1.2.mono rfl (λ_=>rfl) (λb _ _=>rfl) (λb l=>⟨.inl l,rfl⟩) (.refl w) λz i off _ aa R A=>⟨rfl,R,go A,rfl⟩⟩
 .obtain⟨X,z2⟩:=s.bz j vi b (go h) L l;refine⟨?_,z2⟩
  rintro (hz|hz)
  .exact X hz
  .have:=s.qS j st.mv _ _ b (go h) gv L rfl l (q hz);have:=y j vi h;omega
 .rcases o with o|o
  .exact .inl o
  .exact .inr (.inl (.inr ⟨st.mv,_,gv,rfl,q o⟩))
 .rcases o with⟨p,c,e⟩|⟨j,vi,h1,r,J⟩
  .exact .inl (.inl ⟨p,c,e⟩)
  .exact .inl (.inr ⟨j,vi,go h1,r,J⟩)
theorem zbo{len sz:Nat}{z:JE}{g:List (Nat×Nat×XV)}{k:AV->Sta->Prop}(c:Ctx P G nt Z0 B0 w0 dl E w a β st o (.qx len sz z g)){es:JE}(C:bsL G st.fr len sz z g=some es)(hk:k (.qg sz es) st):OpK P G nt Z0 B0 w0 dl o w a k:=by
 obtain⟨cs,u,x,y,t⟩:=zXy C;intro next Q A;refine zXs (k:=λv st1=>v=.sym st.mv/\st1=⟨st.fr,st.H,(st.mv,.vec sz es)::st.V,st.m,st.mv+1⟩) c u x y t ⟨rfl,rfl⟩ next Q λv st1 p E' w' e d=>?_
 obtain⟨rfl,rfl⟩:=e;obtain⟨F,i,l,f⟩:=d.out;obtain⟨r,q,B⟩:=SR.uv c.s.qW c.s.cH (λj D h=>(c.s.qT j D h).1) c.s.vp i
 exact A _ _ p r w' hk ⟨F,q,l.trans B,f⟩
theorem zbp(ac:TbW P G tb){ab:XO}{ks:List K}(c:Ctx P G nt Z0 B0 w0 dl E w a β st o ab)(h:wop G tb st ab ks k):OpK P G nt Z0 B0 w0 dl o w a k:=by
 cases ab<;>try (exact h.elim)
 all_goals try (exact c.wA rfl h)
 case q9 x i l sz ag=>
  simp only[wop]at h;split at h
  .exact c.wA rfl h
  .split at h
   .rename_i kd n F;obtain⟨⟨h1,A⟩,N⟩:=h;obtain⟨m,rfl⟩:=Int.eq_ofNat_of_zero_le h1;have hk:=zFX N m (Int.ofNat_lt.1 A) rfl;have e:xoS G zj st.fr st.H st.m (.q9 x i l sz ag)=xoS G zj st.fr st.H st.m (.q9 x (.c (.int kd (.ofNat m))) l sz ag):=by
     have F:i.ev G st.fr=some (.int kd (.ofNat m)):=F;simp only[xoS];rw[F];rfl
    exact c.wA rfl (by rw[e];exact hk)
   .exact h.elim
 case qy x i l sz=>
  simp only[wop]at h;split at h
  .exact c.wA rfl h
  .split at h
   .rename_i kd n F;obtain⟨⟨h1,A⟩,N⟩:=h;obtain⟨m,rfl⟩:=Int.eq_ofNat_of_zero_le h1;have hk:=zFX N m (Int.ofNat_lt.1 A) rfl;have e:xoS G zj st.fr st.H st.m (.qy x i l sz)=xoS G zj st.fr st.H st.m (.qy x (.c (.int kd (.ofNat m))) l sz):=by
     have F:i.ev G st.fr=some (.int kd (.ofNat m)):=F;simp only[xoS];rw[F];rfl
    exact c.wA rfl (by rw[e];exact hk)
   .exact h.elim
 case pick cc x y=>
  simp only[wop]at h;split at h
  .rename_i cb aa;split at h
   .rename_i n;have O:st.fr.get n=some (.bool cb):=aa;have B:(zG (.t n)=true/\zG x=true)/\zG y=true:=by have:=c.ok;simp only[zy,XO.qb,zAm,List.all_append,Qb,List.all_nil,QV,qr]at this;exact this
    have c':Ctx P G nt Z0 B0 w0 dl E w a β ⟨st.fr.put n (.bool cb),st.H,st.V,st.m,st.mv⟩ o (.pick (.t n) x y):=⟨c.s.known O,c.kp,c.df,c.hG,c.hm,c.hc,c.hd,c.ok⟩;rcases zFR h with⟨rfl,A⟩|⟨rfl,A⟩
    .split at A
     .rename_i v L;exact c'.val (by simp only[xoS,zXx O,aa,L]) (zAc c.hG c.s.qW B.1.2 L) A
     .exact A.elim
    .split at A
     .rename_i v L;exact c'.val (by simp only[xoS,zXx O,aa,L]) (zAc c.hG c.s.qW B.2 L) A
     .exact A.elim
   .exact c.wA rfl h
  .exact h.elim
 case bin op x y=>
  simp only[wop]at h;split at h
  .rename_i s1 d;split at h
   .split at h
    .rename_i s2 D;obtain⟨h1,A⟩:=h;have g:Nat.ble (s1.length+s2.length) zh=true:=by rw[Qt];exact h1
     exact c.val (by simp only[xoS,d,D,zGP,g]) (.str _) A
    .exact h.elim
   .exact c.wA rfl h
  .rename_i k1 n1 d;split at h
   .split at h
    .rename_i k2 n2 D;split at h
     .rename_i hk;obtain⟨h1,A⟩:=h;have g:(n2==0)=false:=by rw[beq_eq_false_iff_ne];exact h1
      exact c.val (by simp only[xoS,d,D,zGP,hk,g]) (.int _ _) A
     .exact h.elim
    .exact h.elim
   .split at h
    .rename_i k2 n2 D;split at h
     .rename_i hk;obtain⟨h1,A⟩:=h;have g:(n2==0)=false:=by rw[beq_eq_false_iff_ne];exact h1
      exact c.val (by simp only[xoS,d,D,zGP,hk,g]) (.int _ _) A
     .exact h.elim
    .exact h.elim
   .split at h
    .rename_i k2 n2 D;obtain⟨h1,A⟩:=h;have g:decide (n2<0)=false:=by rw[decide_eq_false_iff_not];omega
     exact c.val (by simp only[xoS,d,D,zGP,g]) (.int _ _) A
    .exact h.elim
   .split at h
    .rename_i k2 n2 D;obtain⟨h1,A⟩:=h;have g:decide (n2<0)=false:=by rw[decide_eq_false_iff_not];omega
     exact c.val (by simp only[xoS,d,D,zGP,g]) (.int _ _) A
    .exact h.elim
   .exact c.wA rfl h
  .exact h.elim
 case wF neg kd x y=>
  simp only[wop]at h;split at h
  .rename_i p d;split at h
   .rename_i q D;split at h
    .rename_i r hr;obtain⟨T,X,e3⟩:=zTg hr;have:eqs kd p q=some r:=by simp only[eqs,X,e3,Nat.beq_refl,T]
     exact c.val (by simp only[xoS,d,D,this]) (by unfold zEV;exact .bool _) h
    .exact h.elim
   .exact h.elim
  .exact h.elim
 case vB x=>
  simp only[wop]at h;split at h
  .rename_i s d;exact zgv c d h
  .exact h.elim
 case vj x=>
  simp only[wop]at h;have B:zG x=true:=by have:=c.ok;simp only[zy,XO.qb,zAm,QV,Qb,List.all_nil]at this;exact this
  split at h
  .rename_i j d;split at h
   .rename_i sz es I;split at h
    .rename_i g;have:=zc g;subst this;obtain⟨s,hs,hk⟩:=h;exact zgw c d I hs hk
    .exact h.elim
   .exact h.elim
  .rename_i sz es d;split at h
   .rename_i g;have:=zc g;subst this;obtain⟨s,hs,hk⟩:=h;exact c.val (by simp only[xoS,d,zS2 (zNK hs),hs]) (.str _) hk
   .exact h.elim
  .rename_i d;exact c.val (by simp only[xoS,d,content,zBw]) (.str _) h
  .exact h.elim
 case wK x i=>
  simp only[wop]at h;split at h
  .rename_i s d;split at h
   .rename_i kd n F;obtain⟨b,g,hk⟩:=h;unfold ixN at g;split at g
    .exact c.val (by simp only[xoS,d,F,g]) (.int _ _) hk
    .cases g
   .exact h.elim
  .exact h.elim
 case qx len sz z ps=>
  cases ks with
  |nil=>
   simp only[wop]at h;split at h
   .rename_i cs hf;split at h
    .rename_i hl;split at h
     .rename_i es hr;split at h
      .rename_i R;exact zXs c hf (zc hl) hr R h
      .exact h.elim
     .exact h.elim
    .exact h.elim
   .exact h.elim
  |cons k0 ks=>
   cases k0 with
   |c u=>
    simp only[wop]at h;split at h
    .rename_i es he;exact zbo c he h
    .exact h.elim
   |_=>exact c.wA rfl h
 case load x sz ag=>
  simp only[wop]at h;split at h
  .exact c.wA rfl h
  .exact h.elim
  .rename_i p _ d;split at h
   .rename_i j i off R;split at h
    .rename_i M es I;obtain⟨v,L,hk⟩:=h;exact zfO c d R I L hk
    .exact h.elim
   .exact h.elim
  .exact c.wA rfl h
 case store x y sz=>
  simp only[wop]at h;have B:zG x=true/\zG y=true:=by have:=c.ok;simp only[zy,XO.qb,zAm,QV,List.all_append,Qb,List.all_nil,qr]at this;exact this
  split at h
  .rename_i p d;split at h
   .rename_i j i off R;split at h
    .rename_i M es I;split at h
     .rename_i v D;split at h
      .rename_i g;simp only[qr]at g;obtain⟨⟨b1,b2⟩,b3⟩:=g;have b1:=zc b1;have b2:=zc b2;subst b1;subst b2;split at h
       .rename_i new hn;exact zeu c d R I D (zEH 12 (zAc c.hG c.s.qW B.2 D) b3) hn h
       .exact h.elim
      .exact h.elim
     .exact h.elim
    .exact h.elim
   .exact h.elim
  .exact c.wA rfl h
 case qR x off=>
  simp only[wop]at h;split at h
  .rename_i p d;split at h
   .rename_i j i o' R;split at h
    .rename_i sz es I;exact zet c d R I h
    .exact h.elim
   .exact h.elim
  .exact c.wA rfl h
 case qC x i sz=>
  simp only[wop]at h;have B:zG x=true/\zG i=true:=by have:=c.ok;simp only[zy,XO.qb,zAm,QV,List.all_append,Qb,List.all_nil,qr]at this;exact this
  split at h
  .rename_i M es d;split at h
   .rename_i g;split at h
    .rename_i kd n F;obtain⟨v,L,hk⟩:=h;obtain⟨T,X⟩:=zZe (k:=kd) L;have S:=zAc c.hG c.s.qW B.1 d;cases S with
     |qg _ _ Y=>exact c.val (by simp only[xoS,d,F,g,T]) (.qd _ _ (Y v X)) hk
    .exact h.elim
   .exact h.elim
  .rename_i j d;split at h
   .rename_i M es I;split at h
    .rename_i g;have:=zc g;subst this;split at h
     .rename_i kd n F;obtain⟨⟨h1,A⟩,N⟩:=h;exact zcJ c d I F h1 A N
     .exact h.elim
    .exact h.elim
   .exact h.elim
  .split at h
   .rename_i kd n F;obtain⟨⟨h1,A⟩,N⟩:=h;obtain⟨m,rfl⟩:=Int.eq_ofNat_of_zero_le h1;have hk:=zFX N m (Int.ofNat_lt.1 A) rfl;have e:xoS G zj st.fr st.H st.m (.qC x i sz)=xoS G zj st.fr st.H st.m (.qC x (.c (.int kd (.ofNat m))) sz):=by
     have F:i.ev G st.fr=some (.int kd (.ofNat m)):=F;simp only[xoS];rw[F];rfl
    exact c.wA rfl (by rw[e];exact hk)
   .exact h.elim
  .exact h.elim
 case wC x lo F=>
  simp only[wop]at h;split at h
  .rename_i s d;split at h
   .rename_i ai U;split at h
    .rename_i ah W;obtain⟨l,r,hk,T,X,_,_⟩:=zLZ h;exact c.val (by simp only[xoS,d,U,W,T,X]) (.str _) hk
    .exact h.elim
   .exact h.elim
  .exact h.elim
 case wv x lo F mx sz=>
  simp only[wop]at h;have B:=c.ok;simp only[zy,qr]at B;split at h
  .rename_i M es d;split at h
   .rename_i g;split at h
    .split at h
     .rename_i ai U;split at h
      .rename_i ah W;obtain⟨l,r,hk,T,X,_,_⟩:=zLZ h;have C:zG x=true:=by
        have:=QD.1 B.1 x (by simp[XO.qb])
        exact this
       have S:=zAc c.hG c.s.qW C d;cases S with
       |qg _ _ Y=>exact c.val (by simp only[xoS,d,U,W,zXw,zK6,g,T,X]) (.qg _ _ λe he=>Y e (QT (Qc he))) hk
      .exact h.elim
     .exact h.elim
    .exact h.elim
   .exact h.elim
  .rename_i d;unfold WXd at h;split at h
   .rename_i v H' m' C;have:v=.qa/\H'=st.H/\m'=st.m:=by
     simp only[xoS,d]at C;split at C
     .rename_i v0 ao aq ar e0 _ _ _;cases e0;simp only[zK6]at C;split at C
      .rename_i v1 J;cases C;split at J
       .split at J
        .split at J
         .cases J;exact⟨rfl,rfl,rfl⟩
         .cases J
        .cases J
       .cases J
      .cases C
     .cases C
    obtain⟨rfl,rfl,rfl⟩:=this;exact c.val C .qa h
   .exact h.elim
  .exact h.elim
 case wj x=>
  simp only[wop]at h;split at h
  .rename_i j d;split at h
   .rename_i sz es I;exact zfN c d I h
   .exact h.elim
  .exact c.wA rfl h
 case append x y sz bytes=>
  simp only[wop]at h;split at h
  .exact h.elim
  .rename_i ae;split at h
   .rename_i v d;split at h
    .rename_i u D;split at h
     .rename_i ys he;split at h
      .rename_i ad;split at h
       .obtain⟨h1,A⟩:=h;exact zRk c ae c.s.hf d D D he ad h1 (λj vi h=>h) A
       .rename_i j;split at h
        .rename_i M es I;split at h
         .rename_i g;have:=zc g;subst this;obtain⟨⟨h1,A⟩,N⟩:=h;exact zXt c ae d I D he ad h1 A N
         .exact h.elim
        .exact h.elim
       .exact h.elim
      .exact h.elim
     .exact h.elim
    .exact h.elim
   .exact h.elim
 case qL l cx sz bytes z=>
  simp only[wop]at h;split at h
  .rename_i k1 n hl;split at h
   .rename_i k2 m af;split at h
    .rename_i e hr hz;obtain⟨⟨h1,A,N,h4⟩,h5⟩:=h;exact zbl c hl af hr (zc hz) h1 A N h4 h5
    .exact h.elim
   .exact h.elim
  .exact h.elim
 case wm=>exact zev c h
 case lookup ag kd m x z ok=>
  simp only[wop]at h;split at h
  .rename_i j hm;split at h
   .rename_i es I;split at h
    .rename_i kv d;split at h
     .rename_i aj;obtain⟨v,L,hk⟩:=h;exact zcK c hm I d aj L hk
     .exact h.elim
    .exact h.elim
   .exact h.elim
  .exact h.elim
 case wE ag kd m x y=>
  simp only[wop]at h;split at h
  .rename_i j hm;split at h
   .rename_i es I;split at h
    .rename_i kv d;split at h
     .rename_i u D;split at h
      .rename_i g;simp only[qr]at g;obtain⟨al,R,hk⟩:=h;exact zfP c hm I d D g.1.1 g.1.2 g.2 R hk
      .exact h.elim
     .exact h.elim
    .exact h.elim
   .exact h.elim
  .exact h.elim
 case call f xs=>
  simp only[wop]at h;split at h
  .rename_i vs L;exact zfQ ac c L h
  .exact h.elim
 case qM fx xs=>
  simp only[wop]at h;split at h
  .rename_i f first ak hf;split at h
   .rename_i vs L;exact zew ac c hf L h
   .exact h.elim
  .exact h.elim
end
open Classical in
noncomputable def zOx:TblS->Nat->JE->JF
 |[],_,_=>none
 |s::r,f,args=>match Nat.beq f s.1 with
  |true=>if s.2.1 args then s.2.2 args else none
  |false=>zOx r f args
theorem zTi:∀{tb:TblS}{f:Nat}{args:JE}{k:AV->Prop},zIx tb f args k->∃v,zOx tb f args=some v/\k v
 |[],f,args,k,h=>h.elim
 |s::r,f,args,k,h=>by
  simp only[zIx]at h;cases hb:Nat.beq f s.1 with
  |true=>
   simp only[hb]at h;obtain⟨h1,c⟩:=h;split at c
   .rename_i v d;exact⟨v,by simp only[zOx,hb,h1,if_true];exact d,c⟩
   .exact c.elim
  |false=>
   simp only[hb]at h;obtain⟨v,h1,c⟩:=zTi h;exact⟨v,by simp only[zOx,hb];exact h1,c⟩
theorem zNM{P:Program}{G:Cx}:∀{tb:TblS}{f:Nat}{args:JE}{v:AV},TbW P G tb->zOx tb f args=some v->Enters P f/\PP v/\∀H nx,FnT P G f args H nx v H nx
 |[],f,args,v,_,h=>by cases h
 |s::r,f,args,v,c,h=>by
  simp only[zOx]at h;split at h
  .rename_i e;split at h
   .rename_i d;have:=c s (.head _) args v d h;rw[zc e];exact this
   .cases h
  .exact zNM (λs g=>c s (.tail _ g)) h
open Classical in
noncomputable def zIC(mv:Nat)(tb:TblS):Call:=λf args H nx=>
 match args.any (zEk 8)with
 |false=>match zOx tb f args with
  |some v=>some (v,H,nx)
  |none=>none
 |true=>if(∀a∈args,CP mv nx a)/\HCP mv nx H/\(∀p∈H,p.1<nx)then
   match zF (frz H [] 8) args with
   |some c=>match zOx tb f c with
    |some v=>match zDF 8 v with
     |true=>some (v,H,nx)
     |false=>none
    |none=>none
   |none=>none
  else none
theorem zac{mv:Nat}{tb:TblS}:Calm (zIC mv tb):=by
 intro f args H nx v d c h;simp only[zIC]at h
 repeat' split at h
 all_goals first
  |(cases h;done)
  |(cases h;exact⟨rfl,rfl⟩)
theorem zcN{P:Program}{G:Cx}{mv:Nat}{tb:TblS}(L:TbW P G tb)(hG:GPP G):zIb P G (zIC mv tb):=by
 intro f args H nx v H' ac h;simp only[zIC]at h;split at h
 .split at h
  .rename_i u F;cases h;obtain⟨h1,X,T⟩:=zNM L F;exact⟨h1,QA _,T _ _⟩
  .cases h
 .split at h
  rotate_left
  .cases h
  rename_i hc;obtain⟨S,O,V⟩:=hc;split at h
  rotate_left
  .cases h
  rename_i z B;split at h
  rotate_left
  .cases h
  rename_i u F;split at h
  rotate_left
  .cases h
  rename_i hs;cases h;obtain⟨h1,X,T⟩:=zNM L F;refine⟨h1,QA _,λE w l d N R aa=>?_⟩
  have C:∀{x:AV}{cx:Value},CP mv nx x->VR E w x cx->VR ⟨E.ρ,λh=>E.D h/\h<nx,E.Z,E.σ⟩ w x cx:=λhc hv=>
   VR.vl (E:=E) (E':=⟨E.ρ,λh=>E.D h/\h<nx,E.Z,E.σ⟩) (w:=w) (w':=w) (λh h1 X=>⟨⟨X,h1⟩,rfl⟩) (λb q=>⟨q,rfl⟩) (.refl w) (λi _=>rfl) hv hc
  have s:SR G 0 ⟨E.ρ,λh=>E.D h/\h<nx,E.Z,E.σ⟩ w { tmps:=#[],defers:=[] } (λ_=>none) ⟨[],H,[],nx,mv⟩:=by
   refine⟨⟨d.nodup,λp c=>⟨d.qz p c,V p c⟩,d.inj,λp c=>?_,d.nz,d.wa⟩,⟨rfl,λt v h=>(by cases h)⟩,λg u h=>⟨C (hG g u h).cp (R g u h).1,(R g u h).2⟩,λh hh=>hh.2,λt v h=>(by cases h),O,λj vi h=>(by cases h),λj j2 i off h=>(by cases h),λj vi b h=>(by cases h),λj j' vi ab b h=>(by cases h)⟩
   obtain⟨str,cs,e,W⟩:=O p c;have:=d.obj p c;rw[e]at this⊢;exact OR.vl rfl (λhc hv=>C hc hv) W this
  obtain⟨m1,m2⟩:=zCc B;have M:VRs (zCz ⟨E.ρ,λh=>E.D h/\h<nx,E.Z,E.σ⟩ (λ_=>none) H []) w z l.toList:=by
   refine⟨m1.trans N.1,λi y u hy F=>?_⟩
   have hi:i<args.length:=by have:=(QB.1 hy).1;omega
   have A:=QF hi;have I:=S _ (QE A);exact zGT s 8 I (C I (N.2 i _ u A F)) (m2 i _ y A hy)
  have J:∀b,(zCz ⟨E.ρ,λh=>E.D h/\h<nx,E.Z,E.σ⟩ (λ_=>none) H []).Z b->b<w.heap.size:=by
   rintro b (q|⟨p,c,rfl⟩|⟨j,vi,q1,_⟩)
   .exact d.wa b q
   .exact d.lt c
   .cases q1
  have Y:HR (zCz ⟨E.ρ,λh=>E.D h/\h<nx,E.Z,E.σ⟩ (λ_=>none) H []) [] w:=⟨.nil,λp c=>by simp at c,λp c=>by simp at c,λp c=>by simp at c,λp c=>by simp at c,J⟩
  have U:GR G (zCz ⟨E.ρ,λh=>E.D h/\h<nx,E.Z,E.σ⟩ (λ_=>none) H []) w:=λg u h=>⟨VR.pp (E:=E) (E':=zCz ⟨E.ρ,λh=>E.D h/\h<nx,E.Z,E.σ⟩ (λ_=>none) H []) (w:=w) (w':=w) (λb q=>⟨.inl q,rfl⟩) (R g u h).1 (hG g u h),(R g u h).2⟩
  refine(T [] 0 _ w l Y M U λh _ _ hD=>hD).mono λe w' h=>?_
  obtain⟨cv,E',rfl,k1,r,k3⟩:=h;have o:∀x,x<w.heap.size->w'.heap[x]? = w.heap[x]?:=λx A=>r.qI x A λp c=>by simp at c
  have hm:∀{u cu},VR E w u cu->VR E w' u cu:=λF=>VR.mono (E:=E) (E':=E) (λ_ h=>⟨h,rfl⟩) (λb q=>⟨q,o b (d.wa b q)⟩) r.qn F
  exact⟨cv,E,rfl,⟨d.nodup,d.qz,d.inj,λp c=>(d.obj p c).mono (o _ (d.lt c)) hm,d.nz,λb q=>Qf (d.wa b q) r.size⟩,
   ⟨QA _,λ_ _=>rfl,λh=>⟨.inl,λh=>h.elim id λ⟨x,y⟩=>by omega⟩,λ_ h=>h,λ_ h=>.inl h,λp c=>.inl ⟨p,c,rfl⟩,r.tape,r.os,r.output,r.size,λx A _=>o x A,r.qn,rfl⟩,zV2 8 hs k3⟩
theorem qp:∀{fr:Fr}{n:Nat}{v:AV},fr.get n=some v->fr.put n v=fr
 |[],n,v,h=>by cases h
 |(k,u)::r,n,v,h=>by
  simp only[Fr.get]at h;simp only[Fr.put];cases e:Nat.beq k n with
  |true=>
   rw[e]at h;cases h;simp only;rw[zc e]
  |false=>
   rw[e]at h;simp only;rw[qp h]
theorem zXz{G:Cx}{call:Call}{fr:Fr}{H:Heap}{m:Nat}{o:XO}{r:Out}(h:xoS G zj fr H m o=some r):xoS G call fr H m o=some r:=by
 cases o<;>first|exact h|skip
 .simp only[xoS]at h⊢;split at h
  .cases h
  .cases h
 .simp only[xoS]at h⊢;split at h
  .unfold zJu at h;split at h
   .cases h
   .cases h
  .cases h
 .simp only[xoS]at h⊢;split at h
  .split at h
   .cases h
   .cases h
  .cases h
theorem zUm{G:Cx}{fr:Fr}{H:Heap}{m:Nat}{o:XO}(l:zPg o=true){v:AV}{H':Heap}{f:Nat}(c:∀p∈H,p.1<m)(h:xoS G zj fr H m o=some (v,H',f)):(∀p∈H',p.1<f)/\m<=f:=by
 have e:=zZ6 (call:=zj) (λ_ _ _ _ _ _ _ h=>by cases h) h
 refine⟨?_,e⟩
 by_cases i:zAn o=0
 .have h1:=zVh (G:=G) (call:=zj) (fr:=fr) (H:=H) (nx:=m) i;rw[h]at h1;split at h1
  .simp only[QN,Prod.mk.injEq]at h1;obtain⟨_,rfl,_⟩:=h1;exact λp d=>Qf (c p d) e
  .cases h1
 .by_cases h1:zAn o=1
  .obtain⟨rfl,rfl⟩:=zY9 h1 h;exact c
  .by_cases g:zAn o=2
   .obtain⟨r,_,rfl,rfl⟩:=zXl g h;intro p d;rcases QH.1 d with rfl|d
    .exact QX _
    .exact Nat.lt_succ_of_lt (c p d)
   .cases o<;>first|(cases l;done)|(exact absurd rfl i)|(exact absurd rfl h1)|(exact absurd rfl g)|skip
    simp only[xoS]at h
    repeat' split at h
    all_goals first|(cases h;done)|skip
    cases h;intro p d;rcases zE9 d with rfl|d
    .have key:∀{h:Nat}{o:HO},H.get h=some o->h<m:=λq=>c _ (Heap.qj q)
     exact key (by assumption)
    .exact c p d
section
variable{P:Program}{G:Cx}{tb:TblS}{st:Sta}{k:AV->Sta->Prop}
structure DXo(G:Cx)(tb:TblS)(st:Sta)(xop:XO)(k:AV->Sta->Prop)(v:AV)(H':Heap)(m':Nat):Prop where
 x:xoS G (zIC st.mv tb) st.fr st.H st.m xop=some (v,H',m')
 cv:CP st.mv m' v
 cH:HCP st.mv m' H'
 lt:∀p∈H',p.1<m'
 le:st.m<=m'
 k:k v ⟨st.fr,H',st.V,m',st.mv⟩
theorem zex(af:TbW P G tb)(U:GPP G){A:XO}{ks:List K}(z:zy A=true)(D:zFn st.mv st.m st.fr)(S:HCP st.mv st.m st.H)(N:∀p∈st.H,p.1<st.m)(h:zEl G tb st A ks k):∃v H' M,DXo G tb st A k v H' M:=by
 have t:∀{k':AV->Sta->Prop},(∀v d,k' v d->k v ⟨d.fr,d.H,st.V,d.m,d.mv⟩)->zPg A=true->WXd ⟨st.fr,st.H,[],st.m,st.mv⟩ (xoS G zj st.fr st.H st.m A) k'->∃v H' M,DXo G tb st A k v H' M:=by
  intro k' ai ah h;unfold WXd at h;split at h
  .rename_i v H' M g;obtain⟨h1,o⟩:=zRi ah z U D S g;obtain⟨Y,h4⟩:=zUm ah N g;exact⟨v,H',M,zXz g,h1,o,Y,h4,ai _ _ h⟩
  .exact h.elim
 have val:∀{v:AV},xoS G zj st.fr st.H st.m A=some (v,st.H,st.m)->CP st.mv st.m v->k v st->∃v H' M,DXo G tb st A k v H' M:=λ{v} g ar hk=>⟨v,st.H,st.m,zXz g,ar,S,N,QA _,hk⟩
 have R:∀{f:Nat}{X:JE},xoS G (zIC st.mv tb) st.fr st.H st.m A=zIC st.mv tb f X st.H st.m->(∀a∈X,CP st.mv st.m a)->zEW tb f X ⟨st.fr,st.H,[],st.m,st.mv⟩ (λv d=>k v ⟨d.fr,d.H,st.V,d.m,d.mv⟩)->∃v H' M,DXo G tb st A k v H' M:=by
  intro f X g I h;unfold zEW at h;split at h
  .rename_i hh;obtain⟨v,e,hk⟩:=zTi h;obtain⟨_,o,_⟩:=zNM af e;exact⟨v,st.H,st.m,by rw[g];simp only[zIC,hh,e],o.cp,S,N,QA _,hk⟩
  .rename_i hh;split at h
   .rename_i al ab;obtain⟨v,e,hk⟩:=zTi h;obtain⟨_,o,_⟩:=zNM af e;split at hk
    .rename_i hs;have ab:zF (frz st.H [] 8) X=some al:=ab;refine⟨v,st.H,st.m,?_,o.cp,S,N,QA _,hk⟩
     rw[g];simp only[zIC,hh];rw[if_pos ⟨I,S,N⟩];simp only[ab,e,hs]
    .exact hk.elim
   .exact h.elim
 cases A<;>try (exact h.elim)
 case vj x=>
  simp only[zEl]at h;unfold WXd at h;split at h
  .rename_i v H' M g;have ao:=g;simp only[xoS]at g;split at g
   .cases g
   .split at g
    .split at g
     .cases g;exact val ao (.str _) h
     .cases g
    .cases g
   .cases g
  .exact h.elim
 all_goals try (exact t (λv d h=>h) rfl h)
 case q9 x i l sz ag=>
  simp only[zEl,wop]at h;split at h
  .exact t (λv d h=>h) rfl h
  .split at h
   .rename_i kd n F;obtain⟨⟨h1,o⟩,Y⟩:=h;obtain⟨m,rfl⟩:=Int.eq_ofNat_of_zero_le h1;have hk:=zFX Y m (Int.ofNat_lt.1 o) rfl;have e:xoS G zj st.fr st.H st.m (.q9 x i l sz ag)=xoS G zj st.fr st.H st.m (.q9 x (.c (.int kd (.ofNat m))) l sz ag):=by
     have F:i.ev G st.fr=some (.int kd (.ofNat m)):=F;simp only[xoS];rw[F];rfl
    exact t (λv d h=>h) rfl (by rw[e];exact hk)
   .exact h.elim
 case qy x i l sz=>
  simp only[zEl,wop]at h;split at h
  .exact t (λv d h=>h) rfl h
  .split at h
   .rename_i kd n F;obtain⟨⟨h1,o⟩,Y⟩:=h;obtain⟨m,rfl⟩:=Int.eq_ofNat_of_zero_le h1;have hk:=zFX Y m (Int.ofNat_lt.1 o) rfl;have e:xoS G zj st.fr st.H st.m (.qy x i l sz)=xoS G zj st.fr st.H st.m (.qy x (.c (.int kd (.ofNat m))) l sz):=by
     have F:i.ev G st.fr=some (.int kd (.ofNat m)):=F;simp only[xoS];rw[F];rfl
    exact t (λv d h=>h) rfl (by rw[e];exact hk)
   .exact h.elim
 case pick cc x y=>
  simp only[zEl,wop]at h;have u:(zG cc=true/\zG x=true)/\zG y=true:=by simp only[zy,XO.qb,zAm,List.all_append,Qb,List.all_nil,QV,qr]at z;exact z
  split at h
  .rename_i cb ae;split at h
   .rename_i n;have W:st.fr.get n=some (.bool cb):=ae;rcases zFR h with⟨rfl,o⟩|⟨rfl,o⟩
    .split at o
     .rename_i v L;rw[qp W]at o;exact val (by simp only[xoS,ae,L]) (zAc U D u.1.2 L) o
     .exact o.elim
    .split at o
     .rename_i v L;rw[qp W]at o;exact val (by simp only[xoS,ae,L]) (zAc U D u.2 L) o
     .exact o.elim
   .exact t (λv d h=>h) rfl h
  .exact h.elim
 case bin op x y=>
  simp only[zEl,wop]at h;split at h
  .rename_i s1 g;split at h
   .split at h
    .rename_i s2 O;obtain⟨h1,o⟩:=h;have C:Nat.ble (s1.length+s2.length) zh=true:=by rw[Qt];exact h1
     exact val (by simp only[xoS,g,O,zGP,C]) (.str _) o
    .exact h.elim
   .exact t (λv d h=>h) rfl h
  .rename_i k1 n1 g;split at h
   .split at h
    .rename_i k2 n2 O;split at h
     .rename_i hk;obtain⟨h1,o⟩:=h;have C:(n2==0)=false:=by rw[beq_eq_false_iff_ne];exact h1
      exact val (by simp only[xoS,g,O,zGP,hk,C]) (.int _ _) o
     .exact h.elim
    .exact h.elim
   .split at h
    .rename_i k2 n2 O;split at h
     .rename_i hk;obtain⟨h1,o⟩:=h;have C:(n2==0)=false:=by rw[beq_eq_false_iff_ne];exact h1
      exact val (by simp only[xoS,g,O,zGP,hk,C]) (.int _ _) o
     .exact h.elim
    .exact h.elim
   .split at h
    .rename_i k2 n2 O;obtain⟨h1,o⟩:=h;have C:decide (n2<0)=false:=by rw[decide_eq_false_iff_not];omega
     exact val (by simp only[xoS,g,O,zGP,C]) (.int _ _) o
    .exact h.elim
   .split at h
    .rename_i k2 n2 O;obtain⟨h1,o⟩:=h;have C:decide (n2<0)=false:=by rw[decide_eq_false_iff_not];omega
     exact val (by simp only[xoS,g,O,zGP,C]) (.int _ _) o
    .exact h.elim
   .exact t (λv d h=>h) rfl h
  .exact h.elim
 case wF neg kd x y=>
  simp only[zEl,wop]at h;split at h
  .rename_i p g;split at h
   .rename_i q O;split at h
    .rename_i r hr;obtain⟨e1,e2,e3⟩:=zTg hr;have:eqs kd p q=some r:=by simp only[eqs,e2,e3,Nat.beq_refl,e1]
     exact val (by simp only[xoS,g,O,this]) (by unfold zEV;exact .bool _) h
    .exact h.elim
   .exact h.elim
  .exact h.elim
 case wK x i=>
  simp only[zEl,wop]at h;split at h
  .rename_i s g;split at h
   .rename_i kd n F;obtain⟨b,C,hk⟩:=h;unfold ixN at C;split at C
    .exact val (by simp only[xoS,g,F,C]) (.int _ _) hk
    .cases C
   .exact h.elim
  .exact h.elim
 case load x sz ag=>
  simp only[zEl,wop]at h;split at h
  .exact t (λv d h=>h) rfl h
  .exact h.elim
  .exact h.elim
  .exact t (λv d h=>h) rfl h
 case store x y sz=>
  simp only[zEl,wop]at h;split at h
  .exact h.elim
  .exact t (λv d h=>h) rfl h
 case qR x off=>
  simp only[zEl,wop]at h;split at h
  .exact h.elim
  .exact t (λv d h=>h) rfl h
 case qC x i sz=>
  simp only[zEl,wop]at h;have u:zG x=true/\zG i=true:=by simp only[zy,XO.qb,zAm,QV,List.all_append,Qb,List.all_nil,qr]at z;exact z
  split at h
  .rename_i ak es g;split at h
   .rename_i C;split at h
    .rename_i kd n F;obtain⟨v,L,hk⟩:=h;obtain⟨e1,e2⟩:=zZe (k:=kd) L;have I:=zAc U D u.1 g;cases I with
     |qg _ _ ad=>exact val (by simp only[xoS,g,F,C,e1]) (.qd _ _ (ad v e2)) hk
    .exact h.elim
   .exact h.elim
  .exact h.elim
  .split at h
   .rename_i kd n F;obtain⟨⟨h1,o⟩,Y⟩:=h;obtain⟨m,rfl⟩:=Int.eq_ofNat_of_zero_le h1;have hk:=zFX Y m (Int.ofNat_lt.1 o) rfl;have e:xoS G zj st.fr st.H st.m (.qC x i sz)=xoS G zj st.fr st.H st.m (.qC x (.c (.int kd (.ofNat m))) sz):=by
     have F:i.ev G st.fr=some (.int kd (.ofNat m)):=F;simp only[xoS];rw[F];rfl
    exact t (λv d h=>h) rfl (by rw[e];exact hk)
   .exact h.elim
  .exact h.elim
 case wC x lo F=>
  simp only[zEl,wop]at h;split at h
  .rename_i s g;split at h
   .rename_i aq aa;split at h
    .rename_i aj ac;obtain⟨l,r,hk,e1,e2,_,_⟩:=zLZ h;exact val (by simp only[xoS,g,aa,ac,e1,e2]) (.str _) hk
    .exact h.elim
   .exact h.elim
  .exact h.elim
 case wv x lo F mx sz=>
  simp only[zEl,wop]at h;simp only[zy,qr]at z;split at h
  .rename_i ak es g;split at h
   .rename_i C;split at h
    .split at h
     .rename_i aq aa;split at h
      .rename_i aj ac;obtain⟨l,r,hk,e1,e2,_,_⟩:=zLZ h;have B:zG x=true:=QD.1 z.1 x (by simp[XO.qb])
       have I:=zAc U D B g;cases I with
       |qg _ _ ad=>exact val (by simp only[xoS,g,aa,ac,zXw,zK6,C,e1,e2]) (.qg _ _ λe he=>ad e (QT (Qc he))) hk
      .exact h.elim
     .exact h.elim
    .exact h.elim
   .exact h.elim
  .rename_i g;unfold WXd at h;split at h
   .rename_i v H' M B;have:v=.qa/\H'=st.H/\M=st.m:=by
     simp only[xoS,g]at B;split at B
     .rename_i v0 aw ax ay e0 _ _ _;cases e0;simp only[zK6]at B;split at B
      .rename_i v1 J;cases B;split at J
       .split at J
        .split at J
         .cases J;exact⟨rfl,rfl,rfl⟩
         .cases J
        .cases J
       .cases J
      .cases B
     .cases B
    obtain⟨rfl,rfl,rfl⟩:=this;exact val B .qa h
   .exact h.elim
  .exact h.elim
 case wj x=>
  simp only[zEl,wop]at h;split at h
  .exact h.elim
  .exact t (λv d h=>h) rfl h
 case call f xs=>
  simp only[zEl,wop]at h;have u:xs.all zG=true:=by simp only[zy,XO.qb,zAm,QV]at z;exact z
  split at h
  .rename_i X L;exact R (by simp only[xoS,L]) (zId U D u L) h
  .exact h.elim
 case qM fx xs=>
  simp only[zEl,wop]at h;have u:zG fx=true/\xs.all zG=true:=by simp only[zy,XO.qb,zAm,List.all_append,Qb,List.all_nil,QV,qr]at z;exact z
  split at h
  .rename_i f first au hf;split at h
   .rename_i X L;refine R (by simp only[xoS,hf,L,zJu]) (λa T=>?_) h
    have I:=zAc U D u.1 hf;cases I with
    |func _ _ _ h1 o=>
     rcases QK.1 T with T|T
     .rcases QK.1 T with T|T
      .exact h1 a T
      .exact zId U D u.2 L a T
     .exact o a T
   .exact h.elim
  .exact h.elim
structure KD(K:Sta->Prop)(V:Vecs)(mv:Nat)(fr:Fr)(H:Heap)(nx:Nat):Prop where
 k:K ⟨fr,H,V,nx,mv⟩
 cf:zFn mv nx fr
 cH:HCP mv nx H
theorem zTj(q:TbW P G tb)(B:GPP G){V:Vecs}{mv:Nat}{K:Sta->Prop}:∀(ops:List TOp){fr:Fr}{H:Heap}{m:Nat},(∀t∈ops,zy t.o.op=true)->zFn mv m fr->HCP mv m H->(∀p∈H,p.1<m)->zD1 G tb ops K ⟨fr,H,V,m,mv⟩->WN G (zIC mv tb) (ops.map TOp.o) (KD K V mv) fr H m
 |[],fr,H,m,_,g,i,_,h=>⟨h,g,i⟩
 |o::r,fr,H,m,u,g,i,s,h=>by
  have l:∀t∈r,zy t.o.op=true:=λt C=>u t (.tail _ C)
  have step:zEl G tb ⟨fr,H,V,m,mv⟩ o.o.op o.ks (λv st=>zD1 G tb r K (st.put o.o.dst v))->∃v z y,xoS G (zIC mv tb) fr H m o.o.op=some (v,z,y)/\WN G (zIC mv tb) (r.map TOp.o) (KD K V mv) (qu fr o.o.dst v) z y:=by
   intro h;obtain⟨v,z,D,d⟩:=zex (st:=⟨fr,H,V,m,mv⟩) q B (u o (.head _)) g i s h;exact⟨v,z,D,d.x,zTj q B r l ((g.mono (QA _) d.le).qu d.cv) d.cH d.lt d.k⟩
  have skip:zD1 G tb r K ⟨qu fr o.o.dst (.qc []),H,V,m,mv⟩->WN G (zIC mv tb) (r.map TOp.o) (KD K V mv) (qu fr o.o.dst (.qc [])) H m:=λh=>
   zTj q B r l (g.qu (.qc _ λe F=>by cases F)) i s h
  simp only[zD1]at h;simp only[Qe,WN];cases hg:o.o.guard with
  |none=>
   rw[hg]at h;exact step h
  |some A=>
   obtain⟨t,b⟩:=A;rw[hg]at h;simp only at h⊢;split at h
   .rename_i c hc;rw[hc];unfold brT at h;rcases zFR h with⟨rfl,f⟩|⟨rfl,f⟩
    .have f:(match true==b with
      |true=>zEl G tb ⟨fr.put t (.bool true),H,V,m,mv⟩ o.o.op o.ks λv st=>zD1 G tb r K (st.put o.o.dst v)
      |false=>zD1 G tb r K (Sta.put ⟨fr.put t (.bool true),H,V,m,mv⟩ o.o.dst (.qc []))):=f
     rw[qp hc]at f;cases b with
     |true=>exact⟨λ_=>step f,λe=>(by cases e)⟩
     |false=>exact⟨λe=>(by cases e),λ_=>skip f⟩
    .have f:(match false==b with
      |true=>zEl G tb ⟨fr.put t (.bool false),H,V,m,mv⟩ o.o.op o.ks λv st=>zD1 G tb r K (st.put o.o.dst v)
      |false=>zD1 G tb r K (Sta.put ⟨fr.put t (.bool false),H,V,m,mv⟩ o.o.dst (.qc []))):=f
     rw[qp hc]at f;cases b with
     |true=>exact⟨λe=>(by cases e),λ_=>skip f⟩
     |false=>exact⟨λ_=>step f,λe=>(by cases e)⟩
   .rename_i hc;rw[hc];exact skip h
   .exact h.elim
end
section
variable{P:Program}{G:Cx}{nt:Nat}{E:Env}{w:World}{a:Act}{β:Nat->Option Nat}{st:Sta}
 {Z0 B0:Nat->Prop} {w0:World} {dl:List Deferred} {tb:TblS}
theorem zGU{h:Nat}:∀{l:JV}{i k:Nat},posN h i l=some k->∃j,k=i+j/\l[j]?=some h
 |[],i,k,e=>by cases e
 |a::r,i,k,e=>by
  simp only[posN]at e;split at e
  .rename_i d;cases e;exact⟨0,rfl,by rw[zc d];rfl⟩
  .obtain⟨j,h1,c⟩:=zGU e;exact⟨j+1,by omega,by simpa using c⟩
theorem zSg{n:Nat}:∀{l:JV},inN n l=false->n ∉ l
 |[],_,h=>by cases h
 |a::r,e,h=>by
  simp only[inN]at e;split at e
  .cases e
  .rename_i c;rcases QH.1 h with rfl|h
   .rw[Nat.beq_refl]at c;cases c
   .exact zSg e h
theorem zOW:∀{l:JV},zNI l=true->l.Nodup
 |[],_=>.nil
 |a::r,h=>by
  simp only[zNI,qr,Bool.not_eq_true']at h;exact Qz.2 ⟨zSg h.1,zOW h.2⟩
def zAC(E:Env)(hm c:JV):Env:=⟨λi=>E.ρ (hm.getD i 0),λi=>∃h,hm[i]?=some h/\E.D h,E.Z,λi=>E.σ (c.getD i 0)⟩
theorem zRn{hm r:JV}{n k:Nat}:∀(d:Nat){v v':AV}{cv:Value},CP n k v->VR E w v cv->rnV hm r d v=some v'->VR (zAC E hm r) w v' cv/\CP r.length hm.length v':=by
 intro d
 induction d with
 |zero=>intro v v' cv _ _ h;cases h
 |succ d ih=>
  intro v v' cv q g h;have Y:∀{T W:JE}{vs:JC},(∀e∈T,CP n k e)->VRs E w T vs->zF (rnV hm r d) T=some W->VRs (zAC E hm r) w W vs/\∀e∈W,CP r.length hm.length e:=λ{T W vs} hc J ac=>by
   obtain⟨m1,m2⟩:=zCc ac;have key:∀(i:Nat) y u,W[i]?=some y->vs[i]?=some u->VR (zAC E hm r) w y u/\CP r.length hm.length y:=λi y u O U=>by
    have X:i<T.length:=by have:=(QB.1 O).1;omega
    have z:=QF X;exact ih (hc _ (QE z)) (J.2 i _ u z U) (m2 i _ y z O)
   refine⟨⟨m1.trans J.1,λi y u O U=>(key i y u O U).1⟩,λe C=>?_⟩
   obtain⟨i,X⟩:=List.getElem?_of_mem C;have A:i<vs.length:=by have:=(QB.1 X).1;have:=J.1;omega
   exact(key i e _ X (QF A)).2
  have hD:∀{h i:Nat},posN h 0 hm=some i->E.D h->(zAC E hm r).D i/\(zAC E hm r).ρ i=E.ρ h/\i<hm.length:=λ{h i} e M=>by
   obtain⟨j,N,F⟩:=zGU e;have N:i=j:=by omega
   subst N;refine⟨⟨h,F,M⟩,?_,(QB.1 F).1⟩
   show E.ρ (hm.getD i 0)=E.ρ h
   rw[List.getD_eq_getElem?_getD,F];rfl
  have p:∀{v:AV}{cv:Value},PP v->VR E w v cv->VR (zAC E hm r) w v cv:=λhp g=>VR.pp (E:=E) (E':=zAC E hm r) (w:=w) (w':=w) (λb I=>⟨I,rfl⟩) g hp
  unfold rnV at h;split at h
  .split at h
   .rename_i i e;cases h;cases g with
    |ptr _ _ M=>
     obtain⟨g1,g2,g3⟩:=hD e M;rw[←g2];exact⟨.ptr _ _ g1,.ptr _ _ g3⟩
   .cases h
  .split at h
   .rename_i i e;cases h;obtain⟨j,N,F⟩:=zGU e;have A:i<hm.length:=by have:=(QB.1 F).1;omega
    cases g with
    |row _ _ _ _ _ cap _ M S R aa q ae I=>
     obtain⟨g1,g2,g3⟩:=hD e M;rw[←g2]at I⊢;exact⟨.row _ _ _ _ _ cap _ g1 S R aa q ae I,.row _ _ _ _ _ _ A⟩
    |we _ _ _ _ ad=>exact⟨.we _ _ _ _ ad,.row _ _ _ _ _ _ A⟩
   .cases h
  .split at h
   .rename_i i e;cases h;cases g with
    |map _ M=>
     obtain⟨g1,g2,g3⟩:=hD e M;rw[←g2];exact⟨.map _ g1,.map _ g3⟩
   .cases h
  .split at h
   .rename_i i e;cases h;obtain⟨j,N,F⟩:=zGU e;have N:i=j:=by omega
    subst N;have A:i<r.length:=(QB.1 F).1;cases g with
    |sym _ _ C h1=>
     refine⟨.sym _ _ (C.trans ?_) h1,.sym _ A⟩
     show _=E.σ (r.getD i 0)
     rw[List.getD_eq_getElem?_getD,F];rfl
   .cases h
  .split at h
   .rename_i x' z;split at h
    .rename_i y' O;cases h;cases q with
     |func _ _ _ V I=>
      cases g with
      |func _ _ _ vf vc hf hc rf rc=>
       obtain⟨⟨g1,g2⟩,g3⟩:=Y (vs:=vf.toList) V ⟨by simpa using hf,λi x v z g=>rf i x v z (by simpa using g)⟩ z
       obtain⟨⟨g4,g5⟩,g6⟩:=Y (vs:=vc.toList) I ⟨by simpa using hc,λi x v z g=>rc i x v z (by simpa using g)⟩ O
       exact⟨.func _ _ _ vf vc (by simpa using g1) (by simpa using g4) (λi x v z g=>g2 i x v z (by simpa using g)) (λi x v z g=>g5 i x v z (by simpa using g)),.func _ _ _ g3 g6⟩
    .cases h
   .cases h
  .split at h
   .rename_i u' U;cases h;cases q with
    |iface _ _ hc=>
     cases g with
     |iface _ _ cv g=>
      obtain⟨g1,g2⟩:=ih hc g U;exact⟨.iface _ _ cv g1,.iface _ _ g2⟩
   .cases h
  .split at h
   .rename_i ab L;cases h;cases q with
    |agg _ hc=>
     obtain⟨vs,rfl,k1,k2⟩:=g.qY;obtain⟨g1,g2⟩:=Y hc k1 L;exact⟨VR.qN g1 k2,.agg _ g2⟩
   .cases h
  .split at h
   .rename_i ab L;cases h;cases q with
    |qc _ hc=>
     obtain⟨vs,rfl,k1⟩:=g.vd;obtain⟨g1,g2⟩:=Y hc k1 L;exact⟨VR.qK g1,.qc _ g2⟩
   .cases h
  .cases h;cases q with
   |qd e off C=>exact⟨p (.qd _ _ C) g,.qd _ _ C⟩
   |qg sz es C=>exact⟨p (.qg _ _ C) g,.qg _ _ C⟩
   |bool b=>exact⟨p (.bool _) g,.bool _⟩
   |int k m=>exact⟨p (.int _ _) g,.int _ _⟩
   |str s=>exact⟨p (.str _) g,.str _⟩
   |qm=>exact⟨p .qm g,.qm⟩
   |qa=>exact⟨p .qa g,.qa⟩
   |ql=>exact⟨p .ql g,.ql⟩
   |qk=>exact⟨p .qk g,.qk⟩
   |qf=>exact⟨p .qf g,.qf⟩
   |ptr h' o' hk=>exact(‹∀(h o:Nat),AV.ptr h' o'=AV.ptr h o->False› _ _ rfl).elim
   |row B a2 a3 a4 a5 a6 hk=>exact(‹∀(h o l s c:Nat)(e:Bool),AV.row B a2 a3 a4 a5 a6=AV.row h o l s c e->False› _ _ _ _ _ _ rfl).elim
   |map B hk=>exact(‹∀(h:Nat),AV.map B=AV.map h->False› _ rfl).elim
   |sym B hk=>exact(‹∀(h:Nat),AV.sym B=AV.sym h->False› _ rfl).elim
   |func B a2 a3 V I=>exact(‹∀(f:Fn)(a b:JE),AV.func B a2 a3=AV.func f a b->False› _ _ _ rfl).elim
   |iface B a2 V=>exact(‹∀(t:Nat)(v:AV),AV.iface B a2=AV.iface t v->False› _ _ rfl).elim
   |agg B V=>exact(‹∀(cs:JE),AV.agg B=AV.agg cs->False› _ rfl).elim
   |qc B V=>exact(‹∀(cs:JE),AV.qc B=AV.qc cs->False› _ rfl).elim
theorem zLt{H:Heap}{hm g:JV}:∀{l:JV}{i:Nat}{H':Heap},rnH H hm g i l=some H'->H'.length=l.length/\H'.keys=List.range' i l.length/\∀p∈H',∃(j:Nat) (h:Nat) (str:Bool) (cs cs':JE),l[j]?=some h/\p=(i+j,HO.cells str cs')/\H.get h=some (.cells str cs)/\zF (rnV hm g 8) cs=some cs'
 |[],i,H',e=>by cases e;exact⟨rfl,rfl,λp c=>by cases c⟩
 |h::r,i,H',e=>by
  simp only[rnH]at e;split at e
  .rename_i str cs s;split at e
   .rename_i cs' f;split at e
    .rename_i o x;cases e;obtain⟨h1,d,y⟩:=zLt x;refine⟨by simp[h1],?_,λp c=>?_⟩
     .have d:List.map (·.1) o=List.range' (i+1) r.length:=d;show List.map (·.1) ((i,HO.cells str cs')::o)=_
      rw[Qe,d,QL,List.range'_succ]
     .rcases QH.1 c with rfl|c
      .exact⟨0,h,str,cs,cs',rfl,rfl,s,f⟩
      .obtain⟨j,t,q,c1,c2,q1,z,u,v⟩:=y p c;exact⟨j+1,t,q,c1,c2,by simpa using q1,by rw[z];congr 1;omega,u,v⟩
    .cases e
   .cases e
  .cases e
theorem zMd{V:Vecs}:∀{l:JV}{i:Nat}{c:Vecs},zOh V i l=some c->c.length=l.length/\∀j vi,c.get j=some vi->∃k s,j=i+k/\l[k]?=some s/\V.get s=some vi/\vi.qA=true
 |[],i,c,e=>by cases e;exact⟨rfl,λj vi h=>by cases h⟩
 |s::r,i,c,e=>by
  have key:∀{f:Vecs}{vi:VI},V.get s=some vi->vi.qA=true->zOh V (i+1) r=some f->c=(i,vi)::f->c.length=(s::r).length/\∀j vi,c.get j=some vi->∃k o,j=i+k/\(s::r)[k]?=some o/\V.get o=some vi/\vi.qA=true:=by
   intro f vi d u g e;subst e;obtain⟨h1,q⟩:=zMd g;refine⟨by simp[h1],λj p h=>?_⟩
   rw[Vecs.qh]at h;split at h
   .rename_i e;cases h;exact⟨0,s,e.symm,rfl,d,u⟩
   .obtain⟨k,o,q1,x,t,v⟩:=q j p h;exact⟨k+1,o,by omega,by simpa using x,t,v⟩
  simp only[zOh]at e;split at e
  .rename_i sz es d;split at e
   .rename_i f g;cases e;exact key d rfl g rfl
   .cases e
  .rename_i es d;split at e
   .rename_i f g;cases e;exact key d rfl g rfl
   .cases e
  .cases e
theorem zRo{fr:Fr}:∀{ts:JV}{vs:JE},zUi fr ts=some vs->vs.length=ts.length/\∀(i t:Nat) v,ts[i]?=some t->vs[i]?=some v->fr.get t=some v
 |[],vs,e=>by cases e;exact⟨rfl,λi t v h=>by simp at h⟩
 |t::ts,vs,e=>by
  simp only[zUi]at e;split at e
  .rename_i v p;split at e
   .rename_i r o;cases e;obtain⟨h1,g⟩:=zRo o;refine⟨by simp[h1],λi l f d c=>?_⟩
    cases i with
    |zero=>simp at d c;subst d;subst c;exact p
    |succ i=>exact g i l f (by simpa using d) (by simpa using c)
   .cases e
  .cases e
theorem zPU:∀{ts:JV}{vs:JE}{t:Nat}{v:AV},(zYp ts vs).get t=some v->∃i:Nat,ts[i]?=some t/\vs[i]?=some v
 |[],vs,t,v,h=>by cases vs<;>cases h
 |t0::ts,[],t,v,h=>by cases h
 |t0::ts,v0::vs,t,v,h=>by
  simp only[zYp,Fr.get]at h;split at h
  .rename_i e;cases h;exact⟨0,by rw[zc e];rfl,rfl⟩
  .obtain⟨i,h1,c⟩:=zPU h;exact⟨i+1,by simpa using h1,by simpa using c⟩
structure CanV(hm sm:JV)(st:Sta)(H:Heap)(V:Vecs):Prop where
 u5:hm.Nodup
 u4:sm.Nodup
 rh:rnH st.H hm sm 0 hm=some H
 rv:zOh st.V 0 sm=some V
theorem zOy(hG:GPP G)(s:SR G nt E w a β st){hm d:JV}{vs0:JE}{cvs:JC}(ag:∀v∈vs0,CP st.mv st.m v)(M:VRs E w vs0 cvs){k:JE->Heap->Vecs->Prop}(h:zE8 hm d vs0 st k):
  ∃vs H V,k vs H V/\CanV hm d st H V/\zF (rnV hm d 8) vs0=some vs/\VRs (zAC E hm d) w vs cvs/\(∀v∈vs,CP V.length H.length v)/\(∀X a' fr',FrR (zAC E hm d) w fr' a' X->zFn V.length H.length fr'->SR G X (zAC E hm d) w a' (λi=>β (d.getD i 0)) ⟨fr',H,V,H.length,V.length⟩) ∧
   Kp E.Z (BS E β st.H st.V) w (zAC E hm d).Z (BS (zAC E hm d) (λi=>β (d.getD i 0)) H V) w:=by
 unfold zE8 at h;split at h
 rotate_left
 .exact h.elim
 rename_i aa;rw[qr]at aa;have T:=zOW aa.1;have U:=zOW aa.2;split at h
 rotate_left
 .exact h.elim
 rename_i vs ab;split at h
 rotate_left
 .exact h.elim
 rename_i H hH;split at h
 rotate_left
 .exact h.elim
 rename_i V hV;obtain⟨g1,g2,g3⟩:=zLt hH;obtain⟨v1,v2⟩:=zMd hV;obtain⟨m1,m2⟩:=zCc ab;have hσ:∀{j y:Nat},d[j]?=some y->(zAC E hm d).σ j=E.σ y:=λ{j y} e=>by
  show E.σ (d.getD j 0)=E.σ y
  rw[List.getD_eq_getElem?_getD,e];rfl
 have hρ:∀{j D:Nat},hm[j]?=some D->(zAC E hm d).ρ j=E.ρ D:=λ{j D} e=>by
  show E.ρ (hm.getD j 0)=E.ρ D
  rw[List.getD_eq_getElem?_getD,e];rfl
 have inj:∀{l:JV}{i j x:Nat},l.Nodup->l[i]?=some x->l[j]?=some x->i=j:=λ{l i j x} hn F O=>by
  obtain⟨h1,h2⟩:=QB.1 F;obtain⟨h3,h4⟩:=QB.1 O;exact(List.getElem_inj hn).1 (h2.trans h4.symm)
 have W:∀(i:Nat) x u,vs[i]?=some x->cvs[i]?=some u->VR (zAC E hm d) w x u/\CP V.length H.length x:=λi x u C hu=>by
  have F:i<vs0.length:=by have:=(QB.1 C).1;omega
  have c:=QF F;have:=zRn 8 (ag _ (QE c)) (M.2 i _ u c hu) (m2 i _ x c C);rw[v1,g1];exact this
 refine⟨vs,H,V,h,⟨T,U,hH,hV⟩,ab,⟨m1.trans M.1,λi x u C hu=>(W i x u C hu).1⟩,λx C=>?_,λX a' fr' ak ai=>⟨⟨?_,λp t=>?_,λp t q hq e=>?_,λp t=>?_,λp t=>?_,s.hr.wa⟩,ak,?_,λi F=>?_,ai,λp t=>?_,λj I O=>?_,λj j2 i off O=>?_,λj I b O ho B=>?_,λj j' I ae b h1 h2 h3 h4 h5 h6=>?_⟩,?_⟩
 .obtain⟨i,F⟩:=List.getElem?_of_mem C;have J:i<cvs.length:=by have:=(QB.1 F).1;have:=M.1;omega
  exact(W i x _ F (QF J)).2
 .show H.keys.Nodup
  rw[g2];exact List.nodup_range'
 .obtain⟨j,D,str,cs,z,r,rfl,f,L⟩:=g3 p t;have:=s.hr.qz _ (Heap.qj f);exact⟨D,by simpa using r,this⟩
 .obtain⟨j,D,str,cs,z,r,rfl,f,L⟩:=g3 p t;obtain⟨j2,h2,al,aq,ao,f1,rfl,f3,f4⟩:=g3 q hq;simp only[QY]at e⊢;rw[hρ r,hρ f1]at e;have:=s.hr.inj _ (Heap.qj f) _ (Heap.qj f3) e;simp only at this;subst this;exact inj T r f1
 .obtain⟨j,D,str,cs,z,r,rfl,f,L⟩:=g3 p t;simp only[QY];rw[hρ r];have ac:=Heap.qj f;have aj:=s.hr.obj _ ac;obtain⟨_,_,ec,Y⟩:=s.cH.get f;cases ec;obtain⟨cc,ee,ff,q1,A,N,R⟩:=aj;obtain⟨r1,r2⟩:=zCc L;refine⟨cc,ee,ff,q1,by omega,N,λi x C=>?_⟩
  have F:i<cs.length:=by have:=(QB.1 C).1;omega
  have c:=QF F;obtain⟨v,k1,k2,k3⟩:=R i _ c;exact⟨v,k1,k2,(zRn 8 (Y _ (QE c)) k3 (r2 i _ x c C)).1⟩
 .obtain⟨j,D,str,cs,z,r,rfl,f,L⟩:=g3 p t;simp only[QY];rw[hρ r];exact s.hr.nz _ (Heap.qj f)
 .exact λg u hg=>⟨VR.pp (E:=E) (E':=zAC E hm d) (w:=w) (w':=w) (λb B=>⟨B,rfl⟩) (s.hg g u hg).1 (hG g u hg),(s.hg g u hg).2⟩
 .obtain⟨D,e,_⟩:=F;show i<H.length
  rw[g1];exact(QB.1 e).1
 .obtain⟨j,D,str,cs,z,r,rfl,f,L⟩:=g3 p t;refine⟨str,z,rfl,λx C=>?_⟩
  show CP V.length H.length x
  rw[v1,g1];obtain⟨_,_,ec,Y⟩:=s.cH.get f;cases ec;obtain⟨r1,r2⟩:=zCc L;obtain⟨i,F⟩:=List.getElem?_of_mem C;have J:i<cs.length:=by have:=(QB.1 F).1;omega
  have c:=QF J;obtain⟨_,_,_,_,_,_,R⟩:=s.hr.obj _ (Heap.qj f);obtain⟨v,k1,k2,k3⟩:=R i _ c;exact(zRn 8 (Y _ (QE c)) k3 (r2 i _ x c F)).2
 .obtain⟨S,y,rfl,A,N,R⟩:=v2 j I O;simp only[QY]at O⊢;have J:=(QB.1 A).1;refine⟨by show S<V.length;rw[v1];exact J,?_⟩
  have o:d.getD S 0=y:=by rw[List.getD_eq_getElem?_getD,A];rfl
  have ad:=(s.qT y I N).2;cases I with
  |vec sz es=>
   obtain⟨t,⟨r,e2,f⟩|⟨b,str,cs,cp,ex,r,e2,f,L,e5,e6⟩⟩:=ad
   .exact⟨t,.inl ⟨by simp only[o];exact r,(hσ A).trans e2,f⟩⟩
   .exact⟨t,.inr ⟨b,str,cs,cp,ex,by simp only[o];exact r,OR.pp (E:=E) (E':=zAC E hm d) (w:=w) (w':=w) rfl (λb B=>⟨B,rfl⟩) L e2,by rw[hσ A];exact f,L,e5,e6⟩⟩
  |mp es=>
   obtain⟨t,b,r,e2,f⟩:=ad;exact⟨t,b,by simp only[o];exact r,OR.pm (E:=E) (E':=zAC E hm d) (w:=w) (w':=w) rfl (λb B=>⟨B,rfl⟩) t e2,(hσ A).trans f⟩
  |qU=>cases R
 .obtain⟨S,y,rfl,A,N,R⟩:=v2 j _ O;cases R
 .obtain⟨S,y,rfl,A,N,R⟩:=v2 j I O;simp only[QY]at B;have o:d.getD S 0=y:=by rw[List.getD_eq_getElem?_getD,A];rfl
  rw[o]at B;obtain⟨z1,z2⟩:=s.bz y I b N ho B;refine⟨z1,λp t e=>?_⟩
  obtain⟨j,D,str,cs,z,r,rfl,f,L⟩:=g3 p t;simp only[QY]at e;rw[hρ r]at e;exact z2 _ (Heap.qj f) e
 .obtain⟨S,y,rfl,A,N,R⟩:=v2 j I h1;obtain⟨ah,s2,rfl,r2,r3,r4⟩:=v2 j' ae h2;simp only[QY]at h5 h6⊢;have o:d.getD S 0=y:=by rw[List.getD_eq_getElem?_getD,A];rfl
  have af:d.getD ah 0=s2:=by rw[List.getD_eq_getElem?_getD,r2];rfl
  rw[o]at h5;rw[af]at h6;have:=s.qS y s2 I ae b N r3 h3 h4 h5 h6;subst this;exact inj U A r2
 .refine Kp.less λx C=>?_
  rcases C with⟨p,t,e⟩|⟨j,I,O,ho,B⟩
  .obtain⟨j,D,str,cs,z,r,rfl,f,L⟩:=g3 p t;simp only[QY]at e;rw[hρ r]at e;exact .inl ⟨_,Heap.qj f,e⟩
  .obtain⟨S,y,rfl,A,N,R⟩:=v2 j I O;simp only[QY]at B;have o:d.getD S 0=y:=by rw[List.getD_eq_getElem?_getD,A];rfl
   rw[o]at B;exact .inr ⟨y,I,N,ho,B⟩
theorem zfR(C:GPP G)(s:SR G nt E w a β st){c:Cut}{k:JE->Heap->Vecs->Prop}(h:canon c st k):∃vs H V,k vs H V/\∃o q,SR G nt o w a q (mkW c vs H V)/\Kp E.Z (BS E β st.H st.V) w o.Z (BS o q H V) w:=by
 unfold canon at h;split at h
 .exact h.elim
 rename_i vs0 g;unfold zNJ at h;generalize zJn st.H 30 0 (vs0.foldl (λa v=>hsA 8 v a) (List.range c.pins))=D at h
 generalize zFQ st.H D (vs0.foldl (λa v=>zJx 8 v a) [])=M at h
 obtain⟨F,I⟩:=zRo g;have p:∀(i:Nat) x,vs0[i]?=some x->∃t,c.qE[i]?=some t/\st.fr.get t=some x:=λi x f=>by
  have l:i<c.qE.length:=by have:=(QB.1 f).1;omega
  have e:=QF l;exact⟨_,e,I i _ x e f⟩
 obtain⟨vs,H,V,y,L,N,z,J,A,B⟩:=zOy C s (vs0:=vs0) (cvs:=c.qE.map λt=>a.tmps.getD t undef) (λx f=>by
  obtain⟨i,l⟩:=List.getElem?_of_mem f;obtain⟨t,_,d⟩:=p i x l;exact s.qW t x d) ⟨by simp[F],λi x u f r=>by
  obtain⟨t,h1,d⟩:=p i x f;rw[Qn,h1]at r;cases r;exact s.hf.get t x d⟩ h
 refine⟨vs,H,V,y,_,_,A nt a (zYp c.qE vs) ⟨s.hf.size,λt v e=>?_⟩ (λt v e=>?_),B⟩
 .obtain⟨i,h1,d⟩:=zPU e;exact z.2 i v _ d (by rw[Qn,h1];rfl)
 .obtain⟨i,h1,d⟩:=zPU e;exact J v (QE d)
end
end Go.Sy
