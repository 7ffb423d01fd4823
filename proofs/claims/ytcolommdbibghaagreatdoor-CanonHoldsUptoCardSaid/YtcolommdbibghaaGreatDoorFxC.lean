/- A LIBRARY: WHAT A FUNCTION'S CODE RECKONS, AS A LEAN FUNCTION, AND THAT ITS WORD IS THE MODEL'S: part 3 of 6. No condition. -/
import Derived.Test.YtcolommdbibghaaGreatDoorFxB
import Derived.Below
import Derived.Lib.LaidTab
import Derived.Lib.LaidU8
import Derived.Lib.Join
import Derived.Stop.LaidErr
set_option linter.unusedVariables false
set_option linter.unusedSimpArgs false
namespace Go.Sy
open Go.RowKit
section
variable{P:Program}{G:Cx}{E:Env}{w w':World}{H:Heap}
theorem zNu(g:HR E H w)(d:Below w.heap.size w w')(a:Nat):HR E H w'/\Tr E H w E H w' a a/\∀{v cv},VR E w v cv->VR E w' v cv:=by
 have o:z7 w w':=λb c e f h=>⟨c,f,(d.block b (Array.getElem?_eq_some_iff.1 h).1).trans h,rfl⟩
 have l:∀{v cv},VR E w v cv->VR E w' v cv:=λr=>VR.mono (E:=E) (E':=E) (λ_ h=>⟨h,rfl⟩) (λb h=>⟨h,d.block b (g.we b h)⟩) o r
 exact⟨⟨g.nodup,g.qx,g.inj,λp i=>(g.obj p i).mono (d.block _ (g.lt i)) l,g.nz,λb h=>QX (g.we b h) d.size⟩,
  ⟨QA _,λ_ _=>rfl,λh=>⟨.inl,λh=>h.elim id λ⟨x,y⟩=>by omega⟩,λ_ h=>h,λ_ h=>.inl h,λp i=>.inl ⟨p,i,rfl⟩,d.tape,d.os,d.output,d.size,λx q _=>d.block x q,o,rfl⟩,l⟩
theorem zOV{n:String}{g:Nat}{cs:JB}(d:P.globalNamed n=some g)(h:w.var? P n=some cs):∃t f,w.heap[g]?=some (.cells cs t f):=by
 unfold World.var? at h;rw[d]at h;simp only[Option.bind_some]at h;split at h
 .rename_i c t f hc;cases h;exact⟨t,f,hc⟩
 .cases h
def zSC(k:IntKind)(z:Int):Bool:=decide (k.min<=z)&&decide (z<=k.max)
theorem zMt{l:List (String×DataW Unit)}{W:World}{σ:Nat->Value}(J:laidMet P l W){n:String}{d:List Int}{k:IntKind}(hm:(n,Lib.tabData k d)∈l){g:Nat}(B:P.globalNamed n=some g)
  {t e:TypeId} {len:Nat} (r:(P.globals[g]?).map (·.type)=some t) (F:P.underlying t=some (.array len e)) (S:P.underlying e=some (.int k)) (u:P.cellsOf e=1) (s:P.cellsOf t=len)
  (M:d.all (zSC k)=true):VR (Env.still W σ) W (.qc (.agg (d.map λz=>.int k z)) 0) (.pointer (some ⟨g,0,none⟩))/\zEn W g (.qc (.agg (d.map λz=>.int k z)) 0):=by
 obtain⟨U,T,cs,D,p,h1,A,N,I⟩:=Lib.laidMet.reads J hm;rw[B]at h1;cases h1;rw[r]at A;cases A;obtain⟨O,f,hblk⟩:=zOV B N;have hc:=Lib.cells_of_tab F S u s I;have q:g<W.heap.size:=(Array.getElem?_eq_some_iff.1 hblk).1;have:=VR.qc (E:=Env.still W σ) (w:=W) (.agg (d.map λz=>.int k z)) 0 g 0 (.agg cs) rfl q ?_ λj c R=>?_
 .exact⟨by simpa using this,λL n e=>⟨cs,O,f,hblk,by cases e;rw[←Array.length_toList,hc];simp⟩⟩
 .refine VR.qT ?_ λv h=>?_
  .rw[hc];refine⟨by simp,λi x v o h=>?_⟩
   rw[Qb]at o h;cases hz:d[i]? with
   |none=>rw[hz]at o;cases o
   |some z=>
    rw[hz]at o h;cases o;cases h;have C:=QD.1 M z (QF hz);simp only[zSC,qr,decide_eq_true_eq]at C;exact .int k z C
  .rw[hc]at h;obtain⟨z,_,rfl⟩:=QL.1 h;rfl
 .have y:cs[j]?=some c:=R;simp only[World.cell?,hblk,QS]
  simpa using y
end
section
variable{P:Program}
theorem zUE{l:List (String×DataW Unit)}{W:World}(q:laidMet P l W){n nm:String}{text:List UInt8}{g:Nat}{D d z ts:TypeId}{ms:Array (String×TypeId)}{f:Field}(hm:(n,(.iface nm (.ptr (.agg [.lit (.string text)])):DataW Unit))∈l)
  (C:P.globalNamed n=some g) (J:(P.globals[g]?).map (·.type)=some D) (O:P.underlying D=some (.interface ms)) (i:∀u,P.typeName? 3 u=some nm->u=d)
  (t:P.underlying d=some (.pointer z)) (S:P.underlying z=some (.struct #[f])) (B:f.type=ts) (p:f.offset=0) (N:P.underlying ts=some .string) (hc:P.cellsOf z=1) (A:P.cellsOf ts=1):
  ∃(a:Addr) (s:ByteArray),W.var? P n=some #[.iface d (.pointer (some a))]/\a.spot=none/\W.cell? a=some (.string s)/\s.data.toList=text/\s.size<=maxLen:=by
 induction l with
 |nil=>cases hm
 |cons x r R=>
  rcases QG.1 hm with e|e
  .subst e;obtain⟨a,s,h1,I,M,L⟩:=laid_sentinel q C J O i t S B p N hc A;refine⟨a,s,h1,?_,I,M,L⟩
   obtain⟨V,⟨g0,t0,v,f0,X,q0,h,T,y,U,_,F⟩,_,c⟩:=q;obtain rfl:=Qs (C.symm.trans h);subst F;have o:v=#[.iface d (.pointer (some a))]:=Qs (y.symm.trans h1);subst o;have ok:=(c g 0 (by simp[MemPlace.row])).2 d (.pointer (some a)) (by simpa using World.var?_cell h h1 0)
   unfold Value.okWide at ok;simp only[t]at ok;unfold Cell.okWide at ok;simp only[Cell.ok,t]at ok;exact ok.2.1
  .exact R q.tail e
theorem zOW{l:List (String×DataW Unit)}{W:World}{σ:Nat->Value}(M:laidMet P l W){n nm:String}{text:List UInt8}{g:Nat}{F d x ts:TypeId}{ms:Array (String×TypeId)}{f:Field}(hm:(n,(.iface nm (.ptr (.agg [.lit (.string text)])):DataW Unit))∈l)
  (B:P.globalNamed n=some g) (I:(P.globals[g]?).map (·.type)=some F) (U:P.underlying F=some (.interface ms)) (p:∀u,P.typeName? 3 u=some nm->u=d)
  (N:P.underlying d=some (.pointer x)) (V:P.underlying x=some (.struct #[f])) (z:f.type=ts) (t:f.offset=0) (T:P.underlying ts=some .string) (hc:P.cellsOf x=1) (y:P.cellsOf ts=1):
  VR (Env.still W σ) W (.qc (.agg [.iface d (.qc (.agg [.str (text.map UInt8.toNat)]) 0)]) 0) (.pointer (some ⟨g,0,none⟩))/\zEn W g (.qc (.agg [.iface d (.qc (.agg [.str (text.map UInt8.toNat)]) 0)]) 0):=by
 obtain⟨⟨b,o,X⟩,s,h1,A,q,C,D⟩:=zUE M hm B I U p N V z t T hc y;simp only at A;subst A;obtain⟨S,L,hblk⟩:=zOV B h1;have r:g<W.heap.size:=(Array.getElem?_eq_some_iff.1 hblk).1;have J:b<W.heap.size:=by
  unfold World.cell? at q;split at q
  .rename_i R;exact(Array.getElem?_eq_some_iff.1 R).1
  .cases q
 have inner:VR (Env.still W σ) W (.qc (.agg [.str (text.map UInt8.toNat)]) 0) (.pointer (some ⟨b,o,none⟩)):=by
  have:=VR.qc (E:=Env.still W σ) (w:=W) (.agg [.str (text.map UInt8.toNat)]) 0 b o (.agg #[.string s]) rfl J ?_ λj c h=>?_
  .simpa using this
  .refine VR.qT (VRs.cons (.str _ s (by rw[C]) (by rw[QP,←C,Array.length_toList];unfold maxLen at D;unfold zf;exact D)) VRs.nil) λv i=>?_
   simp at i;subst i;rfl
  .cases j with
   |zero=>
    have e:c=.string s:=(Qs h).symm;rw[e];exact q
   |succ j=>simp[Value.cells]at h
 have:=VR.qc (E:=Env.still W σ) (w:=W) (.agg [.iface d (.qc (.agg [.str (text.map UInt8.toNat)]) 0)]) 0 g 0 (.agg #[.iface d (.pointer (some ⟨b,o,none⟩))]) rfl r ?_ λj c h=>?_
 .exact⟨by simpa using this,λO n e=>⟨_,S,L,hblk,by cases e;rfl⟩⟩
 .refine VR.qT (VRs.cons (.iface _ _ _ inner) VRs.nil) λv i=>?_
  simp at i;subst i;rfl
 .cases j with
  |zero=>
   have e:c=.iface d (.pointer (some ⟨b,o,none⟩)):=(Qs h).symm;rw[e];simp[World.cell?,hblk]
  |succ j=>simp[Value.cells]at h
end
end Go.Sy
namespace Go.Sy
section
variable{G:Cx}{call:Call}
def W(G:Cx)(call:Call)(c:XC)(Q:Ext->Fr->Heap->Nat->Prop)(fr:Fr)(H:Heap)(nx:Nat):Prop:=
 ∃g x e f d,run G call g c (fr,H,nx)=some (x,e,f,d)/\Q x e f d
def zao(o:JF)(A B:Prop):Prop:=match o with
 |some (.bool true)=>A
 |some (.bool false)=>B
 |_=>False
def zPD(o:JF)(d:Bool)(A B:Prop):Prop:=match o with
 |some (.bool c)=>(c=d->A)/\(c=!d->B)
 |some (.qg [])=>B
 |_=>False
variable{Q Q':Ext->Fr->Heap->Nat->Prop}{fr:Fr}{H:Heap}{nx:Nat}
end
section
variable{P:Program}{G:Cx}
structure FnX(P:Program)(f:Nat)(xf:XF):Prop where
 ok:∃fn,P.funcs[f]?=some fn/\compF P fn=some xf/\(fn.name == "runtime.NumGoroutine")=false
end
theorem zAG:∀(a b:JV),seqb a b=decide (a=b)
 |[],[]=>by simp[seqb]
 |[],_::_=>by simp[seqb]
 |_::_,[]=>by simp[seqb]
 |a::x,b::y=>by
  simp only[seqb];by_cases h:a=b
  .subst h;have:Nat.beq a a=true:=Nat.beq_refl a;simp[this,zAG x y]
  .have:Nat.beq a b=false:=by
    cases hb:Nat.beq a b with
    |false=>rfl
    |true=>exact absurd (zb hb) h
   simp[this,h]
section
variable{G:Cx}{call:Call}{Q:Ext->Fr->Heap->Nat->Prop}{K:Fr->Heap->Nat->Prop}{fr:Fr}{H:Heap}{nx:Nat}
theorem zFp{n:Nat}{v:AV}:qv fr (some n) v=fr.put n v:=rfl
end
def zDH:Nat->AV->Bool
 |0,_=>false
 |d+1,v=>match v with
  |.bool _|.int _ _|.str _|.qj|.ptr _ _|.qa|.row _ _ _ _ _ _|.qm|.map _|.ql|.qe|.sym _=>true
  |.qc e _=>zDH d e
  |.qo _ es=>es.all (zDH d)
  |.func (.func _) a b=>a.all (zDH d)&&b.all (zDH d)
  |.iface _ v=>zDH d v
  |.agg cs=>cs.all (zDH d)
  |.qg cs=>cs.all (zDH d)
  |_=>false
theorem zIo(a:JV):seqb a a=true:=by rw[zAG];simp
theorem zFq{d:Nat}(h:∀v,zDH d v=true->qW d v v=true):∀l:JE,l.all (zDH d)=true->zDp (qW d) l l=true
 |[],_=>rfl
 |a::r,c=>by
  rw[QU,qr]at c;simp only[zDp,h a c.1];exact zFq h r c.2
theorem aeq_refl:∀(d:Nat)(v:AV),zDH d v=true->qW d v v=true:=by
 intro d
 induction d with
 |zero=>intro v h;cases h
 |succ d p=>
  intro v h;have l:∀n:Nat,Nat.beq n n=true:=Nat.beq_refl;cases v with
  |bool b=>cases b<;>rfl
  |int k n=>
   have:zC9 k k=true:=by cases k<;>rfl
   simp[qW,this]
  |str s=>exact zIo s
  |qj=>rfl
  |ptr h o=>simp[qW,l]
  |qc e o=>
   have:=p e h;simp[qW,l,this]
  |qa=>rfl
  |qo z es=>
   have:=zFq p es h;simp[qW,l,this]
  |row a b c e f g=>simp[qW,l]
  |qm=>rfl
  |map h=>simp[qW,l]
  |ql=>rfl
  |func f a b=>
   cases f with
   |func f=>
    have h:(a.all (zDH d)&&b.all (zDH d))=true:=h;rw[qr]at h;simp[qW,l,zFq p a h.1,zFq p b h.2]
   |_=>simp[zDH]at h
  |qe=>rfl
  |iface t v=>
   have:=p v h;simp[qW,l,this]
  |agg cs=>exact zFq p cs h
  |qg cs=>exact zFq p cs h
  |sym i=>simp[qW,l]
section
variable{G:Cx}{call:Call}{fr:Fr}{H:Heap}{nx:Nat}
theorem zOi{o:XO}(hk:zP o=0):xoS G call fr H nx o=match xoS G zd fr [] nx o with|some (v,_,n)=>some (v,H,n)|none=>none:=by
 cases o<;>first|(simp[zP]at hk;done)|(simp only[xoS];repeat' split)<;>first|rfl|simp_all
def Calm(call:Call):Prop:=∀f args H nx v d c,call f args H nx=some (v,d,c)->d=H/\c=nx
theorem zKP:∀{ts:JV}{t:Nat},fr.get t=none->(only ts fr).get t=none
 |[],t,h=>rfl
 |a::ts,t,h=>by
  simp only[only];split
  .rename_i v c;simp only[Fr.get];have:Nat.beq a t=false:=by
    cases hb:Nat.beq a t with
    |false=>rfl
    |true=>rw[zb hb,h]at c;cases c
   rw[this];exact zKP h
  .exact zKP h
theorem zKQ:∀{ts:JV}{t:Nat}{v:AV},inN t ts=true->fr.get t=some v->(only ts fr).get t=some v
 |[],t,v,h,_=>by cases h
 |a::ts,t,v,h,d=>by
  simp only[only];by_cases e:t=a
  .subst e;have c:Nat.beq t t=true:=Nat.beq_refl t;simp only[d,Fr.get,c]
  .have h1:Nat.beq t a=false:=by
    cases c:Nat.beq t a with
    |false=>rfl
    |true=>exact absurd (zb c) e
   have f:Nat.beq a t=false:=by
    cases c:Nat.beq a t with
    |false=>rfl
    |true=>exact absurd (zb c).symm e
   simp only[inN,h1]at h;split
   .simp only[Fr.get,f];exact zKQ h d
   .exact zKQ h d
theorem zSD{ts:JV}{t:Nat}(h:inN t ts=true):(only ts fr).get t=fr.get t:=by
 cases hv:fr.get t with
 |none=>exact zKP hv
 |some v=>exact zKQ h hv
theorem zXD{o:XO}{ts:JV}(h:(zG3 o.qb).all (λt=>inN t ts)=true)(call:Call)(H:Heap)(nx:Nat):xo G call (only ts fr) H nx o=xoS G call fr H nx o:=by
 rw[←zFI];refine zQU λx c=>?_
 cases x with
 |t n=>exact zSD (QD.1 h n (zCR c))
 |_=>rfl
end
section
variable{G:Cx}{call:Call}{fr:Fr}{H:Heap}{nx:Nat}
def WM(G:Cx)(call:Call):List XOper->(Fr->Heap->Nat->Prop)->Fr->Heap->Nat->Prop
 |[],K,fr,H,nx=>K fr H nx
 |o::r,K,fr,H,nx=>match o.guard with
  |none=>∃v d c,xoS G call fr H nx o.op=some (v,d,c)/\zDH 40 v=true/\WM G call r K (qv fr o.dst v) d c
  |some (t,b)=>zPD (fr.get t) b (∃v d c,xoS G call fr H nx o.op=some (v,d,c)/\zDH 40 v=true/\WM G call r K (qv fr o.dst v) d c) (WM G call r K (qv fr o.dst (.qg [])) H nx)
def zZr(g:Option (Nat×Bool))(l:JV):Bool:=match g with
 |none=>true
 |some (t,_)=>inN t l
theorem zTj{o:XO}(hk:zP o=1){v:AV}{H':Heap}{n:Nat}(h:xoS G call fr H nx o=some (v,H',n))(m:Nat):xoS G zd fr H m o=some (v,H,m)/\H'=H/\n=nx:=by
 cases o<;>first|(simp[zP]at hk;done)|(simp only[xoS]at h⊢;repeat' split at h)<;>first|(cases h;done)|(cases h;simp_all)
theorem zFM{fr:Fr}{t:Nat}{b c:Bool}(h:fr.get t=some (.bool c)):zBm fr (some (t,b))=some (c==b):=by
 simp only[zBm,h];cases c<;>cases b<;>rfl
variable{K:Fr->Heap->Nat->Prop}
end
section
variable{G:Cx}{call:Call}{fr:Fr}{H:Heap}{nx:Nat}
def zSE:XO->Bool
 |.call _ _|.qN _ _=>true
 |_=>false
def WN(G:Cx)(call:Call):List XOper->(Fr->Heap->Nat->Prop)->Fr->Heap->Nat->Prop
 |[],K,fr,H,nx=>K fr H nx
 |o::r,K,fr,H,nx=>match o.guard with
  |none=>∃v d c,xoS G call fr H nx o.op=some (v,d,c)/\WN G call r K (qv fr o.dst v) d c
  |some (t,b)=>zPD (fr.get t) b (∃v d c,xoS G call fr H nx o.op=some (v,d,c)/\WN G call r K (qv fr o.dst v) d c) (WN G call r K (qv fr o.dst (.qg [])) H nx)
def zKR:List XOper->List XD->Bool
 |[],_=>true
 |o::r,d::ds=>(zG3 o.op.qb).all (λt=>inN t d.looks)&&zZr o.guard d.looks&&zKR r ds
 |_::_,[]=>false
def zLB(c:JV):XO->Bool
 |.wH (.t b)|.qC (.t b) _=>!zCB b c
 |_=>false
def zTk(c:JV):XO->Bool
 |.load (.t b) _ _=>!zCB b c
 |_=>false
def zC7(c:JV)(o:XOper):JV:=match o.dst with
 |none=>c
 |some d=>match zLB c o.op with
  |true=>c
  |false=>d::c
def zGf:Nat->JV->JV->JV->JV->JV->JV->List XOper->List XD->Bool
 |_,_,_,_,_,_,_,[],_=>true
 |i,f,h,cs,cur,g,e,o::r,d::ds=>match zSE o.op with
  |true=>(h++cs).all (λc=>d.qd.testBit c)&&f.all (λc=>d.qd.testBit c)&&g.all (λc=>d.qd.testBit c)&&Nat.blt d.qd (2 ^ i)&&zGf (i+1) f h (i::cs) cur g (zC7 e o) r ds
  |false=>match zP o.op with
   |0=>zGf (i+1) f h cs cur g (zC7 e o) r ds
   |1=>match f.all (λc=>d.qd.testBit c)with
    |true=>h.all (λc=>d.qd.testBit c)&&Nat.blt d.qd (2 ^ i)&&zGf (i+1) f h cs (i::cur) g (zC7 e o) r ds
    |false=>zTk e o.op&&(h.all (λc=>d.qd.testBit c)&&Nat.blt d.qd (2 ^ i)&&zGf (i+1) f h cs cur (i::g) (zC7 e o) r ds)
   |2=>zGf (i+1) (i::f) h cs [] (cur++g) (zC7 e o) r ds
   |_=>(h++cs).all (λc=>d.qd.testBit c)&&f.all (λc=>d.qd.testBit c)&&(cur++g).all (λc=>d.qd.testBit c)&&Nat.blt d.qd (2 ^ i)&&zGf (i+1) f (i::h) cs [] (cur++g) (zC7 e o) r ds
 |_,_,_,_,_,_,_,_::_,[]=>false
theorem zQV{o:XO}(hk:zP o=2){v:AV}{H':Heap}{n:Nat}(h:xoS G call fr H nx o=some (v,H',n)):∃c,xoS G zd fr [] nx o=some (v,[(nx,c)],nx+1)/\H'=(nx,c)::H/\n=nx+1:=by
 cases o<;>first|(simp[zP]at hk;done)|(simp only[xoS]at h⊢;repeat' split at h)<;>first|(cases h;done)|(cases h;simp_all)
abbrev DAl:=List (Nat×Nat×HO)
def Fut(n0 i:Nat)(al c:DAl):Prop:=∃new,c=new++al/\∀x∈new,i<=x.1/\n0<=x.2.1
noncomputable def rdH(G:Cx)(r:DRead)(H:Heap)(nx:Nat):Bool:=match xo G zd r.fr H nx r.op with
 |some (v,_,_)=>eqC v r.v
 |none=>false
def zEE(H:Heap)(al:DAl)(d:JV):JN->List (Heap×Nat)->Prop
 |[],(m,inc)::_=>within (λj=>!inc.testBit j) al++m=H
 |(c,_)::ch,(m,inc)::ms=>within (λj=>!inc.testBit j) al++m=H/\(c∈d\/zEE H al d ch ms)
 |_,[]=>False
theorem zJc{p i j:Nat}(h:p<2 ^ i)(c:i<=j):p.testBit j=false:=Nat.testBit_lt_two_pow (QX h (Nat.pow_le_pow_right (by omega) c))
theorem zJC{n0 i inc p:Nat}{al c:DAl}(e:Fut n0 i al c)(d:p<2 ^ i):within (but p inc) c=within (but p inc) al:=by
 obtain⟨new,rfl,g⟩:=e;rw[zDS,zC2 (al:=new),List.nil_append];intro x f;simp[but,zJc d (g x f).1]
theorem zJD{inc p:Nat}{al:DAl}(h:∀x∈al,p.testBit x.1=true):within (but p inc) al=within (λj=>!inc.testBit j) al:=
 zCs λx c=>by simp[but,h x c]
theorem zDI{n0 h:Nat}{f:Nat->Bool}{m:Heap}(g:h<n0):∀{al:DAl},(∀x∈al,n0<=x.2.1)->Heap.get (within f al++m) h=m.get h
 |[],_=>rfl
 |(i,k,o)::r,d=>by
  have h1:n0<=k:=d _ (.head _);have c:=zDI (f:=f) (m:=m) g (al:=r) λx l=>d x (.tail _ l)
  simp only[within];split
  .have:Nat.beq k h=false:=by
    cases e:Nat.beq k h with
    |false=>rfl
    |true=>have:=zb e;omega
   simp only[List.cons_append,Heap.get,this];exact c
  .exact c
theorem zOX{n0:Nat}{al d:DAl}{t:JV}{r:DRead}(q:∀x∈al,n0<=x.2.1)(e:∀x∈d,n0<=x.2.1){H:Heap}(o:∀H2 nx,(∀h,h<n0->H2.get h=H.get h)->rdH G r H2 nx=true){nx:Nat}:∀{ch:JN}{ms:List (Heap×Nat)},zEE H al t ch ms →
  (∀c∈t,r.qd.testBit c=true)->(∀c∈ch,c.2.testBit r.i=false)->zBJ G d nx r ch ms=true
 |[],[],h,_,_=>h.elim
 |[],(m,inc)::ms,h,_,_=>by
  have h:within (λj=>!inc.testBit j) al++m=H:=h
  have:=o (within (but r.qd inc) d++m) nx λk hk=>by rw[zDI hk e,←h,zDI hk q]
  simp only[zBJ,zDm];exact this
 |(c,p)::ch,[],h,_,_=>h.elim
 |(c,p)::ch,(m,inc)::ms,h,u,hc=>by
  obtain⟨h1,f⟩:=h;have g:zDm G d nx r m inc=true:=by
   have:=o (within (but r.qd inc) d++m) nx λk hk=>by rw[zDI hk e,←h1,zDI hk q]
   simp only[zDm];exact this
  simp only[zBJ];split
  .exact g
  .rename_i s;rcases f with f|f
   .rw[u c f]at s;cases s
   .simp only[hc _ (.head _),g];exact zOX q e o f u λv l=>hc v (.tail _ l)
theorem zNv{n0:Nat}{al d:DAl}{u:JV}{r:DRead}{i:Nat}(q:Fut n0 i al d)(o:r.qd<2 ^ i)(e:∀x∈al,r.qd.testBit x.1=true)(s:∀nx,rdH G r H nx=true):∀{ch:JN}{ms:List (Heap×Nat)},zEE H al u ch ms →
  (∀c∈u,r.qd.testBit c=true)->(∀c∈ch,c.2.testBit r.i=false)->zBJ G d nx r ch ms=true
 |[],[],h,_,_=>h.elim
 |[],(m,inc)::ms,h,_,_=>by
  have h:within (λj=>!inc.testBit j) al++m=H:=h
  have:=s nx;simp only[zBJ,zDm,zJC q o,zJD e,h];exact this
 |(c,p)::ch,[],h,_,_=>h.elim
 |(c,p)::ch,(m,inc)::ms,h,v,hc=>by
  obtain⟨h1,f⟩:=h;have g:zDm G d nx r m inc=true:=by
   have:=s nx;simp only[zDm,zJC q o,zJD e,h1];exact this
  simp only[zBJ];split
  .exact g
  .rename_i t;rcases f with f|f
   .rw[v c f]at t;cases t
   .simp only[hc _ (.head _),g];exact zNv q o e s f v λy l=>hc y (.tail _ l)
structure SN(n0:Nat)(G:Cx)(H:Heap)(nx:Nat)(fr:Fr)(s:DS)(i:Nat)(als ws cs cur wh news:JV):Prop where
 uO:∀t h o,zCB t news=false->fr.get t=some (.ptr h o)->h<n0
 ud:∀x∈s.al,n0<=x.2.1
 nn:n0<=nx
 ui:s.fr=fr
 uh:s.nx=nx
 uX:∀x∈s.al,x.1∈als/\x.1<i
 uP:∀c∈s.ch,(c.1∈ws\/c.1∈cs)/\c.1<i/\c.2<2 ^ c.1
 uC:∃m inc rest,s.ms=(m,inc)::rest
 uG:∀x∈s.ms,x.2<2 ^ i
 chain:zEE H s.al ws s.ch s.ms
 rd:∀r∈s.rd,r.i<i/\r.qd<2 ^ r.i/\((r.i∈cur/\(∀x∈s.al,r.qd.testBit x.1=true)/\∀nx,rdH G r H nx=true)\/r.i∈wh)/\∀nx al',Fut n0 i s.al al'->zBJ G al' nx r s.ch s.ms=true
theorem zNw{al:DAl}{e:JV}{ch:JN}{m:Heap}{inc:Nat}{d:List (Heap×Nat)}(h:zEE H al e ch ((m,inc)::d)):within (λj=>!inc.testBit j) al++m=H:=by
 cases ch with
 |nil=>exact h
 |cons c ch=>exact h.1
theorem Fut.step{n0 i:Nat}{al c:DAl}(h:Fut n0 (i+1) al c):Fut n0 i al c:=let ⟨new,e,hn⟩:=h;⟨new,e,λx d=>by have:=hn x d;omega⟩
theorem zUF{t d:Nat}{l:JV}(h:zCB t (d::l)=false):t≠d/\zCB t l=false:=by
 simp only[zCB]at h;split at h
 .cases h
 .rename_i e;exact⟨zAq e,h⟩
theorem zQW{n0:Nat}{c:JV}{o:XOper}{v:AV}(i:∀t h o,zCB t c=false->fr.get t=some (.ptr h o)->h<n0)(p:zLB c o.op=true->∀h k,v=.ptr h k->h<n0):
  ∀t h k,zCB t (zC7 c o)=false->(qv fr o.dst v).get t=some (.ptr h k)->h<n0:=by
 intro t h k g f;unfold zC7 at g;cases hd:o.dst with
 |none=>rw[hd]at g f;exact i t h k g f
 |some d=>
  rw[hd]at g f;have f:(fr.put d v).get t=some (.ptr h k):=f;rw[Fr.qu]at f;cases ho:zLB c o.op with
  |true=>
   rw[ho]at g;split at f
   .cases f;exact p ho h k rfl
   .exact i t h k g f
  |false=>
   rw[ho]at g;obtain⟨h1,l⟩:=zUF g;rw[if_neg λe=>h1 e.symm]at f
   exact i t h k l f
theorem zXE{n0:Nat}{c:JV}{o:XO}(d:∀t h o,zCB t c=false->fr.get t=some (.ptr h o)->h<n0){v:AV}{H':Heap}{n':Nat}(hx:xoS G call fr H nx o=some (v,H',n'))(ho:zLB c o=true):∀h k,v=.ptr h k->h<n0:=by
 intro h k e;subst e;cases o<;>try (cases ho;done)
 case wH x=>
  cases x<;>try (cases ho;done)
  rename_i b;have ho:zCB b c=false:=by simpa[zLB]using ho
  simp only[xoS]at hx;split at hx
  .rename_i u f;cases hx;exact d b h k ho f
  .cases hx
 case qC x off=>
  cases x<;>try (cases ho;done)
  rename_i b;have ho:zCB b c=false:=by simpa[zLB]using ho
  simp only[xoS]at hx;split at hx
  .rename_i g i f;cases hx;exact d b _ _ ho f
  .cases hx
  .cases hx
theorem zYW{n0:Nat}{c:JV}{o:XO}(e:∀t h o,zCB t c=false->fr.get t=some (.ptr h o)->h<n0){v:AV}{H':Heap}{n':Nat}(hx:xoS G call fr H nx o=some (v,H',n'))(ho:zTk c o=true){H2:Heap}(i:∀h,h<n0->H2.get h=H.get h)(d:Nat):xoS G zd fr H2 d o=some (v,H2,d):=by
 cases o<;>try (cases ho;done)
 case load x sz ag=>
  cases x<;>try (cases ho;done)
  rename_i b;have ho:zCB b c=false:=by simpa[zTk]using ho
  simp only[xoS]at hx⊢;split at hx
  .rename_i u g;split at hx
   .rename_i x f;cases hx;have:zDa H2 sz ag u=zDa H sz ag u:=by
     cases u with
     |ptr h o=>simp only[zDa,i h (e b h o ho g)]
     |_=>rfl
    rw[this,f]
   .cases hx
  .cases hx
theorem zMu{al:DAl}{f d:JV}(e:∀c∈f,c∈d):∀{ch:JN}{ms:List (Heap×Nat)},zEE H al f ch ms->zEE H al d ch ms
 |[],[],h=>h.elim
 |[],(m,inc)::_,h=>h
 |(c,p)::ch,[],h=>h.elim
 |(c,p)::ch,(m,inc)::ms,h=>⟨h.1,h.2.imp (e c) (zMu e)⟩
theorem zL4{al:DAl}{g:JV}{i e:Nat}{f:HO}:∀{ch:JN}{ms:List (Heap×Nat)},zEE H al g ch ms->(∀x∈ms,x.2<2 ^ i)->zEE ((e,f)::H) ((i,e,f)::al) g ch ms
 |[],[],h,_=>h.elim
 |[],(m,inc)::_,h,d=>by
  have h:within (λj=>!inc.testBit j) al++m=H:=h
  have:=zJc (d _ (.head _)) (QA i);show within (λj=>!inc.testBit j) ((i,e,f)::al)++m=_
  simp only[within,this,Bool.not_false,List.cons_append,h]
 |(c,p)::ch,[],h,_=>h.elim
 |(c,p)::ch,(m,inc)::ms,h,d=>by
  have:=zJc (d _ (.head _)) (QA i);refine⟨?_,h.2.imp id λh=>zL4 h λx l=>d x (.tail _ l)⟩
  simp only[within,this,Bool.not_false,List.cons_append,h.1]
theorem zNx{a b i:Nat}(c:a<2 ^ i)(d:b<2 ^ i):a ||| b<2 ^ i:=Nat.or_lt_two_pow c d
theorem zKS{p i:Nat}:∀{al:DAl},(∀x∈al,x.1<i)->zA0 p al<2 ^ i
 |[],_=>Nat.pow_pos (by omega)
 |(j,h,o)::r,c=>by
  simp only[zA0];split
  .exact zNx (Nat.pow_lt_pow_right (by omega) (c _ (.head _))) (zKS λx d=>c x (.tail _ d))
  .exact zKS λx d=>c x (.tail _ d)
theorem zUG{o:XO}(h:zSE o=true):zP o=3:=by cases o<;>first|(cases h;done)|rfl
theorem zEr(I:Calm call){n0:Nat}:∀(ops:List XOper)(ds:List XD)(i:Nat)(L ws cs cur R C:JV){K:Fr->Heap->Nat->Prop}{fr:Fr}{H:Heap}{nx:Nat}{s:DS},WN G call ops K fr H nx->zKR ops ds=true->zGf i L ws cs cur R C ops ds=true->SN n0 G H nx fr s i L ws cs cur R C →
  ∃s' i' B A cs' g f F fr' H' D,zA1 G call i ops ds s=some s'/\SN n0 G H' D fr' s' i' B A cs' g f F/\K fr' H' D
 |[],ds,i,L,ws,cs,cur,R,C,K,fr,H,nx,s,Y,_,_,u=>⟨s,i,L,ws,cs,cur,R,C,fr,H,nx,by cases ds<;>rfl,u,Y⟩
 |o::r,[],i,L,ws,cs,cur,R,C,K,fr,H,nx,s,Y,hc,_,u=>by cases hc
 |o::r,d::ds,i,L,ws,cs,cur,R,C,K,fr,H,nx,s,Y,hc,z,u=>by
  simp only[zKR,qr]at hc;obtain⟨⟨c1,cg⟩,c3⟩:=hc;have S:∀{g f:JV},(∀r∈s.rd,r.i∈cur->r.i∈g\/r.i∈f)->(∀x∈R,x∈f)->∀r∈s.rd,r.i<i+1/\r.qd<2 ^ r.i/\((r.i∈g/\(∀x∈s.al,r.qd.testBit x.1=true)/\∀nx,rdH G r H nx=true)\/r.i∈f)/\∀nx J,Fut n0 (i+1) s.al J->zBJ G J nx r s.ch s.ms=true:=by
   intro g f h1 h2 r hr;obtain⟨k1,k2,k3,k4⟩:=u.rd r hr;refine⟨by omega,k2,?_,λnx J hf=>k4 nx J hf.step⟩
   rcases k3 with⟨k5,k6,k7⟩|k5
   .rcases h1 r hr k5 with h|h
    .exact .inl ⟨h,k6,k7⟩
    .exact .inr h
   .exact .inr (h2 _ k5)
  have O:∀x∈s.al,x.1∈L/\x.1<i+1:=λx y=>⟨(u.uX x y).1,Nat.lt_succ_of_lt (u.uX x y).2⟩
  have M:∀x∈s.ms,x.2<2 ^ (i+1):=λx y=>QX (u.uG x y) (Nat.pow_le_pow_right (by omega) (QT i))
  have U:∀{A cs':JV},(∀x∈ws,x∈A)->(∀x∈cs,x∈cs')->∀c∈s.ch,(c.1∈A\/c.1∈cs')/\c.1<i+1/\c.2<2 ^ c.1:=λh1 h2 c hc=>by
   obtain⟨k1,k2,k3⟩:=u.uP c hc;exact⟨k1.imp (h1 _) (h2 _),by omega,k3⟩
  have ar:(∃v H' D,xoS G call fr H nx o.op=some (v,H',D)/\WN G call r K (qv fr o.dst v) H' D)->zBm (only d.looks s.fr) o.guard=some true →
    ∃s' i' B A cs' g f F fr' H' D,zA1 G call i (o::r) (d::ds) s=some s'/\SN n0 G H' D fr' s' i' B A cs' g f F/\K fr' H' D:=by
   rintro ⟨v,H',D,y,hw2⟩ N
   clear Y
   have X:∀(call:Call)(H:Heap)(n:Nat),xo G call (only d.looks s.fr) H n o.op=xoS G call fr H n o.op:=λcall H n=>by rw[u.ui];exact zXD c1 call H n
   have W:=zQW (o:=o) u.uO (zXE u.uO y);have a8:nx<=D:=zTg (λ_ _ _ _ _ _ _ h=>by rw[(I _ _ _ _ _ _ _ h).2];exact QA _) y
   obtain⟨m,inc,bf,ab⟩:=u.uC;have hH:within (λj=>!inc.testBit j) s.al++m=H:=zNw (ab▸u.chain)
   have T:∀{l:JV} ,L.all (λc=>d.qd.testBit c)=true->∀x∈s.al,d.qd.testBit x.1=true:=λh x y=>QD.1 h _ (u.uX x y).1
   have ah:L.all (λc=>d.qd.testBit c)=true->within (but d.qd inc) s.al++m=H:=λh=>by rw[zJD (T (l:=[]) h),hH]
   have af:∀{A cs' g f:JV},(∃k,zP o.op=k+3)->(ws++cs).all (λc=>d.qd.testBit c)=true->L.all (λc=>d.qd.testBit c)=true->d.qd<2 ^ i->zGf (i+1) L A cs' g f (zC7 C o) r ds=true->(∀x∈ws,x∈A)->(∀x∈cs,x∈cs')->(i∈A\/i∈cs') →
     (i∈A\/H'=H) →
     (∀q∈s.rd,((q.i∈g/\(∀x∈s.al,q.qd.testBit x.1=true)/\∀nx,rdH G q H' nx=true)\/(q.i∈f))/\(d.qd.testBit q.i=true\/(∀x∈s.al,q.qd.testBit x.1=true)/\∀nx,rdH G q H' nx=true)) →
     ∃s' i' B A cs' g f F fr' H' D,zA1 G call i (o::r) (d::ds) s=some s'/\SN n0 G H' D fr' s' i' B A cs' g f F/\K fr' H' D:=by
    intro A cs' g f hk q1 q2 q3 q5 au bc a7 bb ba;obtain⟨k,hk⟩:=hk;have aw:(s.ch.all λc=>d.qd.testBit c.1)=true:=by
     rw[QD];intro c hc;refine QD.1 q1 c.1 (QH.2 ?_)
     exact(u.uP c hc).1
    have e:zCr G call i o d s=some { s with fr:=qv s.fr o.dst v,nx:=D,ms:=(H',inc ||| zA0 d.qd s.al)::s.ms,ch:=(i,d.qd)::s.ch,tr:=(i,o.dst,v)::s.tr }:=by
     simp only[zCr,N,hk,ab,aw,ah q2,X,u.uh,y]
    simp only[zA1,e];have ak:inc ||| zA0 d.qd s.al<2 ^ (i+1):=zNx (M _ (by rw[ab];exact .head _)) (zKS λx y=>(O x y).2)
    have aj:∀p:Nat,p<2 ^ i->∀J,Fut n0 (i+1) s.al J->within (but p (inc ||| zA0 d.qd s.al)) J=[]:=by
     intro p hp J hf;rw[zJC hf (QX hp (Nat.pow_le_pow_right (by omega) (QT i)))]
     refine zC2 λx y=>?_
     have:(zA0 d.qd s.al).testBit x.1=true:=zFL.2 ⟨T (l:=[]) q2 x y,x,y,rfl⟩;simp[but,this]
    have ad:within (λj=>!(inc ||| zA0 d.qd s.al).testBit j) s.al=[]:=by
     refine zC2 λx y=>?_
     have:(zA0 d.qd s.al).testBit x.1=true:=zFL.2 ⟨T (l:=[]) q2 x y,x,y,rfl⟩;simp[this]
    refine zEr I r ds (i+1) L A cs' g f (zC7 C o) hw2 c3 q5 ⟨W,u.ud,QI u.nn a8,by simp only[u.ui],rfl,O,λc hc=>?_,⟨_,_,_,rfl⟩,λx y=>?_,?_,λq V=>?_⟩
    .rcases QG.1 hc with rfl|hc
     .exact⟨a7,QR i,q3⟩
     .exact U au bc c hc
    .rcases QG.1 y with rfl|y
     .exact ak
     .exact M x y
    .refine⟨by rw[ad,List.nil_append],?_⟩
     rcases bb with h|h
     .exact .inl h
     .exact .inr (by rw[h];exact zMu au u.chain)
    .obtain⟨k1,k2,k3,k4⟩:=u.rd q V;obtain⟨k5,k6⟩:=ba q V;refine⟨by omega,k2,k5,λn J hf=>?_⟩
     have a6:q.qd.testBit i=false:=zJc k2 (by omega)
     simp only[zBJ,a6];rcases k6 with k6|⟨_,k6⟩
     .simp only[k6];exact k4 n J hf.step
     .cases hb:d.qd.testBit q.i with
      |true=>simp only;exact k4 n J hf.step
      |false=>
       have a1:zDm G J n q H' (inc ||| zA0 d.qd s.al)=true:=by
        have:=k6 n;simp only[zDm,aj q.qd (QX k2 (Nat.pow_le_pow_right (by omega) (by omega))) J hf,List.nil_append]
        exact this
       simp only[a1];exact k4 n J hf.step
   simp only[zGf]at z;split at z
   ·
    rename_i aq;simp only[qr]at z;obtain⟨⟨⟨⟨q1,q2⟩,q3⟩,q4⟩,q5⟩:=z;have q4:d.qd<2 ^ i:=by simpa[Qg]using q4
    have ay:H'=H:=by
     cases ho:o.op<;>rw[ho]at aq y<;>first|(cases aq;done)|skip
     .simp only[xoS]at y;split at y
      .exact(I _ _ _ _ _ _ _ y).1
      .cases y
     .simp only[xoS]at y;split at y
      .unfold zEZ at y;split at y
       .exact(I _ _ _ _ _ _ _ y).1
       .cases y
      .cases y
    subst ay;refine af ⟨0,zUG aq⟩ q1 q2 q4 q5 (λx h=>h) (λx h=>.tail _ h) (.inr (.head _)) (.inr rfl) λq V=>?_
    obtain⟨k1,k2,k3,k4⟩:=u.rd q V;refine⟨k3,?_⟩
    rcases k3 with⟨_,k5,k6⟩|k5
    .exact .inr ⟨k5,k6⟩
    .exact .inl (QD.1 q3 _ k5)
   .rename_i be;by_cases h0:zP o.op=0
    .simp only[h0]at z;have h1:=zOi (G:=G) (call:=call) (fr:=fr) (H:=H) (nx:=nx) h0;have h2:=zOi (G:=G) (call:=zd) (fr:=fr) (H:=[]) (nx:=nx) h0;rw[y]at h1;cases hz:xoS G zd fr [] nx o.op with
     |none=>rw[hz]at h1;cases h1
     |some t=>
      obtain⟨v',H2,n2⟩:=t;rw[hz]at h1 h2;simp only[QK,Prod.mk.injEq]at h1 h2;obtain⟨rfl,rfl,rfl⟩:=h1;obtain⟨_,rfl,_⟩:=h2;have hn:D=nx:=by
       have:∀{o:XO},zP o=0->∀{v H2 n2},xoS G zd fr [] nx o=some (v,H2,n2)->n2=nx:=λ{o} hk {v H2 n2} h=>by
        cases o<;>first|(simp[zP]at hk;done)|(simp only[xoS]at h;repeat' split at h)<;>first|(cases h;done)|(cases h;rfl)
       exact this h0 hz
      subst hn;have e:zCr G call i o d s=some { s with fr:=qv s.fr o.dst v,tr:=(i,o.dst,v)::s.tr }:=by
       simp only[zCr,N,h0,X,u.uh,hz,Nat.beq_refl]
      simp only[zA1,e];exact zEr I r ds (i+1) L ws cs cur R (zC7 C o) hw2 c3 z ⟨W,u.ud,u.nn,by simp only[u.ui],u.uh,O,U (λx h=>h) (λx h=>h),u.uC,M,u.chain,S (λ_ _ h=>.inl h) (λx h=>h)⟩
    .by_cases h1:zP o.op=1
     .simp only[h1]at z;split at z
      .rename_i q2;simp only[qr]at z;obtain⟨⟨q1,q3⟩,q4⟩:=z;have q3:d.qd<2 ^ i:=by simpa[Qg]using q3
       obtain⟨k1,rfl,rfl⟩:=zTj h1 y nx;have e:zCr G call i o d s=some { s with fr:=qv s.fr o.dst v,rd:=⟨i,o.op,only d.looks s.fr,d.qd,v⟩::s.rd,tr:=(i,o.dst,v)::s.tr }:=by
        simp only[zCr,N,h1,ab,ah q2,X,u.uh,k1]
       have aa:∀n,rdH G ⟨i,o.op,only d.looks s.fr,d.qd,v⟩ H' n=true:=λn=>by
        have h4:=(zTj h1 y n).1;simp only[rdH,X,h4];exact zQE v
       simp only[zA1,e];refine zEr I r ds (i+1) L ws cs (i::cur) R (zC7 C o) hw2 c3 q4 ⟨W,u.ud,u.nn,by simp only[u.ui],u.uh,O,U (λx h=>h) (λx h=>h),u.uC,M,u.chain,λq V=>?_⟩
       rcases QG.1 V with rfl|V
       .refine⟨QR i,q3,.inl ⟨.head _,T (l:=[]) q2,aa⟩,λn J hf=>?_⟩
        refine zNv hf.step q3 (T (l:=[]) q2) aa u.chain (λc hc=>QD.1 q1 c hc) λc hc=>?_
        obtain⟨_,g2,g3⟩:=u.uP c hc;exact zJc g3 (by show c.1<=i;omega)
       .exact S (λ_ _ h=>.inl (.tail _ h)) (λx h=>h) q V
      .simp only[qr]at z;obtain⟨q0,⟨q1,q3⟩,q4⟩:=z;have q3:d.qd<2 ^ i:=by simpa[Qg]using q3
       obtain⟨k1,rfl,rfl⟩:=zTj h1 y nx;have ae:∀(H2:Heap)(n:Nat),(∀h,h<n0->H2.get h=H'.get h)->xoS G zd fr H2 n o.op=some (v,H2,n):=λH2 n he=>zYW u.uO y q0 he n
       have e:zCr G call i o d s=some { s with fr:=qv s.fr o.dst v,rd:=⟨i,o.op,only d.looks s.fr,d.qd,v⟩::s.rd,tr:=(i,o.dst,v)::s.tr }:=by
        have:=ae (within (but d.qd inc) s.al++m) s.nx λk hk=>by rw[zDI hk u.ud,←hH,zDI hk u.ud]
        simp only[zCr,N,h1,ab,X,this]
       have aa:∀(H2:Heap)(n:Nat),(∀h,h<n0->H2.get h=H'.get h)->rdH G ⟨i,o.op,only d.looks s.fr,d.qd,v⟩ H2 n=true:=λH2 n he=>by
        simp only[rdH,X,ae H2 n he];exact zQE v
       simp only[zA1,e];refine zEr I r ds (i+1) L ws cs cur (i::R) (zC7 C o) hw2 c3 q4 ⟨W,u.ud,u.nn,by simp only[u.ui],u.uh,O,U (λx h=>h) (λx h=>h),u.uC,M,u.chain,λq V=>?_⟩
       rcases QG.1 V with rfl|V
       .refine⟨QR i,q3,.inr (.head _),λn J hf=>?_⟩
        refine zOX u.ud (λx y=>?_) aa u.chain (λc hc=>QD.1 q1 c hc) λc hc=>?_
        .obtain⟨new,rfl,hn⟩:=hf;rcases QH.1 y with y|y
         .exact(hn x y).2
         .exact u.ud x y
        .obtain⟨_,g2,g3⟩:=u.uP c hc;exact zJc g3 (by show c.1<=i;omega)
       .exact S (λ_ _ h=>.inl h) (λx h=>.tail _ h) q V
     .by_cases h2:zP o.op=2
      .simp only[h2]at z;obtain⟨ob,k1,rfl,rfl⟩:=zQV h2 y;have e:zCr G call i o d s=some { s with fr:=qv s.fr o.dst v,nx:=nx+1,al:=(i,nx,ob)::s.al,tr:=(i,o.dst,v)::s.tr }:=by
        simp only[zCr,N,h2,X,u.uh,k1,Nat.beq_refl]
       simp only[zA1,e];refine zEr I r ds (i+1) (i::L) ws cs [] (cur++R) (zC7 C o) hw2 c3 z ⟨W,λx y=>?_,Nat.le_succ_of_le u.nn,by simp only[u.ui],rfl,λx y=>?_,U (λx h=>h) (λx h=>h),u.uC,M,zL4 u.chain u.uG,λq V=>?_⟩
       .rcases QG.1 y with rfl|y
        .exact u.nn
        .exact u.ud x y
       .rcases QG.1 y with rfl|y
        .exact⟨.head _,QR i⟩
        .exact⟨.tail _ (O x y).1,(O x y).2⟩
       .obtain⟨g1,g2,g3,g4⟩:=u.rd q V;refine⟨by omega,g2,.inr ?_,λn J hf=>g4 n J ?_⟩
        .rcases g3 with⟨g5,_⟩|g5
         .exact QH.2 (.inl g5)
         .exact QH.2 (.inr g5)
        .obtain⟨new,rfl,hn⟩:=hf;refine⟨new++[(i,nx,ob)],by simp,λx y=>?_⟩
         rcases QH.1 y with y|y
         .have:=hn x y;omega
         .simp only[QY]at y;subst y;exact⟨QA _,u.nn⟩
      .have h3:∃k,zP o.op=k+3:=⟨zP o.op-3,by omega⟩
       obtain⟨k,h3⟩:=h3;simp only[h3,qr]at z;obtain⟨⟨⟨⟨q1,q2⟩,q3⟩,q4⟩,q5⟩:=z;have q4:d.qd<2 ^ i:=by simpa[Qg]using q4
       refine af ⟨k,h3⟩ q1 q2 q4 q5 (λx h=>.tail _ h) (λx h=>h) (.inl (.head _)) (.inl (.head _)) λq V=>?_
       obtain⟨g1,g2,g3,g4⟩:=u.rd q V;have az:q.i∈cur++R:=by
        rcases g3 with⟨g5,_⟩|g5
        .exact QH.2 (.inl g5)
        .exact QH.2 (.inr g5)
       exact⟨.inr az,.inl (QD.1 q3 _ az)⟩
  have ac:WN G call r K (qv fr o.dst (.qg [])) H nx->zBm (only d.looks s.fr) o.guard=some false →
    ∃s' i' B A cs' g f F fr' H' D,zA1 G call i (o::r) (d::ds) s=some s'/\SN n0 G H' D fr' s' i' B A cs' g f F/\K fr' H' D:=by
   intro Y N;have e:zCr G call i o d s=some { s with fr:=qv s.fr o.dst (.qg []),tr:=(i,o.dst,.qg [])::s.tr }:=by
    simp only[zCr,N]
   simp only[zA1,e];have base:∀{B A cs' g f:JV},zGf (i+1) B A cs' g f (zC7 C o) r ds=true->(∀x∈L,x∈B)->(∀x∈ws,x∈A)->(∀x∈cs,x∈cs')->(∀x∈cur,x∈g\/x∈f)->(∀x∈R,x∈f) →
     ∃s' i' B A cs' g f F fr' H' D,zA1 G call (i+1) r ds { s with fr:=qv s.fr o.dst (.qg []),tr:=(i,o.dst,.qg [])::s.tr }=some s'/\SN n0 G H' D fr' s' i' B A cs' g f F/\K fr' H' D:=by
    intro B A cs' g f V h1 h2 h3 h4 h5;exact zEr I r ds (i+1) B A cs' g f (zC7 C o) Y c3 V ⟨zQW u.uO (λ_ h k e=>by cases e),u.ud,u.nn,by simp only[u.ui],u.uh,λx y=>⟨h1 _ (O x y).1,(O x y).2⟩,U h2 h3,u.uC,M,zMu h2 u.chain,S (λq _ V=>h4 _ V) h5⟩
   simp only[zGf]at z;split at z
   .simp only[qr]at z;exact base z.2 (λx h=>h) (λx h=>h) (λx h=>.tail _ h) (λx h=>.inl h) (λx h=>h)
   .split at z
    .exact base z (λx h=>h) (λx h=>h) (λx h=>h) (λx h=>.inl h) (λx h=>h)
    .split at z
     .simp only[qr]at z;exact base z.2 (λx h=>h) (λx h=>h) (λx h=>h) (λx h=>.inl (.tail _ h)) (λx h=>h)
     .simp only[qr]at z;exact base z.2.2 (λx h=>h) (λx h=>h) (λx h=>h) (λx h=>.inl h) (λx h=>.tail _ h)
    .exact base z (λx h=>.tail _ h) (λx h=>h) (λx h=>h) (λx h=>.inr (QH.2 (.inl h))) (λx h=>QH.2 (.inr h))
    .simp only[qr]at z;exact base z.2 (λx h=>h) (λx h=>.tail _ h) (λx h=>h) (λx h=>.inr (QH.2 (.inl h))) (λx h=>QH.2 (.inr h))
  unfold WN at Y;cases hg:o.guard with
  |none=>
   rw[hg]at Y;exact ar Y (by rw[hg];rfl)
  |some tb=>
   obtain⟨t,b⟩:=tb;rw[hg]at Y cg;have ag:(only d.looks s.fr).get t=fr.get t:=by rw[u.ui];exact zSD cg
   simp only[zPD]at Y;split at Y
   .rename_i c hc;obtain⟨w1,w2⟩:=Y;have ao:=zFM (b:=b) (ag.trans hc);rw[←hg]at ao;by_cases ax:c=b
    .exact ar (w1 ax) (by rw[ao,ax];simp)
    .have ai:c=!b:=by cases c<;>cases b<;>simp_all
     exact ac (w2 ai) (by rw[ao,ai];simp)
   .rename_i hc;exact ac Y (by rw[hg];simp only[zBm,ag,hc])
   .exact Y.elim
theorem zUH(g:Calm call){ops:List XOper}{ds:List XD}{K:Fr->Heap->Nat->Prop}(q:∀t h o,fr.get t=some (.ptr h o)->h<nx)(hc:zKR ops ds=true)(v:zGf 0 [] [] [] [] [] [] ops ds=true)(h:WN G call ops K fr H nx):∃fr' H' d,zI7 G call ops ds (fr,H,nx)=some (fr',H',d)/\K fr' H' d:=by
 obtain⟨s,i,C,F,cs,cur,A,y,fr',H',d,h1,l,D⟩:=zEr g (n0:=nx) ops ds 0 [] [] [] [] [] [] (s:=⟨fr,nx,[(H,0)],[],[],[],[]⟩) h hc v ⟨λt h o _ B=>q t h o B,λx e=>(by cases e),QA _,rfl,rfl,λx e=>(by cases e),λc hc=>(by cases hc),⟨_,_,_,rfl⟩,λx e=>(by simp only[QY]at e;subst e;exact Nat.one_pos),rfl,λr u=>(by cases u)⟩
 obtain⟨m,inc,z,f⟩:=l.uC;refine⟨fr',H',d,?_,D⟩
 have p:(s.rd.all λr=>zBJ G s.al s.nx r s.ch s.ms)=true:=by
  rw[QD];intro r u;exact(l.rd r u).2.2.2 _ _ ⟨[],rfl,λx e=>by cases e⟩
 have hH:within (λj=>!inc.testBit j) s.al++m=H':=zNw (f▸l.chain)
 rw[f]at p;simp only[zI7,h1,f,p,hH];rw[l.ui,l.uh]
end
def z9:Nat->AV->Bool
 |0,_=>false
 |d+1,v=>match v with
  |.bool _|.int _ _|.str _|.qj|.qa|.qm|.ql|.qe=>true
  |.qc e _=>z9 d e
  |.qo _ es=>es.all (z9 d)
  |.func _ a b=>a.all (z9 d)&&b.all (z9 d)
  |.iface _ v=>z9 d v
  |.agg cs=>cs.all (z9 d)
  |.qg cs=>cs.all (z9 d)
  |_=>false
def ppS:Nat->AV->Bool
 |0,_=>false
 |d+1,v=>match v with
  |.bool _|.int _ _|.str _|.qj|.qa|.qm|.ql|.qe|.qo _ _|.qc _ _=>true
  |.func _ a b=>a.all (ppS d)&&b.all (ppS d)
  |.iface _ v=>ppS d v
  |.agg cs=>cs.all (ppS d)
  |.qg cs=>cs.all (ppS d)
  |_=>false
inductive K where
 |b
 |i (k:IntKind)
 |s
 |l (sz:Nat)
 |c (v:AV)
 |agg (n:Nat)
 |qg (n:Nat)
 |ep (off:Nat)
 |uR (t:Nat)
 |av
inductive VI where
 |vec (sz:Nat) (es:JE)
 |mp (es:List (AV×AV))
 |qU (j i off:Nat)
 |dn (n:Nat)
abbrev Vecs:=List (Nat×VI)
def Vecs.get:Vecs->Nat->Option VI
 |[],_=>none
 |(k,o)::r,h=>match Nat.beq k h with
  |true=>some o
  |false=>Vecs.get r h
def Vecs.del:Vecs->Nat->Vecs
 |[],_=>[]
 |(k,o)::r,h=>match Nat.beq k h with
  |true=>Vecs.del r h
  |false=>(k,o)::Vecs.del r h
inductive WK:AV->AV->Prop where
 |refl (v:AV):WK v v
 |nil (sz:Nat):WK .qa (.qo sz [])
 |qc {e e':AV} (off:Nat) (h:WK e e'):WK (.qc e off) (.qc e' off)
 |iface (t:Nat) {v v':AV} (h:WK v v'):WK (.iface t v) (.iface t v')
 |agg {cs cs':JE} (hl:cs.length=cs'.length) (h:∀(i:Nat) c c',cs[i]?=some c->cs'[i]?=some c'->WK c c'):WK (.agg cs) (.agg cs')
 |qg {cs cs':JE} (hl:cs.length=cs'.length) (h:∀(i:Nat) c c',cs[i]?=some c->cs'[i]?=some c'->WK c c'):WK (.qg cs) (.qg cs')
def Br(b:Bool)(A B:Prop):Prop:=match b with
 |true=>A
 |false=>B
def ixN{α:Type}(l:List α):Int->Option α
 |.ofNat n=>l[n]?
 |.negSucc _=>none
structure Sta where
 fr:Fr
 H:Heap
 V:Vecs
 m:Nat
 mv:Nat
def Sta.put(st:Sta)(d:Option Nat)(v:AV):Sta:=⟨qv st.fr d v,st.H,st.V,st.m,st.mv⟩
abbrev TblS:=List (Nat×(JE->Prop)×(JE->JF))
def zEF:TblS->Nat->JE->(AV->Prop)->Prop
 |[],_,_,_=>False
 |s::r,f,args,k=>match Nat.beq f s.1 with
  |true=>s.2.1 args/\match s.2.2 args with
   |some v=>k v
   |none=>False
  |false=>zEF r f args k
def zBe:Nat->AV->Bool
 |0,_=>false
 |d+1,v=>match v with
  |.bool _|.int _ _|.str _|.qj|.qa|.qm|.ql|.qe=>true
  |.iface _ v=>zBe d v
  |.agg cs=>cs.all (zBe d)
  |.qg cs=>cs.all (zBe d)
  |_=>false
def zp(f:AV->JF):JE->Option JE
 |[]=>some []
 |v::r=>match f v with
  |some v=>match zp f r with
   |some r=>some (v::r)
   |none=>none
  |none=>none
def zAU:Nat->AV->Bool
 |0,_=>true
 |d+1,v=>match v with
  |.sym _|.ptr _ _|.row _ _ _ _ _ _|.map _=>true
  |.func _ a b=>a.any (zAU d)||b.any (zAU d)
  |.iface _ v=>zAU d v
  |.agg cs|.qg cs=>cs.any (zAU d)
  |_=>false
def zCt(sz len:Nat)(cs:JE):Option JE:=
 match Nat.ble (len*sz) cs.length&&Nat.blt 0 sz&&cs.all AV.one with
 |true=>some (chunks sz len cs)
 |false=>none
def frz(H:Heap)(V:Vecs):Nat->AV->JF
 |0,_=>none
 |d+1,v=>match v with
  |.sym j=>match V.get j with
   |some (.vec sz es)=>some (.qo sz es)
   |_=>none
  |.ptr h off=>match H.get h with
   |some (.cells _ cs)=>match zp (frz H V d) cs with
    |some cs=>some (.qc (.agg cs) off)
    |none=>none
   |_=>none
  |.func f a b=>match zp (frz H V d) a with
   |some a=>match zp (frz H V d) b with
    |some b=>some (.func f a b)
    |none=>none
   |none=>none
  |.agg cs=>match zp (frz H V d) cs with
   |some cs=>some (.agg cs)
   |none=>none
  |.row h off len sz _ _=>match H.get h with
   |some (.cells _ cs)=>match Nat.ble (off+len*sz) cs.length with
    |true=>match zCt sz len (cs.drop off)with
     |some es=>match es.all (ppS 8)with
      |true=>some (.qo sz es)
      |false=>none
     |none=>none
    |false=>none
   |_=>none
  |v=>match zAU d v with
   |true=>none
   |false=>some v
def zBV(tb:TblS)(f:Nat)(args:JE)(st:Sta)(k:AV->Sta->Prop):Prop:=
 match args.any (zAU 8)with
 |false=>zEF tb f args λv=>k v st
 |true=>match zp (frz st.H st.V 8) args with
  |some args=>zEF tb f args λv=>match zBe 8 v with
   |true=>k v st
   |false=>False
  |none=>False
def zGJ(n:Int)(lo c:JF)(k:Int->Int->Prop):Prop:=
 match lo with
 |none=>match c with
  |none=>k 0 n
  |some (.int _ h)=>(0<=h/\h<=n)/\k 0 h
  |_=>False
 |some (.int _ l)=>match c with
  |none=>(0<=l/\l<=n)/\k l n
  |some (.int _ h)=>(0<=l/\l<=h/\h<=n)/\k l h
  |_=>False
 |_=>False
def eqv:List Kd->JE->JE->Option Bool
 |[],[],[]=>some true
 |k::ks,a::x,b::y=>match eqb k a b with
  |some p=>match ks with
   |[]=>match x,y with
    |[],[]=>some p
    |_,_=>none
   |_=>match eqv ks x y with
    |some q=>some (p&&q)
    |none=>none
  |none=>none
 |_,_,_=>none
def zAO(H:Heap)(sz:Nat):AV->Option JE
 |.qa=>some []
 |.qo c es=>match Nat.beq sz c with
  |true=>some es
  |false=>none
 |.row h off len c _ _=>match Nat.beq sz c with
  |true=>match H.get h with
   |some (.cells _ cs)=>match Nat.ble (off+len*sz) cs.length with
    |true=>zCt sz len (cs.drop off)
    |false=>none
   |_=>none
  |false=>none
 |.str s=>match Nat.beq sz 1 with
  |true=>some (s.map λb=>.int .u8 (.ofNat b))
  |false=>none
 |_=>none
def ldE(es:JE)(i off sz:Nat)(c:Bool):JF:=match es[i]? with
 |some e=>part e.cells off sz c
 |none=>none
def lkV(ok b:Bool)(u:AV):AV:=match ok with
 |true=>.qg [u,.bool b]
 |false=>u
def lkR(ok:Bool)(z:AV):Option JF->JF
 |some (some u)=>some (lkV ok true u)
 |some none=>some (lkV ok false z)
 |none=>none
def zIp:AV->Bool
 |.qo _ _=>true
 |.str _=>true
 |_=>false
def zHP:XV->Bool
 |.c (.qo _ _)=>true
 |_=>false
def WXd(st:Sta)(x:Option Out)(k:AV->Sta->Prop):Prop:=match x with
 |some (v,H,m)=>k v ⟨st.fr,H,st.V,m,st.mv⟩
 |none=>False
def zFN(n:Int):Nat->(Nat->Prop)->Prop
 |0,_=>True
 |m+1,k=>zFN n m k/\(n=.ofNat m->k m)
def bsL(G:Cx)(fr:Fr)(len sz:Nat)(z:JE)(c:List (Nat×Nat×XV)):Option JE:=match zAC G fr z c with
 |some cs=>match Nat.beq cs.length (len*sz)with
  |true=>match zCt sz len cs with
   |some es=>match es.all (ppS 12)with
    |true=>some es
    |false=>none
   |none=>none
  |false=>none
 |none=>none
def isC:List K->Bool
 |.c _::_=>true
 |_=>false
def zZs:List K->Bool
 |[.b]=>true
 |_=>false
def wop(G:Cx)(tb:TblS)(st:Sta)(o:XO)(F:List K)(k:AV->Sta->Prop):Prop:=
 match o with
 |.bin op x y=>match x.ev G st.fr with
  |some (.str a)=>match op with
   |.add=>match y.ev G st.fr with
    |some (.str b)=>(a.length+b.length<=zf)/\k (.str (a++b)) st
    |_=>False
   |op=>WXd st (xoS G zd st.fr st.H st.m (.bin op x y)) k
  |some (.int g a)=>match op with
   |.quo=>match y.ev G st.fr with
    |some (.int N b)=>match zC9 g N with
     |true=>(b≠0)/\k (.int g (wrapx g (a.tdiv b))) st
     |false=>False
    |_=>False
   |.rem=>match y.ev G st.fr with
    |some (.int N b)=>match zC9 g N with
     |true=>(b≠0)/\k (.int g (a.tmod b)) st
     |false=>False
    |_=>False
   |.shl=>match y.ev G st.fr with
    |some (.int _ b)=>(0<=b)/\k (.int g (wrapx g (a*2 ^ (Min.min b.toNat g.bits)))) st
    |_=>False
   |.shr=>match y.ev G st.fr with
    |some (.int _ b)=>(0<=b)/\k (.int g (a.fdiv (2 ^ (Min.min b.toNat g.bits)))) st
    |_=>False
   |op=>WXd st (xoS G zd st.fr st.H st.m (.bin op x y)) k
  |_=>False
 |.qW neg kd x y=>match x.ev G st.fr with
  |some (.agg a)=>match y.ev G st.fr with
   |some (.agg b)=>match eqv kd a b with
    |some r=>k (zBu neg r) st
    |none=>False
   |_=>False
  |_=>False
 |.pick c a b=>match c.ev G st.fr with
  |some (.bool R)=>match c with
   |.t n=>Br R (match a.ev G st.fr with
     |some v=>k v ⟨st.fr.put n (.bool true),st.H,st.V,st.m,st.mv⟩
     |none=>False) (match b.ev G st.fr with
     |some v=>k v ⟨st.fr.put n (.bool false),st.H,st.V,st.m,st.mv⟩
     |none=>False)
   |_=>WXd st (xoS G zd st.fr st.H st.m (.pick c a b)) k
  |_=>False
 |.wP x i=>match x.ev G st.fr with
  |some (.str s)=>match i.ev G st.fr with
   |some (.int _ n)=>∃c,ixN s n=some c/\k (.int .u8 (.ofNat c)) st
   |_=>False
  |_=>False
 |.wJ x C B=>match x.ev G st.fr with
  |some (.str s)=>match evo G st.fr C with
   |some C=>match evo G st.fr B with
    |some B=>zGJ (.ofNat s.length) C B λl h=>k (.str ((s.take h.toNat).drop l.toNat)) st
    |none=>False
   |none=>False
  |_=>False
 |.wy x C B O sz=>match x.ev G st.fr with
  |some (.qo d es)=>match Nat.beq sz d with
   |true=>match O with
    |none=>match evo G st.fr C with
     |some C=>match evo G st.fr B with
      |some B=>zGJ (.ofNat es.length) C B λl h=>k (.qo sz ((es.take h.toNat).drop l.toNat)) st
      |none=>False
     |none=>False
    |some _=>False
   |false=>False
  |some .qa=>WXd st (xoS G zd st.fr st.H st.m (.wy x C B O sz)) k
  |_=>False
 |.qB x i sz=>match x.ev G st.fr with
  |some (.qo d es)=>match Nat.beq sz d with
   |true=>match i.ev G st.fr with
    |some (.int _ n)=>∃v,ixN es n=some v/\k (.qc v 0) st
    |_=>False
   |false=>False
  |some (.sym j)=>match st.V.get j with
   |some (.vec d es)=>match Nat.beq sz d with
    |true=>match i.ev G st.fr with
     |some (.int _ n)=>(0<=n/\n<.ofNat es.length)/\k (.sym st.mv) ⟨st.fr,st.H,(st.mv,.qU j n.toNat 0)::st.V,st.m,st.mv+1⟩
     |_=>False
    |false=>False
   |_=>False
  |some (.row _ _ l _ _ _)=>match i.ev G st.fr with
   |some (.int kd n)=>(0<=n/\n<.ofNat l)/\zFN n l λm=>WXd st (xoS G zd st.fr st.H st.m (.qB x (.c (.int kd (.ofNat m))) sz)) k
   |_=>False
  |_=>False
 |.wb x=>match x.ev G st.fr with
  |some (.sym j)=>match st.V.get j with
   |some (.vec _ es)=>k (.int .i64 (.ofNat es.length)) st
   |some (.dn n)=>k (.int .i64 (.ofNat n)) st
   |_=>False
  |_=>WXd st (xoS G zd st.fr st.H st.m (.wb x)) k
 |.load x sz A=>match isC F,x.ev G st.fr with
  |true,some (.qc _ _)=>WXd st (xoS G zd st.fr st.H st.m (.load x sz A)) k
  |true,_=>False
  |false,some (.sym p)=>match st.V.get p with
   |some (.qU j i off)=>match st.V.get j with
    |some (.vec _ es)=>∃v,ldE es i off sz A=some v/\k v st
    |_=>False
   |_=>False
  |false,_=>WXd st (xoS G zd st.fr st.H st.m (.load x sz A)) k
 |.qC x off=>match x.ev G st.fr with
  |some (.sym p)=>match st.V.get p with
   |some (.qU j i o)=>match st.V.get j with
    |some (.vec _ _)=>k (.sym st.mv) ⟨st.fr,st.H,(st.mv,.qU j i (o+off))::st.V,st.m,st.mv+1⟩
    |_=>False
   |_=>False
  |_=>WXd st (xoS G zd st.fr st.H st.m (.qC x off)) k
 |.store x y sz=>match x.ev G st.fr with
  |some (.sym p)=>match st.V.get p with
   |some (.qU j i off)=>match st.V.get j with
    |some (.vec d es)=>match y.ev G st.fr with
     |some v=>match Nat.beq off 0&&Nat.beq sz d&&ppS 12 v with
      |true=>match cellsOf v sz with
       |some _=>k (.qg []) ⟨st.fr,st.H,(j,.vec d (es.set i v))::st.V.del j,st.m,st.mv⟩
       |none=>False
      |false=>False
     |none=>False
    |_=>False
   |_=>False
  |_=>WXd st (xoS G zd st.fr st.H st.m (.store x y sz)) k
 |.vJ x=>match x.ev G st.fr with
  |some (.str s)=>k (.sym st.mv) ⟨st.fr,st.H,(st.mv,.vec 1 (s.map λb=>.int .u8 (.ofNat b)))::st.V,st.m,st.mv+1⟩
  |_=>False
 |.vB x=>match x.ev G st.fr with
  |some (.sym j)=>match st.V.get j with
   |some (.vec sz es)=>match Nat.beq sz 1 with
    |true=>∃s,zAZ es=some s/\k (.str s) st
    |false=>False
   |_=>False
  |some (.qo sz es)=>match Nat.beq sz 1 with
   |true=>∃s,zAZ es=some s/\k (.str s) st
   |false=>False
  |some .qa=>k (.str []) st
  |_=>False
 |.qy len sz z L=>match F with
  |[]=>match zAC G st.fr z L with
   |some cs=>match Nat.beq cs.length (len*sz)with
    |true=>match zCt sz len cs with
     |some es=>match es.all (ppS 12)with
      |true=>k (.sym st.mv) ⟨st.fr,st.H,(st.mv,.vec sz es)::st.V,st.m,st.mv+1⟩
      |false=>False
     |none=>False
    |false=>False
   |none=>False
  |.c _::_=>match bsL G st.fr len sz z L with
   |some es=>k (.qo sz es) st
   |none=>False
  |_=>WXd st (xoS G zd st.fr st.H st.m (.qy len sz z L)) k
 |.qM l c sz bytes z=>match l.ev G st.fr with
  |some (.int _ n)=>match c.ev G st.fr with
   |some (.int _ c)=>match zCt sz 1 z,Nat.beq z.length sz with
    |some [e],true=>(0<=n/\n<=c/\c.toNat*bytes<=zc/\c.toNat<=zc) ∧
     k (.sym st.mv) ⟨st.fr,st.H,(st.mv,.vec sz (List.replicate n.toNat e))::st.V,st.m,st.mv+1⟩
    |_,_=>False
   |_=>False
  |_=>False
 |.append x y sz bytes=>match zHP y with
  |true=>False
  |false=>match x.ev G st.fr with
   |some v=>match y.ev G st.fr with
    |some u=>match zAO st.H sz u with
     |some q=>match zIp u||ppS 12 (.agg q)with
      |true=>match v with
       |.qa=>(q.length*bytes<=zc)/\k (.sym st.mv) ⟨st.fr,st.H,(st.mv,.vec sz q)::st.V,st.m,st.mv+1⟩
       |.sym j=>match st.V.get j with
        |some (.vec d es)=>match Nat.beq sz d with
         |true=>match zZs F with
          |true=>((es.length+q.length)*bytes<=zc/\es.length+q.length<=zc)/\k (.sym st.mv) ⟨st.fr,st.H,(j,.dn es.length)::(st.mv,.vec sz (es++q))::st.V.del j,st.m,st.mv+1⟩
          |false=>((es.length+q.length)*bytes<=zc/\es.length+q.length<=zc)/\k (.sym st.mv) ⟨st.fr,st.H,(st.mv,.vec sz (es++q))::st.V.del j,st.m,st.mv+1⟩
         |false=>False
        |_=>False
       |_=>False
      |false=>False
     |none=>False
    |none=>False
   |none=>False
 |.wc x i l s a=>match F with
  |[]=>WXd st (xoS G zd st.fr st.H st.m (.wc x i l s a)) k
  |_=>match i.ev G st.fr with
   |some (.int kd n)=>(0<=n/\n<.ofNat l)/\zFN n l λm=>WXd st (xoS G zd st.fr st.H st.m (.wc x (.c (.int kd (.ofNat m))) l s a)) k
   |_=>False
 |.qz x i l s=>match F with
  |[]=>WXd st (xoS G zd st.fr st.H st.m (.qz x i l s)) k
  |_=>match i.ev G st.fr with
   |some (.int kd n)=>(0<=n/\n<.ofNat l)/\zFN n l λm=>WXd st (xoS G zd st.fr st.H st.m (.qz x (.c (.int kd (.ofNat m))) l s)) k
   |_=>False
 |.wu=>k (.sym st.mv) ⟨st.fr,st.H,(st.mv,.mp [])::st.V,st.m,st.mv+1⟩
 |.lookup A kd m x z ok=>match m.ev G st.fr with
  |some (.sym j)=>match st.V.get j with
   |some (.mp es)=>match x.ev G st.fr with
    |some D=>match zCP A kd D with
     |true=>∃v,lkR ok z (zCV A kd D es)=some v/\k v st
     |false=>False
    |none=>False
   |_=>False
  |_=>False
 |.wM A kd m x y=>match m.ev G st.fr with
  |some (.sym j)=>match st.V.get j with
   |some (.mp es)=>match x.ev G st.fr with
    |some D=>match y.ev G st.fr with
     |some u=>match zCP A kd D&&ppS 12 D&&ppS 12 u with
      |true=>∃I,zFT A kd D u es=some I/\k (.qg []) ⟨st.fr,st.H,(j,.mp I)::st.V.del j,st.m,st.mv⟩
      |false=>False
     |none=>False
    |none=>False
   |_=>False
  |_=>False
 |.call f args=>match evs G st.fr args with
  |some M=>zBV tb f M st k
  |none=>False
 |.qN f args=>match f.ev G st.fr with
  |some (.func (.func f) first J)=>match evs G st.fr args with
   |some M=>zBV tb f (first++M++J) st k
   |none=>False
  |_=>False
 |.wH _|.beq _ _ _|.peq _ _ _|.vO _ _ _ _ _|.seq _ _ _|.v8 _ _ _|.vZ _ _ _|.un _ _|.conv _ _|.uf _|.vt _ _|.vu _ _|.uc _ _ _ _|.ext _ _
 |.box _ _|.alloc _|.build _ _|.qO _|.wU _|.wZ _|.min _ _|.max _ _|.wg _ _ _|.w4 _ _|.vT _ _ _ _=>WXd st (xoS G zd st.fr st.H st.m o) k
 |_=>False
def brT(t:Nat)(c:Bool)(st:Sta)(k:Bool->Sta->Prop):Prop:=
 Br c (k true ⟨st.fr.put t (.bool true),st.H,st.V,st.m,st.mv⟩) (k false ⟨st.fr.put t (.bool false),st.H,st.V,st.m,st.mv⟩)
def zZt(h:Nat)(l:JV):JV:=match inN h l with
 |true=>l
 |false=>l++[h]
def hsA:Nat->AV->JV->JV
 |0,_,c=>c
 |d+1,v,c=>match v with
  |.ptr h _|.map h|.row h _ _ _ _ _=>zZt h c
  |.func _ a b=>b.foldl (λc v=>hsA d v c) (a.foldl (λc v=>hsA d v c) c)
  |.iface _ v=>hsA d v c
  |.agg cs|.qg cs=>cs.foldl (λc v=>hsA d v c) c
  |_=>c
def zE5:Nat->AV->JV->JV
 |0,_,c=>c
 |d+1,v,c=>match v with
  |.sym j=>zZt j c
  |.func _ a b=>b.foldl (λc v=>zE5 d v c) (a.foldl (λc v=>zE5 d v c) c)
  |.iface _ v=>zE5 d v c
  |.agg cs|.qg cs=>cs.foldl (λc v=>zE5 d v c) c
  |_=>c
def zDT(H:Heap):Nat->Nat->JV->JV
 |0,_,c=>c
 |f+1,i,c=>match c[i]? with
  |none=>c
  |some h=>match H.get h with
   |some (.cells _ cs)=>zDT H f (i+1) (cs.foldl (λa v=>hsA 8 v a) c)
   |_=>zDT H f (i+1) c
def posN(h:Nat):Nat->JV->Option Nat
 |_,[]=>none
 |i,a::r=>match Nat.beq h a with
  |true=>some i
  |false=>posN h (i+1) r
def rnV(hm sm:JV):Nat->AV->JF
 |0,_=>none
 |d+1,v=>match v with
  |.ptr h o=>match posN h 0 hm with
   |some i=>some (.ptr i o)
   |none=>none
  |.row h o l s c e=>match posN h 0 hm with
   |some i=>some (.row i o l s c e)
   |none=>none
  |.map h=>match posN h 0 hm with
   |some i=>some (.map i)
   |none=>none
  |.sym j=>match posN j 0 sm with
   |some i=>some (.sym i)
   |none=>none
  |.func f a b=>match zp (rnV hm sm d) a with
   |some a=>match zp (rnV hm sm d) b with
    |some b=>some (.func f a b)
    |none=>none
   |none=>none
  |.iface t v=>match rnV hm sm d v with
   |some v=>some (.iface t v)
   |none=>none
  |.agg cs=>match zp (rnV hm sm d) cs with
   |some cs=>some (.agg cs)
   |none=>none
  |.qg cs=>match zp (rnV hm sm d) cs with
   |some cs=>some (.qg cs)
   |none=>none
  |v=>some v
def zNy(fr:Fr):JV->Option JE
 |[]=>some []
 |t::r=>match fr.get t with
  |some v=>match zNy fr r with
   |some c=>some (v::c)
   |none=>none
  |none=>none
def rnH(H:Heap)(hm sm:JV):Nat->JV->Option Heap
 |_,[]=>some []
 |i,h::r=>match H.get h with
  |some (.cells str cs)=>match zp (rnV hm sm 8) cs with
   |some cs=>match rnH H hm sm (i+1) r with
    |some c=>some ((i,.cells str cs)::c)
    |none=>none
   |none=>none
  |_=>none
def zHQ:JV->Bool
 |[]=>true
 |a::r=>!(inN a r)&&zHQ r
def zH4(V:Vecs):Nat->JV->Option Vecs
 |_,[]=>some []
 |i,j::r=>match V.get j with
  |some (.vec sz es)=>match zH4 V (i+1) r with
   |some c=>some ((i,.vec sz es)::c)
   |none=>none
  |some (.mp es)=>match zH4 V (i+1) r with
   |some c=>some ((i,.mp es)::c)
   |none=>none
  |_=>none
structure Cut where
 qG:JV
 grow:JN
 pins:Nat
def zIq(H:Heap)(h sz:Nat):AV->Option (Nat×JE)
 |.row c o l s _ _=>match Nat.beq o 0&&(Nat.beq s sz&&!Nat.beq c h)with
  |true=>match H.get c with
   |some (.cells _ cs)=>match Nat.beq cs.length (l*sz)with
    |true=>match zCt sz l cs with
     |some es=>match es.all (ppS 12)with
      |true=>some (c,es)
      |false=>none
     |none=>none
    |false=>none
   |_=>none
  |false=>none
 |_=>none
def qD(h:Nat):JN->Sta->Sta
 |[],st=>st
 |(i,sz)::r,st=>match st.H.get h with
  |some (.cells str cs)=>match cs[i]? with
   |some .qa=>qD h r ⟨st.fr,st.H.put h (.cells str (cs.set i (.sym st.mv))),(st.mv,.vec sz [])::st.V,st.m,st.mv+1⟩
   |some v=>match zIq st.H h sz v with
    |some (c,es)=>qD h r ⟨st.fr,(st.H.del c).put h (.cells str (cs.set i (.sym st.mv))),(st.mv,.vec sz es)::st.V,st.m,st.mv+1⟩
    |none=>qD h r st
   |none=>qD h r st
  |_=>st
def wE(V:Vecs):Nat->AV->AV
 |0,v=>v
 |d+1,v=>match v with
  |.sym j=>match V.get j with
   |some (.vec sz es)=>.qo sz es
   |_=>.sym j
  |.agg l=>.agg (l.map (wE V d))
  |.qg l=>.qg (l.map (wE V d))
  |v=>v
def wB(V:Vecs)(v:AV):AV:=wE V 4 v
def zRt(V:Vecs):HO->HO
 |.cells str cs=>.cells str (cs.map (wE V 4))
 |o=>o
def zWB:AV->Bool
 |.sym _=>true
 |_=>false
def zZu:AV->Bool
 |.sym _=>true
 |.ptr _ _=>true
 |_=>false
def zWe:AV->Bool
 |.qg l=>l.any zZu
 |v=>zZu v
def wv(st:Sta):Sta:=⟨st.fr.map λp=>(p.1,wB st.V p.2),st.H.map λp=>(p.1,zRt st.V p.2),[],st.m,st.mv⟩
def wD(n:Nat)(st:Sta):Sta:=match st.fr.get (Nat.mod n 100)with
 |some (.sym j)=>match st.V.get j with
  |some (.vec sz es)=>match Nat.beq (Nat.div n 100) es.length&&Nat.ble 1 (Nat.div n 100)with
   |true=>match flatten sz es with
    |some fl=>⟨st.fr.put (Nat.mod n 100) (.row st.m 0 (Nat.div n 100) sz 0 false),(st.m,.cells true fl)::st.H,st.V.del j,st.m+1,st.mv⟩
    |none=>st
   |false=>st
  |_=>st
 |_=>st
def zCy:JN->Sta->Sta
 |[],st=>st
 |(t,sz)::r,st=>match Nat.beq sz 0,Nat.blt t 1000 with
  |true,_=>zCy r (match t with
   |0=>wv st
   |t=>wD t st)
  |false,true=>match st.fr.get t with
   |some .qa=>zCy r ⟨st.fr.put t (.sym st.mv),st.H,(st.mv,.vec sz [])::st.V,st.m,st.mv+1⟩
   |some v=>match zIq st.H st.m sz v with
    |some (c,es)=>zCy r ⟨st.fr.put t (.sym st.mv),st.H.del c,(st.mv,.vec sz es)::st.V,st.m,st.mv+1⟩
    |none=>zCy r st
   |none=>zCy r st
  |false,false=>match st.fr.get (Nat.sub (Nat.div t 1000) 1)with
   |some (.ptr h _)=>zCy r (qD h [(Nat.mod t 1000,sz)] st)
   |_=>zCy r st
def zCH(H:Heap):JV->JV->JV
 |[],c=>c
 |h::r,c=>match H.get h with
  |some (.cells _ cs)=>zCH H r (cs.foldl (λa v=>zE5 8 v a) c)
  |_=>zCH H r c
def zCu(hm sm:JV)(vs:JE)(st:Sta)(k:JE->Heap->Vecs->Prop):Prop:=
 match zHQ hm&&zHQ sm with
 |true=>match zp (rnV hm sm 8) vs with
  |some vs=>match rnH st.H hm sm 0 hm with
   |some H=>match zH4 st.V 0 sm with
    |some V=>k vs H V
    |none=>False
   |none=>False
  |none=>False
 |false=>False
def zHR(c:Nat)(vs:JE)(st:Sta)(F:JV->JV->Prop):Prop:=
 (λd=>F d (zCH st.H d (vs.foldl (λa v=>zE5 8 v a) []))) (zDT st.H 30 0 (vs.foldl (λa v=>hsA 8 v a) (List.range c)))
def canon(c:Cut)(st:Sta)(k:JE->Heap->Vecs->Prop):Prop:=
 match zNy st.fr c.qG with
 |none=>False
 |some d=>zHR c.pins d st λe sm=>zCu e sm d st k
abbrev Inv:=JE->Heap->Vecs->Prop
def zOx(c:Cut)(P:Inv)(st:Sta):Prop:=canon c (zCy c.grow st) P
def zRu:JV->JE->Fr
 |t::ts,v::vs=>(t,v)::zRu ts vs
 |_,_=>[]
def mkW(c:Cut)(vs:JE)(H:Heap)(V:Vecs):Sta:=⟨zRu c.qG vs,H,V,H.length,V.length⟩
structure HEnt where
 f:Nat
 grow:JN
 pre:JE->Heap->Vecs->Prop
 val:JE->Heap->Vecs->Option (AV×Heap×Vecs)
structure TOp where
 o:XOper
 ks:List K
 h:Option (List HEnt)
def qJ(g:JN)(args:JE)(st:Sta):Sta:=match args with
 |.ptr h _::_=>qD h g st
 |_=>st
def rn1(mv:Nat):AV->AV
 |.sym j=>.sym (mv+j)
 |v=>v
def rnB(mv:Nat):AV->AV
 |.sym j=>.sym (mv+j)
 |.qg l=>.qg (l.map (rn1 mv))
 |v=>v
def wF(hm:JV)(m mv:Nat):AV->AV
 |.ptr i o=>match Nat.blt i hm.length with
  |true=>.ptr (hm.getD i i) o
  |false=>.ptr (m+(i-hm.length)) o
 |.sym j=>.sym (mv+j)
 |v=>v
def vR(hm:JV)(m mv:Nat):AV->AV
 |.qg l=>.qg (l.map (wF hm m mv))
 |v=>wF hm m mv v
def zEh(n m mv:Nat):Heap->Heap
 |[]=>[]
 |(i,.cells str cs)::r=>match Nat.blt i n with
  |true=>zEh n m mv r
  |false=>(m+(i-n),.cells str (cs.map (rnB mv)))::zEh n m mv r
 |_::r=>zEh n m mv r
def zLC(n:Nat)(v:AV):JV:=(hsA 8 v []).filter λh=>!Nat.blt h n
def zEi(hm:JV)(mv:Nat)(H2 H:Heap):Heap:=H.map λp=>match posN p.1 0 hm with
 |some i=>match H2[i]? with
  |some (_,.cells str cs)=>(p.1,.cells str (cs.map (rnB mv)))
  |_=>p
 |none=>p
def zIr(sm:JV)(mv:Nat):Vecs->Vecs->Vecs
 |[],V=>V.filter λp=>!inN p.1 sm
 |(j,c)::r,V=>(mv+j,c)::zIr sm mv r V
def inpl:JN->Bool
 |[(0,0)]=>true
 |_=>false
def zG4(sm:JV)(V2 V:Vecs):Vecs:=V.map λp=>match posN p.1 0 sm with
 |some i=>match V2.get i with
  |some c=>(p.1,c)
  |none=>p
 |none=>p
def zG5(g:JN)(hm sm:JV)(st:Sta)(H2:Heap)(V2:Vecs):Sta:=match inpl g with
 |true=>⟨st.fr,st.H,zG4 sm V2 st.V,st.m,st.mv⟩
 |false=>⟨st.fr,zEi hm st.mv H2 st.H++zEh hm.length st.m st.mv H2,zIr sm st.mv V2 st.V,st.m+(H2.length-hm.length),st.mv+V2.length⟩
def zIs(g:JN)(hm:JV)(m mv:Nat)(v:AV):AV:=match inpl g with
 |true=>v
 |false=>vR hm m mv v
def zDU(e:HEnt)(args:JE)(st:Sta)(k:AV->Sta->Prop):Prop:=
 (λst=>zHR 0 args st λd sm=>zCu d sm args st λc H V=>e.pre c H V/\match e.val c H V with
  |some (v,f,g)=>k (zIs e.grow d st.m st.mv v) (zG5 e.grow d sm st f g)
  |none=>False) (qJ e.grow args st)
def zG6:List HEnt->Nat->Option HEnt
 |[],_=>none
 |s::r,f=>match Nat.beq f s.f with
  |true=>some s
  |false=>zG6 r f
def zEG(F:JV):Heap->Heap
 |[]=>[]
 |p::r=>match inN p.1 F with
  |true=>p::zEG F r
  |false=>zEG F r
def zJE(F:JV):Heap->Heap
 |[]=>[]
 |p::r=>match inN p.1 F with
  |true=>zJE F r
  |false=>p::zJE F r
def zOy(d:Heap)(v:AV):AV:=match zAU 8 v with
 |false=>v
 |true=>match frz d [] 8 v with
  |some c=>c
  |none=>v
def zIt(c:Heap)(fr0:Fr):Fr->Fr
 |[]=>[]
 |(t,_)::r=>match fr0.get t with
  |some v=>(t,zOy c v)::zIt c fr0 r
  |none=>zIt c fr0 r
def vG(F:JV)(c:Heap)(st:Sta):Sta:=⟨zIt c st.fr st.fr,zJE F st.H,st.V,st.m,st.mv⟩
def zOz(st:Sta)(v:AV)(k:AV->Sta->Prop):Prop:=match zWB v with
 |true=>k (wB st.V v) (wv st)
 |false=>(λF=>(λc=>match frz c [] 8 v with
  |some d=>k d (vG F c st)
  |none=>False) (zEG F st.H)) (zDT st.H 30 0 (hsA 8 v []))
def zOA{α:Type}(h:Option α):XO->Bool
 |.wg _ _ _|.wH _|.box _ _=>h.isSome
 |_=>false
def zKT(G:Cx)(g:List HEnt)(st:Sta)(o:XO)(k:AV->Sta->Prop):Prop:=match o with
 |.call f args=>match zG6 g f with
  |some e=>match evs G st.fr args with
   |some d=>zDU e d st k
   |none=>False
  |none=>False
 |.qN f args=>match f.ev G st.fr with
  |some (.func (.func f) first c)=>match zG6 g f with
   |some e=>match evs G st.fr args with
    |some d=>zDU e (first++d++c) st k
    |none=>False
   |none=>False
  |_=>False
 |_=>False
def zA5(G:Cx)(tb:TblS)(st:Sta)(o:TOp)(k:AV->Sta->Prop):Prop:=match o.h with
 |none=>wop G tb st o.o.op o.ks k
 |some e=>zKT G e st o.o.op k
def zRv:List K->Bool
 |.qg 0::_::_=>true
 |_=>false
def zH5(G:Cx)(tb:TblS)(st:Sta)(o:TOp)(k:AV->Sta->Prop):Prop:=match zRv o.ks with
 |true=>zA5 G tb (wv st) ⟨o.o,o.ks.tail,o.h⟩ k
 |false=>match zOA o.h o.o.op with
  |true=>WXd st (xoS G zd st.fr st.H st.m o.o.op) λv st=>zOz st v k
  |false=>zA5 G tb st o k
def zDq(G:Cx)(tb:TblS):List TOp->(Sta->Prop)->Sta->Prop
 |[],k,st=>k st
 |o::r,k,st=>match o.o.guard with
  |none=>zH5 G tb st o λv st=>∃d,WK v d/\zDq G tb r k (st.put o.o.dst d)
  |some (t,b)=>match st.fr.get t with
   |some (.bool c)=>brT t c st λc st=>match c==b with
    |true=>zH5 G tb st o λv st=>∃d,WK v d/\zDq G tb r k (st.put o.o.dst d)
    |false=>zDq G tb r k (st.put o.o.dst (.qg []))
   |some (.qg [])=>zDq G tb r k (st.put o.o.dst (.qg []))
   |_=>False
inductive PP:AV->Prop where
 |bool (b:Bool):PP (.bool b)
 |int (k:IntKind) (n:Int):PP (.int k n)
 |str (s:JV):PP (.str s)
 |qj:PP .qj
 |qa:PP .qa
 |qm:PP .qm
 |ql:PP .ql
 |qe:PP .qe
 |qc (e:AV) (off:Nat) (h:PP e):PP (.qc e off)
 |qo (sz:Nat) (es:JE) (h:∀e∈es,PP e):PP (.qo sz es)
 |func (fn:Fn) (a b:JE) (ha:∀e∈a,PP e) (hb:∀e∈b,PP e):PP (.func fn a b)
 |iface (t:Nat) (v:AV) (h:PP v):PP (.iface t v)
 |agg (cs:JE) (h:∀e∈cs,PP e):PP (.agg cs)
 |qg (cs:JE) (h:∀e∈cs,PP e):PP (.qg cs)
inductive CP(n k:Nat):AV->Prop where
 |bool (b:Bool):CP n k (.bool b)
 |int (q:IntKind) (m:Int):CP n k (.int q m)
 |str (s:JV):CP n k (.str s)
 |qj:CP n k .qj
 |qa:CP n k .qa
 |qm:CP n k .qm
 |ql:CP n k .ql
 |qe:CP n k .qe
 |ptr (h o:Nat) (hk:h<k):CP n k (.ptr h o)
 |row (h o l s c:Nat) (e:Bool) (hk:h<k):CP n k (.row h o l s c e)
 |map (h:Nat) (hk:h<k):CP n k (.map h)
 |sym (i:Nat) (h:i<n):CP n k (.sym i)
 |qc (e:AV) (off:Nat) (h:PP e):CP n k (.qc e off)
 |qo (sz:Nat) (es:JE) (h:∀e∈es,PP e):CP n k (.qo sz es)
 |func (fn:Fn) (a b:JE) (ha:∀e∈a,CP n k e) (hb:∀e∈b,CP n k e):CP n k (.func fn a b)
 |iface (t:Nat) (v:AV) (h:CP n k v):CP n k (.iface t v)
 |agg (cs:JE) (h:∀e∈cs,CP n k e):CP n k (.agg cs)
 |qg (cs:JE) (h:∀e∈cs,CP n k e):CP n k (.qg cs)
def zCx(n k:Nat)(fr:Fr):Prop:=∀t v,fr.get t=some v->CP n k v
def HCP(n k:Nat)(H:Heap):Prop:=∀p∈H,∃str cs,p.2=.cells str cs/\∀c∈cs,CP n k c
structure HV(s r:Sta):Prop where
 H:r.H=s.H
 V:r.V=s.V
 m:r.m=s.m
 mv:r.mv=s.mv
def clsQ(t:TOp):Nat:=match t.h with
 |some _=>3
 |none=>match t.o.op with
  |.wb _|.lookup _ _ _ _ _ _|.call _ _|.qN _ _=>1
  |.load _ _ _=>match isC t.ks with
   |true=>0
   |false=>1
  |.cap _=>3
  |.box _ _|.alloc _=>2
  |.qy _ _ _ _=>match t.ks with
   |[]=>3
   |.c _::_=>0
   |_=>2
  |.store _ _ _=>match t.ks with
   |[]=>3
   |_=>2
  |o=>match zP o with
   |0=>0
   |_=>3
def hLd(t:TOp):Bool:=match t.h with
 |some _=>false
 |none=>match t.o.guard with
  |some _=>false
  |none=>match t.o.op with
   |.load _ _ _=>match t.ks with
    |[.qg 0]=>true
    |_=>false
   |.call _ _=>match t.ks with
    |.qg 1::_=>true
    |_=>false
   |_=>false
def vOn(t:TOp):Bool:=match t.h with
 |some _=>false
 |none=>match t.o.op with
  |.append _ _ _ _=>true
  |.qy _ _ _ _=>match t.ks with
   |[]=>true
   |_=>false
  |_=>false
def zFV:Nat->JV->JV->JV->JV->JV->List TOp->List XD->Bool
 |_,_,_,_,_,_,[],_=>true
 |i,f,g,e,l,h,t::r,d::ds=>match clsQ t with
  |0=>zFV (i+1) f g e l h r ds
  |1=>match hLd t with
   |true=>e.all (λc=>d.qd.testBit c)&&zFV (i+1) f g e (i::l) h r ds
   |false=>g.all (λc=>d.qd.testBit c)&&zFV (i+1) f g e (i::l) (i::h) r ds
  |2=>f.all (λc=>d.qd.testBit c)&&zFV (i+1) (i::f) g e l h r ds
  |_=>match vOn t with
   |true=>f.all (λc=>d.qd.testBit c)&&h.all (λc=>d.qd.testBit c)&&zFV (i+1) (i::f) (i::g) e l h r ds
   |false=>f.all (λc=>d.qd.testBit c)&&l.all (λc=>d.qd.testBit c)&&zFV (i+1) (i::f) (i::g) (i::e) l h r ds
 |_,_,_,_,_,_,_::_,[]=>false
def zFO:List TOp->List XD->Bool
 |[],_=>true
 |o::r,d::ds=>(zG3 o.o.op.qb).all (λt=>inN t d.looks)&&zZr o.o.guard d.looks&&zFO r ds
 |_::_,[]=>false
inductive TC where
 |skip
 |ret
 |exit (i:Nat)
 |wA (ops:List TOp)
 |draw (pn:JV) (ops:List TOp) (ds:List XD)
 |vb (ops:List TOp) (ds:List XD)
 |qS (ops:List TOp) (ds:List XD)
 |seq (a b:TC)
 |cond (c:XV) (a b:TC)
 |block (i:Nat) (b:TC)
 |loop (c:Cut) (I:JV->Inv) (b:TC)
 |qE (k:Nat) (b:TC)
 |wi (c:Cut) (J:JV->Inv) (a b:TC)
def er:TC->XC
 |.skip=>.skip
 |.ret=>.ret
 |.exit i=>.exit i
 |.wA d=>.wA (d.map TOp.o)
 |.draw _ d e=>.draw (d.map TOp.o) e
 |.vb d e=>.draw (d.map TOp.o) e
 |.qS d e=>.draw (d.map TOp.o) e
 |.seq a b=>.seq (er a) (er b)
 |.cond c a b=>.cond c (er a) (er b)
 |.block i b=>.block i (er b)
 |.loop _ _ b=>.loop (er b)
 |.qE _ b=>.loop (er b)
 |.wi _ _ a b=>.seq (er a) (er b)
def zBO(G:Cx)(tb:TblS)(st:Sta)(o:XO)(e:List K)(k:AV->Sta->Prop):Prop:=
 match o with
 |.vJ _|.qM _ _ _ _ _|.append _ _ _ _|.wu|.wM _ _ _ _ _|.lookup _ _ _ _ _ _=>False
 |.qy len sz z d=>WXd st (xoS G zd st.fr st.H st.m (.qy len sz z d)) k
 |.vB x=>WXd st (xoS G zd st.fr st.H st.m (.vB x)) k
 |o=>wop G tb ⟨st.fr,st.H,[],st.m,st.mv⟩ o e λv c=>k v ⟨c.fr,c.H,st.V,c.m,c.mv⟩
def zBC(G:Cx)(tb:TblS):List TOp->(Sta->Prop)->Sta->Prop
 |[],k,st=>k st
 |o::r,k,st=>match o.o.guard with
  |none=>zBO G tb st o.o.op o.ks λv st=>zBC G tb r k (st.put o.o.dst v)
  |some (t,b)=>match st.fr.get t with
   |some (.bool c)=>brT t c st λc st=>match c==b with
    |true=>zBO G tb st o.o.op o.ks λv st=>zBC G tb r k (st.put o.o.dst v)
    |false=>zBC G tb r k (st.put o.o.dst (.qg []))
   |some (.qg [])=>zBC G tb r k (st.put o.o.dst (.qg []))
   |_=>False
def zPE(Q:Ext->Sta->Prop)(k:Sta->Prop):Ext->Sta->Prop
 |.normal,st=>k st
 |.exit i,st=>Q (.exit i) st
 |.ret,st=>Q .ret st
def zQX(id:Nat)(Q:Ext->Sta->Prop):Ext->Sta->Prop
 |.normal,st=>Q .normal st
 |.exit i,st=>match Nat.beq i id with
  |true=>Q .normal st
  |false=>Q (.exit i) st
 |.ret,st=>Q .ret st
def zNz(ops:List XOper)(ds:List XD):Bool:=zKR ops ds&&zGf 0 [] [] [] [] [] [] ops ds
def zC8(G:Cx)(tb:TblS)(st:Sta)(o:TOp)(k:Sta->Prop):Prop:=match o.o.guard with
 |none=>zA5 G tb st o λv st=>∃d,WK v d/\k (st.put o.o.dst d)
 |some (t,b)=>match st.fr.get t with
  |some (.bool c)=>brT t c st λc st=>match c==b with
   |true=>zA5 G tb st o λv st=>∃d,WK v d/\k (st.put o.o.dst d)
   |false=>k (st.put o.o.dst (.qg []))
  |some (.qg [])=>k (st.put o.o.dst (.qg []))
  |_=>False
def zLD(F:Nat->TOp->Prop)(listed:Nat):Nat->List TOp->List XD->Prop
 |i,t::ts,d::ds=>match !listed.testBit i&&Nat.beq (d.qd &&& listed) d.qd with
  |true=>F i t/\zLD F listed (i+1) ts ds
  |false=>zLD F listed (i+1) ts ds
 |_,_,_=>True
def zPF(G:Cx)(tb:TblS)(ops:List TOp)(ds:List XD)(K:Sta->Prop):Nat->Nat->Sta->Prop
 |0,_,st=>K st
 |n+1,listed,st=>zLD (λi t=>zC8 G tb st t (zPF G tb ops ds K n (listed ||| 2 ^ i))) listed 0 ops ds
def zPG(fr:Fr)(t:Nat):Bool:=match fr.get t with
 |some (.ptr _ _)=>true
 |_=>false
def zBP:Option Nat->Nat->Nat
 |none,m=>m
 |some l,m=>Min.min l m
def ltH:Nat->Nat->AV->Bool
 |0,_,_=>false
 |d+1,l,v=>match v with
  |.ptr h _|.row h _ _ _ _ _|.map h=>Nat.blt h l
  |.func _ a b=>a.all (ltH d l)&&b.all (ltH d l)
  |.iface _ v=>ltH d l v
  |.agg cs|.qg cs=>cs.all (ltH d l)
  |_=>true
def zRw(l:Nat):Heap->Bool
 |[]=>true
 |(h,.cells _ cs)::r=>(!(Nat.blt h l)||cs.all (ltH 12 l))&&zRw l r
 |_::_=>false
structure ChQ(G:Cx)(tb:TblS)(lo:Option Nat)(ops:List TOp)(c:Nat->Sta):Prop where
 st:∀(i:Nat) t,ops[i]?=some t->zC8 G tb (c i) t (λx=>x=c (i+1))
 hv:∀(i:Nat) t,ops[i]?=some t->clsQ t<=1->HV (c i) (c (i+1))
 al:∀(i:Nat) t,ops[i]?=some t->clsQ t=2->(c (i+1)).V=(c i).V/\(c (i+1)).mv=(c i).mv/\(c i).m<=(c (i+1)).m/\∀h,h<zBP lo (c i).m->(c (i+1)).H.get h=(c i).H.get h
 cp:∀i,i<=ops.length->zCx (c i).mv (c i).m (c i).fr/\HCP (c i).mv (c i).m (c i).H
 vo:∀(i:Nat) t,ops[i]?=some t->vOn t=true->(c (i+1)).H=(c i).H/\(c (i+1)).m=(c i).m
 ld:∀(i:Nat) t,ops[i]?=some t->hLd t=true->(∃x sz ag h off,t.o.op=.load x sz ag/\t.ks=[.qg 0]/\x.ev G (c i).fr=some (.ptr h off))\/∃f xs vs,t.o.op=.call f xs/\evs G (c i).fr xs=some vs/\vs.any (zAU 8)=false
 rd:∀(i:Nat) t,ops[i]?=some t->clsQ t=1->(∀g v,XV.t g∈t.o.op.qb->(c i).fr.get g=some v->CP (c i).mv (zBP lo (c i).m) v)/\∀h str cs,h<zBP lo (c i).m->(c i).H.get h=some (.cells str cs)->∀x∈cs,CP (c i).mv (zBP lo (c i).m) x
def zLE(B:Nat->(Ext->Sta->Prop)->Sta->Prop)(Q:Ext->Sta->Prop):Nat->Sta->Prop
 |0,_=>False
 |n+1,st=>B n (zPE Q (zLE B Q n)) st
def WT(G:Cx)(tb:TblS):TC->JV->(Ext->Sta->Prop)->Sta->Prop
 |.skip,d,Q,st=>Q .normal st
 |.ret,d,Q,st=>Q .ret st
 |.exit i,d,Q,st=>Q (.exit i) st
 |.wA e,d,Q,st=>zDq G tb e (Q .normal) st
 |.draw p e f,d,Q,st=>match zNz (e.map TOp.o) f&&p.all (zPG st.fr)with
  |true=>zBC G tb e (Q .normal) st
  |false=>False
 |.vb e f,d,Q,st=>zPF G tb e f (Q .normal) e.length 0 st
 |.qS e f,d,Q,st=>(zFO e f&&zFV 0 [] [] [] [] [] e f)=true/\∃q c,c 0=st/\ChQ G tb q e c/\Q .normal (c e.length)
 |.seq a b,d,Q,st=>WT G tb a d (zPE Q (WT G tb b d Q)) st
 |.cond c a b,d,Q,st=>match c.ev G st.fr with
  |some (.bool h)=>match c with
   |.t n=>brT n h st λh st=>match h with
    |true=>WT G tb a d Q st
    |false=>WT G tb b d Q st
   |_=>Br h (WT G tb a d Q st) (WT G tb b d Q st)
  |_=>False
 |.block i b,d,Q,st=>WT G tb b d (zQX i Q) st
 |.qE k b,d,Q,st=>zLE (λn Q st=>WT G tb b (n::d) Q st) Q k st
 |.loop c I b,d,Q,st=>(∃n,zOx c (I (n::d)) st)/\∀n g H V,I (n::d) g H V->WT G tb b (n::d) (zPE Q λst=>∃l,l<n/\zOx c (I (l::d)) st) (mkW c g H V)
 |.wi c J a b,d,Q,st=>WT G tb a d (zPE Q (zOx c (J d))) st/\∀g H V,J d g H V->WT G tb b d Q (mkW c g H V)
def zo:XV->Bool
 |.c v=>z9 12 v
 |_=>true
def zM:XO->Bool
 |.alloc z|.build z _|.qy _ _ z _|.qM _ _ _ _ z=>z.all (z9 12)
 |.lookup _ _ _ _ z _|.vT _ _ _ z=>z9 12 z
 |_=>true
def zn(o:XO):Bool:=o.qb.all zo&&zM o
def zCD:TC->Bool
 |.wA c|.draw _ c _|.vb c _|.qS c _=>c.all λt=>zn t.o.op
 |.seq a b|.wi _ _ a b|.cond _ a b=>zCD a&&zCD b
 |.block _ b|.loop _ _ b|.qE _ b=>zCD b
 |_=>true
def zLh(c:List XR)(R:AV->Sta->Prop):Ext->Sta->Prop
 |.exit _,_=>False
 |_,st=>match zES st.H st.fr c with
  |some d=>R (zA4 d) st
  |none=>False
def tcH(F:HEnt->Prop):TC->Prop
 |.wA c|.vb c _|.qS c _=>∀t∈c,∀es,t.h=some es->∀e∈es,F e
 |.seq a b|.wi _ _ a b|.cond _ a b=>tcH F a/\tcH F b
 |.block _ b|.loop _ _ b|.qE _ b=>tcH F b
 |_=>True
def zAJ(H:Heap)(V:Vecs):Nat->AV->JF
 |0,_=>none
 |d+1,v=>match v with
  |.sym j=>match V.get j with
   |some (.vec sz es)=>some (.qo sz es)
   |_=>none
  |.agg cs=>match zp (zAJ H V d) cs with
   |some cs=>some (.agg cs)
   |none=>none
  |.qg cs=>match zp (zAJ H V d) cs with
   |some cs=>some (.qg cs)
   |none=>none
  |.ptr h off=>match H.get h with
   |some (.cells _ cs)=>match zp (zAJ H V d) cs with
    |some cs=>some (.qc (.agg cs) off)
    |none=>none
   |_=>none
  |.iface t v=>match zAJ H V d v with
   |some v=>some (.iface t v)
   |none=>none
  |.func f a b=>match zp (zAJ H V d) a with
   |some a=>match zp (zAJ H V d) b with
    |some b=>some (.func f a b)
    |none=>none
   |none=>none
  |.row _ _ _ _ _ _|.map _=>none
  |v=>some v
def zLi(c:List XR)(R:AV->Prop):Ext->Sta->Prop:=zLh c λv st=>match zAJ st.H st.V 8 v with
 |some v=>R v
 |none=>False
def zGg(fr:Fr):Nat->JV->Bool
 |_,[]=>true
 |i,t::r=>(match fr.get t with
  |some (.ptr h 0)=>Nat.beq h i
  |_=>false)&&zGg fr (i+1) r
def zJW(c:List XR)(pn:JV)(R:AV->Heap->Vecs->Prop):Ext->Sta->Prop:=zLh c λv st=>match zWe v with
 |false=>match zAU 8 v||!zGg st.fr 0 pn with
  |false=>zCu (List.range pn.length) (zCH st.H (List.range pn.length) []) [] st λ_ H V=>R v H V
  |true=>False
 |true=>match zGg st.fr 0 pn with
  |true=>zCu (List.range pn.length++zLC pn.length v) (zCH st.H (List.range pn.length++zLC pn.length v) (zE5 8 v [])) [v] st λd H V=>match d with
   |[u]=>R u H V
   |_=>False
  |false=>False
def zTl(gr:JN)(c:List XR)(pn:JV)(R:AV->Heap->Vecs->Prop)(x:Ext)(st:Sta):Prop:=zJW c pn R x (zCy gr st)
def tcN(pn:JV):TC->Bool
 |.wA c|.vb c _|.qS c _=>c.all λt=>match t.o.dst with
  |some d=>!inN d pn
  |none=>true
 |.draw e c _=>(c.all λt=>match t.o.dst with
  |some d=>!inN d pn
  |none=>true)&&pn.all λt=>inN t e
 |.seq a b|.wi _ _ a b|.cond _ a b=>tcN pn a&&tcN pn b
 |.block _ b|.loop _ _ b|.qE _ b=>tcN pn b
 |_=>true
theorem PP.cp{n k:Nat}{v:AV}(h:PP v):CP n k v:=by
 induction h with
 |bool b=>exact .bool b
 |int k m=>exact .int k m
 |str s=>exact .str s
 |qj=>exact .qj
 |qa=>exact .qa
 |qm=>exact .qm
 |ql=>exact .ql
 |qe=>exact .qe
 |qc e off h _=>exact .qc e off h
 |qo sz es h _=>exact .qo sz es h
 |func fn a b _ _ f d=>exact .func fn a b f d
 |iface t v _ c=>exact .iface t v c
 |agg cs _ c=>exact .agg cs c
 |qg cs _ c=>exact .qg cs c
theorem CP.mono{n m k l:Nat}(hm:n<=m)(f:k<=l){v:AV}(h:CP n k v):CP m l v:=by
 induction h with
 |bool b=>exact .bool b
 |int k m=>exact .int k m
 |str s=>exact .str s
 |qj=>exact .qj
 |qa=>exact .qa
 |qm=>exact .qm
 |ql=>exact .ql
 |qe=>exact .qe
 |ptr h o hk=>exact .ptr h o (QX hk f)
 |row h o l s c e hk=>exact .row h o l s c e (QX hk f)
 |map h hk=>exact .map h (QX hk f)
 |sym i h=>exact .sym i (QX h hm)
 |qc e off h=>exact .qc e off h
 |qo sz es h=>exact .qo sz es h
 |func fn a b _ _ p g=>exact .func fn a b p g
 |iface t v _ d=>exact .iface t v d
 |agg cs _ d=>exact .agg cs d
 |qg cs _ d=>exact .qg cs d
theorem CP.min{n k l:Nat}{v:AV}(h:CP n k v)(h':CP n l v):CP n (Min.min l k) v:=by
 induction h with
 |bool b=>exact .bool b
 |int k m=>exact .int k m
 |str s=>exact .str s
 |qj=>exact .qj
 |qa=>exact .qa
 |qm=>exact .qm
 |ql=>exact .ql
 |qe=>exact .qe
 |ptr h o hk=>cases h' with|ptr _ _ f=>exact .ptr h o (Nat.lt_min.2 ⟨f,hk⟩)
 |row h o l s c e hk=>cases h' with|row _ _ _ _ _ _ f=>exact .row h o l s c e (Nat.lt_min.2 ⟨f,hk⟩)
 |map h hk=>cases h' with|map _ f=>exact .map h (Nat.lt_min.2 ⟨f,hk⟩)
 |sym i h=>exact .sym i h
 |qc e off h=>exact .qc e off h
 |qo sz es h=>exact .qo sz es h
 |func fn a b _ _ r q=>cases h' with|func _ _ _ u p=>exact .func fn a b (λe d=>r e d (u e d)) (λe d=>q e d (p e d))
 |iface t v _ g=>cases h' with|iface _ _ x=>exact .iface t v (g x)
 |agg cs _ g=>cases h' with|agg _ hc=>exact .agg cs λe d=>g e d (hc e d)
 |qg cs _ g=>cases h' with|qg _ hc=>exact .qg cs λe d=>g e d (hc e d)
theorem CP.lt{n k l:Nat}:∀(d:Nat){v:AV},CP n k v->ltH d l v=true->CP n (Min.min l k) v:=by
 intro d
 induction d with
 |zero=>intro v _ h;cases h
 |succ d x=>
  intro v hc h;have p:∀{r:JE},(∀e∈r,CP n k e)->r.all (ltH d l)=true->∀e∈r,CP n (Min.min l k) e:=λhc A e f=>x (hc e f) (QD.1 A e f)
  have q:∀{a:Nat},a<k->Nat.blt a l=true->a<Min.min l k:=λh1 y=>Nat.lt_min.2 ⟨by simpa[Qg]using y,h1⟩
  cases hc with
  |bool b=>exact .bool b
  |int k m=>exact .int k m
  |str s=>exact .str s
  |qj=>exact .qj
  |qa=>exact .qa
  |qm=>exact .qm
  |ql=>exact .ql
  |qe=>exact .qe
  |ptr g o hk=>exact .ptr g o (q hk h)
  |row g o l s c e hk=>exact .row g o l s c e (q hk h)
  |map g hk=>exact .map g (q hk h)
  |sym i B=>exact .sym i B
  |qc e off f=>exact .qc e off f
  |qo sz es f=>exact .qo sz es f
  |func fn a b C z=>
   have h:(a.all (ltH d l)&&b.all (ltH d l))=true:=h;rw[qr]at h;exact .func fn a b (p C h.1) (p z h.2)
  |iface t v D=>exact .iface t v (x D h)
  |agg cs u=>exact .agg cs (p u h)
  |qg cs u=>exact .qg cs (p u h)
theorem zQY{l:Nat}:∀{H:Heap}{h:Nat}{str:Bool}{cs:JE},zRw l H=true->h<l->H.get h=some (.cells str cs)->cs.all (ltH 12 l)=true
 |[],_,_,_,_,_,h=>by cases h
 |(g,.cells p i)::r,h,str,cs,c,f,d=>by
  simp only[zRw,qr,Bool.or_eq_true]at c;simp only[Heap.get]at d;split at d
  .rename_i e;cases d;have e:=zb e;subst e;rcases c.1 with h1|h1
   .have o:Nat.blt g l=true:=by rw[Qg];exact f
    rw[o]at h1;cases h1
   .exact h1
  .exact zQY c.2 f d
 |(g,.map es)::r,h,str,cs,c,f,d=>by simp[zRw]at c
theorem zXF{lo:Option Nat}{m:Nat}:zBP lo m<=m:=by
 cases lo with
 |none=>exact QA _
 |some l=>exact Nat.min_le_right _ _
theorem zKU{lo:Option Nat}{m m':Nat}(h:m<=m'):zBP lo m<=zBP lo m':=by
 cases lo with
 |none=>exact h
 |some l=>simp only[zBP];omega
theorem zQZ{lo:Option Nat}{m m':Nat}(h:m'<=m):Min.min m' (zBP lo m)<=zBP lo m':=by
 cases lo with
 |none=>simp only[zBP];omega
 |some l=>simp only[zBP];omega
theorem zAy:∀(d:Nat){v:AV},z9 d v=true->PP v:=by
 intro d
 induction d with
 |zero=>intro v h;cases h
 |succ d f=>
  intro v h;have c:∀{l:JE},l.all (z9 d)=true->∀e∈l,PP e:=λg e i=>f (QD.1 g e i)
  cases v with
  |bool b=>exact .bool b
  |int k m=>exact .int k m
  |str s=>exact .str s
  |qj=>exact .qj
  |qa=>exact .qa
  |qm=>exact .qm
  |ql=>exact .ql
  |qe=>exact .qe
  |qc e off=>exact .qc e off (f h)
  |qo sz es=>exact .qo sz es (c h)
  |func fn a b=>
   have h:(a.all (z9 d)&&b.all (z9 d))=true:=h;rw[qr]at h;exact .func fn a b (c h.1) (c h.2)
  |iface t v=>exact .iface t v (f h)
  |agg cs=>exact .agg cs (c h)
  |qg cs=>exact .qg cs (c h)
  |_=>cases h
theorem zBM{n k:Nat}:∀(d:Nat){v:AV},CP n k v->ppS d v=true->PP v:=by
 intro d
 induction d with
 |zero=>intro v _ h;cases h
 |succ d i=>
  intro v hc h;have f:∀{l:JE},(∀e∈l,CP n k e)->l.all (ppS d)=true->∀e∈l,PP e:=λhc p e c=>i (hc e c) (QD.1 p e c)
  cases hc with
  |bool b=>exact .bool b
  |int k m=>exact .int k m
  |str s=>exact .str s
  |qj=>exact .qj
  |qa=>exact .qa
  |qm=>exact .qm
  |ql=>exact .ql
  |qe=>exact .qe
  |qc e off c=>exact .qc e off c
  |qo sz es c=>exact .qo sz es c
  |func fn a b q o=>
   have h:(a.all (ppS d)&&b.all (ppS d))=true:=h;rw[qr]at h;exact .func fn a b (f q h.1) (f o h.2)
  |iface t v r=>exact .iface t v (i r h)
  |agg cs g=>exact .agg cs (f g h)
  |qg cs g=>exact .qg cs (f g h)
  |_=>cases h
theorem CP.cells{n k:Nat}{v:AV}(h:CP n k v):∀c∈v.cells,CP n k c:=by
 cases h with
 |agg cs h=>exact h
 |_=>intro c hc;simp only[AV.cells,QY]at hc;subst hc;constructor<;>assumption
theorem PP.cells{v:AV}(h:PP v):∀c∈v.cells,PP c:=by
 cases h with
 |agg cs h=>exact h
 |_=>intro c hc;simp only[AV.cells,QY]at hc;subst hc;constructor<;>assumption
theorem zOj{n k:Nat}{cs:JE}{off sz:Nat}{e:Bool}{v:AV}(h:∀c∈cs,CP n k c)(d:part cs off sz e=some v):CP n k v:=by
 unfold part at d;split at d
 .split at d
  .cases d;exact .agg _ λc hc=>h c (QW (QM hc))
  .cases d
 .exact h v (QF d)
theorem zOk{cs:JE}{off sz:Nat}{e:Bool}{v:AV}(h:∀c∈cs,PP c)(d:part cs off sz e=some v):PP v:=by
 unfold part at d;split at d
 .split at d
  .cases d;exact .agg _ λc hc=>h c (QW (QM hc))
  .cases d
 .exact h v (QF d)
theorem zFP{cs new:JE}{off:Nat}{c:AV}(h:c∈qp cs off new):c∈cs\/c∈new:=by
 unfold qp at h;rcases QH.1 h with h|h
 .rcases QH.1 h with h|h
  .exact .inl (QM h)
  .exact .inr h
 .exact .inl (QW h)
theorem zJF{n k:Nat}{v:AV}{sz:Nat}{cs:JE}(h:CP n k v)(hc:cellsOf v sz=some cs):∀c∈cs,CP n k c:=by
 unfold cellsOf at hc;split at hc
 .split at hc
  .cases hc;exact h.cells
  .cases hc
 .cases hc
section
variable{G:Cx}{fr:Fr}{H:Heap}{m n k:Nat}
def GPP(G:Cx):Prop:=∀g v,G.vz g=some v->PP v
theorem zJ(e:GPP G)(d:zCx n k fr){x:XV}(hx:zo x=true){v:AV}(h:x.ev G fr=some v):CP n k v:=by
 cases x with
 |t k=>exact d k v h
 |c u=>cases h;exact(zAy 12 hx).cp
 |g k=>exact(e k v h).cp
theorem zEs(g:GPP G)(f:zCx n k fr):∀{xs:List XV}{vs:JE},xs.all zo=true->evs G fr xs=some vs->∀v∈vs,CP n k v
 |[],vs,_,h,v,c=>by cases h;cases c
 |x::xs,vs,e,h,v,c=>by
  rw[QU,qr]at e;simp only[evs]at h;split at h
  .rename_i u i;split at h
   .rename_i l d;cases h;rcases QG.1 c with rfl|c
    .exact zJ g f e.1 i
    .exact zEs g f e.2 d v c
   .cases h
  .cases h
theorem HCP.mono{n' e:Nat}(h:n<=n')(hk:k<=e)(hH:HCP n k H):HCP n' e H:=λp f=>let ⟨a,b,c,d⟩:=hH p f;⟨a,b,c,λx g=>(d x g).mono h hk⟩
theorem zCx.mono{n' c:Nat}(e:n<=n')(hk:k<=c)(d:zCx n k fr):zCx n' c fr:=λt v h=>(d t v h).mono e hk
theorem HCP.get(hH:HCP n k H){h:Nat}{o:HO}(d:H.get h=some o):∃str cs,o=.cells str cs/\∀c∈cs,CP n k c:=hH _ (Heap.qi d)
theorem HCP.cons(hH:HCP n k H){h:Nat}{str:Bool}{cs:JE}(hc:∀c∈cs,CP n k c):HCP n k ((h,.cells str cs)::H):=λp d=>by
 rcases QG.1 d with rfl|d
 .exact⟨str,cs,rfl,hc⟩
 .exact hH p d
theorem zCv:∀{H:Heap}{h:Nat}{o:HO}{p:Nat×HO},p∈H.put h o->p=(h,o)\/p∈H
 |(k,e)::r,h,o,p,c=>by
  simp only[Heap.put]at c;split at c
  .rename_i d;rcases QG.1 c with rfl|c
   .rw[zb d];exact .inl rfl
   .exact .inr (.tail _ c)
  .rcases QG.1 c with rfl|c
   .exact .inr (.head _)
   .exact(zCv c).imp id (.tail _)
theorem HCP.put(hH:HCP n k H){h:Nat}{str:Bool}{cs:JE}(hc:∀c∈cs,CP n k c):HCP n k (H.put h (.cells str cs)):=λp d=>by
 rcases zCv d with rfl|d
 .exact⟨str,cs,rfl,hc⟩
 .exact hH p d
theorem zMv(hH:HCP n k H){a v:AV}{sz:Nat}{g:Bool}(f:CP n k a)(h:zDa H sz g a=some v):CP n k v:=by
 cases f with
 |ptr i o=>
  simp only[zDa]at h;split at h
  .rename_i str cs c;obtain⟨_,_,e,hc⟩:=hH.get c;cases e;exact zOj hc h
  .cases h
 |qc e off d=>exact(zOk d.cells h).cp
 |_=>cases h
theorem zGc(g:GPP G)(f:zCx n k fr):∀{e:List (Nat×Nat×XV)}{cs cs':JE},(e.all λp=>zo p.2.2)=true->(∀c∈cs,CP n k c)->zAC G fr cs e=some cs'->∀c∈cs',CP n k c
 |[],cs,cs',_,hc,h=>by cases h;exact hc
 |(off,sz,x)::r,cs,cs',d,hc,h=>by
  rw[QU,qr]at d;simp only[zAC]at h;split at h
  .rename_i v o;split at h
   .rename_i new i;split at h
    .exact zGc g f d.2 (λc l=>(zFP l).elim (hc c) (zJF (zJ g f d.1 o) i c)) h
    .cases h
   .cases h
  .cases h
theorem zXG{op:BinOp}{a b v:AV}(h:zDo op a b=some v):PP v:=by
 unfold zDo at h;split at h
 .rename_i k a c b;split at h
  .split at h
   .cases h
   .cases h;exact .int _ _
  .split at h
   .cases h
   .cases h;exact .int _ _
  .split at h
   .cases h
   .split at h
    all_goals first
     |(cases h;exact .int _ _)
     |(split at h<;>first|(cases h;done)|(cases h;exact .int _ _))
     |(unfold zPR at h;split at h<;>first|(cases h;done)|(cases h;exact .int _ _))
     |(unfold zWb at h;split at h<;>first|(cases h;done)|(cases h;exact .bool _))
 .rename_i a b;split at h
  .split at h
   .cases h;exact .str _
   .cases h
  all_goals first|(cases h;done)|(cases h;exact .bool _)
 .cases h
theorem zYX{op:UnOp}{a v:AV}(h:xun op a=some v):PP v:=by
 unfold xun at h;split at h
 .split at h
  .cases h;exact .int _ _
  .unfold zPR at h;cases h;exact .int _ _
  .cases h
 .split at h
  .cases h;exact .bool _
  .cases h
 .cases h
def zJd:XO->Bool
 |.wH _|.pick _ _ _|.bin _ _ _|.beq _ _ _|.peq _ _ _|.vO _ _ _ _ _|.seq _ _ _|.v8 _ _ _|.vZ _ _ _|.un _ _|.conv _ _|.uf _|.vt _ _|.vu _ _|.uc _ _ _ _|.ext _ _|.wc _ _ _ _ _
 |.box _ _|.alloc _|.build _ _|.qO _|.qz _ _ _ _|.wU _|.wZ _|.wb _|.min _ _|.max _ _|.wg _ _ _|.w4 _ _|.vT _ _ _ _|.load _ _ _|.store _ _ _|.qC _ _|.qy _ _ _ _|.qB _ _ _=>true
 |_=>false
theorem zKV{o:XO}(F:zJd o=true)(ho:zn o=true)(g:GPP G)(f:zCx n m fr)(hH:HCP n m H){v:AV}{H':Heap}{m':Nat}(h:xoS G zd fr H m o=some (v,H',m')):CP n m' v/\HCP n m' H':=by
 simp only[zn,qr]at ho;obtain⟨ho,p⟩:=ho;cases o<;>first|(cases F;done)|skip
 all_goals simp only[XO.qb,QU,List.all_nil,List.all_append,QO,qr]at ho
 all_goals simp only[xoS]at h
 case wH x=>
  split at h
  .rename_i u l;cases h;exact⟨zJ g f ho l,hH⟩
  .cases h
 case pick c a b=>
  split at h
  .split at h
   .rename_i u l;cases h;exact⟨zJ g f ho.1.2 l,hH⟩
   .cases h
  .split at h
   .rename_i u l;cases h;exact⟨zJ g f ho.2 l,hH⟩
   .cases h
  .cases h
 case bin op x y=>
  split at h
  .split at h
   .rename_i u l;cases h;exact⟨(zXG l).cp,hH⟩
   .cases h
  .cases h
 case un op x=>
  split at h
  .split at h
   .rename_i u l;cases h;exact⟨(zYX l).cp,hH⟩
   .cases h
  .cases h
 case uc x off sz ag=>
  split at h
  .rename_i cs d;have hc:=zJ g f ho d;cases hc with
   |agg _ hc=>
    split at h
    .rename_i u l;cases h;exact⟨zOj hc l,hH⟩
    .cases h
  .cases h
 case ext x i=>
  split at h
  .rename_i O d;have hc:=zJ g f ho d;cases hc with
   |qg _ hc=>
    split at h
    .rename_i u l;cases h;exact⟨hc _ (QF l),hH⟩
    .cases h
  .cases h
 case wc x i len sz ag=>
  split at h
  .rename_i cs D d _;have hc:=zJ g f ho.1 d;cases hc with
   |agg _ hc=>
    split at h
    .split at h
     .rename_i u l;cases h;exact⟨zOj hc l,hH⟩
     .cases h
    .cases h
  .cases h
 case box x sz=>
  split at h
  .rename_i u l;split at h
   .rename_i cs q;cases h;exact⟨.ptr _ _ (QR _),HCP.cons (hH.mono (QA _) (QT _)) λc hc=>(zJF (zJ g f ho l) q c hc).mono (QA _) (QT _)⟩
   .cases h
  .cases h
 case alloc z=>
  cases h;have p:z.all (z9 12)=true:=p;exact⟨.ptr _ _ (QR _),HCP.cons (hH.mono (QA _) (QT _)) λc hc=>(zAy 12 (QD.1 p c hc)).cp⟩
 case build z ps=>
  have p:z.all (z9 12)=true:=p;split at h
  .rename_i cs q;cases h;refine⟨.agg _ (zGc g f ?_ (λc hc=>(zAy 12 (QD.1 p c hc)).cp) q),hH⟩
   simpa[List.all_map]using ho
  .cases h
 case qy len sz z ps=>
  have p:z.all (z9 12)=true:=p;split at h
  .rename_i cs q;cases h;exact⟨.row _ _ _ _ _ _ (QR _),HCP.cons (hH.mono (QA _) (QT _)) λc hc=>(zGc g f (by simpa[List.all_map]using ho) (λc hc=>(zAy 12 (QD.1 p c hc)).cp) q c hc).mono (QA _) (QT _)⟩
  .cases h
 case load x sz ag=>
  split at h
  .rename_i a d;split at h
   .rename_i u l;cases h;exact⟨zMv hH (zJ g f ho d) l,hH⟩
   .cases h
  .cases h
 case store a x sz=>
  split at h
  .rename_i R off u C d;split at h
   .rename_i str cs J;split at h
    .rename_i new M;split at h
     .cases h;obtain⟨_,_,e,hc⟩:=hH.get J;cases e;exact⟨.qg _ (λc hc=>by cases hc),hH.put λc N=>(zFP N).elim (hc c) (zJF (zJ g f ho.2 d) M c)⟩
     .cases h
    .cases h
   .cases h
  .cases h
 case qO x=>
  split at h<;>first|(cases h;done)|(rename_i d;cases h;exact⟨zJ g f ho d,hH⟩)
 case qC x off=>
  split at h
  .rename_i d;have hc:=zJ g f ho d;cases hc with
   |ptr _ _ hk=>cases h;exact⟨.ptr _ _ hk,hH⟩
  .rename_i e o d;have hc:=zJ g f ho d;cases hc with
   |qc _ _ r=>cases h;exact⟨.qc _ _ r,hH⟩
  .cases h
 case qB x i sz=>
  split at h
  .rename_i L es D d _;have hc:=zJ g f ho.1 d;cases hc with
   |qo _ _ A=>
    split at h
    .split at h
     .rename_i e r;cases h;refine⟨.qc _ _ (A e ?_),hH⟩
      unfold idx at r;split at r
      .exact QF r
      .cases r
     .cases h
    .cases h
  .rename_i d _;have hc:=zJ g f ho.1 d;cases hc with
   |row _ _ _ _ _ _ hk=>
    split at h
    .split at h
     .cases h;exact⟨.ptr _ _ hk,hH⟩
     .cases h
    .cases h
  .cases h
 case qz x i len sz=>
  split at h
  .rename_i d _;have hc:=zJ g f ho.1 d;cases hc with
   |ptr _ _ hk=>
    split at h
    .cases h;exact⟨.ptr _ _ hk,hH⟩
    .cases h
  .rename_i e o D d _;have hc:=zJ g f ho.1 d;cases hc with
   |qc _ _ r=>
    split at h
    .cases h;exact⟨.qc _ _ r,hH⟩
    .cases h
  .cases h
 case wg fn first caps=>
  split at h
  .rename_i a b C I;cases h;exact⟨.func _ _ _ (zEs g f ho.1 C) (zEs g f ho.2 I),hH⟩
  .cases h
 case w4 t x=>
  split at h
  .rename_i u l;cases h;exact⟨.iface _ _ (zJ g f ho l),hH⟩
  .cases h
 case vT x t ok z=>
  have p:z9 12 z=true:=p;have s:CP n m z:=(zAy 12 p).cp;split at h
  .rename_i u w d;have hc:=zJ g f ho d;cases hc with
   |iface _ _ B=>
    split at h
    .cases h;refine⟨?_,hH⟩
     split
     .exact .qg _ λc hc=>by
       simp only[QG,List.not_mem_nil,or_false]at hc;rcases hc with rfl|rfl
       .exact B
       .exact .bool _
     .exact B
    .split at h
     .cases h;exact⟨.qg _ λc hc=>by
       simp only[QG,List.not_mem_nil,or_false]at hc;rcases hc with rfl|rfl
       .exact s
       .exact .bool _,hH⟩
     .cases h
  .split at h
   .cases h;exact⟨.qg _ λc hc=>by
     simp only[QG,List.not_mem_nil,or_false]at hc;rcases hc with rfl|rfl
     .exact s
     .exact .bool _,hH⟩
   .cases h
  .cases h
 all_goals
  (repeat' split at h)<;>first
   |(cases h;done)
   |(cases h;exact⟨by first|exact .bool _|exact .int _ _|exact .str _|(unfold zBu;exact .bool _),hH⟩)
end
section
variable{E E':Env}{w w':World}
theorem VR.pp(B:∀b,E.Z b->E'.Z b/\w'.heap[b]? = w.heap[b]?){v:AV}{cv:Value}(h:VR E w v cv):PP v->VR E' w' v cv:=by
 induction h with
 |bool b=>intro _;exact .bool b
 |int k n h=>intro _;exact .int k n h
 |str l s h z=>intro _;exact .str l s h z
 |qj=>intro _;exact .qj
 |ptr h off J=>intro d;cases d
 |qc e off b o cv u y _ hc q=>
  intro d;cases d with
  |qc _ _ C=>exact .qc e off b o cv u (B b y).1 (q C) λj c I=>by rw[zCG (B b y).2];exact hc j c I
 |qa=>intro _;exact .qa
 |wq sz a c hc=>intro _;exact .wq sz a c hc
 |qo es b o cap sz f y r D u _ hc q=>
  intro d;cases d with
  |qo _ _ C=>exact .qo es b o cap sz f (B b y).1 r D u (λi e A=>q i e A (C e (QF A))) λi A=>⟨(hc i A).1,λj c I=>by rw[zCG (B b y).2];exact(hc i A).2 j c I⟩
 |row h off len sz cp cap ex J M r S N U L=>intro d;cases d
 |wm h off sz ex a=>intro d;cases d
 |qm=>intro _;exact .qm
 |map h J=>intro d;cases d
 |ql=>intro _;exact .ql
 |func fn f c O V T hc _ _ R X=>
  intro d;cases d with
  |func _ _ _ W L=>exact .func fn f c O V T hc (λi x v g p=>R i x v g p (W x (QF g))) (λi x v g p=>X i x v g p (L x (QF g)))
 |qe=>intro _;exact .qe
 |iface t v cv _ q=>intro d;cases d with|iface _ _ p=>exact .iface t v cv (q p)
 |agg cs F z _ h1 q=>intro d;cases d with|agg _ hc=>exact .agg cs F z (λi x v g p=>q i x v g p (hc x (QF g))) h1
 |qg cs F z _ q=>intro d;cases d with|qg _ hc=>exact .qg cs F z (λi x v g p=>q i x v g p (hc x (QF g)))
 |sym i cv C h1=>intro d;cases d
theorem VR.ve{n k:Nat}(u:∀h,h<k->E.D h->E'.D h/\E'.ρ h=E.ρ h)(B:∀b,E.Z b->E'.Z b/\w'.heap[b]? = w.heap[b]?)(hS:z7 w w')(Y:∀i,i<n->E'.σ i=E.σ i){v:AV}{cv:Value}(h:VR E w v cv):CP n k v->VR E' w' v cv:=by
 induction h with
 |bool b=>intro _;exact .bool b
 |int k n h=>intro _;exact .int k n h
 |str l s h I=>intro _;exact .str l s h I
 |qj=>intro _;exact .qj
 |ptr h off r=>
  intro d;cases d with
  |ptr _ _ hk=>rw[←(u h hk r).2];exact .ptr h off (u h hk r).1
 |qc e off b o cv z F g hc y=>
  intro d;cases d with
  |qc _ _ J=>exact .qc e off b o cv z (B b F).1 (g.pp B J) λj c R=>by rw[zCG (B b F).2];exact hc j c R
 |qa=>intro _;exact .qa
 |wq sz a c hc=>intro _;exact .wq sz a c hc
 |qo es b o cap sz f F p S z g hc y=>
  intro d;cases d with
  |qo _ _ J=>exact .qo es b o cap sz f (B b F).1 p S z (λi e A=>(g i e A).pp B (J e (QF A))) λi A=>⟨(hc i A).1,λj c R=>by rw[zCG (B b F).2];exact(hc i A).2 j c R⟩
 |row h off len sz cp cap ex r C p O L T M=>
  intro d;cases d with
  |row _ _ _ _ _ _ hk=>
   obtain⟨c,e,f,h1,h2⟩:=M;obtain⟨c',X,k1,k2⟩:=hS _ c e f h1;rw[←(u h hk r).2];exact .row h off len sz cp cap ex (u h hk r).1 C p O L T ⟨c',e,X,by rw[(u h hk r).2];exact k1,by omega⟩
 |wm h off sz ex a=>intro _;exact .wm h off sz ex a
 |qm=>intro _;exact .qm
 |map h r=>intro d;cases d with|map _ hk=>rw[←(u h hk r).2];exact .map h (u h hk r).1
 |ql=>intro _;exact .ql
 |func fn f c W vc V hc _ _ rf U=>
  intro d;cases d with
  |func _ _ _ ha M=>exact .func fn f c W vc V hc (λi x v q g=>rf i x v q g (ha x (QF q))) (λi x v q g=>U i x v q g (M x (QF q)))
 |qe=>intro _;exact .qe
 |iface t v cv _ y=>intro d;cases d with|iface _ _ g=>exact .iface t v cv (y g)
 |agg cs N I _ h1 y=>intro d;cases d with|agg _ hc=>exact .agg cs N I (λi x v q g=>y i x v q g (hc x (QF q))) h1
 |qg cs N I _ y=>intro d;cases d with|qg _ hc=>exact .qg cs N I (λi x v q g=>y i x v q g (hc x (QF q)))
 |sym i cv J h1=>intro d;cases d with|sym _ A=>exact .sym i cv (J.trans (Y i A).symm) h1
end
def zET(w:World)(b len sz cp:Nat)(ex:Bool)(cv:Value):Prop:=
 (∃a,cv=.slice (some a) 0 0/\len=0/\cp=0) ∨
 ∃cap,cv=.slice (some ⟨b,0,none⟩) len cap/\len<=cap/\cap<=zf/\0<sz/\cp<=cap/\(ex=true->cap=cp)/\∃c e f,w.heap[b]?=some (.cells c e f)/\0+cap*sz<=c.size
section
variable{E E':Env}{w w':World}
theorem zET.ur{h len sz cp:Nat}{ex:Bool}{cv:Value}(l:VR E w (.row h 0 len sz cp ex) cv):zET w (E.ρ h) len sz cp ex cv:=by
 cases l with
 |row _ _ _ _ _ cap _ o d c f e g i=>exact .inr ⟨cap,rfl,d,c,f,e,g,i⟩
 |wm _ _ _ _ a=>exact .inl ⟨a,rfl,rfl,rfl⟩
theorem zET.vr{b h len sz cp:Nat}{ex:Bool}{cv:Value}(o:zET w b len sz cp ex cv)(f:E.ρ h=b)(l:E.D h):VR E w (.row h 0 len sz cp ex) cv:=by
 subst f;rcases o with⟨a,rfl,rfl,rfl⟩|⟨cap,rfl,d,c,i,e,g,f⟩
 .exact .wm _ _ _ _ _
 .exact .row _ _ _ _ _ _ _ l d c i e g f
theorem zET.mono{b len sz cp:Nat}{ex:Bool}{cv:Value}(t:zET w b len sz cp ex cv)(u:z7 w w'):zET w' b len sz cp ex cv:=by
 rcases t with h|⟨cap,h1,g,r,l,o,s,c,e,f,p,h8⟩
 .exact .inl h
 .obtain⟨i,q,d,v⟩:=u _ c e f p;exact .inr ⟨cap,h1,g,r,l,o,s,i,e,q,d,by omega⟩
theorem zET.one{b len sz cp:Nat}{ex:Bool}{cv:Value}(c:zET w b len sz cp ex cv):cv.oneCell'=true:=by
 rcases c with⟨a,rfl,_⟩|⟨cap,rfl,_⟩<;>rfl
theorem OR.pp{b:Nat}{str:Bool}{cs:JE}(s:w'.heap[b]? = w.heap[b]?)(q:∀b,E.Z b->E'.Z b/\w'.heap[b]? = w.heap[b]?)(l:∀c∈cs,PP c)(h:OR E w b (.cells str cs)):OR E' w' b (.cells str cs):=by
 obtain⟨c,e,f,h1,o,r,p⟩:=h;exact⟨c,e,f,s.trans h1,o,r,λi x g=>let ⟨v,a,b,d⟩:=p i x g;⟨v,a,b,d.pp q (l x (QF g))⟩⟩
theorem OR.ve{n k b:Nat}{str:Bool}{cs:JE}(o:w'.heap[b]? = w.heap[b]?)(hm:∀{v cv},CP n k v->VR E w v cv->VR E' w' v cv)(q:∀c∈cs,CP n k c)(h:OR E w b (.cells str cs)):OR E' w' b (.cells str cs):=by
 obtain⟨c,e,f,h1,l,r,p⟩:=h;exact⟨c,e,f,o.trans h1,l,r,λi x g=>let ⟨v,a,b,d⟩:=p i x g;⟨v,a,b,hm (q x (QF g)) d⟩⟩
theorem OR.pm{b:Nat}{es:List (AV×AV)}(s:w'.heap[b]? = w.heap[b]?)(l:∀b,E.Z b->E'.Z b/\w'.heap[b]? = w.heap[b]?)(g:∀p∈es,PP p.1/\PP p.2)(h:OR E w b (.map es)):OR E' w' b (.map es):=by
 obtain⟨c,clock,h1,o,r,q⟩:=h;exact⟨c,clock,s.trans h1,o,λi k x f=>let ⟨m,a,b,d,e⟩:=r i k x f;⟨m,a,b.pp l (g _ (QF f)).1,d.pp l (g _ (QF f)).2,e⟩,q⟩
end
def VI.qA:VI->Bool
 |.qU _ _ _=>false
 |.dn _=>false
 |_=>true
def VOK(E:Env)(w:World)(V:Vecs)(β:Nat->Option Nat)(j:Nat):VI->Prop
 |.vec sz es=>(∀e∈es,PP e)/\((β j=none/\E.σ j=.slice none 0 0/\es=[]) ∨
   ∃b str cs cp ex,β j=some b/\OR E w b (.cells str cs)/\zET w b es.length sz cp ex (E.σ j)/\(∀c∈cs,PP c)/\es.length*sz<=cs.length/\flatten sz es=some (cs.take (es.length*sz)))
 |.mp es=>(∀p∈es,PP p.1/\PP p.2)/\∃b,β j=some b/\OR E w b (.map es)/\E.σ j=.map (some b)
 |.dn n=>(E.σ j=.slice none 0 0/\n=0)\/∃b sz cp ex,zET w b n sz cp ex (E.σ j)
 |.qU d i off=>∀sz es,V.get d=some (.vec sz es)->i<es.length/\∃b,β d=some b/\E.σ j=.pointer (some ⟨b,i*sz+off,none⟩)
def BS(E:Env)(β:Nat->Option Nat)(H:Heap)(V:Vecs)(x:Nat):Prop:=(∃p∈H,E.ρ p.1=x)\/∃j c,V.get j=some c/\c.qA=true/\β j=some x
structure Kp(Z B:Nat->Prop)(w:World)(Z' B':Nat->Prop)(w':World):Prop where
 qH:∀x,Z x->Z' x
 qP:∀x,Z' x->Z x\/B x\/w.heap.size<=x
 own:∀x,B' x->B x\/w.heap.size<=x
 tape:w'.tape=w.tape
 os:w'.os=w.os
 output:w'.output=w.output
 size:w.heap.size<=w'.heap.size
 wh:∀x,x<w.heap.size->¬B x->w'.heap[x]? = w.heap[x]?
 qn:z7 w w'
theorem Kp.refl{Z B:Nat->Prop}{w:World}:Kp Z B w Z B w:=⟨λ_ h=>h,λ_ h=>.inl h,λ_ h=>.inl h,rfl,rfl,rfl,QA _,λ_ _ _=>rfl,.refl w⟩
theorem Kp.less{Z B c:Nat->Prop}{w:World}(h:∀x,c x->B x):Kp Z B w Z c w:=⟨λ_ h=>h,λ_ h=>.inl h,λx d=>.inl (h x d),rfl,rfl,rfl,QA _,λ_ _ _=>rfl,.refl w⟩
theorem Kp.trans{Z B g e c d:Nat->Prop}{w w1 f:World}(h:Kp Z B w g e w1)(k:Kp g e w1 c d f):Kp Z B w c d f where
 qH x hx:=k.qH x (h.qH x hx)
 qP x hx:=by
  rcases k.qP x hx with a|a|a
  .exact h.qP x a
  .rcases h.own x a with b|b
   .exact .inr (.inl b)
   .exact .inr (.inr b)
  .exact .inr (.inr (QI h.size a))
 own x hx:=by
  rcases k.own x hx with a|a
  .exact h.own x a
  .exact .inr (QI h.size a)
 tape:=k.tape.trans h.tape
 os:=k.os.trans h.os
 output:=k.output.trans h.output
 size:=QI h.size k.size
 wh x hx hb:=(k.wh x (QX hx h.size) λh1=>(h.own x h1).elim hb λi=>by omega).trans (h.wh x hx hb)
 qn:=h.qn.trans k.qn
structure SR(G:Cx)(nt:Nat)(E:Env)(w:World)(a:Act)(β:Nat->Option Nat)(st:Sta):Prop where
 hr:HR E st.H w
 hf:FrR E w st.fr a nt
 hg:GR G E w
 qx:∀h,E.D h->h<st.m
 qY:zCx st.mv st.m st.fr
 cH:HCP st.mv st.m st.H
 qR:∀j vi,st.V.get j=some vi->j<st.mv/\VOK E w st.V β j vi
 vp:∀j j2 i off,st.V.get j=some (.qU j2 i off)->j2<st.mv
 bz:∀j vi b,st.V.get j=some vi->vi.qA=true->β j=some b->¬E.Z b/\∀p∈st.H,E.ρ p.1≠b
 qQ:∀j j' vi vi' b,st.V.get j=some vi->st.V.get j'=some vi'->vi.qA=true->vi'.qA=true->β j=some b->β j'=some b->j=j'
section
variable{P:Program}{G:Cx}{nt:Nat}{E:Env}{w:World}{a:Act}{β:Nat->Option Nat}{st:Sta}
theorem VOK.lt{V:Vecs}{j:Nat}{vi:VI}{b:Nat}(h:VOK E w V β j vi)(ho:vi.qA=true)(c:β j=some b):b<w.heap.size:=by
 cases vi with
 |vec sz es=>
  obtain⟨_,⟨h1,_⟩|⟨e,str,cs,cp,ex,h1,d,_⟩⟩:=h
  .rw[h1]at c;cases c
  .rw[h1]at c;cases c;exact d.lt
 |mp es=>
  obtain⟨_,e,h1,d,_⟩:=h;rw[h1]at c;cases c;exact d.lt
 |qU=>cases ho
 |dn=>cases ho
theorem VOK.mono{E':Env}{w':World}{V t:Vecs}{q:Nat->Option Nat}{j:Nat}{vi:VI}(h:VOK E w V β j vi)(f:E'.σ j=E.σ j)(o:vi.qA=true->q j=β j)(r:∀b,vi.qA=true->β j=some b->w'.heap[b]? = w.heap[b]?)
  (u:∀b,E.Z b->E'.Z b/\w'.heap[b]? = w.heap[b]?) (v:z7 w w') (D:∀e i off,vi=.qU e i off->∀sz es,t.get e=some (.vec sz es)->q e=β e/\∃d,V.get e=some (.vec sz d)/\d.length=es.length):VOK E' w' t q j vi:=by
 cases vi with
 |vec sz es=>
  obtain⟨g,⟨h1,c,l⟩|⟨b,str,cs,cp,ex,h1,c,l,s,y,A⟩⟩:=h
  .exact⟨g,.inl ⟨(o rfl).trans h1,f.trans c,l⟩⟩
  .exact⟨g,.inr ⟨b,str,cs,cp,ex,(o rfl).trans h1,c.pp (r b rfl h1) u s,by rw[f];exact l.mono v,s,y,A⟩⟩
 |mp es=>
  obtain⟨g,b,h1,c,l⟩:=h;exact⟨g,b,(o rfl).trans h1,c.pm (r b rfl h1) u g,f.trans l⟩
 |dn n=>
  obtain⟨h1,c⟩|⟨b,sz,cp,ex,h1⟩:=h
  .exact .inl ⟨f.trans h1,c⟩
  .exact .inr ⟨b,sz,cp,ex,by rw[f];exact h1.mono v⟩
 |qU e i off=>
  intro sz es p;obtain⟨B,d,z,C⟩:=D e i off rfl sz es p;obtain⟨x,b,h1,c⟩:=h sz d z;exact⟨C▸x,b,B.trans h1,f.trans c⟩
theorem zCx.qv{n k:Nat}{fr:Fr}(e:zCx n k fr){d:Option Nat}{v:AV}(f:CP n k v):zCx n k (qv fr d v):=by
 cases d with
 |none=>exact e
 |some t=>
  intro u x c;simp only[zFp,Fr.qu]at c;split at c
  .cases c;exact f
  .exact e u x c
theorem SR.step(s:SR G nt E w a β st){E':Env}{w':World}{H':Heap}{m':Nat}{d:Option Nat}{v:AV}{cv:Value}(y:HR E' H' w')(t:Tr E st.H w E' H' w' st.m m')(M:VR E' w' v cv)(C:CP st.mv m' v)(B:HCP st.mv m' H')(D:∀n,d=some n->n<nt):
  SR G nt E' w' (a.put d cv) β ⟨qv st.fr d v,H',st.V,m',st.mv⟩/\Kp E.Z (BS E β st.H st.V) w E'.Z (BS E' β H' st.V) w':=by
 have r:∀b,E.Z b->E'.Z b/\w'.heap[b]? = w.heap[b]?:=λb i=>⟨t.qH b i,t.wh b (s.hr.we b i) λp f e=>s.hr.nz p f (e▸i)⟩
 have hblk:∀j c b,st.V.get j=some c->c.qA=true->β j=some b->b<w.heap.size/\w'.heap[b]? = w.heap[b]?:=λj c b h1 g o=>by
  have l:=(s.qR j c h1).2.lt g o;exact⟨l,t.wh b l λp f e=>(s.bz j c b h1 g o).2 p f e⟩
 refine⟨⟨y,s.hf.put (t.vr s.hr) D M,s.hg.step s.hr t,λh L=>?_,(s.qY.mono (QA _) t.le).qv C,B,λj c h1=>⟨(s.qR j c h1).1,?_⟩,s.vp,λj c b h1 g o=>⟨λI=>?_,λp f e=>?_⟩,s.qQ⟩,?_⟩
 .rcases(t.qx h).1 L with h1|h1
  .exact QX (s.qx h h1) t.le
  .exact h1.2
 .exact(s.qR j c h1).2.mono (congrFun t.sig j) (λ_=>rfl) (λb J i=>(hblk j c b h1 J i).2) r t.qn λ_ _ _ _ sz es h=>⟨rfl,es,h,rfl⟩
 .have l:=s.bz j c b h1 g o;rcases t.qP b I with A|⟨p,f,e⟩|A
  .exact l.1 A
  .exact l.2 p f e
  .have:=(hblk j c b h1 g o).1;omega
 .have l:=s.bz j c b h1 g o;rcases t.own p f with⟨q,z,F⟩|A
  .exact l.2 q z (F.trans e)
  .have:=(hblk j c b h1 g o).1;omega
 .refine⟨t.qH,λx u=>?_,λx u=>?_,t.tape,t.os,t.output,t.size,λx u i=>t.wh x u λp f e=>i (.inl ⟨p,f,e⟩),t.qn⟩
  .rcases t.qP x u with h|h|h
   .exact .inl h
   .exact .inr (.inl (.inl h))
   .exact .inr (.inr h)
  .rcases u with⟨p,f,rfl⟩|h
   .rcases t.own p f with⟨q,z,e⟩|h
    .exact .inl (.inl ⟨q,z,e⟩)
    .exact .inr h
   .exact .inl (.inr h)
end
theorem Vecs.qf{V:Vecs}{k j:Nat}{o:VI}:Vecs.get ((k,o)::V) j=if k=j then some o else V.get j:=by
 simp only[Vecs.get];by_cases h:k=j
 .subst h;have:Nat.beq k k=true:=Nat.beq_refl k;simp[this]
 .have:Nat.beq k j=false:=by
   cases hb:Nat.beq k j with
   |false=>rfl
   |true=>exact absurd (zb hb) h
  simp[this,h]
theorem Vecs.qL:∀{V:Vecs}{k j:Nat},(V.del k).get j=if k=j then none else V.get j
 |[],k,j=>by simp[Vecs.del,Vecs.get]
 |(i,o)::r,k,j=>by
  simp only[Vecs.del];cases hb:Nat.beq i k with
  |true=>
   have:=zb hb;subst this;simp only[Vecs.qL,Vecs.qf];split<;>rfl
  |false=>
   have c:=zAq hb;simp only[Vecs.qf,Vecs.qL];by_cases h1:i=j
   .subst h1;have:¬k=i:=λe=>c e.symm
    simp[this]
   .simp[h1]
abbrev XB:=Option (Nat×HO)
def zX(E:Env)(m:Nat):XB->Env
 |none=>E
 |some (b,_)=>⟨λh=>if h=m then b else E.ρ h,λh=>E.D h\/h=m,E.Z,E.σ⟩
def extH(H:Heap)(m:Nat):XB->Heap
 |none=>H
 |some (_,o)=>(m,o)::H
def zCE(m:Nat):XB->Nat
 |none=>m
 |some _=>m+1
def zk(E E':Env)(mv:Nat)(x:Value):Env:=⟨E.ρ,E.D,E'.Z,λi=>if i=mv then x else E.σ i⟩
structure OutW(G:Cx)(E:Env)(w:World)(st:Sta)(xb:XB)(E':Env)(w':World)(H':Heap)(v:AV)(cv:Value):Prop where
 vE:HR E' H' w'
 hv:VR E' w' v cv
 agree:∀h,E.D h->E'.ρ h=E.ρ h
 vl:∀b o,xb=some (b,o)->E'.ρ st.m=b
 u4:∀h,h<st.m->E'.D h->E.D h
 uM:∀z,E.Z z->E'.Z z/\w'.heap[z]? = w.heap[z]?
 qP:∀z,E'.Z z->E.Z z\/(∃p∈st.H,E.ρ p.1=z)\/(∃b o,xb=some (b,o)/\z=b)\/w.heap.size<=z
 own:∀p∈H',(∃q∈st.H,E.ρ q.1=E'.ρ p.1)\/(∃b o,xb=some (b,o)/\E'.ρ p.1=b)\/w.heap.size<=E'.ρ p.1
 wh:∀x,x<w.heap.size->¬(∃p∈st.H,E.ρ p.1=x)->(∀b o,xb=some (b,o)->x≠b)->w'.heap[x]? = w.heap[x]?
 tape:w'.tape=w.tape
 os:w'.os=w.os
 output:w'.output=w.output
 size:w.heap.size<=w'.heap.size
 qn:z7 w w'
 sig:E'.σ=E.σ
 back:∀x,HR (zk E E' st.mv x) st.H w'
 conv:∀x {v c},CP st.mv st.m v->VR E w v c->VR (zk E E' st.mv x) w' v c
 gr:∀x,GR G (zk E E' st.mv x) w'
section
variable{P:Program}{G:Cx}{nt:Nat}{E:Env}{w:World}{a:Act}{β:Nat->Option Nat}{st:Sta}
theorem zEt(s:SR G nt E w a β st){xb:XB}{v:AV}{cv:Value}(h:VR E w v cv):VR (zX E st.m xb) w v cv:=by
 cases xb with
 |none=>exact h
 |some p=>
  refine VR.mono (E:=E) (E':=zX E st.m (some p)) (λh c=>⟨Or.inl c,?_⟩) (λb d=>⟨d,rfl⟩) (.refl w) h
  have:h≠st.m:=by have:=s.qx h c;omega
  simp[zX,this]
theorem zSF(s:SR G nt E w a β st){xb:XB}(i:∀b o,xb=some (b,o)->OR E w b o/\¬E.Z b/\∀p∈st.H,E.ρ p.1≠b):HR (zX E st.m xb) (extH st.H st.m xb) w:=by
 cases xb with
 |none=>exact s.hr
 |some p=>
  obtain⟨b,o⟩:=p;obtain⟨h1,r,l⟩:=i b o rfl;have h:∀p∈st.H,p.1≠st.m:=λp c=>by have:=s.qx p.1 (s.hr.qx p c);omega
  have g:∀p∈st.H,(zX E st.m (some (b,o))).ρ p.1=E.ρ p.1:=λp c=>by simp[zX,h p c]
  have f:(zX E st.m (some (b,o))).ρ st.m=b:=by simp[zX]
  refine⟨Qx.2 ⟨λf=>?_,s.hr.nodup⟩,λp c=>?_,λp c q d e=>?_,λp c=>?_,λp c=>?_,s.hr.we⟩
  .obtain⟨p,c,e⟩:=QL.1 f;exact h p c e
  .rcases QG.1 c with rfl|c
   .exact .inr rfl
   .exact .inl (s.hr.qx p c)
  .rcases QG.1 c with rfl|c
   .rcases QG.1 d with rfl|d
    .rfl
    .rw[f,g q d]at e;exact absurd e.symm (l q d)
   .rcases QG.1 d with rfl|d
    .rw[g p c,f]at e;exact absurd e (l p c)
    .rw[g p c,g q d]at e;exact s.hr.inj p c q d e
  .rcases QG.1 c with rfl|c
   .rw[f];exact h1.mono rfl (zEt s)
   .rw[g p c];exact(s.hr.obj p c).mono rfl (zEt s)
  .rcases QG.1 c with rfl|c
   .rw[f];exact r
   .rw[g p c];exact s.hr.nz p c
theorem zUI(s:SR G nt E w a β st)(hG:GPP G)(hm:zAr P G){xb:XB}(R:∀b o,xb=some (b,o)->OR E w b o/\¬E.Z b/\∀p∈st.H,E.ρ p.1≠b){fr':Fr}(X:FrR (zX E st.m xb) w fr' a nt)
  {o:Oper} {U:XO} (hc:zAN P o.op=some U) {v:AV} {H':Heap} {n':Nat} (hx:xoS G zd fr' (extH st.H st.m xb) (zCE st.m xb) U=some (v,H',n')) (hH:∀p∈st.H,p∈H'):
  ∀next Q,(∀cv E' w',OutW G E w st xb E' w' H' v cv->next (a.put o.dst cv) w')->o.wp P a w next Q:=by
 intro next Q hn;have ab:=zSF s R;have Y:GR G (zX E st.m xb) w:=λg u h=>⟨zEt s (s.hg g u h).1,(s.hg g u h).2⟩
 have B:zDL (zX E st.m xb) (zCE st.m xb) n':=by
  intro h h1 W O;cases xb with
  |none=>have:=s.qx h O;have h1:st.m<=h:=h1;omega
  |some p=>
   have h1:st.m+1<=h:=h1;rcases O with O|O
   .have:=s.qx h O;omega
   .omega
 refine zEq ab X Y hm zC1 hc B hx next Q λcv E' w' V l k3=>hn cv E' w' ?_
 have S:(zX E st.m xb).Z=E.Z:=by cases xb<;>rfl
 have N:(zX E st.m xb).σ=E.σ:=by cases xb<;>rfl
 have J:∀h,E.D h->(zX E st.m xb).D h/\(zX E st.m xb).ρ h=E.ρ h:=λh y=>by
  cases xb with
  |none=>exact⟨y,rfl⟩
  |some p=>
   have:h≠st.m:=by have:=s.qx h y;omega
   exact⟨.inl y,by simp[zX,this]⟩
 have f:∀h,E.D h->E'.ρ h=E.ρ h:=λh y=>(l.agree h (J h y).1).trans (J h y).2
 have hblk:∀x,(∃p∈extH st.H st.m xb,(zX E st.m xb).ρ p.1=x)->(∃p∈st.H,E.ρ p.1=x)\/∃b o,xb=some (b,o)/\x=b:=by
  rintro x ⟨p,d,e⟩
  cases xb with
  |none=>exact .inl ⟨p,d,e⟩
  |some q=>
   obtain⟨b,o⟩:=q;rcases QG.1 d with rfl|d
   .exact .inr ⟨b,o,rfl,by simpa[zX]using e.symm⟩
   .exact .inl ⟨p,d,by rw[←(J p.1 (s.hr.qx p d)).2];exact e⟩
 have F:∀x,x<w.heap.size->¬(∃p∈st.H,E.ρ p.1=x)->(∀b o,xb=some (b,o)->x≠b)->w'.heap[x]? = w.heap[x]?:=λx h1 W C=>l.wh x h1 λp d e=>by
  rcases hblk x ⟨p,d,e⟩with h|⟨b,o,e1,e2⟩
  .exact W h
  .exact C b o e1 e2
 have A:∀z,E.Z z->E'.Z z/\w'.heap[z]? = w.heap[z]?:=λz L=>⟨l.qH z (by rw[S];exact L),F z (s.hr.we z L) (λ⟨p,d,e⟩=>s.hr.nz p d (e▸L)) λb o e1 e2=>(R b o e1).2.1 (e2▸L)⟩
 have r:∀h,h<st.m->E'.D h->E.D h:=λh h1 W=>by
  rcases(l.qx h).1 W with C|C
  .cases xb with
   |none=>exact C
   |some p=>exact C.resolve_right (by omega)
  .cases xb with
   |none=>have C:st.m<=h/\_:=C;omega
   |some p=>have C:st.m+1<=h/\_:=C;omega
 have T:∀(x:Value) i,i<st.mv->(zk E E' st.mv x).σ i=E.σ i:=λx i hi=>by
  have:i≠st.mv:=by omega
  simp[zk,this]
 have t:∀x {v c},CP st.mv st.m v->VR E w v c->VR (zk E E' st.mv x) w' v c:=λx v c I hv=>
  VR.ve (E:=E) (E':=zk E E' st.mv x) (w:=w) (w':=w') (λh _ y=>⟨y,rfl⟩) A l.qn (T x) hv I
 refine⟨V,k3,f,λb o e=>?_,r,A,λz L=>?_,λp d=>?_,F,l.tape,l.os,l.output,l.size,l.qn,l.sig.trans N,λx=>?_,t,λx g u h=>⟨t x (hG g u h).cp (s.hg g u h).1,(s.hg g u h).2.mono l.qn⟩⟩
 .subst e;have:(zX E st.m (some (b,o))).D st.m:=.inr rfl;rw[l.agree _ this];simp[zX]
 .rcases l.qP z L with h|h|h
  .rw[S]at h;exact .inl h
  .rcases hblk z h with h|h
   .exact .inr (.inl h)
   .exact .inr (.inr (.inl h))
  .exact .inr (.inr (.inr h))
 .rcases l.own p d with h|h
  .rcases hblk _ h with h|h
   .exact .inl h
   .exact .inr (.inl h)
  .exact .inr (.inr h)
 .have hρ:∀p∈st.H,E'.ρ p.1=E.ρ p.1:=λp d=>f p.1 (s.hr.qx p d)
  refine⟨s.hr.nodup,s.hr.qx,s.hr.inj,λp d=>?_,λp d=>?_,V.we⟩
  .obtain⟨str,cs,e,aa⟩:=s.cH p d;have h1:=V.obj p (hH p d);rw[e]at h1⊢;rw[hρ p d]at h1;refine OR.ve rfl (λI hv=>?_) aa h1
   exact VR.ve (E':=zk E E' st.mv x) (λh M y=>⟨r h M y,(f h (r h M y)).symm⟩) (λb hb=>⟨hb,rfl⟩) (.refl w') (λi hi=>by rw[T x i hi,l.sig,N]) hv I
  .have:=V.nz p (hH p d);rw[hρ p d]at this;exact this
theorem FrR.ux{n k:Nat}{fr:Fr}{E2:Env}{c:World}{d:Option Nat}{v:AV}{cv:Value}(f:FrR E w fr a nt)(hc:zCx n k fr)(hm:∀{v cv},CP n k v->VR E w v cv->VR E2 c v cv)(g:∀n,d=some n->n<nt)(i:VR E2 c v cv):FrR E2 c (qv fr d v) (a.put d cv) nt:=by
 have e:FrR E2 c fr a nt:=⟨f.size,λt u h=>hm (hc t u h) (f.get t u h)⟩
 exact e.put id g i
theorem OutW.sr(s:SR G nt E w a β st){xb:XB}{E':Env}{w':World}{H':Heap}{v:AV}{cv:Value}(O:OutW G E w st xb E' w' H' v cv)(N:∀b o,xb=some (b,o)->∃j vi,st.V.get j=some vi/\vi.qA=true/\β j=some b)
  (x:Value) (M:Vecs) (B:Nat) (C:Nat->Option Nat) {d:Option Nat} {v2:AV} (F:st.mv<=B) (Y:VR (zk E E' st.mv x) w' v2 cv) (T:CP B st.m v2) (hd:∀n,d=some n->n<nt)
  (R:∀j vi,M.get j=some vi->(st.V.get j=some vi/\(vi.qA=true->C j=β j/\∀b o,xb=some (b,o)->β j≠some b)) ∨
   (j<B/\VOK (zk E E' st.mv x) w' M C j vi/\(∀u i off,vi=.qU u i off->u<B)/\(vi.qA=true->∀S,C j=some S->¬E'.Z S/\(∀p∈st.H,E.ρ p.1≠S)/\((∃b o,xb=some (b,o)/\S=b)\/w.heap.size<=S))))
  (W:∀j q vi l,M.get j=some vi->M.get q=some l->vi.qA=true->l.qA=true->¬(st.V.get j=some vi/\C j=β j/\∀b o,xb=some (b,o)->β j≠some b)->¬(st.V.get q=some l/\C q=β q/\∀b o,xb=some (b,o)->β q≠some b)->j=q)
  (ab:∀u sz es,u<st.mv->M.get u=some (.vec sz es)->C u=β u/\∃U,st.V.get u=some (.vec sz U)/\U.length=es.length):
  SR G nt (zk E E' st.mv x) w' (a.put d cv) C ⟨qv st.fr d v2,st.H,M,st.m,B⟩/\Kp E.Z (BS E β st.H st.V) w (zk E E' st.mv x).Z (BS (zk E E' st.mv x) C st.H M) w':=by
 have r:∀j vi b,st.V.get j=some vi->vi.qA=true->β j=some b->(∀c o,xb=some (c,o)->β j≠some c)->b<w.heap.size/\w'.heap[b]? = w.heap[b]?/\¬E'.Z b/\∀p∈st.H,E.ρ p.1≠b:=λj vi b h1 g f t=>by
  have I:=(s.qR j vi h1).2.lt g f;have L:=s.bz j vi b h1 g f;have h7:∀c o,xb=some (c,o)->b≠c:=λc o e y=>t c o e (by rw[f,y])
  refine⟨I,O.wh b I (λ⟨p,hp,e⟩=>L.2 p hp e) h7,λJ=>?_,L.2⟩
  rcases O.qP b J with h|⟨p,hp,e⟩|⟨c,o,e,y⟩|h
  .exact L.1 h
  .exact L.2 p hp e
  .exact h7 c o e y
  .omega
 have hσ:∀i,i<st.mv->(zk E E' st.mv x).σ i=E.σ i:=λi hi=>by
  have:i≠st.mv:=by omega
  simp[zk,this]
 refine⟨⟨O.back x,s.hf.ux s.qY (O.conv x) hd Y,O.gr x,s.qx,(s.qY.mono F (QA _)).qv T,s.cH.mono F (QA _),λj vi h1=>?_,λj u i off h1=>?_,λj vi b h1 g f=>?_,λj q vi l b h1 g f t I L=>?_⟩,?_⟩
 .rcases R j vi h1 with⟨g,f⟩|⟨g,f,_⟩
  .have t:=s.qR j vi g;refine⟨QX t.1 F,t.2.mono (hσ j t.1) (λX=>(f X).1) (λb X D=>(r j vi b g X D (f X).2).2.1) O.uM O.qn λu i off e sz es aa=>?_⟩
   subst e;exact ab u sz es (s.vp j u i off g) aa
  .exact⟨g,f⟩
 .rcases R j _ h1 with⟨g,f⟩|⟨g,_,f,_⟩
  .exact QX (s.vp j u i off g) F
  .exact f u i off rfl
 .rcases R j vi h1 with⟨t,I⟩|⟨_,_,_,t⟩
  .rw[(I g).1]at f;have:=r j vi b t g f (I g).2;exact⟨this.2.2.1,this.2.2.2⟩
  .have:=t g b f;exact⟨this.1,this.2.1⟩
 .by_cases c1:st.V.get j=some vi/\C j=β j/\∀b o,xb=some (b,o)->β j≠some b
  .by_cases c2:st.V.get q=some l/\C q=β q/\∀b o,xb=some (b,o)->β q≠some b
   .exact s.qQ j q vi l b c1.1 c2.1 f t (by rw[←c1.2.1];exact I) (by rw[←c2.2.1];exact L)
   .exfalso
    have D:β j=some b:=by rw[←c1.2.1];exact I
    have hk:=r j vi b c1.1 f D c1.2.2;rcases R q l g with⟨q1,A⟩|⟨_,_,_,A⟩
    .exact c2 ⟨q1,(A t).1,(A t).2⟩
    .rcases(A t b L).2.2 with⟨c,o,e,y⟩|h
     .exact c1.2.2 c o e (by rw[D,y])
     .omega
  .by_cases c2:st.V.get q=some l/\C q=β q/\∀b o,xb=some (b,o)->β q≠some b
   .exfalso
    have D:β q=some b:=by rw[←c2.2.1];exact L
    have hk:=r q l b c2.1 t D c2.2.2;rcases R j vi h1 with⟨q1,A⟩|⟨_,_,_,A⟩
    .exact c1 ⟨q1,(A f).1,(A f).2⟩
    .rcases(A f b I).2.2 with⟨c,o,e,y⟩|h
     .exact c2.2.2 c o e (by rw[D,y])
     .omega
   .exact W j q vi l h1 g f t c1 c2
 .refine⟨λz J=>(O.uM z J).1,λz J=>?_,λz J=>?_,O.tape,O.os,O.output,O.size,λz J D=>O.wh z J (λh=>D (.inl h)) λb o e y=>?_,O.qn⟩
  .rcases O.qP z J with h|h|⟨b,o,e,y⟩|h
   .exact .inl h
   .exact .inr (.inl (.inl h))
   .obtain⟨j,vi,h1,g,f⟩:=N b o e;exact .inr (.inl (.inr ⟨j,vi,h1,g,by rw[y];exact f⟩))
   .exact .inr (.inr h)
  .rcases J with h|⟨j,vi,h1,g,f⟩
   .exact .inl (.inl h)
   .rcases R j vi h1 with⟨q1,A⟩|⟨_,_,_,A⟩
    .exact .inl (.inr ⟨j,vi,q1,g,by rw[←(A g).1];exact f⟩)
    .rcases(A g z f).2.2 with⟨b,o,e,y⟩|h
     .obtain⟨j,vi,h1,g,f⟩:=N b o e;exact .inl (.inr ⟨j,vi,h1,g,by rw[y];exact f⟩)
     .exact .inr h
  .obtain⟨j,vi,h1,g,f⟩:=N b o e;exact D (.inr ⟨j,vi,h1,g,by rw[y];exact f⟩)
end
theorem zI{v:AV}{sz:Nat}{cs:JE}(h:cellsOf v sz=some cs):cs.length=sz/\v.cells=cs/\v.flat=true:=by
 unfold cellsOf at h;cases hf:v.flat with
 |false=>rw[hf]at h;cases h
 |true=>
  rw[hf]at h;simp only at h;split at h
  .rename_i c;cases h;exact⟨zb c,rfl,rfl⟩
  .cases h
theorem zQ{sz:Nat}:∀{es f:JE},flatten sz es=some f->f.length=es.length*sz/\∀(i:Nat) e,es[i]?=some e->cellsOf e sz=some ((f.drop (i*sz)).take sz)
 |[],f,h=>by cases h;exact⟨by simp,λi e d=>by simp at d⟩
 |a::r,f,h=>by
  simp only[flatten]at h;split at h
  .rename_i c hc;split at h
   .rename_i cs l;cases h;obtain⟨h1,o⟩:=zQ l;obtain⟨g,_,_⟩:=zI hc;refine⟨by simp[h1,g,Nat.succ_mul];omega,λi e d=>?_⟩
    cases i with
    |zero=>
     simp only[List.getElem?_cons_zero,QK]at d;subst d;rw[hc];simp[←g]
    |succ i=>
     rw[List.getElem?_cons_succ]at d;rw[o i e d];have:(i+1)*sz=c.length+i*sz:=by rw[Nat.succ_mul,g];omega
     rw[this,←List.drop_drop,List.drop_left]
   .cases h
  .cases h
theorem zGd{sz:Nat}:∀{a b x y:JE},flatten sz a=some x->flatten sz b=some y->flatten sz (a++b)=some (x++y)
 |[],b,x,y,h,k=>by cases h;simpa using k
 |e::r,b,x,y,h,k=>by
  simp only[flatten]at h;split at h
  .rename_i c hc;split at h
   .rename_i cs d;cases h;simp only[List.cons_append,flatten,hc,zGd d k,Ql]
   .cases h
  .cases h
theorem zL5{sz:Nat}{v:AV}{new:JE}(l:cellsOf v sz=some new):∀{es e:JE}{i:Nat},flatten sz es=some e->i<es.length->flatten sz (es.set i v)=some (qp e (i*sz) new)
 |[],e,i,h,g=>by simp at g
 |a::r,e,i,h,g=>by
  simp only[flatten]at h;split at h
  .rename_i c hc;split at h
   .rename_i cs d;cases h;obtain⟨o,_,_⟩:=zI hc;obtain⟨p,_,_⟩:=zI l;cases i with
    |zero=>
     simp only[List.set_cons_zero,flatten,l,d,qp,Nat.zero_mul,List.take_zero,List.nil_append,QS];rw[p,←o,List.drop_left]
    |succ i=>
     have f:i<r.length:=by simpa using g
     simp only[List.set_cons_succ,flatten,hc,zL5 l d f,qp];have s:(i+1)*sz=c.length+i*sz:=by rw[Nat.succ_mul,o];omega
     have q:(i+1)*sz+new.length=c.length+(i*sz+new.length):=by omega
     rw[q,s,List.take_length_add_append,List.drop_length_add_append];simp[Ql]
   .cases h
  .cases h
theorem zKW{c:AV}(h:c.one=true):cellsOf c 1=some [c]:=by
 cases c<;>first|(cases h;done)|rfl
theorem z4{sz:Nat}:∀{len:Nat}{cs es:JE},zCt sz len cs=some es->es=chunks sz len cs/\es.length=len/\0<sz/\len*sz<=cs.length/\flatten sz es=some (cs.take (len*sz))
 |len,cs,es,h=>by
  unfold zCt at h;split at h
  .rename_i hc;cases h;simp only[qr,Qo,Qg]at hc;obtain⟨⟨h1,p⟩,s⟩:=hc;refine⟨rfl,zJ9 _ _ _,p,h1,?_⟩
   have key:∀(len:Nat)(cs:JE),len*sz<=cs.length->cs.all AV.one=true->flatten sz (chunks sz len cs)=some (cs.take (len*sz)):=by
    intro len
    induction len with
    |zero=>intro cs _ _;simp[chunks,flatten]
    |succ len v=>
     intro cs o d;have l:len*sz<=(cs.drop sz).length:=by rw[Qv];rw[Nat.succ_mul]at o;omega
     have e:(cs.drop sz).all AV.one=true:=QD.2 λx t=>QD.1 d x (QW t)
     have f:=v (cs.drop sz) l e;have g:sz<=cs.length:=by rw[Nat.succ_mul]at o;omega
     obtain⟨i,q,u⟩:∃i,chunks sz (len+1) cs=i::chunks sz len (cs.drop sz)/\cellsOf i sz=some (cs.take sz):=by
      by_cases h1:sz=1
      .subst h1;cases cs with
       |nil=>simp at g
       |cons c r=>
        rw[QU,qr]at d;exact⟨c,rfl,by simpa using zKW d.1⟩
      .refine⟨.agg (cs.take sz),?_,?_⟩
       .simp only[chunks]
       .have:(AV.agg (cs.take sz)).cells.length=sz:=by simp[AV.cells,g]
        simp only[cellsOf,AV.flat,this,Nat.beq_refl];rfl
     simp only[q,flatten,u,f];rw[Nat.succ_mul,Nat.add_comm (len*sz) sz,List.take_add]
   exact key _ _ h1 s
  .cases h
theorem zE6:∀s:JV,flatten 1 (s.map λb=>AV.int .u8 (.ofNat b))=some (s.map λb=>AV.int .u8 (.ofNat b))
 |[]=>rfl
 |a::r=>by
  simp only[Qa,flatten,zKW (c:=.int .u8 (.ofNat a)) rfl,zE6 r];rfl
theorem zHS:∀{es:JE}{s:JV},zAZ es=some s->flatten 1 es=some es
 |[],s,h=>rfl
 |a::r,s,h=>by
  unfold zAZ at h;split at h
  .cases ‹_::_=[]›
  .rename_i b g e;cases e;split at h
   .rename_i f d;simp only[flatten,zKW (c:=.int .u8 (.ofNat b)) rfl,zHS d];rfl
   .cases h
  .cases h
theorem zGV{sz:Nat}{e:AV}{c:JE}(h:cellsOf e sz=some c):∀n:Nat,flatten sz (List.replicate n e)=some (rep n c)
 |0=>rfl
 |n+1=>by simp only[List.replicate_succ,flatten,h,zGV h n,rep]
theorem zNA(c:JE):∀n:Nat,(rep n c).length=n*c.length
 |0=>by simp[rep]
 |n+1=>by simp[rep,zNA c n,Nat.succ_mul];omega
theorem zQ0(c:JE):∀{l n:Nat},l<=n->(rep n c).take (l*c.length)=rep l c
 |0,n,_=>by simp[rep]
 |l+1,0,h=>by omega
 |l+1,n+1,h=>by
  simp only[rep];rw[Nat.succ_mul,Nat.add_comm,List.take_length_add_append,zQ0 c (by omega)]
theorem zPo{E:Env}{w:World}{sz:Nat}{es:JE}{cv:Value}(h:VR E w (.qo sz es) cv):∃d,flatten sz es=some d:=by
 have key:∀(es:JE),(∀(i:Nat) e,es[i]?=some e->∃c,cellsOf e sz=some c)->∃d,flatten sz es=some d:=by
  intro es
  induction es with
  |nil=>intro _;exact⟨[],rfl⟩
  |cons a r x=>
   intro hk;obtain⟨c,hc⟩:=hk 0 a rfl;obtain⟨d,l⟩:=x λi e g=>hk (i+1) e g
   exact⟨c++d,by simp only[flatten,hc,l]⟩
 cases h with
 |wq=>exact⟨[],rfl⟩
 |qo _ b o cap _ f z q t p y hc=>
  refine key es λi e g=>?_
  have v:i<es.length:=(QC.1 g).1;have h1:e.flat=true:=by have:=p i e g;cases e<;>first|rfl|cases this
  have s:=((y i e g).cells h1).1.1;have u:=(hc i v).1;refine⟨e.cells,?_⟩
  have:e.cells.length=sz:=by rw[s];simpa using u
  simp only[cellsOf,h1,this,Nat.beq_refl]
theorem zL6{H:Heap}{sz:Nat}{es c:JE}(h:flatten sz es=some c):content H sz (.qo sz es)=some (es.length,c):=by
 simp only[content,Nat.beq_refl,h]
theorem zKb{E:Env}{w:World}{H:Heap}{sz:Nat}{u:AV}{f:JE}{cv:Value}(r:VR E w u cv)(h:zAO H sz u=some f):∃d,flatten sz f=some d/\content H sz u=some (f.length,d)/\d.length=f.length*sz:=by
 unfold zAO at h;split at h
 .cases h;exact⟨[],rfl,rfl,by simp⟩
 .rename_i g es;split at h
  .rename_i e;cases h;have e:=zb e;subst e;obtain⟨d,c⟩:=zPo r;exact⟨d,c,zL6 c,(zQ c).1⟩
  .cases h
 .rename_i t off len g cp ex;split at h
  .rename_i e;split at h
   .rename_i str cs p;split at h
    .rename_i i;obtain⟨_,o,_,v,l⟩:=z4 h;refine⟨_,l,?_,(zQ l).1⟩
     simp only[content,e,p,i,o]
    .cases h
   .cases h
  .cases h
 .rename_i s;split at h
  .rename_i e;cases h;have q:=zb e;subst q;exact⟨_,zE6 s,by simp[content,e],by simp⟩
  .cases h
 .cases h
theorem zXH{sz:Nat}{es q cs:JE}{i off s:Nat}{l:Bool}{e v:AV}(u:flatten sz es=some q)(h:q=cs.take (es.length*sz))(z:es.length*sz<=cs.length)(r:es[i]?=some e)(d:part e.cells off s l=some v):part cs (i*sz+off) s l=some v:=by
 obtain⟨h1,t⟩:=zQ u;obtain⟨x,p,_⟩:=zI (t i e r);have y:i<es.length:=(QC.1 r).1;have o:i*sz+sz<=es.length*sz:=by rw[←Nat.succ_mul];exact Nat.mul_le_mul_right _ y
 have c:e.cells=(cs.drop (i*sz)).take sz:=by
  rw[p,h,List.drop_take,List.take_take,Nat.min_eq_left (by omega)]
 have f:e.cells.length=sz:=by rw[p];exact x
 unfold part at d⊢;cases l with
 |true=>
  simp only at d⊢;split at d
  .rename_i g;have g:=QN g;rw[f]at g;have:Nat.ble (i*sz+off+s) cs.length=true:=by rw[Qo];omega
   rw[this];cases d;simp only;rw[c,List.drop_take,List.take_take,Nat.min_eq_left (by omega),List.drop_drop]
  .cases d
 |false=>
  simp only at d⊢;rw[c,List.getElem?_take]at d;split at d
  .rw[List.getElem?_drop]at d;exact d
  .cases d
theorem zMw:∀{d:List Kd}{a b:JE}{r:Bool},eqv d a b=some r->zBv d a b=some r/\a.length=d.length/\b.length=d.length
 |[],a,b,r,h=>by
  unfold eqv at h;split at h
  .cases h;exact⟨rfl,rfl,rfl⟩
  .cases ‹_=_::_›
  .cases h
 |k::d,a,b,r,h=>by
  unfold eqv at h;split at h
  .cases ‹_=[]›
  .rename_i z t a x b y e;cases e;split at h
   .rename_i p l;cases d with
    |nil=>
     simp only at h;split at h
     .cases h;simp only[zBv,l];cases r<;>simp[zBv]
     .cases h
    |cons A d=>
     simp only at h;split at h
     .rename_i q v;cases h;obtain⟨h1,g,o⟩:=zMw v;simp only[zBv,l];cases p with
      |true=>simp only[h1,Bool.true_and];exact⟨trivial,by simp[g],by simp[o]⟩
      |false=>exact⟨by simp,by simp[g],by simp[o]⟩
     .cases h
   .cases h
  .cases h
structure Rs(G:Cx)(nt:Nat)(Z0 B0:Nat->Prop)(w0:World)(dl:List Deferred)(E:Env)(w:World)(a:Act)(st:Sta):Prop where
 out:∃β,SR G nt E w a β st/\Kp Z0 B0 w0 E.Z (BS E β st.H st.V) w/\a.defers=dl
def OpK(P:Program)(G:Cx)(nt:Nat)(f e:Nat->Prop)(w0:World)(dl:List Deferred)(o:Oper)(w:World)(a:Act)(k:AV->Sta->Prop):Prop:=
 ∀(next:Act->World->Prop)(Q:Exit->Act->World->Prop),(∀v c d E' w',k v c->Rs G nt f e w0 dl E' w' (a.put o.dst d) (c.put o.dst v)->next (a.put o.dst d) w')->o.wp P a w next Q
section
variable{P:Program}{G:Cx}{nt:Nat}{E:Env}{w:World}{a:Act}{β:Nat->Option Nat}{st:Sta}
theorem FrR.uW{c:Env}{fr:Fr}{t:Nat}{X:AV}(d:FrR E w fr a nt)(hm:∀{v cv},VR E w v cv->VR c w v cv)(f:VR c w X (a.tmps.getD t undef)):FrR c w (fr.put t X) a nt:=
 ⟨d.size,λu v h=>by
  rw[Fr.qu]at h;split at h
  .rename_i e;subst e;cases h;exact f
  .exact hm (d.get u v h)⟩
theorem zEu(d:GPP G){fr:Fr}{x:XV}{j:Nat}(hx:zo x=true)(h:x.ev G fr=some (.sym j)):∃t,x=.t t/\fr.get t=some (.sym j):=by
 cases x with
 |t n=>exact⟨n,rfl,h⟩
 |c v=>cases h;cases hx
 |g n=>have:=d n _ h;cases this
theorem zCS{fr:Fr}{y:XV}{u X:AV}{t j:Nat}(h:y.ev G fr=some u)(f:fr.get t=some (.sym j))(d:u≠.sym j):y.ev G (fr.put t X)=some u:=by
 cases y with
 |t n=>
  have h:fr.get n=some u:=h;show(fr.put t X).get n=some u
  rw[Fr.qu];split
  .rename_i e;subst e;rw[f]at h;cases h;exact absurd rfl d
  .exact h
 |c v=>exact h
 |g n=>exact h
theorem zF{fr:Fr}{X:AV}{t:Nat}:(XV.t t).ev G (fr.put t X)=some X:=by
 show(fr.put t X).get t=some X
 rw[Fr.qu];simp
theorem VR.vM{j:Nat}{cv:Value}(h:VR E w (.sym j) cv):cv=E.σ j:=by
 cases h with
 |sym _ _ c _=>exact c
theorem VR.bk{E':Env}{w':World}{mv:Nat}{x cv:Value}{v:AV}(h:VR E' w' v cv)(c:PP v):VR (zk E E' mv x) w' v cv:=
 VR.pp (E:=E') (E':=zk E E' mv x) (w:=w') (w':=w') (λb d=>⟨d,rfl⟩) h c
theorem OR.bk{E':Env}{w':World}{mv b:Nat}{x:Value}{str:Bool}{cs:JE}(h:OR E' w' b (.cells str cs))(d:∀c∈cs,PP c):OR (zk E E' mv x) w' b (.cells str cs):=
 OR.pp (E:=E') (E':=zk E E' mv x) (w:=w') (w':=w') rfl (λb e=>⟨e,rfl⟩) d h
theorem OR.uZ{E':Env}{w':World}{mv b:Nat}{x:Value}{es:List (AV×AV)}(h:OR E' w' b (.map es))(c:∀p∈es,PP p.1/\PP p.2):OR (zk E E' mv x) w' b (.map es):=
 OR.pm (E:=E') (E':=zk E E' mv x) (w:=w') (w':=w') rfl (λb d=>⟨d,rfl⟩) c h
theorem OutW.wL(s:SR G nt E w a β st){xb:XB}{E':Env}{w':World}{H':Heap}{v:AV}{cv:Value}(O:OutW G E w st xb E' w' H' v cv)(D:∀b o,xb=some (b,o)->∃j vi,st.V.get j=some vi/\vi.qA=true/\β j=some b)
  {V0:Vecs} (g:∀j vi,V0.get j=some vi->st.V.get j=some vi/\(vi.qA=true->∀b o,xb=some (b,o)->β j≠some b)) {h' sz cp:Nat} {str ex:Bool} {cs es:JE} (f:(h',HO.cells str cs)∈H') (t:∀p∈st.H,p∈H'/\p.1≠h')
  (hv:v=.row h' 0 es.length sz cp ex) (I:∀e∈es,PP e) (u:∀c∈cs,PP c) (Y:es.length*sz<=cs.length) (F:flatten sz es=some (cs.take (es.length*sz))) {d:Option Nat} (S:∀n,d=some n->n<nt):
  ∃x R,SR G nt (zk E E' st.mv x) w' (a.put d cv) R ⟨qv st.fr d (.sym st.mv),st.H,(st.mv,.vec sz es)::V0,st.m,st.mv+1⟩/\Kp E.Z (BS E β st.H st.V) w (zk E E' st.mv x).Z (BS (zk E E' st.mv x) R st.H ((st.mv,.vec sz es)::V0)) w':=by
 subst hv;have l:=zET.ur O.hv;have r:∀j vi,V0.get j=some vi->j≠st.mv:=λj vi h=>by have:=(s.qR j vi (g j vi h).1).1;omega
 refine⟨cv,λj=>if j=st.mv then some (E'.ρ h')else β j,O.sr s D cv _ (st.mv+1) _ (QT _) ?_ (.sym _ (QR _)) S ?_ ?_ ?_⟩
 .exact .sym _ _ (by simp[zk]) l.one
 .intro j vi h;rw[Vecs.qf]at h;split at h
  .rename_i e;subst e;cases h;refine .inr ⟨QR _,⟨I,.inr ⟨E'.ρ h',str,cs,cp,ex,by simp,?_,?_,u,Y,F⟩⟩,λz i off e=>(by cases e),λ_ b' y=>?_⟩
   .exact(O.vE.obj _ f).bk u
   .simpa[zk]using l
   .simp only[if_true,QK]at y;subst y;refine⟨O.vE.nz _ f,λp M e=>?_,?_⟩
    .obtain⟨q1,J⟩:=t p M;rw[←O.agree p.1 (s.hr.qx p M)]at e;exact J (O.vE.inj p q1 _ f e)
    .rcases O.own _ f with⟨q,L,e⟩|h|h
     .exfalso
      obtain⟨q1,J⟩:=t q L;rw[←O.agree q.1 (s.hr.qx q L)]at e;exact J (O.vE.inj q q1 _ f e)
     .exact .inl h
     .exact .inr h
  .refine .inl ⟨(g j vi h).1,λC=>⟨?_,(g j vi h).2 C⟩⟩
   simp[r j vi h]
 .intro j T vi A h1 U h3 W X h6;have key:∀j vi,Vecs.get ((st.mv,VI.vec sz es)::V0) j=some vi->vi.qA=true->¬(st.V.get j=some vi/\(if j=st.mv then some (E'.ρ h')else β j)=β j/\∀b o,xb=some (b,o)->β j≠some b)->j=st.mv:=by
   intro j vi h C hn;rw[Vecs.qf]at h;split at h
   .rename_i e;exact e.symm
   .exact absurd ⟨(g j vi h).1,by simp[r j vi h],(g j vi h).2 C⟩ hn
  rw[key j vi h1 h3 X,key T A U W h6]
 .intro z aa B N h;rw[Vecs.qf]at h;split at h
  .omega
  .exact⟨by simp[show z≠st.mv by omega],B,(g z _ h).1,rfl⟩
theorem OutW.vI(s:SR G nt E w a β st){E':Env}{w':World}{H':Heap}{v:AV}{cv:Value}(O:OutW G E w st none E' w' H' v cv)
  {V0:Vecs} (c:∀j vi,V0.get j=some vi->st.V.get j=some vi) {sz:Nat} (J:v=.qa) {d:Option Nat} (y:∀n,d=some n->n<nt):
  ∃x u,SR G nt (zk E E' st.mv x) w' (a.put d cv) u ⟨qv st.fr d (.sym st.mv),st.H,(st.mv,.vec sz [])::V0,st.m,st.mv+1⟩/\Kp E.Z (BS E β st.H st.V) w (zk E E' st.mv x).Z (BS (zk E E' st.mv x) u st.H ((st.mv,.vec sz [])::V0)) w':=by
 subst J;have g:cv=.slice none 0 0:=by cases O.hv;rfl
 have f:∀j vi,V0.get j=some vi->j≠st.mv:=λj vi h=>by have:=(s.qR j vi (c j vi h)).1;omega
 refine⟨cv,λj=>if j=st.mv then none else β j,O.sr s (λb o e=>(by cases e)) cv _ (st.mv+1) _ (QT _) ?_ (.sym _ (QR _)) y ?_ ?_ ?_⟩
 .exact .sym _ _ (by simp[zk]) (by rw[g];rfl)
 .intro j vi h;rw[Vecs.qf]at h;split at h
  .rename_i e;subst e;cases h;exact .inr ⟨QR _,⟨λe I=>(by cases I),.inl ⟨by simp,by simp[zk,g],rfl⟩⟩,λr i off e=>(by cases e),λ_ L q=>(by simp at q)⟩
  .exact .inl ⟨c j vi h,λN=>⟨by simp[f j vi h],λb o e=>(by cases e)⟩⟩
 .intro j z vi l h1 A R M B F;have key:∀j vi,Vecs.get ((st.mv,VI.vec sz [])::V0) j=some vi->¬(st.V.get j=some vi/\(if j=st.mv then none else β j)=β j/\∀b o,(none:XB)=some (b,o)->β j≠some b)->j=st.mv:=by
   intro j vi h D;rw[Vecs.qf]at h;split at h
   .rename_i e;exact e.symm
   .exact absurd ⟨c j vi h,by simp[f j vi h],λb o e=>by cases e⟩ D
  rw[key j vi h1 B,key z l A F]
 .intro r C p t h;rw[Vecs.qf]at h;split at h
  .omega
  .exact⟨by simp[show r≠st.mv by omega],p,c r _ h,rfl⟩
theorem OutW.w6(s:SR G nt E w a β st){xb:XB}{E':Env}{w':World}{H':Heap}{v:AV}{cv:Value}(O:OutW G E w st xb E' w' H' v cv)(r:∀b o,xb=some (b,o)->(st.m,o)∈H'/\∃j vi,st.V.get j=some vi/\vi.qA=true/\β j=some b)
  (g:∀j vi b o,st.V.get j=some vi->vi.qA=true->xb=some (b,o)->β j=some b->VOK (zk E E' st.mv undef) w' st.V β j vi) (t:∀b o,xb=some (b,o)->∀p∈st.H,E.ρ p.1≠b) (A:PP v) {d:Option Nat} (B:∀n,d=some n->n<nt):
  SR G nt (zk E E' st.mv undef) w' (a.put d cv) β ⟨qv st.fr d v,st.H,st.V,st.m,st.mv⟩/\Kp E.Z (BS E β st.H st.V) w (zk E E' st.mv undef).Z (BS (zk E E' st.mv undef) β st.H st.V) w':=by
 refine O.sr s (λb o e=>(r b o e).2) undef st.V st.mv β (QA _) (O.hv.bk A) A.cp B ?_ ?_ ?_
 .intro j vi h;by_cases q:vi.qA=true/\∃b o,xb=some (b,o)/\β j=some b
  .obtain⟨q,b,o,e,f⟩:=q;refine .inr ⟨(s.qR j vi h).1,g j vi b o h q e f,λM i off e=>(by subst e;cases q),λ_ C c=>?_⟩
   rw[f]at c;cases c;have h1:=O.vE.nz _ (r b o e).1;rw[O.vl b o e]at h1;exact⟨h1,t b o e,.inl ⟨b,o,e,rfl⟩⟩
  .exact .inl ⟨h,λu=>⟨rfl,λb o e f=>q ⟨u,b,o,e,f⟩⟩⟩
 .intro j x vi l h1 y I D F L;have key:∀j vi,st.V.get j=some vi->¬(st.V.get j=some vi/\β j=β j/\∀b o,xb=some (b,o)->β j≠some b)->∃b o,xb=some (b,o)/\β j=some b:=by
   intro j vi h J;apply Classical.byContradiction;intro hc;exact J ⟨h,rfl,λb o e f=>hc ⟨b,o,e,f⟩⟩
  obtain⟨b,o,e,f⟩:=key j vi h1 F;obtain⟨C,N,z,c⟩:=key x l y L;rw[e]at z;cases z;exact s.qQ j x vi l b h1 y I D f c
 .intro M sz es _ h;exact⟨rfl,es,h,rfl⟩
theorem OutW.uq(s:SR G nt E w a β st){xb:XB}{E':Env}{w':World}{H':Heap}{v:AV}{cv:Value}(O:OutW G E w st xb E' w' H' v cv)(t:∀b o,xb=some (b,o)->(st.m,o)∈H'/\∃j vi,st.V.get j=some vi/\vi.qA=true/\β j=some b)
  (l:∀j vi b o,st.V.get j=some vi->vi.qA=true->xb=some (b,o)->β j=some b->VOK (zk E E' st.mv cv) w' st.V β j vi) (B:∀b o,xb=some (b,o)->∀p∈st.H,E.ρ p.1≠b) {q i off u:Nat} {x:JE} (y:st.V.get q=some (.vec u x)) (hi:i<x.length) {C:Nat} (D:β q=some C)
  (A:cv=.pointer (some ⟨C,i*u+off,none⟩)) {d:Option Nat} (T:∀n,d=some n->n<nt):
  SR G nt (zk E E' st.mv cv) w' (a.put d cv) β ⟨qv st.fr d (.sym st.mv),st.H,(st.mv,.qU q i off)::st.V,st.m,st.mv+1⟩/\Kp E.Z (BS E β st.H st.V) w (zk E E' st.mv cv).Z (BS (zk E E' st.mv cv) β st.H ((st.mv,.qU q i off)::st.V)) w':=by
 have J:=(s.qR q _ y).1;refine O.sr s (λb o e=>(t b o e).2) cv _ (st.mv+1) β (QT _) (.sym _ _ (by simp[zk]) (by rw[A];rfl)) (.sym _ (QR _)) T ?_ ?_ ?_
 .intro j vi h;rw[Vecs.qf]at h;split at h
  .rename_i e;subst e;cases h;refine .inr ⟨QR _,?_,λS i2 N e=>(by cases e;omega),λc=>(by cases c)⟩
   intro sz es z;rw[Vecs.qf,if_neg (by omega),y]at z
   cases z;exact⟨hi,C,D,by simp[zk,A]⟩
  .by_cases c:vi.qA=true/\∃b o,xb=some (b,o)/\β j=some b
   .obtain⟨c,b,o,e,g⟩:=c;refine .inr ⟨Nat.lt_succ_of_lt (s.qR j vi h).1,?_,λS i off e=>(by subst e;cases c),λ_ X f=>?_⟩
    .have:=l j vi b o h c e g;cases vi with
     |qU=>cases c
     |_=>exact this
    .rw[g]at f;cases f;have h1:=O.vE.nz _ (t b o e).1;rw[O.vl b o e]at h1;exact⟨h1,B b o e,.inl ⟨b,o,e,rfl⟩⟩
   .exact .inl ⟨h,λF=>⟨rfl,λb o e g=>c ⟨F,b,o,e,g⟩⟩⟩
 .intro j I vi r h1 W R L Y h6;have key:∀j vi,Vecs.get ((st.mv,VI.qU q i off)::st.V) j=some vi->vi.qA=true->¬(st.V.get j=some vi/\β j=β j/\∀b o,xb=some (b,o)->β j≠some b)->st.V.get j=some vi/\∃b o,xb=some (b,o)/\β j=some b:=by
   intro j vi h c hn;rw[Vecs.qf]at h;split at h
   .cases h;cases c
   .refine⟨h,Classical.byContradiction λhc=>hn ⟨h,rfl,λb o e g=>hc ⟨b,o,e,g⟩⟩⟩
  obtain⟨g1,b,o,e,g⟩:=key j vi h1 R Y;obtain⟨g2,X,o',M,f⟩:=key I r W L h6;rw[e]at M;cases M;exact s.qQ j I vi r b g1 g2 R L g f
 .intro S sz es U h;rw[Vecs.qf,if_neg (by omega)]at h
  exact⟨rfl,es,h,rfl⟩
theorem OutW.replace(s:SR G nt E w a β st){u:Nat}{B:HO}{E':Env}{w':World}{H':Heap}{v:AV}{cv:Value}(O:OutW G E w st (some (u,B)) E' w' H' v cv){c:Nat}{g vi1:VI}(l:st.V.get c=some g)(q:g.qA=true)(p:β c=some u)
  (J:vi1.qA=true) (x:VOK (zk E E' st.mv undef) w' ((c,vi1)::st.V.del c) β c vi1) {X:HO} (A:(st.m,X)∈H') (y:∀sz es,vi1=.vec sz es->∃r,g=.vec sz r/\r.length=es.length) (L:PP v) {d:Option Nat} (M:∀n,d=some n->n<nt):
  SR G nt (zk E E' st.mv undef) w' (a.put d cv) β ⟨qv st.fr d v,st.H,(c,vi1)::st.V.del c,st.m,st.mv⟩/\Kp E.Z (BS E β st.H st.V) w (zk E E' st.mv undef).Z (BS (zk E E' st.mv undef) β st.H ((c,vi1)::st.V.del c)) w':=by
 have D:=s.bz c g u l q p;refine O.sr s (λb o e=>(by cases e;exact⟨c,g,l,q,p⟩)) undef _ st.mv β (QA _) (O.hv.bk L) L.cp M ?_ ?_ ?_
 .intro j t h;rw[Vecs.qf]at h;split at h
  .rename_i e;subst e;cases h;refine .inr ⟨(s.qR _ _ l).1,x,λj2 i off e=>(by subst e;cases J),λ_ b' z=>?_⟩
   rw[p]at z;cases z;have h1:=O.vE.nz _ A;rw[O.vl u B rfl]at h1;exact⟨h1,D.2,.inl ⟨u,B,rfl,rfl⟩⟩
  .rename_i f;rw[Vecs.qL,if_neg f]at h;refine .inl ⟨h,λI=>⟨rfl,λb o e C=>?_⟩⟩
   cases e;exact f (s.qQ c j g t u l h q I p C)
 .intro j N t F h1 S Y T U h6;have key:∀j t,Vecs.get ((c,vi1)::st.V.del c) j=some t->t.qA=true->¬(st.V.get j=some t/\β j=β j/\∀b o,(some (u,B):XB)=some (b,o)->β j≠some b)->j=c:=by
   intro j t h I hn;rw[Vecs.qf]at h;split at h
   .rename_i e;exact e.symm
   .rename_i f;rw[Vecs.qL,if_neg f]at h;refine absurd ⟨h,rfl,λb o e C=>?_⟩ hn
    cases e;exact f (s.qQ c j g t u l h q I p C)
  rw[key j t h1 Y U,key N F S T h6]
 .intro j2 sz es R h;rw[Vecs.qf]at h;split at h
  .rename_i e;subst e;cases h;obtain⟨r,e1,W⟩:=y sz es rfl;exact⟨rfl,r,by rw[l,e1],W⟩
  .rename_i f;rw[Vecs.qL,if_neg f]at h;exact⟨rfl,es,h,rfl⟩
end
section
variable{P:Program}{G:Cx}{nt:Nat}{E:Env}{w:World}{a:Act}{β:Nat->Option Nat}{st:Sta}
 {Z0 B0:Nat->Prop} {w0:World} {dl:List Deferred} {o:Oper} {k:AV->Sta->Prop}
theorem zCh{H:Heap}{h:Nat}{o:HO}:Heap.get ((h,o)::H) h=some o:=by simp only[Heap.get,Nat.beq_refl]
theorem zBD{n k:Nat}{e:AV}(d:e.flat=true)(h:∀c∈e.cells,CP n k c):CP n k e:=by
 cases e with
 |agg cs=>exact .agg _ h
 |qg cs=>cases d
 |_=>exact h _ (.head _)
theorem zL7{e:AV}(d:e.flat=true)(h:∀c∈e.cells,PP c):PP e:=by
 cases e with
 |agg cs=>exact .agg _ h
 |qg cs=>cases d
 |_=>exact h _ (.head _)
structure Ctx(P:Program)(G:Cx)(nt:Nat)(Z0 B0:Nat->Prop)(w0:World)(dl:List Deferred)(E:Env)(w:World)(a:Act)(β:Nat->Option Nat)(st:Sta)(o:Oper)(xop:XO):Prop where
 s:SR G nt E w a β st
 kp:Kp Z0 B0 w0 E.Z (BS E β st.H st.V) w
 df:a.defers=dl
 hG:GPP G
 hm:zAr P G
 hc:zAN P o.op=some xop
 hd:∀n,o.dst=some n->n<nt
 ok:zn xop=true
theorem zPH{E2:Env}{c:World}{β2:Nat->Option Nat}{st2:Sta}{d:Option Nat}{cv:Value}(h:SR G nt E2 c (a.put d cv) β2 st2/\Kp E.Z (BS E β st.H st.V) w E2.Z (BS E2 β2 st2.H st2.V) c)(f:Kp Z0 B0 w0 E.Z (BS E β st.H st.V) w)(e:a.defers=dl):Rs G nt Z0 B0 w0 dl E2 c (a.put d cv) st2:=
 ⟨β2,h.1,f.trans h.2,by rw[DRun.put_defers];exact e⟩
theorem Ctx.gen{e:XO}(c:Ctx P G nt Z0 B0 w0 dl E w a β st o e){call:Sy.Call}(d:zEp P G call){v:AV}{H':Heap}{m':Nat}(hx:xoS G call st.fr st.H st.m e=some (v,H',m'))(g:CP st.mv m' v)(f:HCP st.mv m' H')(hk:k v ⟨st.fr,H',st.V,m',st.mv⟩):
  OpK P G nt Z0 B0 w0 dl o w a k:=by
 intro next Q r;refine zEq c.s.hr c.s.hf c.s.hg c.hm d c.hc (λh h1 i p=>by have:=c.s.qx h p;omega) hx next Q λl E' w' h1 i q=>?_
 exact r v _ l E' w' hk (zPH (st:=st) (st2:=⟨qv st.fr o.dst v,H',st.V,m',st.mv⟩) (c.s.step h1 i q g f c.hd) c.kp c.df)
theorem Ctx.wG{d:XO}(c:Ctx P G nt Z0 B0 w0 dl E w a β st o d)(e:zJd d=true)(h:WXd st (xoS G zd st.fr st.H st.m d) k):OpK P G nt Z0 B0 w0 dl o w a k:=by
 unfold WXd at h;split at h
 .rename_i v i l f;obtain⟨h1,g⟩:=zKV e c.ok c.hG c.s.qY c.s.cH f;exact c.gen zC1 f h1 g h
 .exact h.elim
theorem Ctx.val{d:XO}(c:Ctx P G nt Z0 B0 w0 dl E w a β st o d){v:AV}(hx:xoS G zd st.fr st.H st.m d=some (v,st.H,st.m))(e:CP st.mv st.m v)(hk:k v st):OpK P G nt Z0 B0 w0 dl o w a k:=
 c.gen zC1 hx e c.s.cH hk
theorem Ctx.ext{d:XO}(c:Ctx P G nt Z0 B0 w0 dl E w a β st o d){xb:XB}(g:∀b o,xb=some (b,o)->OR E w b o/\¬E.Z b/\∀p∈st.H,E.ρ p.1≠b){fr':Fr}(e:FrR (zX E st.m xb) w fr' a nt)
  {v:AV} {H':Heap} {n':Nat} (hx:xoS G zd fr' (extH st.H st.m xb) (zCE st.m xb) d=some (v,H',n')) (hH:∀p∈st.H,p∈H') {v2:AV} {H2:Heap} {V2:Vecs} {m2 mv2:Nat}
  (i:∀cv E' w',OutW G E w st xb E' w' H' v cv->∃E2 β2,SR G nt E2 w' (a.put o.dst cv) β2 ⟨qv st.fr o.dst v2,H2,V2,m2,mv2⟩/\Kp E.Z (BS E β st.H st.V) w E2.Z (BS E2 β2 H2 V2) w') (hk:k v2 ⟨st.fr,H2,V2,m2,mv2⟩):OpK P G nt Z0 B0 w0 dl o w a k:=by
 intro next Q f;refine zUI c.s c.hG c.hm g e c.hc hx hH next Q λcv E' w' O=>?_
 obtain⟨E2,β2,h⟩:=i cv E' w' O;exact f v2 _ cv E2 w' hk (zPH (st:=st) (st2:=⟨qv st.fr o.dst v2,H2,V2,m2,mv2⟩) h c.kp c.df)
theorem zAH(s:SR G nt E w a β st){t j:Nat}(c:st.fr.get t=some (.sym j)){xb:XB}{X:AV}(d:VR (zX E st.m xb) w X (E.σ j)):FrR (zX E st.m xb) w (st.fr.put t X) a nt:=
 s.hf.uW (zEt s) (by rw[(s.hf.get t _ c).vM];exact d)
structure VecIn(E:Env)(w:World)(st:Sta)(β:Nat->Option Nat)(j sz:Nat)(es:JE)(b:Nat)(str:Bool)(cs:JE)(cp:Nat)(ex:Bool):Prop where
 hb:β j=some b
 uS:OR E w b (.cells str cs)
 row:zET w b es.length sz cp ex (E.σ j)
 pc:∀c∈cs,PP c
 hl:es.length*sz<=cs.length
 ue:flatten sz es=some (cs.take (es.length*sz))
theorem zDV(s:SR G nt E w a β st){j sz:Nat}{es:JE}(h:st.V.get j=some (.vec sz es)):(∀e∈es,PP e)/\((β j=none/\E.σ j=.slice none 0 0/\es=[])\/∃b str cs cp ex,VecIn E w st β j sz es b str cs cp ex):=by
 obtain⟨h1,c⟩:=(s.qR j _ h).2;refine⟨h1,c.imp id ?_⟩
 rintro ⟨b,str,cs,cp,ex,q1,q2,q3,q4,q5,q6⟩
 exact⟨b,str,cs,cp,ex,q1,q2,q3,q4,q5,q6⟩
section
variable{j sz b cp:Nat}{es cs:JE}{str ex:Bool}
theorem VecIn.xb(s:SR G nt E w a β st)(h:st.V.get j=some (.vec sz es))(v:VecIn E w st β j sz es b str cs cp ex):∀c o',(some (b,HO.cells str cs):XB)=some (c,o')->OR E w c o'/\¬E.Z c/\∀p∈st.H,E.ρ p.1≠c:=by
 intro c o' e;cases e;have:=s.bz j _ b h rfl v.hb;exact⟨v.uS,this.1,this.2⟩
theorem VecIn.uz(h:st.V.get j=some (.vec sz es))(v:VecIn E w st β j sz es b str cs cp ex):∀c o',(some (b,HO.cells str cs):XB)=some (c,o')->∃j vi,st.V.get j=some vi/\vi.qA=true/\β j=some c:=by
 intro c o' e;cases e;exact⟨j,_,h,rfl,v.hb⟩
theorem VecIn.vr(v:VecIn E w st β j sz es b str cs cp ex):VR (zX E st.m (some (b,.cells str cs))) w (.row st.m 0 es.length sz cp ex) (E.σ j):=
 v.row.vr (by simp[zX]) (.inr rfl)
theorem VecIn.self(s:SR G nt E w a β st)(g:∀e∈es,PP e)(h:st.V.get j=some (.vec sz es))(v:VecIn E w st β j sz es b str cs cp ex){E':Env}{w':World}{H':Heap}{u:AV}{cv:Value}(O:OutW G E w st (some (b,.cells str cs)) E' w' H' u cv)(d:(st.m,HO.cells str cs)∈H')(x:Value):
  ∀c vi f o',st.V.get c=some vi->vi.qA=true->(some (b,HO.cells str cs):XB)=some (f,o')->β c=some f->VOK (zk E E' st.mv x) w' st.V β c vi:=by
 intro c vi f o' h1 l e o;cases e;have:=s.qQ j c _ _ b h h1 rfl l v.hb o;subst this;rw[h]at h1;cases h1;have i:=O.vE.obj _ d;rw[O.vl b _ rfl]at i;have p:j≠st.mv:=by have:=(s.qR j _ h).1;omega
 refine⟨g,.inr ⟨b,str,cs,cp,ex,v.hb,i.bk v.pc,?_,v.pc,v.hl,v.ue⟩⟩
 have:(zk E E' st.mv x).σ j=E.σ j:=by simp[zk,p]
 rw[this];exact v.row.mono O.qn
theorem VecIn.bz(s:SR G nt E w a β st)(h:st.V.get j=some (.vec sz es))(v:VecIn E w st β j sz es b str cs cp ex):∀c o',(some (b,HO.cells str cs):XB)=some (c,o')->∀p∈st.H,E.ρ p.1≠c:=λc o' e=>(v.xb s h c o' e).2.2
end
theorem zYY{x:XV}(c:Ctx P G nt Z0 B0 w0 dl E w a β st o (.wb x)){j sz:Nat}{es:JE}(hx:x.ev G st.fr=some (.sym j))(d:st.V.get j=some (.vec sz es))(hk:k (.int .i64 (.ofNat es.length)) st):OpK P G nt Z0 B0 w0 dl o w a k:=by
 have g:zo x=true:=by have:=c.ok;simp only[zn,XO.qb,zM,QO,QU,List.all_nil]at this;exact this
 obtain⟨t,rfl,i⟩:=zEu c.hG g hx;obtain⟨h,⟨h1,l,rfl⟩|⟨b,str,cs,cp,ex,v⟩⟩:=zDV c.s d
 .refine c.ext (xb:=none) (λb o e=>by cases e) (zAH c.s i (X:=.qa) (xb:=none) (by rw[l];exact .qa)) (v:=.int .i64 (.ofNat 0)) (H':=st.H) (n':=st.m) (by simp only[xoS,zF];rfl) (λp f=>f) (λr E' w' O=>⟨_,_,O.w6 c.s (λb o e=>by cases e) (λ_ _ _ _ _ _ e=>by cases e) (λb o e=>by cases e) (.int _ _) c.hd⟩) hk
 .refine c.ext (v.xb c.s d) (zAH c.s i v.vr) (v:=.int .i64 (.ofNat es.length)) (H':=(st.m,.cells str cs)::st.H) (n':=st.m+1) (by simp only[xoS,zF];rfl) (λp f=>.tail _ f) (λr E' w' O=>⟨_,_,O.w6 c.s (λq u e=>⟨by cases e;exact .head _,v.uz d q u e⟩) (v.self c.s h d O (.head _) undef) (v.bz c.s d) (.int _ _) c.hd⟩) hk
theorem zVN{x i:XV}{sz:Nat}(c:Ctx P G nt Z0 B0 w0 dl E w a β st o (.qB x i sz)){j:Nat}{es:JE}(hx:x.ev G st.fr=some (.sym j))(f:st.V.get j=some (.vec sz es)){kd:IntKind}{n:Int}(F:i.ev G st.fr=some (.int kd n))(A:0<=n)(h1:n<.ofNat es.length)
  (hk:k (.sym st.mv) ⟨st.fr,st.H,(st.mv,.qU j n.toNat 0)::st.V,st.m,st.mv+1⟩):OpK P G nt Z0 B0 w0 dl o w a k:=by
 have h:zo x=true:=by have:=c.ok;simp only[zn,XO.qb,zM,QO,List.all_append,QU,List.all_nil,qr]at this;exact this.1
 obtain⟨t,rfl,q⟩:=zEu c.hG h hx;obtain⟨m,rfl⟩:=Int.eq_ofNat_of_zero_le A;have d:m<es.length:=by have h1:(m:Int)<(es.length:Int):=h1;omega
 rw[Int.toNat_natCast]at hk;obtain⟨l,⟨_,_,rfl⟩|⟨b,str,cs,cp,ex,v⟩⟩:=zDV c.s f
 .simp at d
 .have g:=zCS (X:=.row st.m 0 es.length sz cp ex) F q (by simp)
  refine c.ext (v.xb c.s f) (zAH c.s q v.vr) (v:=.ptr st.m (0+m*sz)) (H':=(st.m,.cells str cs)::st.H) (n':=st.m+1) ?_ (λp B=>.tail _ B) (v2:=.sym st.mv) (λz E' w' O=>⟨_,_,O.uq c.s (λu D e=>⟨by cases e;exact .head _,v.uz f u D e⟩) (v.self c.s l f O (.head _) z) (v.bz c.s f) f d v.hb ?_ c.hd⟩) hk
  .have y:Nat.blt m es.length=true:=by rw[Qg];exact d
   have:zEg es.length (.int kd (m:Int))=some m:=by
    show(match Nat.blt m es.length with|true=>some m|false=>none)=some m
    rw[y]
   simp only[xoS,zF,g,Nat.beq_refl,this];rfl
  .have r:=O.hv;have C:=O.vl b _ rfl;cases r with
   |ptr _ _ I=>rw[C];simp
theorem zQ1(c:SR G nt E w a β st){p j i off sz:Nat}{es:JE}(g:st.V.get p=some (.qU j i off))(e:st.V.get j=some (.vec sz es)):∃b str cs cp ex,i<es.length/\E.σ p=.pointer (some ⟨b,i*sz+off,none⟩)/\VecIn E w st β j sz es b str cs cp ex:=by
 obtain⟨h1,b,d,h⟩:=(c.qR p _ g).2 sz es e;obtain⟨l,⟨f,_,_⟩|⟨o,str,cs,cp,ex,v⟩⟩:=zDV c e
 .rw[f]at d;cases d
 .have:=v.hb;rw[d]at this;cases this;exact⟨b,str,cs,cp,ex,h1,h,v⟩
theorem zQ2{b off:Nat}{ho:HO}{cv:Value}(h:cv=.pointer (some ⟨b,off,none⟩)):VR (zX E st.m (some (b,ho))) w (.ptr st.m off) cv:=by
 subst h;have:=VR.ptr (E:=zX E st.m (some (b,ho))) (w:=w) st.m off (.inr rfl)
 simpa[zX]using this
theorem zYZ{x:XV}{s:Nat}{z:Bool}(c:Ctx P G nt Z0 B0 w0 dl E w a β st o (.load x s z)){p j i off sz:Nat}{es:JE}(hx:x.ev G st.fr=some (.sym p))(r:st.V.get p=some (.qU j i off))(g:st.V.get j=some (.vec sz es)){v:AV}
  (l:ldE es i off s z=some v) (hk:k v st):OpK P G nt Z0 B0 w0 dl o w a k:=by
 have u:zo x=true:=by have:=c.ok;simp only[zn,XO.qb,zM,QO,QU,List.all_nil]at this;exact this
 obtain⟨t,rfl,B⟩:=zEu c.hG u hx;obtain⟨b,str,cs,cp,ex,I,D,f⟩:=zQ1 c.s r g;have h:=(zDV c.s g).1;unfold ldE at l;split at l
 rotate_left
 .cases l
 rename_i e y;have d:=zXH f.ue rfl f.hl y l;have q:PP v:=zOk (h e (QF y)).cells l;refine c.ext (f.xb c.s g) (zAH c.s B (X:=.ptr st.m (i*sz+off)) (zQ2 D)) (v:=v) (H':=(st.m,.cells str cs)::st.H) (n':=st.m+1) ?_ (λp r=>.tail _ r) (λF E' w' O=>⟨_,_,O.w6 c.s (λA C e=>⟨by cases e;exact .head _,f.uz g A C e⟩) (f.self c.s h g O (.head _) undef) (f.bz c.s g) q c.hd⟩) hk
 simp only[xoS,zF,zDa,extH,zCh,d,zCE]
theorem zXI{x:XV}{f:Nat}(c:Ctx P G nt Z0 B0 w0 dl E w a β st o (.qC x f)){p j i off sz:Nat}{es:JE}(hx:x.ev G st.fr=some (.sym p))(h:st.V.get p=some (.qU j i off))(d:st.V.get j=some (.vec sz es))
  (hk:k (.sym st.mv) ⟨st.fr,st.H,(st.mv,.qU j i (off+f))::st.V,st.m,st.mv+1⟩):OpK P G nt Z0 B0 w0 dl o w a k:=by
 have l:zo x=true:=by have:=c.ok;simp only[zn,XO.qb,zM,QO,QU,List.all_nil]at this;exact this
 obtain⟨t,rfl,y⟩:=zEu c.hG l hx;obtain⟨b,str,cs,cp,ex,B,D,g⟩:=zQ1 c.s h d;have q:=(zDV c.s d).1;refine c.ext (g.xb c.s d) (zAH c.s y (X:=.ptr st.m (i*sz+off)) (zQ2 D)) (v:=.ptr st.m (i*sz+off+f)) (H':=(st.m,.cells str cs)::st.H) (n':=st.m+1) ?_ (λp h=>.tail _ h) (v2:=.sym st.mv) (λz E' w' O=>⟨_,_,O.uq c.s (λu C e=>⟨by cases e;exact .head _,g.uz d u C e⟩) (g.self c.s q d O (.head _) z) (g.bz c.s d) d B g.hb ?_ c.hd⟩) hk
 .simp only[xoS,zF];rfl
 .have r:=O.hv;have A:=O.vl b _ rfl;cases r with
  |ptr _ _ F=>rw[A,Nat.add_assoc]
theorem zXJ{x y:XV}{sz:Nat}(c:Ctx P G nt Z0 B0 w0 dl E w a β st o (.store x y sz)){p j i:Nat}{es:JE}(hx:x.ev G st.fr=some (.sym p))(z:st.V.get p=some (.qU j i 0))(r:st.V.get j=some (.vec sz es)){v:AV}{new:JE}
  (W:y.ev G st.fr=some v) (f:PP v) (C:cellsOf v sz=some new) (hk:k (.qg []) ⟨st.fr,st.H,(j,.vec sz (es.set i v))::st.V.del j,st.m,st.mv⟩):OpK P G nt Z0 B0 w0 dl o w a k:=by
 have D:zo x=true:=by have:=c.ok;simp only[zn,XO.qb,zM,QO,List.all_append,QU,List.all_nil,qr]at this;exact this.1
 obtain⟨t,rfl,N⟩:=zEu c.hG D hx;obtain⟨b,str,cs,cp,ex,R,I,d⟩:=zQ1 c.s z r;have F:=(zDV c.s r).1;have I:E.σ p=.pointer (some ⟨b,i*sz,none⟩):=I;have B:=zCS (X:=.ptr st.m (i*sz)) W N (by intro e;rw[e]at f;cases f)
 obtain⟨U,A,_⟩:=zI C;have M:i*sz+sz<=es.length*sz:=by rw[←Nat.succ_mul];exact Nat.mul_le_mul_right _ R
 have l:(qp cs (i*sz) new).length=cs.length:=by
  have:=d.hl;simp only[qp,QJ,Qm,Qv];omega
 have g:flatten sz (es.set i v)=some ((qp cs (i*sz) new).take (es.length*sz)):=by
  rw[zL5 C d.ue R];congr 1;have:=d.hl;simp only[qp];rw[List.take_append,List.take_append,List.take_take,List.drop_take];simp only[QJ,Qm,List.take_take];congr 1
  .congr 1
   .congr 1;omega
   .rw[List.take_of_length_le (by omega)]
  .congr 1;omega
 have q:∀c∈qp cs (i*sz) new,PP c:=λc hc=>(zFP hc).elim (d.pc c) λh=>by rw[←A]at h;exact f.cells c h
 have u:∀e∈es.set i v,PP e:=λe J=>(List.mem_or_eq_of_mem_set J).elim (F e) λh=>h▸f
 refine c.ext (d.xb c.s r) (zAH c.s N (X:=.ptr st.m (i*sz)) (zQ2 I)) (v:=.qg []) (H':=(st.m,.cells str (qp cs (i*sz) new))::st.H) (n':=st.m+1) ?_ (λp z=>.tail _ z) (λcv E' w' O=>⟨_,_,O.replace c.s r rfl d.hb (vi1:=.vec sz (es.set i v)) rfl ?_ (.head _) (λY T e=>by cases e;exact⟨es,rfl,by simp⟩) (.qg _ λe J=>by cases J) c.hd⟩) hk
 .have L:Nat.ble (i*sz+sz) cs.length=true:=by rw[Qo];have:=d.hl;omega
  simp only[xoS,zF,B,extH,zCh,C,L,Heap.put,Nat.beq_refl,zCE]
 .have S:=O.vE.obj _ (.head _);rw[O.vl b _ rfl]at S;have hj:j≠st.mv:=by have:=(c.s.qR j _ r).1;omega
  refine⟨u,.inr ⟨b,str,_,cp,ex,d.hb,S.bk q,?_,q,by rw[List.length_set,l];exact d.hl,by rw[List.length_set];exact g⟩⟩
  have:(zk E E' st.mv undef).σ j=E.σ j:=by simp[zk,hj]
  rw[this,List.length_set];exact d.row.mono O.qn
theorem zCc{sz:Nat}{es f:JE}(h:flatten sz es=some f)(i:∀e∈es,PP e):∀c∈f,PP c:=by
 induction es generalizing f with
 |nil=>cases h;intro c hc;cases hc
 |cons e r p=>
  simp only[flatten]at h;split at h
  .rename_i c hc;split at h
   .rename_i cs g;cases h;intro x d;rcases QH.1 d with d|d
    .obtain⟨_,l,_⟩:=zI hc;rw[←l]at d;exact(i e (.head _)).cells x d
    .exact p g (λe o=>i e (.tail _ o)) x d
   .cases h
  .cases h
theorem Ctx.uB{d:XO}(c:Ctx P G nt Z0 B0 w0 dl E w a β st o d){sz cp:Nat}{str ex:Bool}{cs es:JE}(hx:xoS G zd st.fr st.H st.m d=some (.row st.m 0 es.length sz cp ex,(st.m,.cells str cs)::st.H,st.m+1))(l:∀e∈es,PP e)(i:∀c∈cs,PP c)(q:es.length*sz<=cs.length)(g:flatten sz es=some (cs.take (es.length*sz)))
  (hk:k (.sym st.mv) ⟨st.fr,st.H,(st.mv,.vec sz es)::st.V,st.m,st.mv+1⟩):OpK P G nt Z0 B0 w0 dl o w a k:=by
 refine c.ext (xb:=none) (λb o e=>by cases e) c.s.hf hx (λp f=>.tail _ f) (λt E' w' O=>?_) hk
 obtain⟨x,r,h⟩:=O.wL c.s (λb o e=>by cases e) (V0:=st.V) (λj u h=>⟨h,λ_ b o e=>by cases e⟩) (.head _) (λp f=>⟨.tail _ f,λe=>by have:=c.s.qx p.1 (c.s.hr.qx p f);omega⟩) rfl l i q g c.hd
 exact⟨_,r,h⟩
theorem zZ7{x:XV}(c:Ctx P G nt Z0 B0 w0 dl E w a β st o (.vJ x)){s:JV}(hx:x.ev G st.fr=some (.str s))(hk:k (.sym st.mv) ⟨st.fr,st.H,(st.mv,.vec 1 (s.map λb=>.int .u8 (.ofNat b)))::st.V,st.m,st.mv+1⟩):OpK P G nt Z0 B0 w0 dl o w a k:=by
 have d:∀e∈s.map λb=>AV.int .u8 (.ofNat b),PP e:=λe f=>by
  obtain⟨b,_,rfl⟩:=QL.1 f;exact .int _ _
 refine c.uB (sz:=1) (cp:=s.length) (str:=true) (ex:=false) (cs:=s.map λb=>.int .u8 (.ofNat b)) ?_ d d (by simp) ?_ hk
 .simp only[xoS,hx,QP]
 .rw[zE6,List.take_of_length_le (by simp)]
theorem zQ3{len sz:Nat}{z:JE}{r:List (Nat×Nat×XV)}(c:Ctx P G nt Z0 B0 w0 dl E w a β st o (.qy len sz z r)){cs es:JE}(u:zAC G st.fr z r=some cs)(t:cs.length=len*sz)(I:zCt sz len cs=some es)(D:es.all (ppS 12)=true)
  (hk:k (.sym st.mv) ⟨st.fr,st.H,(st.mv,.vec sz es)::st.V,st.m,st.mv+1⟩):OpK P G nt Z0 B0 w0 dl o w a k:=by
 obtain⟨h1,p,N,A,h⟩:=z4 I;have f:=c.ok;simp only[zn,XO.qb,qr]at f;have C:z.all (z9 12)=true:=f.2;have l:∀q∈cs,CP st.mv st.m q:=zGc c.hG c.s.qY (by simpa[List.all_map]using f.1) (λq hc=>(zAy 12 (QD.1 C q hc)).cp) u
 have g:∀e∈es,PP e:=by
  intro e y;obtain⟨i,J⟩:=List.getElem?_of_mem y;obtain⟨q1,L⟩:=zQ h;obtain⟨M,F,B⟩:=zI (L i e J);refine zBM (n:=st.mv) (k:=st.m) 12 (zBD B λx v=>l x ?_) (QD.1 D e y)
  rw[F]at v;exact QM (QW (QM v))
 have d:cs.take (len*sz)=cs:=List.take_of_length_le (by omega)
 refine c.uB (sz:=sz) (cp:=len) (str:=false) (ex:=true) (cs:=cs) ?_ g ?_ (by rw[p];exact A) (by rw[p];exact h) hk
 .simp only[xoS,u,p]
 .rw[d]at h;exact zCc h g
theorem zUJ{l s:XV}{sz bytes:Nat}{z:JE}(c:Ctx P G nt Z0 B0 w0 dl E w a β st o (.qM l s sz bytes z)){y F:IntKind}{n m:Int}{e:AV}(N:l.ev G st.fr=some (.int y n))(p:s.ev G st.fr=some (.int F m))(O:zCt sz 1 z=some [e])(C:z.length=sz)
  (B:0<=n) (h1:n<=m) (A:m.toNat*bytes<=zc) (D:m.toNat<=zc) (hk:k (.sym st.mv) ⟨st.fr,st.H,(st.mv,.vec sz (List.replicate n.toNat e))::st.V,st.m,st.mv+1⟩):OpK P G nt Z0 B0 w0 dl o w a k:=by
 obtain⟨n,rfl⟩:=Int.eq_ofNat_of_zero_le B;obtain⟨m,rfl⟩:=Int.eq_ofNat_of_zero_le (Int.le_trans B h1);rw[Int.toNat_natCast]at A D hk;have h1:n<=m:=by omega
 obtain⟨q1,X,U,W,M⟩:=z4 O;have f:=c.ok;simp only[zn,XO.qb,qr]at f;have t:z.all (z9 12)=true:=f.2;have h:∀d∈z,PP d:=λd hc=>zAy 12 (QD.1 t d hc)
 have i:cellsOf e sz=some z:=by
  have:=(zQ M).2 0 e rfl;rw[this,Nat.zero_mul,List.drop_zero,List.take_take,Nat.one_mul,Nat.min_self,List.take_of_length_le (by omega)]
 have q:PP e:=by
  obtain⟨_,J,T⟩:=zI i;exact zL7 T λx v=>h x (by rw[←J];exact v)
 have g:∀d∈rep m z,PP d:=by
  have:∀m,∀d∈rep m z,PP d:=by
   intro m
   induction m with
   |zero=>intro d hc;cases hc
   |succ m S=>intro d hc;exact(QH.1 hc).elim (h d) (S d)
  exact this m
 refine c.uB (sz:=sz) (cp:=m) (str:=false) (ex:=true) (cs:=rep m z) ?_ (λx v=>by rw[(List.mem_replicate.1 v).2];exact q) g ?_ ?_ hk
 .have I:Nat.ble n m=true:=by rw[Qo];exact h1
  have R:Nat.ble (m*bytes) zc=true:=by rw[Qo];exact A
  have L:Nat.ble m zc=true:=by rw[Qo];exact D
  have u:l.ev G st.fr=some (.int y (.ofNat n)):=N;have r:s.ev G st.fr=some (.int F (.ofNat m)):=p;simp only[xoS,u,r,I,R,L,List.length_replicate]
 .rw[List.length_replicate,zNA,C];exact Nat.mul_le_mul_right _ h1
 .rw[zGV i,List.length_replicate,←C,zQ0 z h1]
theorem zXK(c:Ctx P G nt Z0 B0 w0 dl E w a β st o .wu)(hk:k (.sym st.mv) ⟨st.fr,st.H,(st.mv,.mp [])::st.V,st.m,st.mv+1⟩):OpK P G nt Z0 B0 w0 dl o w a k:=by
 refine c.ext (xb:=none) (λb o e=>by cases e) c.s.hf (v:=.map st.m) (H':=(st.m,.map [])::st.H) (n':=st.m+1) rfl (λp f=>.tail _ f) (v2:=.sym st.mv) (λz E' w' O=>?_) hk
 have g:∀j d,st.V.get j=some d->j≠st.mv:=λj d h=>by have:=(c.s.qR j d h).1;omega
 have t:z=.map (some (E'.ρ st.m)):=by cases O.hv;rfl
 have l:∀p∈st.H,p.1≠st.m:=λp f e=>by have:=c.s.qx p.1 (c.s.hr.qx p f);omega
 refine⟨_,λj=>if j=st.mv then some (E'.ρ st.m)else β j,O.sr c.s (λb o e=>by cases e) z _ (st.mv+1) _ (QT _) (.sym _ _ (by simp[zk]) (by rw[t];rfl)) (.sym _ (QR _)) c.hd ?_ ?_ ?_⟩
 .intro j d h;rw[Vecs.qf]at h;split at h
  .rename_i e;subst e;cases h;refine .inr ⟨QR _,⟨λp f=>(by cases f),E'.ρ st.m,by simp,(O.vE.obj _ (.head _)).uZ (λp f=>by cases f),by simp[zk,t]⟩,λB i off e=>(by cases e),λ_ M r=>?_⟩
   simp only[if_true,QK]at r;subst r;refine⟨O.vE.nz _ (.head _),λp f e=>?_,?_⟩
   .rw[←O.agree p.1 (c.s.hr.qx p f)]at e;exact l p f (O.vE.inj p (.tail _ f) _ (.head _) e)
   .rcases O.own _ (.head _)with⟨q,u,e⟩|h|h
    .exfalso
     rw[←O.agree q.1 (c.s.hr.qx q u)]at e;exact l q u (O.vE.inj q (.tail _ u) _ (.head _) e)
    .exact .inl h
    .exact .inr h
  .exact .inl ⟨h,λR=>⟨by simp[g j d h],λb o e=>(by cases e)⟩⟩
 .intro j C d x h1 D S N F L;have key:∀j d,Vecs.get ((st.mv,VI.mp [])::st.V) j=some d->¬(st.V.get j=some d/\(if j=st.mv then some (E'.ρ st.m)else β j)=β j/\∀b o,(none:XB)=some (b,o)->β j≠some b)->j=st.mv:=by
   intro j d h J;rw[Vecs.qf]at h;split at h
   .rename_i e;exact e.symm
   .exact absurd ⟨h,by simp[g j d h],λb o e=>by cases e⟩ J
  rw[key j d h1 F,key C x D L]
 .intro B I y A h;rw[Vecs.qf,if_neg (by omega)]at h
  exact⟨by simp[show B≠st.mv by omega],y,h,rfl⟩
end
section
variable{P:Program}{G:Cx}{nt:Nat}{E:Env}{w:World}{a:Act}{β:Nat->Option Nat}{st:Sta}
 {Z0 B0:Nat->Prop} {w0:World} {dl:List Deferred} {o:Oper} {k:AV->Sta->Prop}
theorem zL8{n m sz:Nat}{H:Heap}{o:HO}{u:AV}(c:CP n m u):content ((m,o)::H) sz u=content H sz u:=by
 cases c with
 |row h _ _ _ _ _ hk=>
  have:Nat.beq m h=false:=by
   cases hb:Nat.beq m h with
   |false=>rfl
   |true=>have:=zb hb;omega
  simp only[content,Heap.get,this]
 |_=>rfl
theorem zL9{cs c:JE}{n:Nat}(h:n<=cs.length):(qp cs n c).take (n+c.length)=cs.take n++c:=by
 unfold qp;rw[List.take_append_of_le_length (by simp;omega),List.take_of_length_le (by simp;omega)]
theorem zNB{cs c:JE}{n:Nat}(h:n<=cs.length):n+c.length<=(qp cs n c).length:=by
 simp only[qp,QJ,Qm,Qv];omega
theorem zIu{x y:XV}{sz bytes:Nat}(c:Ctx P G nt Z0 B0 w0 dl E w a β st o (.append x y sz bytes)){u:AV}{p:JE}(L:zHP y=false)(A:y.ev G st.fr=some u)(d:zAO st.H sz u=some p)(f:(zIp u||ppS 12 (.agg p))=true):
  ∃q,flatten sz p=some q/\content st.H sz u=some (p.length,q)/\q.length=p.length*sz/\(∀e∈p,PP e)/\CP st.mv st.m u:=by
 have B:zo x=true/\zo y=true:=by have:=c.ok;simp only[zn,XO.qb,zM,QO,List.all_append,QU,List.all_nil,qr]at this;exact this
 have r:CP st.mv st.m u:=zJ c.hG c.s.qY B.2 A;obtain⟨q,C,v,F⟩:∃q,flatten sz p=some q/\content st.H sz u=some (p.length,q)/\q.length=p.length*sz:=by
  cases y with
  |t n=>exact zKb (c.s.hf.get n u A) d
  |g n=>exact zKb (c.s.hg n u A).1 d
  |c M=>
   have A:M=u:=by simpa[XV.ev]using A
   subst A;cases M with
   |qa=>cases d;exact⟨[],rfl,rfl,by simp⟩
   |qo=>cases L
   |row=>exact absurd B.2 (by simp[zo,z9])
   |str s=>
    simp only[zAO]at d;split at d
    .rename_i R;cases d;have U:=zb R;subst U;exact⟨_,zE6 s,by simp[content],by simp⟩
    .cases d
   |_=>cases d
 refine⟨q,C,v,F,?_,r⟩
 rw[Bool.or_eq_true]at f;rcases f.symm with f|f
 ·
  have D:CP st.mv st.m (.agg p):=by
   refine .agg _ λe l=>?_
   cases u with
   |qa=>cases d;cases l
   |qo I es=>
    simp only[zAO]at d;split at d
    .cases d;cases r with
     |qo _ _ h=>exact(h e l).cp
    .cases d
   |row=>
    simp only[zAO]at d;split at d
    .split at d
     .rename_i str cs S;split at d
      .obtain⟨_,q2,_,q4,W⟩:=z4 d;obtain⟨i,Y⟩:=List.getElem?_of_mem l;obtain⟨r1,r2⟩:=zQ W;obtain⟨r3,T,V⟩:=zI (r2 i e Y);obtain⟨N,X,e1,J⟩:=c.s.cH.get S;cases e1;refine zBD V λz O=>J z ?_
       rw[T]at O;exact QW (QM (QW (QM O)))
      .cases d
     .cases d
    .cases d
   |str s=>
    simp only[zAO]at d;split at d
    .cases d;obtain⟨b,_,rfl⟩:=QL.1 l;exact .int _ _
    .cases d
   |_=>cases d
  have:=zBM 12 D f;cases this with
  |agg _ h=>exact h
 .cases u with
  |qo I es=>
   simp only[zAO]at d;split at d
   .cases d;cases r with
    |qo _ _ h=>exact h
   .cases d
  |str s=>
   simp only[zAO]at d;split at d
   .cases d;intro e l;obtain⟨b,_,rfl⟩:=QL.1 l;exact .int _ _
   .cases d
  |_=>cases f
theorem zKX{x y:XV}{sz bytes:Nat}(c:Ctx P G nt Z0 B0 w0 dl E w a β st o (.append x y sz bytes)){u:AV}{t:JE}(C:zHP y=false){fr':Fr}(i:FrR E w fr' a nt)(hx:x.ev G fr'=some .qa)(l:y.ev G fr'=some u)(L:y.ev G st.fr=some u)(T:zAO st.H sz u=some t)(B:(zIp u||ppS 12 (.agg t))=true)
  (I:t.length*bytes<=zc) {V0:Vecs} (q:∀j vi,V0.get j=some vi->st.V.get j=some vi) (hk:k (.sym st.mv) ⟨st.fr,st.H,(st.mv,.vec sz t)::V0,st.m,st.mv+1⟩):OpK P G nt Z0 B0 w0 dl o w a k:=by
 obtain⟨N,g,d,M,r,R⟩:=zIu c C L T B;cases t with
 |nil=>
  refine c.ext (xb:=none) (λb o e=>by cases e) i (v:=.qa) (H':=st.H) (n':=st.m) ?_ (λp f=>f) (λJ E' w' O=>?_) hk
  .simp only[xoS,hx,l,zAK,extH,zCE,d];rfl
  .obtain⟨z,D,h⟩:=O.vI c.s q (sz:=sz) rfl c.hd;exact⟨_,D,h⟩
 |cons S A=>
  have F:Nat.ble ((A.length+1)*bytes) zc=true:=by rw[Qo];simpa using I
  refine c.ext (xb:=none) (λb o e=>by cases e) i (v:=.row st.m 0 (A.length+1) sz (A.length+1) false) (H':=(st.m,.cells false N)::st.H) (n':=st.m+1) ?_ (λp f=>.tail _ f) (λJ E' w' O=>?_) hk
  .simp only[xoS,hx,l,zAK,extH,zCE,d,QZ,F]
  .obtain⟨z,D,h⟩:=O.wL c.s (λb o e=>by cases e) (V0:=V0) (λj vi h=>⟨q j vi h,λ_ b o e=>by cases e⟩) (.head _) (λp f=>⟨.tail _ f,λe=>by have:=c.s.qx p.1 (c.s.hr.qx p f);omega⟩) (es:=S::A) rfl r (zCc g r) (by omega) (by rw[List.take_of_length_le (by omega)];exact g) c.hd
   exact⟨_,D,h⟩
theorem zQ4{x y:XV}{sz bytes:Nat}(c:Ctx P G nt Z0 B0 w0 dl E w a β st o (.append x y sz bytes)){u:AV}{j:Nat}{es f:JE}(ae:zHP y=false)(hx:x.ev G st.fr=some (.sym j))(hV:st.V.get j=some (.vec sz es))(hy:y.ev G st.fr=some u)(he:zAO st.H sz u=some f)(ac:(zIp u||ppS 12 (.agg f))=true)
  (hb:(es.length+f.length)*bytes<=zc) (ai:es.length+f.length<=zc) (hk:k (.sym st.mv) ⟨st.fr,st.H,(st.mv,.vec sz (es++f))::st.V.del j,st.m,st.mv+1⟩):OpK P G nt Z0 B0 w0 dl o w a k:=by
 have ag:zo x=true:=by have:=c.ok;simp only[zn,XO.qb,zM,QO,List.all_append,QU,List.all_nil,qr]at this;exact this.1
 obtain⟨t,rfl,ht⟩:=zEu c.hG ag hx;have M:∀i,u≠.sym i:=λi e=>by subst e;cases he
 have Y:∀A C,(st.V.del j).get A=some C->st.V.get A=some C/\j≠A:=λA C h=>by
  rw[Vecs.qL]at h;split at h
  .cases h
  .rename_i r;exact⟨h,r⟩
 obtain⟨aq,⟨h1,h2,rfl⟩|⟨b,str,cs,cp,ex,v⟩⟩:=zDV c.s hV
 .exact zKX c ae (fr':=st.fr.put t .qa) (zAH c.s ht (xb:=none) (by rw[h2];exact .qa)) zF (zCS hy ht (M j)) hy he ac (by simpa using hb) (λA C h=>(Y A C h).1) (by simpa using hk)
 .obtain⟨q,F,W,ah,U,ao⟩:=zIu c ae hy he ac;have L:=zCS (X:=.row st.m 0 es.length sz cp ex) hy ht (M j);have d:content ((st.m,HO.cells str cs)::st.H) sz u=some (f.length,q):=by rw[zL8 ao];exact W
  have aa:∀e∈es++f,PP e:=λe B=>(QH.1 B).elim (aq e) (U e)
  have S:flatten sz (es++f)=some (cs.take (es.length*sz)++q):=zGd v.ue F;have N:(es++f).length*sz=es.length*sz+q.length:=by rw[QJ,Nat.add_mul,ah]
  have ad:∀I∈cs.take (es.length*sz)++q,PP I:=λI B=>(QH.1 B).elim (λh=>v.pc I (QM h)) (zCc F U I)
  have c1:Nat.ble (0+es.length*sz) cs.length=true:=by rw[Qo];have:=v.hl;omega
  have J:Nat.ble (es.length*sz) cs.length=true:=by rw[Qo];exact v.hl
  have c2:Nat.ble ((es.length+f.length)*bytes) zc=true:=by rw[Qo];exact hb
  have c3:Nat.ble (es.length+f.length) zc=true:=by rw[Qo];exact ai
  have r:∀p∈st.H,p.1≠st.m/\p.1≠st.m+1:=λp l=>by have:=c.s.qx p.1 (c.s.hr.qx p l);omega
  have aw:∀A C,(st.V.del j).get A=some C->st.V.get A=some C/\(C.qA=true->∀b' o,(some (b,HO.cells str cs):XB)=some (b',o)->β A≠some b'):=λA C h=>by
   obtain⟨q1,q2⟩:=Y A C h;refine⟨q1,λho b' o e ak=>?_⟩
   cases e;exact q2 (c.s.qQ j A _ _ b hV q1 rfl ho v.hb ak)
  have au:=zAH c.s ht v.vr;have D:∀{h' cp':Nat}{str' ex':Bool}{cs':JE}{H':Heap}{n':Nat},xoS G zd (st.fr.put t (.row st.m 0 es.length sz cp ex)) (extH st.H st.m (some (b,.cells str cs))) (zCE st.m (some (b,.cells str cs))) (.append (.t t) y sz bytes)=some (.row h' 0 (es.length+f.length) sz cp' ex',H',n') →
    (h',HO.cells str' cs')∈H'->(∀p∈st.H,p∈H'/\p.1≠h')->(∀I∈cs',PP I)->es.length*sz+q.length<=cs'.length->cs'.take (es.length*sz+q.length)=cs.take (es.length*sz)++q->OpK P G nt Z0 B0 w0 dl o w a k:=by
   intro h' cp' str' ex' cs' H' n' aj ab R al hl af;refine c.ext (v.xb c.s hV) au aj (λp l=>(R p l).1) (λcv E' w' O=>?_) hk
   obtain⟨z,β',h⟩:=O.wL c.s (v.uz hV) (V0:=st.V.del j) aw ab R (es:=es++f) (by rw[QJ]) aa al (by rw[N];exact hl) (by rw[N,af];exact S) c.hd
   exact⟨_,β',h⟩
  by_cases g:Nat.ble (es.length+f.length) cp=true
  .refine D (h':=st.m) (cp':=cp) (str':=str) (ex':=ex) (cs':=qp cs (es.length*sz) q) (H':=(st.m,.cells str (qp cs (es.length*sz) q))::st.H) (n':=st.m+1) ?_ (.head _) (λp l=>⟨.tail _ l,(r p l).1⟩) (λI B=>(zFP B).elim (v.pc I) (zCc F U I)) (zNB v.hl) (zL9 v.hl)
   simp only[xoS,zF,L,zAK,extH,zCE,d,Nat.beq_refl,zCh,c1,J,c2,c3,g,QO,Heap.put,QS]
  .have g:Nat.ble (es.length+f.length) cp=false:=Bool.eq_false_iff.2 g;cases ex with
   |true=>
    refine D (h':=st.m+1) (cp':=es.length+f.length) (str':=false) (ex':=false) (cs':=cs.take (es.length*sz)++q) (H':=(st.m+1,.cells false (cs.take (es.length*sz)++q))::(st.m,.cells str cs)::st.H) (n':=st.m+1+1) ?_ (.head _) (λp l=>⟨.tail _ (.tail _ l),(r p l).2⟩) ad (by have:=v.hl;simp;omega) (by rw[List.take_of_length_le (by simp;omega)])
    simp only[xoS,zF,L,zAK,extH,zCE,d,Nat.beq_refl,zCh,c1,J,c2,c3,g,QO,List.drop_zero]
   |false=>
    by_cases T:f.length=0
    .have ar:f=[]:=List.eq_nil_of_length_eq_zero T;subst ar;have ax:q=[]:=by cases F;rfl
     subst ax;refine D (h':=st.m) (cp':=cp) (str':=str) (ex':=false) (cs':=cs) (H':=(st.m,.cells str cs)::st.H) (n':=st.m+1) ?_ (.head _) (λp l=>⟨.tail _ l,(r p l).1⟩) v.pc (by have:=v.hl;simpa using this) (by simp)
     simp only[xoS,zF,L,zAK,extH,zCE,d,Nat.beq_refl,zCh,c1,J,c2,c3,g,QO,Qj,Nat.add_zero];simp only[Qj,Nat.add_zero]at c2 c3 g;simp only[c2,c3,g,QO]
    .obtain⟨n0,T⟩:∃n0,f.length=n0+1:=⟨f.length-1,by omega⟩
     refine D (h':=st.m+1) (cp':=es.length+f.length) (str':=str) (ex':=false) (cs':=cs.take (es.length*sz)++q) (H':=(st.m+1,.cells str (cs.take (es.length*sz)++q))::st.H) (n':=st.m+1+1) ?_ (.head _) (λp l=>⟨.tail _ l,(r p l).2⟩) ad (by have:=v.hl;simp;omega) (by rw[List.take_of_length_le (by simp;omega)])
     rw[T]at d c2 c3 g⊢;simp only[xoS,zF,L,zAK,extH,zCE,d,Nat.beq_refl,zCh,c1,J,c2,c3,g,QO,Heap.del]
theorem zOl(s:SR G nt E w a β st){xb:XB}{E':Env}{w':World}{H':Heap}{v:AV}{cv:Value}(O:OutW G E w st xb E' w' H' v cv){j n:Nat}(N:j<st.mv)(J:VOK E w st.V β j (.dn n)){x:Value}{r:Nat->Option Nat}{C:Act}{fr:Fr}{H:Heap}{V:Vecs}{m mv2:Nat}(t:st.mv<=mv2){F D:Nat->Prop}
  (h:SR G nt (zk E E' st.mv x) w' C r ⟨fr,H,V,m,mv2⟩/\Kp F D w (zk E E' st.mv x).Z (BS (zk E E' st.mv x) r H V) w'):
  SR G nt (zk E E' st.mv x) w' C r ⟨fr,H,(j,.dn n)::V,m,mv2⟩/\Kp F D w (zk E E' st.mv x).Z (BS (zk E E' st.mv x) r H ((j,.dn n)::V)) w':=by
 obtain⟨h,k⟩:=h;have I:(zk E E' st.mv x).σ j=E.σ j:=by
  have:j≠st.mv:=by omega
  simp[zk,this]
 have o:∀c d,Vecs.get ((j,.dn n)::V) c=some d->(c=j/\d=.dn n)\/(c≠j/\V.get c=some d):=λc d e=>by
  rw[Vecs.qf]at e;split at e
  .rename_i p;cases e;exact .inl ⟨p.symm,rfl⟩
  .rename_i p;exact .inr ⟨λu=>p u.symm,e⟩
 refine⟨⟨h.hr,h.hf,h.hg,h.qx,h.qY,h.cH,λc d e=>?_,λc q i off e=>?_,λc d b e=>?_,λB q v1 v2 b p u=>?_⟩,⟨k.qH,k.qP,λy z=>?_,k.tape,k.os,k.output,k.size,k.wh,k.qn⟩⟩
 .rcases o c d e with⟨rfl,rfl⟩|⟨L,p⟩
  .refine⟨QX N t,?_⟩
   obtain⟨q1,l⟩|⟨b,sz,cp,ex,q1⟩:=J
   .exact .inl ⟨I.trans q1,l⟩
   .exact .inr ⟨b,sz,cp,ex,by rw[I];exact q1.mono O.qn⟩
  .obtain⟨q1,l⟩:=h.qR c d p;refine⟨q1,?_⟩
   cases d with
   |qU q i off=>
    intro sz es A;rcases o q _ A with⟨_,f⟩|⟨_,f⟩
    .cases f
    .exact l sz es f
   |vec=>exact l
   |mp=>exact l
   |dn=>exact l
 .rcases o c _ e with⟨_,f⟩|⟨_,f⟩
  .cases f
  .exact h.vp c q i off f
 .rcases o c d e with⟨_,rfl⟩|⟨_,f⟩
  .intro g;cases g
  .exact h.bz c d b f
 .rcases o B v1 p with⟨_,rfl⟩|⟨_,q1⟩
  .intro g;cases g
  .rcases o q v2 u with⟨_,rfl⟩|⟨_,l⟩
   .intro _ g;cases g
   .exact h.qQ B q v1 v2 b q1 l
 .refine k.own y ?_
  rcases z with z|⟨c,d,e,g,M⟩
  .exact .inl z
  .rcases o c d e with⟨_,rfl⟩|⟨_,f⟩
   .cases g
   .exact .inr ⟨c,d,f,g,M⟩
theorem zPp{x y:XV}{sz bytes:Nat}(c:Ctx P G nt Z0 B0 w0 dl E w a β st o (.append x y sz bytes)){u:AV}{A:JE}(D:zHP y=false){fr':Fr}(i:FrR E w fr' a nt)(hx:x.ev G fr'=some .qa)(l:y.ev G fr'=some u)(N:y.ev G st.fr=some u)(W:zAO st.H sz u=some A)(C:(zIp u||ppS 12 (.agg A))=true)
  (L:A.length*bytes<=zc) {V0:Vecs} (r:∀j vi,V0.get j=some vi->st.V.get j=some vi) {j n:Nat} (I:j<st.mv) (q:VOK E w st.V β j (.dn n)) (hk:k (.sym st.mv) ⟨st.fr,st.H,(j,.dn n)::(st.mv,.vec sz A)::V0,st.m,st.mv+1⟩):OpK P G nt Z0 B0 w0 dl o w a k:=by
 obtain⟨S,g,d,R,t,T⟩:=zIu c D N W C;cases A with
 |nil=>
  refine c.ext (xb:=none) (λb o e=>by cases e) i (v:=.qa) (H':=st.H) (n':=st.m) ?_ (λp f=>f) (λM E' w' O=>?_) hk
  .simp only[xoS,hx,l,zAK,extH,zCE,d];rfl
  .obtain⟨z,F,h⟩:=O.vI c.s r (sz:=sz) rfl c.hd;exact⟨_,F,zOl c.s O I q (QT _) h⟩
 |cons U B=>
  have J:Nat.ble ((B.length+1)*bytes) zc=true:=by rw[Qo];simpa using L
  refine c.ext (xb:=none) (λb o e=>by cases e) i (v:=.row st.m 0 (B.length+1) sz (B.length+1) false) (H':=(st.m,.cells false S)::st.H) (n':=st.m+1) ?_ (λp f=>.tail _ f) (λM E' w' O=>?_) hk
  .simp only[xoS,hx,l,zAK,extH,zCE,d,QZ,J]
  .obtain⟨z,F,h⟩:=O.wL c.s (λb o e=>by cases e) (V0:=V0) (λj vi h=>⟨r j vi h,λ_ b o e=>by cases e⟩) (.head _) (λp f=>⟨.tail _ f,λe=>by have:=c.s.qx p.1 (c.s.hr.qx p f);omega⟩) (es:=U::B) rfl t (zCc g t) (by omega) (by rw[List.take_of_length_le (by omega)];exact g) c.hd
   exact⟨_,F,zOl c.s O I q (QT _) h⟩
theorem zRR{x y:XV}{sz bytes:Nat}(c:Ctx P G nt Z0 B0 w0 dl E w a β st o (.append x y sz bytes)){u:AV}{j:Nat}{es f:JE}(ae:zHP y=false)(hx:x.ev G st.fr=some (.sym j))(hV:st.V.get j=some (.vec sz es))(hy:y.ev G st.fr=some u)(he:zAO st.H sz u=some f)(ac:(zIp u||ppS 12 (.agg f))=true)
  (hb:(es.length+f.length)*bytes<=zc) (aj:es.length+f.length<=zc) (hk:k (.sym st.mv) ⟨st.fr,st.H,(j,.dn es.length)::(st.mv,.vec sz (es++f))::st.V.del j,st.m,st.mv+1⟩):OpK P G nt Z0 B0 w0 dl o w a k:=by
 have ah:zo x=true:=by have:=c.ok;simp only[zn,XO.qb,zM,QO,List.all_append,QU,List.all_nil,qr]at this;exact this.1
 obtain⟨t,rfl,ht⟩:=zEu c.hG ah hx;have hj:j<st.mv:=(c.s.qR j _ hV).1;have M:∀i,u≠.sym i:=λi e=>by subst e;cases he
 have Y:∀A C,(st.V.del j).get A=some C->st.V.get A=some C/\j≠A:=λA C h=>by
  rw[Vecs.qL]at h;split at h
  .cases h
  .rename_i r;exact⟨h,r⟩
 obtain⟨ar,⟨h1,h2,rfl⟩|⟨b,str,cs,cp,ex,v⟩⟩:=zDV c.s hV
 .exact zPp (j:=j) (n:=0) c ae (fr':=st.fr.put t .qa) (zAH c.s ht (xb:=none) (by rw[h2];exact .qa)) zF (zCS hy ht (M j)) hy he ac (by simpa using hb) (λA C h=>(Y A C h).1) hj (.inl ⟨h2,rfl⟩) (by simpa using hk)
 .have ag:VOK E w st.V β j (.dn es.length):=.inr ⟨b,sz,cp,ex,v.row⟩;obtain⟨q,F,W,ai,U,aq⟩:=zIu c ae hy he ac;have L:=zCS (X:=.row st.m 0 es.length sz cp ex) hy ht (M j);have d:content ((st.m,HO.cells str cs)::st.H) sz u=some (f.length,q):=by rw[zL8 aq];exact W
  have aa:∀e∈es++f,PP e:=λe B=>(QH.1 B).elim (ar e) (U e)
  have S:flatten sz (es++f)=some (cs.take (es.length*sz)++q):=zGd v.ue F;have N:(es++f).length*sz=es.length*sz+q.length:=by rw[QJ,Nat.add_mul,ai]
  have ad:∀I∈cs.take (es.length*sz)++q,PP I:=λI B=>(QH.1 B).elim (λh=>v.pc I (QM h)) (zCc F U I)
  have c1:Nat.ble (0+es.length*sz) cs.length=true:=by rw[Qo];have:=v.hl;omega
  have J:Nat.ble (es.length*sz) cs.length=true:=by rw[Qo];exact v.hl
  have c2:Nat.ble ((es.length+f.length)*bytes) zc=true:=by rw[Qo];exact hb
  have c3:Nat.ble (es.length+f.length) zc=true:=by rw[Qo];exact aj
  have r:∀p∈st.H,p.1≠st.m/\p.1≠st.m+1:=λp l=>by have:=c.s.qx p.1 (c.s.hr.qx p l);omega
  have ax:∀A C,(st.V.del j).get A=some C->st.V.get A=some C/\(C.qA=true->∀b' o,(some (b,HO.cells str cs):XB)=some (b',o)->β A≠some b'):=λA C h=>by
   obtain⟨q1,q2⟩:=Y A C h;refine⟨q1,λho b' o e al=>?_⟩
   cases e;exact q2 (c.s.qQ j A _ _ b hV q1 rfl ho v.hb al)
  have aw:=zAH c.s ht v.vr;have D:∀{h' cp':Nat}{str' ex':Bool}{cs':JE}{H':Heap}{n':Nat},xoS G zd (st.fr.put t (.row st.m 0 es.length sz cp ex)) (extH st.H st.m (some (b,.cells str cs))) (zCE st.m (some (b,.cells str cs))) (.append (.t t) y sz bytes)=some (.row h' 0 (es.length+f.length) sz cp' ex',H',n') →
    (h',HO.cells str' cs')∈H'->(∀p∈st.H,p∈H'/\p.1≠h')->(∀I∈cs',PP I)->es.length*sz+q.length<=cs'.length->cs'.take (es.length*sz+q.length)=cs.take (es.length*sz)++q->OpK P G nt Z0 B0 w0 dl o w a k:=by
   intro h' cp' str' ex' cs' H' n' ak ab R ao hl af;refine c.ext (v.xb c.s hV) aw ak (λp l=>(R p l).1) (λcv E' w' O=>?_) hk
   obtain⟨z,β',h⟩:=O.wL c.s (v.uz hV) (V0:=st.V.del j) ax ab R (es:=es++f) (by rw[QJ]) aa ao (by rw[N];exact hl) (by rw[N,af];exact S) c.hd
   exact⟨_,β',zOl c.s O hj ag (QT _) h⟩
  by_cases g:Nat.ble (es.length+f.length) cp=true
  .refine D (h':=st.m) (cp':=cp) (str':=str) (ex':=ex) (cs':=qp cs (es.length*sz) q) (H':=(st.m,.cells str (qp cs (es.length*sz) q))::st.H) (n':=st.m+1) ?_ (.head _) (λp l=>⟨.tail _ l,(r p l).1⟩) (λI B=>(zFP B).elim (v.pc I) (zCc F U I)) (zNB v.hl) (zL9 v.hl)
   simp only[xoS,zF,L,zAK,extH,zCE,d,Nat.beq_refl,zCh,c1,J,c2,c3,g,QO,Heap.put,QS]
  .have g:Nat.ble (es.length+f.length) cp=false:=Bool.eq_false_iff.2 g;cases ex with
   |true=>
    refine D (h':=st.m+1) (cp':=es.length+f.length) (str':=false) (ex':=false) (cs':=cs.take (es.length*sz)++q) (H':=(st.m+1,.cells false (cs.take (es.length*sz)++q))::(st.m,.cells str cs)::st.H) (n':=st.m+1+1) ?_ (.head _) (λp l=>⟨.tail _ (.tail _ l),(r p l).2⟩) ad (by have:=v.hl;simp;omega) (by rw[List.take_of_length_le (by simp;omega)])
    simp only[xoS,zF,L,zAK,extH,zCE,d,Nat.beq_refl,zCh,c1,J,c2,c3,g,QO,List.drop_zero]
   |false=>
    by_cases T:f.length=0
    .have au:f=[]:=List.eq_nil_of_length_eq_zero T;subst au;have ay:q=[]:=by cases F;rfl
     subst ay;refine D (h':=st.m) (cp':=cp) (str':=str) (ex':=false) (cs':=cs) (H':=(st.m,.cells str cs)::st.H) (n':=st.m+1) ?_ (.head _) (λp l=>⟨.tail _ l,(r p l).1⟩) v.pc (by have:=v.hl;simpa using this) (by simp)
     simp only[xoS,zF,L,zAK,extH,zCE,d,Nat.beq_refl,zCh,c1,J,c2,c3,g,QO,Qj,Nat.add_zero];simp only[Qj,Nat.add_zero]at c2 c3 g;simp only[c2,c3,g,QO]
    .obtain⟨n0,T⟩:∃n0,f.length=n0+1:=⟨f.length-1,by omega⟩
     refine D (h':=st.m+1) (cp':=es.length+f.length) (str':=str) (ex':=false) (cs':=cs.take (es.length*sz)++q) (H':=(st.m+1,.cells str (cs.take (es.length*sz)++q))::st.H) (n':=st.m+1+1) ?_ (.head _) (λp l=>⟨.tail _ l,(r p l).2⟩) ad (by have:=v.hl;simp;omega) (by rw[List.take_of_length_le (by simp;omega)])
     rw[T]at d c2 c3 g⊢;simp only[xoS,zF,L,zAK,extH,zCE,d,Nat.beq_refl,zCh,c1,J,c2,c3,g,QO,Heap.del]
theorem zTm{P:Program}{G:Cx}{nt:Nat}{E:Env}{w:World}{a:Act}{β:Nat->Option Nat}{st:Sta}(s:SR G nt E w a β st)(hG:GPP G)(hm:zAr P G){b:Nat}{I:HO}{fr':Fr}(V:FrR (zX E st.m (some (b,I))) w fr' a nt)
  {o:Oper} {S:XO} (hc:zAN P o.op=some S) {v:AV} {H':Heap} {n':Nat} (hx:xoS G zd fr' st.H (st.m+1) S=some (v,H',n')) (hH:∀p∈st.H,p∈H'):
  ∀next Q,(∀cv E' w',OutW G E w st none E' w' H' v cv->next (a.put o.dst cv) w')->o.wp P a w next Q:=by
 intro next Q hn;have L:∀h,E.D h->(zX E st.m (some (b,I))).D h/\(zX E st.m (some (b,I))).ρ h=E.ρ h:=λh B=>by
  have:h≠st.m:=by have:=s.qx h B;omega
  exact⟨.inl B,by simp[zX,this]⟩
 have A:∀p∈st.H,(zX E st.m (some (b,I))).ρ p.1=E.ρ p.1:=λp d=>(L p.1 (s.hr.qx p d)).2
 have Y:HR (zX E st.m (some (b,I))) st.H w:=by
  refine⟨s.hr.nodup,λp d=>.inl (s.hr.qx p d),λp d q hq e=>?_,λp d=>?_,λp d=>?_,s.hr.we⟩
  .rw[A p d,A q hq]at e;exact s.hr.inj p d q hq e
  .rw[A p d];exact(s.hr.obj p d).mono rfl (zEt s)
  .rw[A p d];exact s.hr.nz p d
 have W:GR G (zX E st.m (some (b,I))) w:=λg u h=>⟨zEt s (s.hg g u h).1,(s.hg g u h).2⟩
 have C:zDL (zX E st.m (some (b,I))) (st.m+1) n':=by
  intro h h1 M U;rcases U with U|U
  .have:=s.qx h U;omega
  .omega
 refine zEq Y V W hm zC1 hc C hx next Q λcv E' w' T r k3=>hn cv E' w' ?_
 have f:∀h,E.D h->E'.ρ h=E.ρ h:=λh B=>(r.agree h (L h B).1).trans (L h B).2
 have hblk:∀x,(∃p∈st.H,(zX E st.m (some (b,I))).ρ p.1=x)->∃p∈st.H,E.ρ p.1=x:=by
  rintro x ⟨p,d,e⟩
  exact⟨p,d,by rw[←A p d];exact e⟩
 have F:∀x,x<w.heap.size->¬(∃p∈st.H,E.ρ p.1=x)->w'.heap[x]? = w.heap[x]?:=λx h1 M=>r.wh x h1 λp d e=>M (hblk x ⟨p,d,e⟩)
 have y:∀z,E.Z z->E'.Z z/\w'.heap[z]? = w.heap[z]?:=λz O=>⟨r.qH z O,F z (s.hr.we z O) λ⟨p,d,e⟩=>s.hr.nz p d (e▸O)⟩
 have l:∀h,h<st.m->E'.D h->E.D h:=λh h1 M=>by
  rcases(r.qx h).1 M with h3|h3
  .exact h3.resolve_right (by omega)
  .omega
 have R:∀(x:Value) i,i<st.mv->(zk E E' st.mv x).σ i=E.σ i:=λx i hi=>by
  have:i≠st.mv:=by omega
  simp[zk,this]
 have t:∀x {v c},CP st.mv st.m v->VR E w v c->VR (zk E E' st.mv x) w' v c:=λx v c J hv=>
  VR.ve (E:=E) (E':=zk E E' st.mv x) (w:=w) (w':=w') (λh _ B=>⟨B,rfl⟩) y r.qn (R x) hv J
 refine⟨T,k3,f,(λb o e=>by cases e),l,y,λz O=>?_,λp d=>?_,λx h1 M _=>F x h1 M,r.tape,r.os,r.output,r.size,r.qn,r.sig,λx=>?_,t,λx g u h=>⟨t x (hG g u h).cp (s.hg g u h).1,(s.hg g u h).2.mono r.qn⟩⟩
 .rcases r.qP z O with h|h|h
  .exact .inl h
  .exact .inr (.inl (hblk z h))
  .exact .inr (.inr (.inr h))
 .rcases r.own p d with h|h
  .exact .inl (hblk _ h)
  .exact .inr (.inr h)
 .have hρ:∀p∈st.H,E'.ρ p.1=E.ρ p.1:=λp d=>f p.1 (s.hr.qx p d)
  refine⟨s.hr.nodup,s.hr.qx,s.hr.inj,λp d=>?_,λp d=>?_,T.we⟩
  .obtain⟨str,cs,e,X⟩:=s.cH p d;have h1:=T.obj p (hH p d);rw[e]at h1⊢;rw[hρ p d]at h1;refine OR.ve rfl (λJ hv=>?_) X h1
   exact VR.ve (E':=zk E E' st.mv x) (λh N B=>⟨l h N B,(f h (l h N B)).symm⟩) (λb hb=>⟨hb,rfl⟩) (.refl w') (λi hi=>by rw[R x i hi,r.sig];rfl) hv J
  .have:=T.nz p (hH p d);rw[hρ p d]at this;exact this
theorem zY0{P:Program}{G:Cx}{nt:Nat}{h f:Nat->Prop}{w0:World}{dl:List Deferred}{E:Env}{w:World}{a:Act}{β:Nat->Option Nat}{st:Sta}{o:Oper}{k:AV->Sta->Prop}{x:XV}(c:Ctx P G nt h f w0 dl E w a β st o (.wb x)){j n:Nat}(hx:x.ev G st.fr=some (.sym j))(A:st.V.get j=some (.dn n))(hk:k (.int .i64 (.ofNat n)) st):OpK P G nt h f w0 dl o w a k:=by
 have i:zo x=true:=by have:=c.ok;simp only[zn,XO.qb,zM,QO,QU,List.all_nil]at this;exact this
 obtain⟨t,rfl,u⟩:=zEu c.hG i hx;have q:=(c.s.qR j _ A).2;have d:∀{b:Nat}{X:AV},VR (zX E st.m (some (b,.wa [] 0))) w X (E.σ j)->xoS G zd (st.fr.put t X) st.H (st.m+1) (.wb (.t t))=some (.int .i64 (.ofNat n),st.H,st.m+1)->OpK P G nt h f w0 dl o w a k:=by
  intro b X v l next Q g;refine zTm c.s c.hG c.hm (zAH c.s u v) c.hc l (λp z=>z) next Q λy E' w' O=>?_
  exact g _ _ y _ w' hk (zPH (st:=st) (st2:=⟨qv st.fr o.dst (.int .i64 (.ofNat n)),st.H,st.V,st.m,st.mv⟩) (O.w6 c.s (λb o e=>by cases e) (λ_ _ _ _ _ _ e=>by cases e) (λb o e=>by cases e) (.int _ _) c.hd) c.kp c.df)
 obtain⟨h1,r⟩|⟨b,sz,cp,ex,h1⟩:=q
 .exact d (b:=0) (X:=.qa) (by rw[h1];exact .qa) (by subst r;simp only[xoS,zF])
 .exact d (b:=b) (X:=.row st.m 0 n sz cp ex) (h1.vr (by simp[zX]) (.inr rfl)) (by simp only[xoS,zF])
theorem zZ8{x:XV}(c:Ctx P G nt Z0 B0 w0 dl E w a β st o (.vB x)){j:Nat}{es:JE}{s:JV}(hx:x.ev G st.fr=some (.sym j))(f:st.V.get j=some (.vec 1 es))(h:zAZ es=some s)(hk:k (.str s) st):OpK P G nt Z0 B0 w0 dl o w a k:=by
 have i:zo x=true:=by have:=c.ok;simp only[zn,XO.qb,zM,QO,QU,List.all_nil]at this;exact this
 obtain⟨t,rfl,q⟩:=zEu c.hG i hx;obtain⟨l,⟨h1,r,rfl⟩|⟨b,str,cs,cp,ex,v⟩⟩:=zDV c.s f
 .cases h;refine c.ext (xb:=none) (λb o e=>by cases e) (zAH c.s q (X:=.qa) (xb:=none) (by rw[r];exact .qa)) (v:=.str []) (H':=st.H) (n':=st.m) (by simp only[xoS,zF,content,zAZ];rfl) (λp g=>g) (λy E' w' O=>⟨_,_,O.w6 c.s (λb o e=>by cases e) (λ_ _ _ _ _ _ e=>by cases e) (λb o e=>by cases e) (.str _) c.hd⟩) hk
 .have d:=v.ue;rw[zHS h]at d;have d:es=cs.take (es.length*1):=by simpa using d
  have c1:Nat.ble (0+es.length*1) cs.length=true:=by rw[Qo];have:=v.hl;omega
  refine c.ext (v.xb c.s f) (zAH c.s q v.vr) (v:=.str s) (H':=(st.m,.cells str cs)::st.H) (n':=st.m+1) ?_ (λp g=>.tail _ g) (λy E' w' O=>⟨_,_,O.w6 c.s (λu z e=>⟨by cases e;exact .head _,v.uz f u z e⟩) (v.self c.s l f O (.head _) undef) (v.bz c.s f) (.str _) c.hd⟩) hk
  have:content ((st.m,HO.cells str cs)::st.H) 1 (.row st.m 0 es.length 1 cp ex)=some (es.length,es):=by
   simp only[content,Nat.beq_refl,zCh,c1,List.drop_zero,←d]
  simp only[xoS,zF,extH,zCE,this,h]
theorem zVO{m x:XV}{J ok:Bool}{kd:List Kd}{z:AV}(c:Ctx P G nt Z0 B0 w0 dl E w a β st o (.lookup J kd m x z ok)){j:Nat}{es:List (AV×AV)}{C v:AV}(hm:m.ev G st.fr=some (.sym j))(B:st.V.get j=some (.mp es))(hx:x.ev G st.fr=some C)(I:zCP J kd C=true)
  (d:lkR ok z (zCV J kd C es)=some v) (hk:k v st):OpK P G nt Z0 B0 w0 dl o w a k:=by
 have F:(zo m=true/\zo x=true)/\z9 12 z=true:=by have:=c.ok;simp only[zn,XO.qb,zM,List.all_append,QU,List.all_nil,QO,qr]at this;exact this
 obtain⟨t,rfl,U⟩:=zEu c.hG F.1.1 hm;have M:C≠.sym j:=by intro e;subst e;cases I
 obtain⟨y,b,h1,h2,Y⟩:=(c.s.qR j _ B).2;have l:=c.s.bz j _ b B rfl h1;have L:=zCS (X:=.map st.m) hx U M;have hj:j≠st.mv:=by have:=(c.s.qR j _ B).1;omega
 have S:PP z:=zAy 12 F.2;have A:∀{es:List (AV×AV)}{u:AV},(∀p∈es,PP p.1/\PP p.2)->zCV J kd C es=some (some u)->PP u:=by
  intro es
  induction es with
  |nil=>intro u _ h;cases h
  |cons q r ih=>
   intro u W h;simp only[zCV]at h;split at h
   .cases h;exact(W _ (.head _)).2
   .exact ih (λp y=>W p (.tail _ y)) h
   .cases h
 have D:∀(b:Bool){u:AV},PP u->PP (lkV ok b u):=λb u g=>by
  cases ok with
  |true=>
   refine .qg _ λe he=>?_
   simp only[QG,List.not_mem_nil,or_false]at he;rcases he with rfl|rfl
   .exact g
   .exact .bool _
  |false=>exact g
 have R:PP v:=by
  unfold lkR at d;split at d
  .rename_i u g;cases d;exact D true (A y g)
  .cases d;exact D false S
  .cases d
 refine c.ext (xb:=some (b,.map es)) (λN T e=>by cases e;exact⟨h2,l.1,l.2⟩) (zAH c.s U (X:=.map st.m) (by rw[Y];have:=VR.map (E:=zX E st.m (some (b,.map es))) (w:=w) st.m (.inr rfl);simpa[zX]using this)) (v:=v) (H':=(st.m,.map es)::st.H) (n':=st.m+1) ?_ (λp y=>.tail _ y)
  (λcv E' w' O=>⟨_,_,O.w6 c.s (λN T e=>by cases e;exact⟨.head _,j,_,B,rfl,h1⟩) (λj' vi N T q1 q2 e q3=>?_) (λN T e=>by cases e;exact l.2) R c.hd⟩) hk
 .simp only[xoS,zF,L,I,extH,zCE,zCh];unfold lkR at d;split at d
  .rename_i u g;cases d;simp only[g];cases ok<;>rfl
  .rename_i g;cases d;simp only[g];cases ok<;>rfl
  .cases d
 .cases e;have:=c.s.qQ j j' _ _ b B q1 rfl q2 h1 q3;subst this;rw[B]at q1;cases q1;have hm:=O.vE.obj _ (.head _);rw[O.vl b _ rfl]at hm;exact⟨y,b,h1,hm.uZ y,by simp[zk,hj,Y]⟩
theorem zY1{m x y:XV}{N:Bool}{kd:List Kd}(c:Ctx P G nt Z0 B0 w0 dl E w a β st o (.wM N kd m x y)){j:Nat}{es d:List (AV×AV)}{z u:AV}(hm:m.ev G st.fr=some (.sym j))(M:st.V.get j=some (.mp es))(hx:x.ev G st.fr=some z)(hy:y.ev G st.fr=some u)(J:zCP N kd z=true)(Y:ppS 12 z=true)(I:ppS 12 u=true)
  (l:zFT N kd z u es=some d) (hk:k (.qg []) ⟨st.fr,st.H,(j,.mp d)::st.V.del j,st.m,st.mv⟩):OpK P G nt Z0 B0 w0 dl o w a k:=by
 have A:(zo m=true/\zo x=true)/\zo y=true:=by have:=c.ok;simp only[zn,XO.qb,zM,List.all_append,QU,List.all_nil,QO,qr]at this;exact this
 obtain⟨t,rfl,T⟩:=zEu c.hG A.1.1 hm;have S:z≠.sym j:=by intro e;subst e;cases J
 have B:u≠.sym j:=by intro e;subst e;cases I
 obtain⟨g,b,h1,h2,h3⟩:=(c.s.qR j _ M).2;have F:=c.s.bz j _ b M rfl h1;have R:=zCS (X:=.map st.m) hx T S;have aa:=zCS (X:=.map st.m) hy T B;have hj:j≠st.mv:=by have:=(c.s.qR j _ M).1;omega
 have L:PP z:=zBM 12 (zJ c.hG c.s.qY A.1.2 hx) Y;have D:PP u:=zBM 12 (zJ c.hG c.s.qY A.2 hy) I;have W:∀{es d:List (AV×AV)},(∀p∈es,PP p.1/\PP p.2)->zFT N kd z u es=some d->∀p∈d,PP p.1/\PP p.2:=by
  intro es
  induction es with
  |nil=>intro d _ h p g;cases h;simp only[QY]at g;subst g;exact⟨L,D⟩
  |cons q r ih=>
   intro d U h p g;simp only[zFT]at h;split at h
   .cases h;rcases QG.1 g with rfl|g
    .exact⟨L,D⟩
    .exact U p (.tail _ g)
   .split at h
    .rename_i r' hr;cases h;rcases QG.1 g with rfl|g
     .exact U _ (.head _)
     .exact ih (λp g=>U p (.tail _ g)) hr p g
    .cases h
   .cases h
 have C:=W g l;refine c.ext (xb:=some (b,.map es)) (λb' o' e=>by cases e;exact⟨h2,F.1,F.2⟩) (zAH c.s T (X:=.map st.m) (by rw[h3];have:=VR.map (E:=zX E st.m (some (b,.map es))) (w:=w) st.m (.inr rfl);simpa[zX]using this)) (v:=.qg []) (H':=(st.m,.map d)::st.H) (n':=st.m+1) ?_ (λp g=>.tail _ g)
  (λcv E' w' O=>⟨_,_,O.replace c.s M rfl h1 (vi1:=.mp d) rfl ?_ (.head _) (λsz es e=>by cases e) (.qg _ λe he=>by cases he) c.hd⟩) hk
 .simp only[xoS,zF,R,aa,J,extH,zCE,zCh,l,Heap.put,Nat.beq_refl]
 .have hm:=O.vE.obj _ (.head _);rw[O.vl b _ rfl]at hm;exact⟨C,b,h1,hm.uZ C,by simp[zk,hj,h3]⟩
end
def TbW(P:Program)(G:Cx)(tb:TblS):Prop:=∀s∈tb,∀args v,s.2.1 args->s.2.2 args=some v->Enters P s.1/\PP v/\∀H nx,FnT P G s.1 args H nx v H nx
theorem zDJ:∀{tb:TblS}{f:Nat}{args:JE}{k:AV->Prop},zEF tb f args k->∃s∈tb,s.1=f/\s.2.1 args/\∃v,s.2.2 args=some v/\k v
 |[],f,args,k,h=>h.elim
 |s::r,f,args,k,h=>by
  simp only[zEF]at h;split at h
  .rename_i e;obtain⟨h1,c⟩:=h;split at c
   .rename_i v g;exact⟨s,.head _,(zb e).symm,h1,v,g,c⟩
   .exact c.elim
  .obtain⟨d,h1,c⟩:=zDJ h;exact⟨d,.tail _ h1,c⟩
open Classical in
noncomputable def zNC(f0:Nat)(a0:JE)(v:AV):Call:=λf args H nx=>if f=f0/\args=a0 then some (v,H,nx)else none
theorem zMx{P:Program}{G:Cx}{f:Nat}{args:JE}{v:AV}(h1:Enters P f)(g:∀H nx,FnT P G f args H nx v H nx):zEp P G (zNC f args v):=by
 intro l c H nx i o d h;simp only[zNC]at h;split at h
 .rename_i e;obtain⟨rfl,rfl⟩:=e;cases h;exact⟨h1,QA _,g _ _⟩
 .cases h
theorem zG7{f:Nat}{args:JE}{v:AV}{H:Heap}{nx:Nat}:zNC f args v f args H nx=some (v,H,nx):=by simp[zNC]
theorem zAz{f:AV->JF}:∀{xs c:JE},zp f xs=some c->c.length=xs.length/\∀(i:Nat) x y,xs[i]?=some x->c[i]?=some y->f x=some y
 |[],c,h=>by cases h;exact⟨rfl,λi x y d=>by simp at d⟩
 |x::xs,c,h=>by
  simp only[zp]at h;split at h
  .rename_i v g;split at h
   .rename_i r o;cases h;obtain⟨h1,l⟩:=zAz o;refine⟨by simp[h1],λi p y d e=>?_⟩
    cases i with
    |zero=>simp at d e;subst d;subst e;exact g
    |succ i=>exact l i p y (by simpa using d) (by simpa using e)
   .cases h
  .cases h
theorem zHT{f:AV->JF}:∀{a b c:JE},zp f (a++b)=some c->∃x y,zp f a=some x/\zp f b=some y/\c=x++y
 |[],b,c,h=>⟨[],c,rfl,h,rfl⟩
 |e::r,b,c,h=>by
  simp only[List.cons_append,zp]at h;split at h
  .rename_i v g;split at h
   .rename_i q d;cases h;obtain⟨x,y,h1,i,rfl⟩:=zHT d;exact⟨v::x,y,by simp only[zp,g,h1],i,rfl⟩
   .cases h
  .cases h
theorem zEH{f g:AV->JF}(c:∀x y,f x=some y->g x=some y):∀{xs d:JE},zp f xs=some d->zp g xs=some d
 |[],d,h=>h
 |x::xs,d,h=>by
  simp only[zp]at h⊢;split at h
  .rename_i v e;rw[c _ _ e];split at h
   .rename_i r i;rw[zEH c i];exact h
   .cases h
  .cases h
theorem zHn{n k:Nat}:∀(d:Nat){v:AV},CP n k v->zAU d v=false->PP v:=by
 intro d
 induction d with
 |zero=>intro v _ h;cases h
 |succ d o=>
  intro v hc h;have f:∀{l:JE},(∀e∈l,CP n k e)->l.any (zAU d)=false->∀e∈l,PP e:=λhc i e c=>o (hc e c) (by
   rw[List.any_eq_false]at i
   simpa using i e c)
  cases hc with
  |bool b=>exact .bool b
  |int k m=>exact .int k m
  |str s=>exact .str s
  |qj=>exact .qj
  |qa=>exact .qa
  |qm=>exact .qm
  |ql=>exact .ql
  |qe=>exact .qe
  |qc e off c=>exact .qc e off c
  |qo sz es c=>exact .qo sz es c
  |func fn a b q p=>
   have h:(a.any (zAU d)||b.any (zAU d))=false:=h;rw[Bool.or_eq_false_iff]at h;exact .func fn a b (f q h.1) (f p h.2)
  |iface t v r=>exact .iface t v (o r h)
  |agg cs g=>exact .agg cs (f g h)
  |qg cs g=>exact .qg cs (f g h)
  |_=>cases h
theorem zUK:∀(d:Nat){v:AV},zAU d v=false->zAU (d+1) v=false:=by
 intro d
 induction d with
 |zero=>intro v h;cases h
 |succ d f=>
  intro v h;have c:∀{l:JE},l.any (zAU d)=false->l.any (zAU (d+1))=false:=λe=>by
   rw[List.any_eq_false]at e⊢;intro x g;have:=f (v:=x) (by simpa using e x g)
   simp[this]
  cases v with
  |func fn a b=>
   have h:(a.any (zAU d)||b.any (zAU d))=false:=h;rw[Bool.or_eq_false_iff]at h;show(a.any (zAU (d+1))||b.any (zAU (d+1)))=false
   rw[c h.1,c h.2];rfl
  |iface t v=>exact f h
  |agg cs=>exact c h
  |qg cs=>exact c h
  |_=>exact h
theorem zVP{H:Heap}{V:Vecs}:∀(d:Nat){v v':AV},frz H V d v=some v'->frz H V (d+1) v=some v':=by
 intro d
 induction d with
 |zero=>intro v v' h;cases h
 |succ d e=>
  intro v v' h;unfold frz at h⊢;split at h
  .exact h
  .split at h
   .split at h
    .rename_i f c;rw[zEH (λx y=>e) c]
     exact h
    .cases h
   .cases h
  .split at h
   .rename_i o g;rw[zEH (λx y=>e) g]
    split at h
    .rename_i p l;rw[zEH (λx y=>e) l]
     exact h
    .cases h
   .cases h
  .split at h
   .rename_i f c;rw[zEH (λx y=>e) c]
    exact h
   .cases h
  .exact h
  .split at h
   .cases h
   .rename_i i;rw[zUK d i];exact h
theorem zUL{H:Heap}{V:Vecs}:∀(d:Nat){v v':AV},PP v->frz H V d v=some v'->v'=v:=by
 intro d
 induction d with
 |zero=>intro v v' _ h;cases h
 |succ d D=>
  intro v v' y h;have g:∀{l c:JE},(∀e∈l,PP e)->zp (frz H V d) l=some c->c=l:=by
   intro l
   induction l with
   |nil=>intro c _ h;cases h;rfl
   |cons e r f=>
    intro c s h;simp only[zp]at h;split at h
    .rename_i u A;split at h
     .rename_i q x;cases h;rw[D (s _ (.head _)) A,f (λe C=>s e (.tail _ C)) x]
     .cases h
    .cases h
  unfold frz at h;cases y with
  |func fn a b F t=>
   simp only at h;split at h
   .rename_i J o;split at h
    .rename_i I p;cases h;rw[g F o,g t p]
    .cases h
   .cases h
  |agg cs B=>
   simp only at h;split at h
   .rename_i z i;cases h;rw[g B i]
   .cases h
  |_=>
   simp only at h;split at h
   .cases h
   .cases h;rfl
section
variable{P:Program}{G:Cx}{nt:Nat}{E:Env}{w:World}{a:Act}{β:Nat->Option Nat}{st:Sta}
 {Z0 B0:Nat->Prop} {w0:World} {dl:List Deferred} {o:Oper} {k:AV->Sta->Prop}
theorem zQ5{e:AV}{sz:Nat}{xs:JE}{vs:JC}(hc:cellsOf e sz=some xs)(d:VRs E w xs vs)(h1:∀v∈vs,v.oneCell'=true):∃u,VR E w e u/\u.cells.toList=vs:=by
 obtain⟨o,c,h⟩:=zI hc;cases e with
 |agg cs=>
  have c:cs=xs:=c;subst c;exact⟨.agg vs.toArray,VR.qT (by simpa using d) (λv d=>h1 v (by simpa using d)),by simp[Value.cells]⟩
 |qg=>cases h
 |_=>
  have c:[_]=xs:=c;subst c;obtain⟨v,i,rfl,g,l⟩:=d.of_cons;have:=l.of_nil;subst this;have f:v.oneCell'=true:=h1 v (.head _);refine⟨v,g,?_⟩
  cases v<;>first|(simp[Value.oneCell']at f;done)|simp[Value.cells]
def zAI(E:Env)(β:Nat->Option Nat)(H:Heap)(V:Vecs):Env:=⟨E.ρ,λ_=>False,λx=>E.Z x\/BS E β H V x,E.σ⟩
theorem zJG{b:Nat}{str:Bool}{cs:JE}(h:OR E w b (.cells str cs)):∃vs:JC,VRs E w cs vs/\(∀v∈vs,v.oneCell'=true)/\∀(j:Nat) c,vs[j]?=some c->w.cell? ⟨b,j,none⟩=some c:=by
 obtain⟨c,e,f,h1,A,B,y⟩:=h;have q:∀(i:Nat)(x:AV)(v:Value),cs[i]?=some x->(c.toList.take cs.length)[i]?=some v->v.oneCell'=true/\VR E w x v/\c[i]?=some v:=λi x v p g=>by
  obtain⟨u,r,z,t⟩:=y i x p;have o:i<cs.length:=(QC.1 p).1;rw[List.getElem?_take,if_pos o]at g;have:c[i]?=some v:=by simpa using g
  rw[r]at this;cases this;exact⟨z,t,r⟩
 have l:(c.toList.take cs.length).length=cs.length:=by simp;omega
 refine⟨c.toList.take cs.length,⟨l.symm,λi x v p g=>(q i x v p g).2.1⟩,λv g=>?_,λj u s=>?_⟩
 .obtain⟨i,o⟩:=List.getElem?_of_mem g;have d:i<cs.length:=by have:=(QC.1 o).1;omega
  exact(q i _ v (QE d) o).1
 .have d:j<cs.length:=by have:=(QC.1 s).1;omega
  have:=(q j _ u (QE d) s).2.2;simp only[World.cell?,h1];exact this
theorem zDt(s:SR G nt E w a β st):∀(d:Nat){v v':AV}{cv:Value},CP st.mv st.m v->VR E w v cv->frz st.H st.V d v=some v'->VR (zAI E β st.H st.V) w v' cv:=by
 have O:∀{v:AV}{cv:Value},PP v->VR E w v cv->VR (zAI E β st.H st.V) w v cv:=λhp l=>VR.pp (E:=E) (E':=zAI E β st.H st.V) (w:=w) (w':=w) (λb hb=>⟨.inl hb,rfl⟩) l hp
 intro d
 induction d with
 |zero=>intro v v' cv _ _ h;cases h
 |succ d ih=>
  intro v v' cv C l h;have al:∀{xs ys:JE}{vs:JC},(∀e∈xs,CP st.mv st.m e)->VRs E w xs vs->zp (frz st.H st.V d) xs=some ys->VRs (zAI E β st.H st.V) w ys vs:=λhc U hm=>by
   obtain⟨m1,m2⟩:=zAz hm;refine⟨m1.trans U.1,λi y u hy hu=>?_⟩
   have z:i<_:=(QC.1 hy).1;rw[m1]at z;have q:=QE z;exact ih (hc _ (QF q)) (U.2 i _ u q hu) (m2 i _ y q hy)
  unfold frz at h;split at h
  ·
   rename_i j;split at h
   .rename_i sz es hV;cases h;have ae:=l.vM;subst ae;obtain⟨M,⟨h1,h2,rfl⟩|⟨b,str,cs,cp,ex,vi⟩⟩:=zDV s hV
    .rw[h2];exact .wq _ _ _ (QV _)
    .rcases vi.row with⟨ad,J,e2,_⟩|⟨cap,J,t,A,ai,_,_,_⟩
     .have:=List.eq_nil_of_length_eq_zero e2;subst this;rw[J];exact .wq _ _ _ (QV _)
     .rw[J];obtain⟨vs,F,I,k3⟩:=zJG vi.uS;obtain⟨q1,R⟩:=zQ vi.ue;have key:∀i,∃u:Value,∀e,es[i]?=some e->VR E w e u/\e.flat=true/\u.cells.toList=(vs.drop (i*sz)).take sz:=by
       intro i;cases o:es[i]? with
       |none=>exact⟨.bool true,λe h=>by cases h⟩
       |some e=>
        have z:i<es.length:=(QC.1 o).1;have B:i*sz+sz<=es.length*sz:=by rw[←Nat.succ_mul];exact Nat.mul_le_mul_right _ z
        have r:=R i e o;rw[List.drop_take,List.take_take,Nat.min_eq_left (by omega)]at r
        obtain⟨u,r1,r2⟩:=zQ5 r (F.extract (i*sz) sz) (λv l=>I v (QW (QM l)))
        exact⟨u,λe' h=>by cases h;exact⟨r1,(zI r).2.2,r2⟩⟩
      obtain⟨f,D⟩:=Classical.axiomOfChoice key;refine .qo es b 0 cap sz f (.inr (.inr ⟨j,_,hV,rfl,vi.hb⟩)) t A (λi e o=>?_) (λi e o=>O (M e (QF o)) (D i e o).1) (λi z=>?_)
      .have:=(D i e o).2.1;unfold AV.flat at this;exact this
      .have o:es[i]?=some es[i]:=QE z;obtain⟨_,_,T⟩:=D i _ o;have ag:vs.length=cs.length:=F.1.symm;have B:i*sz+sz<=es.length*sz:=by rw[←Nat.succ_mul];exact Nat.mul_le_mul_right _ z
       have:=vi.hl;refine⟨?_,λj' c hc=>?_⟩
       .have:(f i).cells.toList.length=sz:=by rw[T];simp;omega
        simpa using this
       .have g:(f i).cells.toList[j']?=some c:=by simpa using hc
        rw[T,List.getElem?_take]at g;split at g
        .rw[List.getElem?_drop]at g;have:=k3 _ c g;rw[QS];exact this
        .cases g
   .cases h
  ·
   rename_i X off;split at h
   .rename_i str cs W;split at h
    .rename_i S L;cases h;have p:=Heap.qi W;have ab:=s.hr.obj _ p;obtain⟨vs,F,I,k3⟩:=zJG ab;obtain⟨_,_,J,N⟩:=s.cH.get W;cases J;cases l with
     |ptr _ _ hd=>
      have:=VR.qc (E:=zAI E β st.H st.V) (w:=w) (.agg S) off (E.ρ X) 0 (.agg vs.toArray) rfl (.inr (.inl ⟨_,p,rfl⟩)) (VR.qT (by simpa using al N F L) (λv l=>I v (by simpa using l))) (λj c hj=>by
       rw[QS];exact k3 j c (by simpa[Value.cells]using hj))
      rw[QS]at this;exact this
    .cases h
   .cases h
  .rename_i f x y;split at h
   .rename_i x' q;split at h
    .rename_i y' hy;cases h;cases C with
     |func _ _ _ ha hb=>
      cases l with
      |func _ _ _ vf vc D hc rf rc=>
       obtain⟨g1,g2⟩:=al (vs:=vf.toList) ha ⟨by simpa using D,λi x v q l=>rf i x v q (by simpa using l)⟩ q
       obtain⟨g3,g4⟩:=al (vs:=vc.toList) hb ⟨by simpa using hc,λi x v q l=>rc i x v q (by simpa using l)⟩ hy
       exact .func _ _ _ vf vc (by simpa using g1) (by simpa using g3) (λi x v q l=>g2 i x v q (by simpa using l)) (λi x v q l=>g4 i x v q (by simpa using l))
    .cases h
   .cases h
  .rename_i cs;split at h
   .rename_i S L;cases h;cases C with
    |agg _ hc=>
     obtain⟨vs,rfl,F,I⟩:=l.qX;exact VR.qT (al hc F L) I
   .cases h
  .rename_i X off len sz cp ex;split at h
   .rename_i str cs W;split at h
    .rename_i Y;split at h
     .rename_i es hr;split at h
      .rename_i af;cases h;obtain⟨_,_,J,N⟩:=s.cH.get W;cases J;obtain⟨q1,R,q3,q4,q5⟩:=z4 hr;obtain⟨g1,g2⟩:=zQ q5;have M:∀e∈es,PP e:=by
        intro e o;obtain⟨i,z⟩:=List.getElem?_of_mem o;obtain⟨r1,r2,r3⟩:=zI (g2 i e z);refine zBM (n:=st.mv) (k:=st.m) 8 (zBD r3 λx q=>N x ?_) (QD.1 af e o)
        rw[r2]at q;exact QW (QM (QW (QM q)))
       have p:=Heap.qi W;cases l with
       |wm _ _ _ _ ad=>
        have:=List.eq_nil_of_length_eq_zero R;subst this;exact .wq _ _ _ (QV _)
       |row _ _ _ _ _ cap _ hD t A ah C ak aj=>
        obtain⟨vs,F,I,k3⟩:=zJG (s.hr.obj _ p);have aa:=F.extract off cs.length;have ac:(cs.drop off).take cs.length=cs.drop off:=List.take_of_length_le (by simp)
        rw[ac]at aa;have Y:=QN Y;have key:∀i,∃u:Value,∀e,es[i]?=some e->VR E w e u/\e.flat=true/\u.cells.toList=(((vs.drop off).take cs.length).drop (i*sz)).take sz:=by
         intro i;cases o:es[i]? with
         |none=>exact⟨.bool true,λe h=>by cases h⟩
         |some e=>
          have z:i<es.length:=(QC.1 o).1;have B:i*sz+sz<=len*sz:=by rw[←Nat.succ_mul,←R];exact Nat.mul_le_mul_right _ z
          have r:=g2 i e o;rw[List.drop_take,List.take_take,Nat.min_eq_left (by omega)]at r
          obtain⟨u,r1,r2⟩:=zQ5 r (aa.extract (i*sz) sz) (λv l=>I v (QW (QM (QW (QM l)))))
          exact⟨u,λe' h=>by cases h;exact⟨r1,(zI r).2.2,r2⟩⟩
        obtain⟨f,D⟩:=Classical.axiomOfChoice key;rw[←R]at t⊢;refine .qo es (E.ρ X) off cap sz f (.inr (.inl ⟨_,p,rfl⟩)) t A (λi e o=>?_) (λi e o=>O (M e (QF o)) (D i e o).1) (λi z=>?_)
        .have:=(D i e o).2.1;unfold AV.flat at this;exact this
        .have o:es[i]?=some es[i]:=QE z;obtain⟨_,_,T⟩:=D i _ o;have ag:vs.length=cs.length:=F.1.symm;have B:i*sz+sz<=len*sz:=by rw[←Nat.succ_mul,←R];exact Nat.mul_le_mul_right _ z
         refine⟨?_,λj' c hc=>?_⟩
         .have:(f i).cells.toList.length=sz:=by rw[T];simp;omega
          simpa using this
         .have g:(f i).cells.toList[j']?=some c:=by simpa using hc
          rw[T,List.getElem?_take]at g;split at g
          .rw[List.getElem?_drop,List.getElem?_take]at g;split at g
           .rw[List.getElem?_drop]at g;have:=k3 _ c g;rw[Nat.add_assoc];exact this
           .cases g
          .cases g
      .cases h
     .cases h
    .cases h
   .cases h
  .split at h
   .cases h
   .rename_i X;cases h;exact O (zHn d C X) l
end
theorem zOY{E E':Env}{w:World}:∀(d:Nat){v:AV}{cv:Value},zBe d v=true->VR E w v cv->VR E' w v cv:=by
 intro d
 induction d with
 |zero=>intro v cv h;cases h
 |succ d r=>
  intro v cv h q;cases q with
  |bool b=>exact .bool b
  |int k n g=>exact .int k n g
  |str l s g c=>exact .str l s g c
  |qj=>exact .qj
  |qa=>exact .qa
  |qm=>exact .qm
  |ql=>exact .ql
  |qe=>exact .qe
  |iface t v cv q=>exact .iface t v cv (r h q)
  |agg cs f c o h1=>
   have h:cs.all (zBe d)=true:=h;exact .agg cs f c (λi x v e p=>r (QD.1 h x (QF e)) (o i x v e p)) h1
  |qg cs f c o=>
   have h:cs.all (zBe d)=true:=h;exact .qg cs f c (λi x v e p=>r (QD.1 h x (QF e)) (o i x v e p))
  |_=>cases h
theorem zCI{b:Bool}{A B:Prop}(h:Br b A B):(b=true/\A)\/(b=false/\B):=by
 cases b with
 |true=>exact .inl ⟨rfl,h⟩
 |false=>exact .inr ⟨rfl,h⟩
section
variable{P:Program}{G:Cx}{nt:Nat}{E:Env}{w:World}{a:Act}{β:Nat->Option Nat}{st:Sta}
 {Z0 B0:Nat->Prop} {w0:World} {dl:List Deferred} {o:Oper} {k:AV->Sta->Prop} {tb:TblS}
theorem zQ6{y:XO}(c:Ctx P G nt Z0 B0 w0 dl E w a β st o y){f:Nat}{q:JE}{v:AV}{fr':Fr}(B:FrR (zAI E β st.H st.V) w fr' a nt)(hx:xoS G (zNC f q v) fr' [] 0 y=some (v,[],0))(h1:Enters P f)(J:∀H nx,FnT P G f q H nx v H nx)(S:zBe 8 v=true)(A:PP v)
  (hk:k v st):OpK P G nt Z0 B0 w0 dl o w a k:=by
 intro next Q T;have t:∀b,(zAI E β st.H st.V).Z b->b<w.heap.size:=by
  rintro b (l|⟨p,i,rfl⟩|⟨j,z,q1,q2,q3⟩)
  .exact c.s.hr.we b l
  .exact c.s.hr.lt i
  .exact(c.s.qR j z q1).2.lt q2 q3
 have C:HR (zAI E β st.H st.V) [] w:=⟨.nil,λp i=>by simp at i,λp i=>by simp at i,λp i=>by simp at i,λp i=>by simp at i,t⟩
 have D:GR G (zAI E β st.H st.V) w:=λg u h=>⟨VR.pp (E:=E) (E':=zAI E β st.H st.V) (w:=w) (w':=w) (λb l=>⟨.inl l,rfl⟩) (c.s.hg g u h).1 (c.hG g u h),(c.s.hg g u h).2⟩
 refine zEq C B D c.hm (zMx h1 J) c.hc (λh _ _ M=>M) hx next Q λL E' w' U r N=>?_
 have e:∀x,x<w.heap.size->w'.heap[x]? = w.heap[x]?:=λx hx=>r.wh x hx λp i=>by simp at i
 have F:∀{u I},VR E w u I->VR E w' u I:=λR=>VR.mono (E:=E) (E':=E) (λ_ h=>⟨h,rfl⟩) (λb l=>⟨l,e b (c.s.hr.we b l)⟩) r.qn R
 have d:=c.s;refine T v st L E w' hk (zPH (E:=E) (E2:=E) (w:=w) (β:=β) (β2:=β) (st:=st) (st2:=st.put o.dst v) ⟨⟨⟨d.hr.nodup,d.hr.qx,d.hr.inj,λp i=>(d.hr.obj p i).mono (e _ (d.hr.lt i)) F,d.hr.nz,λb l=>QX (d.hr.we b l) r.size⟩,d.hf.put F c.hd (zOY 8 S N),λg u h=>⟨F (d.hg g u h).1,(d.hg g u h).2.mono r.qn⟩,d.qx,d.qY.qv A.cp,d.cH,λj z h=>⟨(d.qR j z h).1,(d.qR j z h).2.mono rfl (λ_=>rfl) (λb O l=>e b ((d.qR j z h).2.lt O l)) (λb l=>⟨l,e b (d.hr.we b l)⟩) r.qn λ_ _ _ _ sz es h=>⟨rfl,es,h,rfl⟩⟩,d.vp,d.bz,d.qQ⟩,
  ⟨λ_ h=>h,λ_ h=>.inl h,λ_ h=>.inl h,r.tape,r.os,r.output,r.size,λx hx _=>e x hx,r.qn⟩⟩ c.kp c.df)
theorem zVQ{H:Heap}{V:Vecs}{d:Nat}{f:Fn}{a b x y:JE}(c:zp (frz H V d) a=some x)(e:zp (frz H V d) b=some y):frz H V (d+1) (.func f a b)=some (.func f x y):=by
 conv=>lhs;unfold frz
 simp only[c,e]
def zG8:List XV->JE->Fr
 |.t t::xs,v::vs=>(t,v)::zG8 xs vs
 |_::xs,_::vs=>zG8 xs vs
 |_,_=>[]
theorem zKY{G:Cx}{fr:Fr}{f:AV->JF}:∀{xs:List XV}{vs d:JE},evs G fr xs=some vs->zp f vs=some d->∀t,((zG8 xs d).get t=none/\XV.t t ∉ xs)\/∃v v',fr.get t=some v/\f v=some v'/\(zG8 xs d).get t=some v'
 |[],vs,d,h,l,t=>.inl ⟨by cases d<;>rfl,by simp⟩
 |x::xs,vs,d,h,l,t=>by
  simp only[evs]at h;split at h
  .rename_i v s;split at h
   .rename_i y q;cases h;simp only[zp]at l;split at l
    .rename_i v' p;split at l
     .rename_i r o;cases l;have i:=zKY q o t;cases x with
      |t n=>
       simp only[zG8,Fr.get];by_cases e:n=t
       .subst e;simp only[Nat.beq_refl];exact .inr ⟨v,v',s,p,rfl⟩
       .have:Nat.beq n t=false:=by
         cases hb:Nat.beq n t with
         |false=>rfl
         |true=>exact absurd (zb hb) e
        simp only[this];rcases i with⟨i1,i2⟩|i
        .exact .inl ⟨i1,by simp only[QG,XV.t.injEq,not_or];exact⟨λh=>e h.symm,i2⟩⟩
        .exact .inr i
      |c u=>
       rcases i with⟨i1,i2⟩|i
       .exact .inl ⟨i1,by simpa using i2⟩
       .exact .inr i
      |g u=>
       rcases i with⟨i1,i2⟩|i
       .exact .inl ⟨i1,by simpa using i2⟩
       .exact .inr i
     .cases l
    .cases l
   .cases h
  .cases h
theorem zKZ{G:Cx}{fr fr':Fr}{H:Heap}{V:Vecs}{d:Nat}(s:GPP G):∀{xs:List XV}{vs e:JE},xs.all zo=true->(∀t,XV.t t∈xs->∀v v',fr.get t=some v->frz H V d v=some v'->fr'.get t=some v')->evs G fr xs=some vs->zp (frz H V d) vs=some e->evs G fr' xs=some e
 |[],vs,e,_,_,h,f=>by cases h;cases f;rfl
 |x::xs,vs,e,l,r,h,f=>by
  rw[QU,qr]at l;simp only[evs]at h⊢;split at h
  .rename_i v p;split at h
   .rename_i C q;cases h;simp only[zp]at f;split at f
    .rename_i v' i;split at f
     .rename_i z o;cases f;have B:=zKZ s l.2 (λt y=>r t (.tail _ y)) q o
      have A:x.ev G fr'=some v':=by
       cases x with
       |t n=>exact r n (.head _) v v' p i
       |c u=>cases p;rw[zUL d (zAy 12 l.1) i];rfl
       |g u=>rw[zUL d (s u v p) i];exact p
      rw[A,B]
     .cases f
    .cases f
   .cases h
  .cases h
theorem zY2{f:Nat}{xs:List XV}(r:TbW P G tb)(c:Ctx P G nt Z0 B0 w0 dl E w a β st o (.call f xs)){vs:JE}(D:evs G st.fr xs=some vs)(h:zBV tb f vs st k):OpK P G nt Z0 B0 w0 dl o w a k:=by
 have C:xs.all zo=true:=by have:=c.ok;simp only[zn,XO.qb,zM,QO]at this;exact this
 unfold zBV at h;split at h
 .obtain⟨s,B,rfl,g,v,d,hk⟩:=zDJ h;obtain⟨q1,I,z⟩:=r s B vs v g d;exact c.gen (zMx q1 z) (by simp only[xoS,D,zG7]) I.cp c.s.cH hk
 .split at h
  .rename_i p i;obtain⟨s,B,rfl,g,v,d,hk⟩:=zDJ h;obtain⟨q1,I,z⟩:=r s B p v g d;split at hk
   rotate_left
   .exact hk.elim
   rename_i F;have l:=zKY (f:=frz st.H st.V 8) D i;refine zQ6 c (fr':=zG8 xs p) ⟨c.s.hf.size,λt u q=>?_⟩ ?_ q1 z F I hk
   .rcases l t with⟨e,_⟩|⟨v1,v2,x,A,y⟩
    .rw[e]at q;cases q
    .rw[y]at q;cases q;exact zDt c.s 8 (c.s.qY t v1 x) (c.s.hf.get t v1 x) A
   .have:=zKZ (fr':=zG8 xs p) c.hG C (λt q v1 v2 x A=>by
     rcases l t with⟨_,e⟩|⟨v3,v4,y,J,L⟩
     .exact absurd q e
     .rw[x]at y;cases y;rw[A]at J;cases J;exact L) D i
    simp only[xoS,this,zG7]
  .exact h.elim
theorem zXL{z:XV}{xs:List XV}(I:TbW P G tb)(c:Ctx P G nt Z0 B0 w0 dl E w a β st o (.qN z xs)){f:Nat}{first i vs:JE}(hf:z.ev G st.fr=some (.func (.func f) first i))(hv:evs G st.fr xs=some vs)(h:zBV tb f (first++vs++i) st k):OpK P G nt Z0 B0 w0 dl o w a k:=by
 have D:zo z=true/\xs.all zo=true:=by have:=c.ok;simp only[zn,XO.qb,zM,List.all_append,QU,List.all_nil,QO,qr]at this;exact this
 unfold zBV at h;split at h
 .obtain⟨s,T,rfl,p,v,l,hk⟩:=zDJ h;obtain⟨q1,Y,N⟩:=I s T _ v p l;exact c.gen (zMx q1 N) (by simp only[xoS,hf,hv,zEZ,zG7]) Y.cp c.s.cH hk
 .split at h
  .rename_i U C;obtain⟨s,T,rfl,p,v,l,hk⟩:=zDJ h;obtain⟨q1,Y,N⟩:=I s T U v p l;split at hk
   rotate_left
   .exact hk.elim
   rename_i W;obtain⟨xy,g,h1,h2,rfl⟩:=zHT C;obtain⟨d,q,h3,h4,rfl⟩:=zHT h1;have X:frz st.H st.V 9 (.func (.func s.1) first i)=some (.func (.func s.1) d g):=zVQ h3 h2;have M:zp (frz st.H st.V 9) vs=some q:=zEH (λx y=>zVP 8) h4
   have B:evs G st.fr (z::xs)=some (.func (.func s.1) first i::vs):=by simp only[evs,hf,hv]
   have F:zp (frz st.H st.V 9) (.func (.func s.1) first i::vs)=some (.func (.func s.1) d g::q):=by simp only[zp,X,M]
   have r:=zKY (f:=frz st.H st.V 9) B F;refine zQ6 c (fr':=zG8 (z::xs) (.func (.func s.1) d g::q)) ⟨c.s.hf.size,λt u A=>?_⟩ ?_ q1 N W Y hk
   .rcases r t with⟨e,_⟩|⟨v1,v2,J,S,L⟩
    .rw[e]at A;cases A
    .rw[L]at A;cases A;exact zDt c.s 9 (c.s.qY t v1 J) (c.s.hf.get t v1 J) S
   .have:=zKZ (fr':=zG8 (z::xs) (.func (.func s.1) d g::q)) c.hG (xs:=z::xs) (by rw[QU,D.1,D.2];rfl) (λt A v1 v2 J S=>by
     rcases r t with⟨_,e⟩|⟨v3,v4,L,e4,e5⟩
     .exact absurd A e
     .rw[J]at L;cases L;rw[S]at e4;cases e4;exact e5) B F
    simp only[evs]at this;split at this
    .rename_i g1 O;split at this
     .rename_i g2 R;cases this;simp only[xoS,O,R,zEZ,zG7]
     .cases this
    .cases this
  .exact h.elim
theorem zJH{k:IntKind}{n:Int}{c top:Nat}(d:0<=n)(h1:n.toNat<=top):bnd (some (.int k n)) c top=some n.toNat:=by
 obtain⟨m,rfl⟩:=Int.eq_ofNat_of_zero_le d;rw[Int.toNat_natCast]at h1⊢;have:Nat.ble m top=true:=by rw[Qo];exact h1
 show(match Nat.ble m top with|true=>some m|false=>none)=some m
 rw[this]
theorem zGs{N:Nat}{lo f:JF}{k:Int->Int->Prop}(h:zGJ (.ofNat N) lo f k):∃l r:Int,k l r/\bnd f N N=some r.toNat/\bnd lo 0 r.toNat=some l.toNat/\l.toNat<=r.toNat/\r.toNat<=N:=by
 unfold zGJ at h;split at h
 .split at h
  .exact⟨0,.ofNat N,h,rfl,rfl,QV _,QA _⟩
  .rename_i kd r;obtain⟨⟨h1,c⟩,e⟩:=h;have c:r<=(N:Int):=c;exact⟨0,r,e,zJH h1 (by omega),rfl,QV _,by omega⟩
  .exact h.elim
 .rename_i kd l;split at h
  .obtain⟨⟨h1,c⟩,e⟩:=h;have c:l<=(N:Int):=c;refine⟨l,.ofNat N,e,rfl,zJH h1 ?_,?_,QA _⟩
   .show l.toNat<=N;omega
   .show l.toNat<=N;omega
  .rename_i g r;obtain⟨⟨h1,c,d⟩,e⟩:=h;have d:r<=(N:Int):=d;exact⟨l,r,e,zJH (by omega) (by omega),zJH h1 (by omega),by omega,by omega⟩
  .exact h.elim
 .exact h.elim
theorem zQ7{fr:Fr}:evo G fr none=some none:=rfl
theorem zSG{es:JE}{k:IntKind}{n:Int}{v:AV}(h:ixN es n=some v):idx es (.int k n)=some v/\v∈es:=by
 unfold ixN at h;split at h
 .exact⟨h,QF h⟩
 .cases h
theorem SR.known(s:SR G nt E w a β st){n:Nat}{v:AV}(h:st.fr.get n=some v):SR G nt E w a β ⟨st.fr.put n v,st.H,st.V,st.m,st.mv⟩:=by
 have d:∀t,(st.fr.put n v).get t=st.fr.get t:=λt=>by
  rw[Fr.qu];split
  .rename_i e;subst e;exact h.symm
  .rfl
 exact⟨s.hr,⟨s.hf.size,λt u c=>s.hf.get t u (by rw[←d t];exact c)⟩,s.hg,s.qx,λt u c=>s.qY t u (by rw[←d t];exact c),s.cH,s.qR,s.vp,s.bz,s.qQ⟩
theorem zQ8{fr:Fr}{n:Nat}{v:AV}(h:fr.get n=some v)(x:XV):x.ev G (fr.put n v)=x.ev G fr:=by
 cases x with
 |t t=>
  show(fr.put n v).get t=fr.get t
  rw[Fr.qu];split
  .rename_i e;subst e;exact h.symm
  .rfl
 |_=>rfl
theorem zCT{n:Int}:∀{l:Nat}{k:Nat->Prop},zFN n l k->∀m,m<l->n=.ofNat m->k m
 |0,k,_,m,c,_=>by omega
 |l+1,k,h,m,c,e=>by
  rcases Nat.lt_succ_iff_lt_or_eq.1 c with h1|rfl
  .exact zCT h.1 m h1 e
  .exact h.2 e
theorem zQ9{G:Cx}{fr:Fr}{len sz:Nat}{z:JE}{c:List (Nat×Nat×XV)}{es:JE}(h:bsL G fr len sz z c=some es):∃cs,zAC G fr z c=some cs/\cs.length=len*sz/\zCt sz len cs=some es/\es.all (ppS 12)=true:=by
 unfold bsL at h;split at h
 .rename_i cs e;split at h
  .rename_i f;split at h
   .rename_i i g;split at h
    .rename_i d;cases h;exact⟨cs,e,zb f,g,d⟩
    .cases h
   .cases h
  .cases h
 .cases h
theorem SR.uy{d:Option Nat}{cv:Value}{sz:Nat}{es:JE}{E:Env}{w:World}{a:Act}{β:Nat->Option Nat}{st:Sta}(N:zCx st.mv st.m st.fr)(O:HCP st.mv st.m st.H)(y:∀j vi,st.V.get j=some vi->j<st.mv)(S:∀j z i off,st.V.get j=some (.qU z i off)->z<st.mv)
  (s:SR G nt E w (a.put d cv) β ⟨qv st.fr d (.sym st.mv),st.H,(st.mv,.vec sz es)::st.V,st.m,st.mv+1⟩):
  ∃E2,SR G nt E2 w (a.put d cv) β ⟨qv st.fr d (.qo sz es),st.H,st.V,st.m,st.mv⟩/\Kp E.Z (BS E β st.H ((st.mv,.vec sz es)::st.V)) w E2.Z (BS E2 β st.H st.V) w:=by
 have gv:Vecs.get ((st.mv,VI.vec sz es)::st.V) st.mv=some (.vec sz es):=by rw[Vecs.qf,if_pos rfl]
 have go:∀{j vi},st.V.get j=some vi->Vecs.get ((st.mv,VI.vec sz es)::st.V) j=some vi:=λ{j vi} h=>by
  rw[Vecs.qf,if_neg (by have:=y j vi h;omega)];exact h
 have sF:SR G nt E w (a.put d cv) β ⟨qv st.fr d (.sym st.mv),[],[(st.mv,.vec sz es)],st.m,st.mv+1⟩:=by
  have g1:∀{j vi},Vecs.get [(st.mv,VI.vec sz es)] j=some vi->j=st.mv/\vi=.vec sz es:=λ{j vi} h=>by
   rw[Vecs.qf]at h;split at h
   .rename_i e;cases h;exact⟨e.symm,rfl⟩
   .cases h
  refine⟨⟨.nil,λp c=>(by cases c),λp c=>(by cases c),λp c=>(by cases c),λp c=>(by cases c),s.hr.we⟩,s.hf,s.hg,s.qx,s.qY,λp c=>(by cases c),λj vi h=>?_,λj z i off h=>?_,λj vi b h L l=>?_,λj U vi C b h1 r _ _ _ _=>(g1 h1).1.trans (g1 r).1.symm⟩
  .obtain⟨rfl,rfl⟩:=g1 h;exact s.qR st.mv _ gv
  .have:=(g1 h).2;cases this
  .obtain⟨rfl,rfl⟩:=g1 h;exact⟨(s.bz st.mv _ b gv L l).1,λp c=>(by cases c)⟩
 let E2:Env:=⟨E.ρ,E.D,λx=>E.Z x\/BS E β [] [(st.mv,.vec sz es)] x,E.σ⟩
 have up:∀{u F},VR (zAI E β [] [(st.mv,.vec sz es)]) w u F->VR E2 w u F:=λf=>VR.mono (E:=zAI E β [] [(st.mv,.vec sz es)]) (E':=E2) (λ_ h=>h.elim) (λb l=>⟨l,rfl⟩) (.refl w) f
 have same:∀{u F},VR E w u F->VR E2 w u F:=λf=>VR.mono (E:=E) (E':=E2) (λ_ h=>⟨h,rfl⟩) (λb l=>⟨.inl l,rfl⟩) (.refl w) f
 have q:∀{x},BS E β [] [(st.mv,.vec sz es)] x->β st.mv=some x:=λ{x} o=>by
  rcases o with⟨p,c,_⟩|⟨j,vi,h1,r,J⟩
  .cases c
  .rw[Vecs.qf]at h1;split at h1
   .rename_i e;rw[e];exact J
   .cases h1
 have T:∀e∈es,PP e:=(s.qR st.mv _ gv).2.1;have I:∀n,d=some n->VR E2 w (.qo sz es) ((a.put d cv).tmps.getD n undef):=λn e=>by
  subst e;have h1:(qv st.fr (some n) (.sym st.mv)).get n=some (.sym st.mv):=by simp[zFp,Fr.qu]
  have r:frz [] [(st.mv,VI.vec sz es)] 1 (.sym st.mv)=some (.qo sz es):=by
   have:Vecs.get [(st.mv,VI.vec sz es)] st.mv=some (.vec sz es):=by rw[Vecs.qf,if_pos rfl]
   simp only[frz,this]
  exact up (zDt sF 1 (.sym _ (QR _)) (s.hf.get n _ h1) r)
 have B:∀t u,d≠some t->st.fr.get t=some u->VR E2 w u ((a.put d cv).tmps.getD t undef):=λt u M f=>by
  refine same (s.hf.get t u ?_)
  cases d with
  |none=>exact f
  |some n=>
   show(qv st.fr (some n) (.sym st.mv)).get t=_
   rw[zFp,Fr.qu,if_neg (λe=>M (by rw[e]))]
   exact f
 have v:∀t u,(qv st.fr d (.qo sz es)).get t=some u->VR E2 w u ((a.put d cv).tmps.getD t undef)/\CP st.mv st.m u:=λt u f=>by
  by_cases e:d=some t
  .subst e;rw[zFp,Fr.qu,if_pos rfl]at f;cases f;exact⟨I t rfl,.qo _ _ T⟩
  .have f:st.fr.get t=some u:=by
    cases d with
    |none=>exact f
    |some n=>
     rw[zFp,Fr.qu,if_neg (λh=>e (by rw[h]))]at f
     exact f
   exact⟨B t u e f,N t u f⟩
 refine⟨E2,⟨⟨s.hr.nodup,s.hr.qx,s.hr.inj,λp c=>(s.hr.obj p c).mono rfl same,?_,?_⟩,⟨s.hf.size,λt u f=>(v t u f).1⟩,λg u h=>⟨same (s.hg g u h).1,(s.hg g u h).2⟩,s.qx,λt u f=>(v t u f).2,O,λj vi h=>?_,λj z i off h=>S j z i off h,λj vi b h L l=>?_,λj U vi C b h1 r J W Y h6=>s.qQ j U vi C b (go h1) (go r) J W Y h6⟩,⟨λx o=>.inl o,λx o=>?_,λx o=>?_,rfl,rfl,rfl,QA _,λ_ _ _=>rfl,.refl w⟩⟩
 .rintro p c (hz|hz)
  .exact s.hr.nz p c hz
  .exact(s.bz st.mv _ _ gv rfl (q hz)).2 p c rfl
 .rintro b (l|l)
  .exact s.hr.we b l
  .exact(s.qR st.mv _ gv).2.lt rfl (q l)
 .have h1:=s.qR j vi (go h);exact⟨y j vi h,h1.2.mono rfl (λ_=>rfl) (λb _ _=>rfl) (λb l=>⟨.inl l,rfl⟩) (.refl w) λz i off _ aa R A=>⟨rfl,R,go A,rfl⟩⟩
 .obtain⟨X,z2⟩:=s.bz j vi b (go h) L l;refine⟨?_,z2⟩
  rintro (hz|hz)
  .exact X hz
  .have:=s.qQ j st.mv _ _ b (go h) gv L rfl l (q hz);have:=y j vi h;omega
 .rcases o with o|o
  .exact .inl o
  .exact .inr (.inl (.inr ⟨st.mv,_,gv,rfl,q o⟩))
 .rcases o with⟨p,c,e⟩|⟨j,vi,h1,r,J⟩
  .exact .inl (.inl ⟨p,c,e⟩)
  .exact .inl (.inr ⟨j,vi,go h1,r,J⟩)
theorem zUM{len sz:Nat}{z:JE}{g:List (Nat×Nat×XV)}{k:AV->Sta->Prop}(c:Ctx P G nt Z0 B0 w0 dl E w a β st o (.qy len sz z g)){es:JE}(C:bsL G st.fr len sz z g=some es)(hk:k (.qo sz es) st):OpK P G nt Z0 B0 w0 dl o w a k:=by
 obtain⟨cs,u,x,y,t⟩:=zQ9 C;intro next Q A;refine zQ3 (k:=λv st1=>v=.sym st.mv/\st1=⟨st.fr,st.H,(st.mv,.vec sz es)::st.V,st.m,st.mv+1⟩) c u x y t ⟨rfl,rfl⟩ next Q λv st1 p E' w' e d=>?_
 obtain⟨rfl,rfl⟩:=e;obtain⟨F,i,l,f⟩:=d.out;obtain⟨r,q,B⟩:=SR.uy c.s.qY c.s.cH (λj D h=>(c.s.qR j D h).1) c.s.vp i
 exact A _ _ p r w' hk ⟨F,q,l.trans B,f⟩
theorem zUN(af:TbW P G tb){ad:XO}{ks:List K}(c:Ctx P G nt Z0 B0 w0 dl E w a β st o ad)(h:wop G tb st ad ks k):OpK P G nt Z0 B0 w0 dl o w a k:=by
 cases ad<;>try (exact h.elim)
 all_goals try (exact c.wG rfl h)
 case wc x i l sz ag=>
  simp only[wop]at h;split at h
  .exact c.wG rfl h
  .split at h
   .rename_i kd n I;obtain⟨⟨h1,A⟩,M⟩:=h;obtain⟨m,rfl⟩:=Int.eq_ofNat_of_zero_le h1;have hk:=zCT M m (Int.ofNat_lt.1 A) rfl;have e:xoS G zd st.fr st.H st.m (.wc x i l sz ag)=xoS G zd st.fr st.H st.m (.wc x (.c (.int kd (.ofNat m))) l sz ag):=by
     have I:i.ev G st.fr=some (.int kd (.ofNat m)):=I;simp only[xoS];rw[I];rfl
    exact c.wG rfl (by rw[e];exact hk)
   .exact h.elim
 case qz x i l sz=>
  simp only[wop]at h;split at h
  .exact c.wG rfl h
  .split at h
   .rename_i kd n I;obtain⟨⟨h1,A⟩,M⟩:=h;obtain⟨m,rfl⟩:=Int.eq_ofNat_of_zero_le h1;have hk:=zCT M m (Int.ofNat_lt.1 A) rfl;have e:xoS G zd st.fr st.H st.m (.qz x i l sz)=xoS G zd st.fr st.H st.m (.qz x (.c (.int kd (.ofNat m))) l sz):=by
     have I:i.ev G st.fr=some (.int kd (.ofNat m)):=I;simp only[xoS];rw[I];rfl
    exact c.wG rfl (by rw[e];exact hk)
   .exact h.elim
 case pick cc x y=>
  simp only[wop]at h;split at h
  .rename_i cb ab;split at h
   .rename_i n;have O:st.fr.get n=some (.bool cb):=ab;have B:(zo (.t n)=true/\zo x=true)/\zo y=true:=by have:=c.ok;simp only[zn,XO.qb,zM,List.all_append,QU,List.all_nil,QO,qr]at this;exact this
    have c':Ctx P G nt Z0 B0 w0 dl E w a β ⟨st.fr.put n (.bool cb),st.H,st.V,st.m,st.mv⟩ o (.pick (.t n) x y):=⟨c.s.known O,c.kp,c.df,c.hG,c.hm,c.hc,c.hd,c.ok⟩;rcases zCI h with⟨rfl,A⟩|⟨rfl,A⟩
    .split at A
     .rename_i v L;exact c'.val (by simp only[xoS,zQ8 O,ab,L]) (zJ c.hG c.s.qY B.1.2 L) A
     .exact A.elim
    .split at A
     .rename_i v L;exact c'.val (by simp only[xoS,zQ8 O,ab,L]) (zJ c.hG c.s.qY B.2 L) A
     .exact A.elim
   .exact c.wG rfl h
  .exact h.elim
 case bin op x y=>
  simp only[wop]at h;split at h
  .rename_i s1 d;split at h
   .split at h
    .rename_i s2 C;obtain⟨h1,A⟩:=h;have g:Nat.ble (s1.length+s2.length) zf=true:=by rw[Qo];exact h1
     exact c.val (by simp only[xoS,d,C,zDo,g]) (.str _) A
    .exact h.elim
   .exact c.wG rfl h
  .rename_i k1 n1 d;split at h
   .split at h
    .rename_i k2 X C;split at h
     .rename_i hk;obtain⟨h1,A⟩:=h;have g:(X==0)=false:=by rw[beq_eq_false_iff_ne];exact h1
      exact c.val (by simp only[xoS,d,C,zDo,hk,g]) (.int _ _) A
     .exact h.elim
    .exact h.elim
   .split at h
    .rename_i k2 X C;split at h
     .rename_i hk;obtain⟨h1,A⟩:=h;have g:(X==0)=false:=by rw[beq_eq_false_iff_ne];exact h1
      exact c.val (by simp only[xoS,d,C,zDo,hk,g]) (.int _ _) A
     .exact h.elim
    .exact h.elim
   .split at h
    .rename_i k2 X C;obtain⟨h1,A⟩:=h;have g:decide (X<0)=false:=by rw[decide_eq_false_iff_not];omega
     exact c.val (by simp only[xoS,d,C,zDo,g]) (.int _ _) A
    .exact h.elim
   .split at h
    .rename_i k2 X C;obtain⟨h1,A⟩:=h;have g:decide (X<0)=false:=by rw[decide_eq_false_iff_not];omega
     exact c.val (by simp only[xoS,d,C,zDo,g]) (.int _ _) A
    .exact h.elim
   .exact c.wG rfl h
  .exact h.elim
 case qW neg kd x y=>
  simp only[wop]at h;split at h
  .rename_i p d;split at h
   .rename_i q C;split at h
    .rename_i r hr;obtain⟨T,Y,e3⟩:=zMw hr;have:eqs kd p q=some r:=by simp only[eqs,Y,e3,Nat.beq_refl,T]
     exact c.val (by simp only[xoS,d,C,this]) (by unfold zBu;exact .bool _) h
    .exact h.elim
   .exact h.elim
  .exact h.elim
 case vJ x=>
  simp only[wop]at h;split at h
  .rename_i s d;exact zZ7 c d h
  .exact h.elim
 case vB x=>
  simp only[wop]at h;have B:zo x=true:=by have:=c.ok;simp only[zn,XO.qb,zM,QO,QU,List.all_nil]at this;exact this
  split at h
  .rename_i j d;split at h
   .rename_i sz es F;split at h
    .rename_i g;have:=zb g;subst this;obtain⟨s,hs,hk⟩:=h;exact zZ8 c d F hs hk
    .exact h.elim
   .exact h.elim
  .rename_i sz es d;split at h
   .rename_i g;have:=zb g;subst this;obtain⟨s,hs,hk⟩:=h;exact c.val (by simp only[xoS,d,zL6 (zHS hs),hs]) (.str _) hk
   .exact h.elim
  .rename_i d;exact c.val (by simp only[xoS,d,content,zAZ]) (.str _) h
  .exact h.elim
 case wP x i=>
  simp only[wop]at h;split at h
  .rename_i s d;split at h
   .rename_i kd n I;obtain⟨b,g,hk⟩:=h;unfold ixN at g;split at g
    .exact c.val (by simp only[xoS,d,I,g]) (.int _ _) hk
    .cases g
   .exact h.elim
  .exact h.elim
 case qy len sz z ps=>
  cases ks with
  |nil=>
   simp only[wop]at h;split at h
   .rename_i cs hf;split at h
    .rename_i hl;split at h
     .rename_i es hr;split at h
      .rename_i R;exact zQ3 c hf (zb hl) hr R h
      .exact h.elim
     .exact h.elim
    .exact h.elim
   .exact h.elim
  |cons k0 ks=>
   cases k0 with
   |c u=>
    simp only[wop]at h;split at h
    .rename_i es he;exact zUM c he h
    .exact h.elim
   |_=>exact c.wG rfl h
 case load x sz ag=>
  simp only[wop]at h;split at h
  .exact c.wG rfl h
  .exact h.elim
  .rename_i p _ d;split at h
   .rename_i j i off R;split at h
    .rename_i N es F;obtain⟨v,L,hk⟩:=h;exact zYZ c d R F L hk
    .exact h.elim
   .exact h.elim
  .exact c.wG rfl h
 case store x y sz=>
  simp only[wop]at h;have B:zo x=true/\zo y=true:=by have:=c.ok;simp only[zn,XO.qb,zM,QO,List.all_append,QU,List.all_nil,qr]at this;exact this
  split at h
  .rename_i p d;split at h
   .rename_i j i off R;split at h
    .rename_i N es F;split at h
     .rename_i v C;split at h
      .rename_i g;simp only[qr]at g;obtain⟨⟨b1,b2⟩,b3⟩:=g;have b1:=zb b1;have b2:=zb b2;subst b1;subst b2;split at h
       .rename_i new hn;exact zXJ c d R F C (zBM 12 (zJ c.hG c.s.qY B.2 C) b3) hn h
       .exact h.elim
      .exact h.elim
     .exact h.elim
    .exact h.elim
   .exact h.elim
  .exact c.wG rfl h
 case qC x off=>
  simp only[wop]at h;split at h
  .rename_i p d;split at h
   .rename_i j i o' R;split at h
    .rename_i sz es F;exact zXI c d R F h
    .exact h.elim
   .exact h.elim
  .exact c.wG rfl h
 case qB x i sz=>
  simp only[wop]at h;have B:zo x=true/\zo i=true:=by have:=c.ok;simp only[zn,XO.qb,zM,QO,List.all_append,QU,List.all_nil,qr]at this;exact this
  split at h
  .rename_i N es d;split at h
   .rename_i g;split at h
    .rename_i kd n I;obtain⟨v,L,hk⟩:=h;obtain⟨T,Y⟩:=zSG (k:=kd) L;have S:=zJ c.hG c.s.qY B.1 d;cases S with
     |qo _ _ aa=>exact c.val (by simp only[xoS,d,I,g,T]) (.qc _ _ (aa v Y)) hk
    .exact h.elim
   .exact h.elim
  .rename_i j d;split at h
   .rename_i N es F;split at h
    .rename_i g;have:=zb g;subst this;split at h
     .rename_i kd n I;obtain⟨⟨h1,A⟩,M⟩:=h;exact zVN c d F I h1 A M
     .exact h.elim
    .exact h.elim
   .exact h.elim
  .split at h
   .rename_i kd n I;obtain⟨⟨h1,A⟩,M⟩:=h;obtain⟨m,rfl⟩:=Int.eq_ofNat_of_zero_le h1;have hk:=zCT M m (Int.ofNat_lt.1 A) rfl;have e:xoS G zd st.fr st.H st.m (.qB x i sz)=xoS G zd st.fr st.H st.m (.qB x (.c (.int kd (.ofNat m))) sz):=by
     have I:i.ev G st.fr=some (.int kd (.ofNat m)):=I;simp only[xoS];rw[I];rfl
    exact c.wG rfl (by rw[e];exact hk)
   .exact h.elim
  .exact h.elim
 case wJ x lo I=>
  simp only[wop]at h;split at h
  .rename_i s d;split at h
   .rename_i aj U;split at h
    .rename_i ai W;obtain⟨l,r,hk,T,Y,_,_⟩:=zGs h;exact c.val (by simp only[xoS,d,U,W,T,Y]) (.str _) hk
    .exact h.elim
   .exact h.elim
  .exact h.elim
 case wy x lo I mx sz=>
  simp only[wop]at h;have B:=c.ok;simp only[zn,qr]at B;split at h
  .rename_i N es d;split at h
   .rename_i g;split at h
    .split at h
     .rename_i aj U;split at h
      .rename_i ai W;obtain⟨l,r,hk,T,Y,_,_⟩:=zGs h;have D:zo x=true:=by
        have:=QD.1 B.1 x (by simp[XO.qb])
        exact this
       have S:=zJ c.hG c.s.qY D d;cases S with
       |qo _ _ aa=>exact c.val (by simp only[xoS,d,U,W,zQ7,zFU,g,T,Y]) (.qo _ _ λe he=>aa e (QM (QW he))) hk
      .exact h.elim
     .exact h.elim
    .exact h.elim
   .exact h.elim
  .rename_i d;unfold WXd at h;split at h
   .rename_i v H' m' D;have:v=.qa/\H'=st.H/\m'=st.m:=by
     simp only[xoS,d]at D;split at D
     .rename_i v0 aq ar au e0 _ _ _;cases e0;simp only[zFU]at D;split at D
      .rename_i v1 J;cases D;split at J
       .split at J
        .split at J
         .cases J;exact⟨rfl,rfl,rfl⟩
         .cases J
        .cases J
       .cases J
      .cases D
     .cases D
    obtain⟨rfl,rfl,rfl⟩:=this;exact c.val D .qa h
   .exact h.elim
  .exact h.elim
 case wb x=>
  simp only[wop]at h;split at h
  .rename_i j d;split at h
   .rename_i sz es F;exact zYY c d F h
   .rename_i n F;exact zY0 c d F h
   .exact h.elim
  .exact c.wG rfl h
 case append x y sz bytes=>
  simp only[wop]at h;split at h
  .exact h.elim
  .rename_i ae;split at h
   .rename_i v d;split at h
    .rename_i u C;split at h
     .rename_i ys he;split at h
      .rename_i ac;split at h
       .obtain⟨h1,A⟩:=h;exact zKX c ae c.s.hf d C C he ac h1 (λj vi h=>h) A
       .rename_i j;split at h
        .rename_i N es F;split at h
         .rename_i g;have:=zb g;subst this;split at h
          .obtain⟨⟨h1,A⟩,M⟩:=h;exact zRR c ae d F C he ac h1 A M
          .obtain⟨⟨h1,A⟩,M⟩:=h;exact zQ4 c ae d F C he ac h1 A M
         .exact h.elim
        .exact h.elim
       .exact h.elim
      .exact h.elim
     .exact h.elim
    .exact h.elim
   .exact h.elim
 case qM l cx sz bytes z=>
  simp only[wop]at h;split at h
  .rename_i k1 n hl;split at h
   .rename_i k2 m ah;split at h
    .rename_i e hr hz;obtain⟨⟨h1,A,M,h4⟩,h5⟩:=h;exact zUJ c hl ah hr (zb hz) h1 A M h4 h5
    .exact h.elim
   .exact h.elim
  .exact h.elim
 case wu=>exact zXK c h
 case lookup ag kd m x z ok=>
  simp only[wop]at h;split at h
  .rename_i j hm;split at h
   .rename_i es F;split at h
    .rename_i kv d;split at h
     .rename_i ak;obtain⟨v,L,hk⟩:=h;exact zVO c hm F d ak L hk
     .exact h.elim
    .exact h.elim
   .exact h.elim
  .exact h.elim
 case wM ag kd m x y=>
  simp only[wop]at h;split at h
  .rename_i j hm;split at h
   .rename_i es F;split at h
    .rename_i kv d;split at h
     .rename_i u C;split at h
      .rename_i g;simp only[qr]at g;obtain⟨ao,R,hk⟩:=h;exact zY1 c hm F d C g.1.1 g.1.2 g.2 R hk
      .exact h.elim
     .exact h.elim
    .exact h.elim
   .exact h.elim
  .exact h.elim
 case call f xs=>
  simp only[wop]at h;split at h
  .rename_i vs L;exact zY2 af c L h
  .exact h.elim
 case qN fx xs=>
  simp only[wop]at h;split at h
  .rename_i f first al hf;split at h
   .rename_i vs L;exact zXL af c hf L h
   .exact h.elim
  .exact h.elim
end
open Classical in
noncomputable def zIv:TblS->Nat->JE->JF
 |[],_,_=>none
 |s::r,f,args=>match Nat.beq f s.1 with
  |true=>if s.2.1 args then s.2.2 args else none
  |false=>zIv r f args
theorem zMy:∀{tb:TblS}{f:Nat}{args:JE}{k:AV->Prop},zEF tb f args k->∃v,zIv tb f args=some v/\k v
 |[],f,args,k,h=>h.elim
 |s::r,f,args,k,h=>by
  simp only[zEF]at h;cases hb:Nat.beq f s.1 with
  |true=>
   simp only[hb]at h;obtain⟨h1,c⟩:=h;split at c
   .rename_i v d;exact⟨v,by simp only[zIv,hb,h1,if_true];exact d,c⟩
   .exact c.elim
  |false=>
   simp only[hb]at h;obtain⟨v,h1,c⟩:=zMy h;exact⟨v,by simp only[zIv,hb];exact h1,c⟩
theorem zHU{P:Program}{G:Cx}:∀{tb:TblS}{f:Nat}{args:JE}{v:AV},TbW P G tb->zIv tb f args=some v->Enters P f/\PP v/\∀H nx,FnT P G f args H nx v H nx
 |[],f,args,v,_,h=>by cases h
 |s::r,f,args,v,c,h=>by
  simp only[zIv]at h;split at h
  .rename_i e;split at h
   .rename_i d;have:=c s (.head _) args v d h;rw[zb e];exact this
   .cases h
  .exact zHU (λs g=>c s (.tail _ g)) h
open Classical in
noncomputable def zEI(mv:Nat)(tb:TblS):Call:=λf args H nx=>
 match args.any (zAU 8)with
 |false=>match zIv tb f args with
  |some v=>some (v,H,nx)
  |none=>none
 |true=>if(∀a∈args,CP mv nx a)/\HCP mv nx H/\(∀p∈H,p.1<nx)then
   match zp (frz H [] 8) args with
   |some c=>match zIv tb f c with
    |some v=>match zBe 8 v with
     |true=>some (v,H,nx)
     |false=>none
    |none=>none
   |none=>none
  else none
theorem zTn{mv:Nat}{tb:TblS}:Calm (zEI mv tb):=by
 intro f args H nx v d c h;simp only[zEI]at h
 repeat' split at h
 all_goals first
  |(cases h;done)
  |(cases h;exact⟨rfl,rfl⟩)
theorem zVR{P:Program}{G:Cx}{mv:Nat}{tb:TblS}(L:TbW P G tb)(hG:GPP G):zEp P G (zEI mv tb):=by
 intro f args H nx v H' ac h;simp only[zEI]at h;split at h
 .split at h
  .rename_i u F;cases h;obtain⟨h1,X,T⟩:=zHU L F;exact⟨h1,QA _,T _ _⟩
  .cases h
 .split at h
  rotate_left
  .cases h
  rename_i hc;obtain⟨S,O,V⟩:=hc;split at h
  rotate_left
  .cases h
  rename_i z B;split at h
  rotate_left
  .cases h
  rename_i u F;split at h
  rotate_left
  .cases h
  rename_i hs;cases h;obtain⟨h1,X,T⟩:=zHU L F;refine⟨h1,QA _,λE w l d N R aa=>?_⟩
  have C:∀{x:AV}{cx:Value},CP mv nx x->VR E w x cx->VR ⟨E.ρ,λh=>E.D h/\h<nx,E.Z,E.σ⟩ w x cx:=λhc hv=>
   VR.ve (E:=E) (E':=⟨E.ρ,λh=>E.D h/\h<nx,E.Z,E.σ⟩) (w:=w) (w':=w) (λh h1 X=>⟨⟨X,h1⟩,rfl⟩) (λb q=>⟨q,rfl⟩) (.refl w) (λi _=>rfl) hv hc
  have s:SR G 0 ⟨E.ρ,λh=>E.D h/\h<nx,E.Z,E.σ⟩ w { tmps:=#[],defers:=[] } (λ_=>none) ⟨[],H,[],nx,mv⟩:=by
   refine⟨⟨d.nodup,λp c=>⟨d.qx p c,V p c⟩,d.inj,λp c=>?_,d.nz,d.we⟩,⟨rfl,λt v h=>(by cases h)⟩,λg u h=>⟨C (hG g u h).cp (R g u h).1,(R g u h).2⟩,λh hh=>hh.2,λt v h=>(by cases h),O,λj vi h=>(by cases h),λj j2 i off h=>(by cases h),λj vi b h=>(by cases h),λj j' vi ab b h=>(by cases h)⟩
   obtain⟨str,cs,e,W⟩:=O p c;have:=d.obj p c;rw[e]at this⊢;exact OR.ve rfl (λhc hv=>C hc hv) W this
  obtain⟨m1,m2⟩:=zAz B;have M:VRs (zAI ⟨E.ρ,λh=>E.D h/\h<nx,E.Z,E.σ⟩ (λ_=>none) H []) w z l.toList:=by
   refine⟨m1.trans N.1,λi y u hy F=>?_⟩
   have hi:i<args.length:=by have:=(QC.1 hy).1;omega
   have A:=QE hi;have I:=S _ (QF A);exact zDt s 8 I (C I (N.2 i _ u A F)) (m2 i _ y A hy)
  have J:∀b,(zAI ⟨E.ρ,λh=>E.D h/\h<nx,E.Z,E.σ⟩ (λ_=>none) H []).Z b->b<w.heap.size:=by
   rintro b (q|⟨p,c,rfl⟩|⟨j,vi,q1,_⟩)
   .exact d.we b q
   .exact d.lt c
   .cases q1
  have Y:HR (zAI ⟨E.ρ,λh=>E.D h/\h<nx,E.Z,E.σ⟩ (λ_=>none) H []) [] w:=⟨.nil,λp c=>by simp at c,λp c=>by simp at c,λp c=>by simp at c,λp c=>by simp at c,J⟩
  have U:GR G (zAI ⟨E.ρ,λh=>E.D h/\h<nx,E.Z,E.σ⟩ (λ_=>none) H []) w:=λg u h=>⟨VR.pp (E:=E) (E':=zAI ⟨E.ρ,λh=>E.D h/\h<nx,E.Z,E.σ⟩ (λ_=>none) H []) (w:=w) (w':=w) (λb q=>⟨.inl q,rfl⟩) (R g u h).1 (hG g u h),(R g u h).2⟩
  refine(T [] 0 _ w l Y M U λh _ _ hD=>hD).mono λe w' h=>?_
  obtain⟨cv,E',rfl,k1,r,k3⟩:=h;have o:∀x,x<w.heap.size->w'.heap[x]? = w.heap[x]?:=λx A=>r.wh x A λp c=>by simp at c
  have hm:∀{u cu},VR E w u cu->VR E w' u cu:=λF=>VR.mono (E:=E) (E':=E) (λ_ h=>⟨h,rfl⟩) (λb q=>⟨q,o b (d.we b q)⟩) r.qn F
  exact⟨cv,E,rfl,⟨d.nodup,d.qx,d.inj,λp c=>(d.obj p c).mono (o _ (d.lt c)) hm,d.nz,λb q=>QX (d.we b q) r.size⟩,
   ⟨QA _,λ_ _=>rfl,λh=>⟨.inl,λh=>h.elim id λ⟨x,y⟩=>by omega⟩,λ_ h=>h,λ_ h=>.inl h,λp c=>.inl ⟨p,c,rfl⟩,r.tape,r.os,r.output,r.size,λx A _=>o x A,r.qn,rfl⟩,zOY 8 hs k3⟩
theorem qt:∀{fr:Fr}{n:Nat}{v:AV},fr.get n=some v->fr.put n v=fr
 |[],n,v,h=>by cases h
 |(k,u)::r,n,v,h=>by
  simp only[Fr.get]at h;simp only[Fr.put];cases e:Nat.beq k n with
  |true=>
   rw[e]at h;cases h;simp only;rw[zb e]
  |false=>
   rw[e]at h;simp only;rw[qt h]
theorem zRa{G:Cx}{call:Call}{fr:Fr}{H:Heap}{m:Nat}{o:XO}{r:Out}(h:xoS G zd fr H m o=some r):xoS G call fr H m o=some r:=by
 cases o<;>first|exact h|skip
 .simp only[xoS]at h⊢;split at h
  .cases h
  .cases h
 .simp only[xoS]at h⊢;split at h
  .unfold zEZ at h;split at h
   .cases h
   .cases h
  .cases h
 .simp only[xoS]at h⊢;split at h
  .split at h
   .cases h
   .cases h
  .cases h
theorem zND{G:Cx}{fr:Fr}{H:Heap}{m:Nat}{o:XO}(i:zJd o=true){v:AV}{H':Heap}{m':Nat}(c:∀p∈H,p.1<m)(h:xoS G zd fr H m o=some (v,H',m')):(∀p∈H',p.1<m')/\m<=m':=by
 have e:=zTg (call:=zd) (λ_ _ _ _ _ _ _ h=>by cases h) h
 refine⟨?_,e⟩
 by_cases g:zP o=0
 .have h1:=zOi (G:=G) (call:=zd) (fr:=fr) (H:=H) (nx:=m) g;rw[h]at h1;split at h1
  .simp only[QK,Prod.mk.injEq]at h1;obtain⟨_,rfl,_⟩:=h1;exact λp d=>QX (c p d) e
  .cases h1
 .by_cases h1:zP o=1
  .obtain⟨rfl,rfl⟩:=zSB h1 h;exact c
  .by_cases f:zP o=2
   .obtain⟨q,_,rfl,rfl⟩:=zQV f h;intro p d;rcases QG.1 d with rfl|d
    .exact QR _
    .exact Nat.lt_succ_of_lt (c p d)
   .cases o<;>first|(cases i;done)|(exact absurd rfl g)|(exact absurd rfl h1)|(exact absurd rfl f)|skip
    simp only[xoS]at h
    repeat' split at h
    all_goals first|(cases h;done)|skip
    cases h;intro p d;rcases zCv d with rfl|d
    .have key:∀{h:Nat}{o:HO},H.get h=some o->h<m:=λl=>c _ (Heap.qi l)
     exact key (by assumption)
    .exact c p d
section
variable{P:Program}{G:Cx}{tb:TblS}{st:Sta}{k:AV->Sta->Prop}
structure DXo(G:Cx)(tb:TblS)(st:Sta)(xop:XO)(k:AV->Sta->Prop)(v:AV)(H':Heap)(m':Nat):Prop where
 x:xoS G (zEI st.mv tb) st.fr st.H st.m xop=some (v,H',m')
 cv:CP st.mv m' v
 cH:HCP st.mv m' H'
 lt:∀p∈H',p.1<m'
 le:st.m<=m'
 k:k v ⟨st.fr,H',st.V,m',st.mv⟩
theorem zXM(af:TbW P G tb)(T:GPP G){A:XO}{ks:List K}(z:zn A=true)(D:zCx st.mv st.m st.fr)(R:HCP st.mv st.m st.H)(M:∀p∈st.H,p.1<st.m)(h:zBO G tb st A ks k):∃v H' m',DXo G tb st A k v H' m':=by
 have t:∀{k':AV->Sta->Prop},(∀v d,k' v d->k v ⟨d.fr,d.H,st.V,d.m,d.mv⟩)->zJd A=true->WXd ⟨st.fr,st.H,[],st.m,st.mv⟩ (xoS G zd st.fr st.H st.m A) k'->∃v H' m',DXo G tb st A k v H' m':=by
  intro k' ai ah h;unfold WXd at h;split at h
  .rename_i v H' m' g;obtain⟨h1,o⟩:=zKV ah z T D R g;obtain⟨X,h4⟩:=zND ah M g;exact⟨v,H',m',zRa g,h1,o,X,h4,ai _ _ h⟩
  .exact h.elim
 have val:∀{v:AV},xoS G zd st.fr st.H st.m A=some (v,st.H,st.m)->CP st.mv st.m v->k v st->∃v H' m',DXo G tb st A k v H' m':=λ{v} g ar hk=>⟨v,st.H,st.m,zRa g,ar,R,M,QA _,hk⟩
 have O:∀{f:Nat}{W:JE},xoS G (zEI st.mv tb) st.fr st.H st.m A=zEI st.mv tb f W st.H st.m->(∀a∈W,CP st.mv st.m a)->zBV tb f W ⟨st.fr,st.H,[],st.m,st.mv⟩ (λv d=>k v ⟨d.fr,d.H,st.V,d.m,d.mv⟩)->∃v H' m',DXo G tb st A k v H' m':=by
  intro f W g I h;unfold zBV at h;split at h
  .rename_i hh;obtain⟨v,e,hk⟩:=zMy h;obtain⟨_,o,_⟩:=zHU af e;exact⟨v,st.H,st.m,by rw[g];simp only[zEI,hh,e],o.cp,R,M,QA _,hk⟩
  .rename_i hh;split at h
   .rename_i al ab;obtain⟨v,e,hk⟩:=zMy h;obtain⟨_,o,_⟩:=zHU af e;split at hk
    .rename_i hs;have ab:zp (frz st.H [] 8) W=some al:=ab;refine⟨v,st.H,st.m,?_,o.cp,R,M,QA _,hk⟩
     rw[g];simp only[zEI,hh];rw[if_pos ⟨I,R,M⟩];simp only[ab,e,hs]
    .exact hk.elim
   .exact h.elim
 cases A<;>try (exact h.elim)
 case vB x=>
  simp only[zBO]at h;unfold WXd at h;split at h
  .rename_i v H' m' g;have ao:=g;simp only[xoS]at g;split at g
   .cases g
   .split at g
    .split at g
     .cases g;exact val ao (.str _) h
     .cases g
    .cases g
   .cases g
  .exact h.elim
 all_goals try (exact t (λv d h=>h) rfl h)
 case wc x i l sz ag=>
  simp only[zBO,wop]at h;split at h
  .exact t (λv d h=>h) rfl h
  .split at h
   .rename_i kd n F;obtain⟨⟨h1,o⟩,X⟩:=h;obtain⟨m,rfl⟩:=Int.eq_ofNat_of_zero_le h1;have hk:=zCT X m (Int.ofNat_lt.1 o) rfl;have e:xoS G zd st.fr st.H st.m (.wc x i l sz ag)=xoS G zd st.fr st.H st.m (.wc x (.c (.int kd (.ofNat m))) l sz ag):=by
     have F:i.ev G st.fr=some (.int kd (.ofNat m)):=F;simp only[xoS];rw[F];rfl
    exact t (λv d h=>h) rfl (by rw[e];exact hk)
   .exact h.elim
 case qz x i l sz=>
  simp only[zBO,wop]at h;split at h
  .exact t (λv d h=>h) rfl h
  .split at h
   .rename_i kd n F;obtain⟨⟨h1,o⟩,X⟩:=h;obtain⟨m,rfl⟩:=Int.eq_ofNat_of_zero_le h1;have hk:=zCT X m (Int.ofNat_lt.1 o) rfl;have e:xoS G zd st.fr st.H st.m (.qz x i l sz)=xoS G zd st.fr st.H st.m (.qz x (.c (.int kd (.ofNat m))) l sz):=by
     have F:i.ev G st.fr=some (.int kd (.ofNat m)):=F;simp only[xoS];rw[F];rfl
    exact t (λv d h=>h) rfl (by rw[e];exact hk)
   .exact h.elim
 case pick cc x y=>
  simp only[zBO,wop]at h;have u:(zo cc=true/\zo x=true)/\zo y=true:=by simp only[zn,XO.qb,zM,List.all_append,QU,List.all_nil,QO,qr]at z;exact z
  split at h
  .rename_i cb ae;split at h
   .rename_i n;have U:st.fr.get n=some (.bool cb):=ae;rcases zCI h with⟨rfl,o⟩|⟨rfl,o⟩
    .split at o
     .rename_i v L;rw[qt U]at o;exact val (by simp only[xoS,ae,L]) (zJ T D u.1.2 L) o
     .exact o.elim
    .split at o
     .rename_i v L;rw[qt U]at o;exact val (by simp only[xoS,ae,L]) (zJ T D u.2 L) o
     .exact o.elim
   .exact t (λv d h=>h) rfl h
  .exact h.elim
 case bin op x y=>
  simp only[zBO,wop]at h;split at h
  .rename_i s1 g;split at h
   .split at h
    .rename_i s2 N;obtain⟨h1,o⟩:=h;have C:Nat.ble (s1.length+s2.length) zf=true:=by rw[Qo];exact h1
     exact val (by simp only[xoS,g,N,zDo,C]) (.str _) o
    .exact h.elim
   .exact t (λv d h=>h) rfl h
  .rename_i k1 n1 g;split at h
   .split at h
    .rename_i k2 n2 N;split at h
     .rename_i hk;obtain⟨h1,o⟩:=h;have C:(n2==0)=false:=by rw[beq_eq_false_iff_ne];exact h1
      exact val (by simp only[xoS,g,N,zDo,hk,C]) (.int _ _) o
     .exact h.elim
    .exact h.elim
   .split at h
    .rename_i k2 n2 N;split at h
     .rename_i hk;obtain⟨h1,o⟩:=h;have C:(n2==0)=false:=by rw[beq_eq_false_iff_ne];exact h1
      exact val (by simp only[xoS,g,N,zDo,hk,C]) (.int _ _) o
     .exact h.elim
    .exact h.elim
   .split at h
    .rename_i k2 n2 N;obtain⟨h1,o⟩:=h;have C:decide (n2<0)=false:=by rw[decide_eq_false_iff_not];omega
     exact val (by simp only[xoS,g,N,zDo,C]) (.int _ _) o
    .exact h.elim
   .split at h
    .rename_i k2 n2 N;obtain⟨h1,o⟩:=h;have C:decide (n2<0)=false:=by rw[decide_eq_false_iff_not];omega
     exact val (by simp only[xoS,g,N,zDo,C]) (.int _ _) o
    .exact h.elim
   .exact t (λv d h=>h) rfl h
  .exact h.elim
 case qW neg kd x y=>
  simp only[zBO,wop]at h;split at h
  .rename_i p g;split at h
   .rename_i q N;split at h
    .rename_i r hr;obtain⟨Y,e2,e3⟩:=zMw hr;have:eqs kd p q=some r:=by simp only[eqs,e2,e3,Nat.beq_refl,Y]
     exact val (by simp only[xoS,g,N,this]) (by unfold zBu;exact .bool _) h
    .exact h.elim
   .exact h.elim
  .exact h.elim
 case wP x i=>
  simp only[zBO,wop]at h;split at h
  .rename_i s g;split at h
   .rename_i kd n F;obtain⟨b,C,hk⟩:=h;unfold ixN at C;split at C
    .exact val (by simp only[xoS,g,F,C]) (.int _ _) hk
    .cases C
   .exact h.elim
  .exact h.elim
 case load x sz ag=>
  simp only[zBO,wop]at h;split at h
  .exact t (λv d h=>h) rfl h
  .exact h.elim
  .exact h.elim
  .exact t (λv d h=>h) rfl h
 case store x y sz=>
  simp only[zBO,wop]at h;split at h
  .exact h.elim
  .exact t (λv d h=>h) rfl h
 case qC x off=>
  simp only[zBO,wop]at h;split at h
  .exact h.elim
  .exact t (λv d h=>h) rfl h
 case qB x i sz=>
  simp only[zBO,wop]at h;have u:zo x=true/\zo i=true:=by simp only[zn,XO.qb,zM,QO,List.all_append,QU,List.all_nil,qr]at z;exact z
  split at h
  .rename_i ak es g;split at h
   .rename_i C;split at h
    .rename_i kd n F;obtain⟨v,L,hk⟩:=h;obtain⟨Y,e2⟩:=zSG (k:=kd) L;have I:=zJ T D u.1 g;cases I with
     |qo _ _ ad=>exact val (by simp only[xoS,g,F,C,Y]) (.qc _ _ (ad v e2)) hk
    .exact h.elim
   .exact h.elim
  .exact h.elim
  .split at h
   .rename_i kd n F;obtain⟨⟨h1,o⟩,X⟩:=h;obtain⟨m,rfl⟩:=Int.eq_ofNat_of_zero_le h1;have hk:=zCT X m (Int.ofNat_lt.1 o) rfl;have e:xoS G zd st.fr st.H st.m (.qB x i sz)=xoS G zd st.fr st.H st.m (.qB x (.c (.int kd (.ofNat m))) sz):=by
     have F:i.ev G st.fr=some (.int kd (.ofNat m)):=F;simp only[xoS];rw[F];rfl
    exact t (λv d h=>h) rfl (by rw[e];exact hk)
   .exact h.elim
  .exact h.elim
 case wJ x lo F=>
  simp only[zBO,wop]at h;split at h
  .rename_i s g;split at h
   .rename_i aq aa;split at h
    .rename_i aj ac;obtain⟨l,r,hk,Y,e2,_,_⟩:=zGs h;exact val (by simp only[xoS,g,aa,ac,Y,e2]) (.str _) hk
    .exact h.elim
   .exact h.elim
  .exact h.elim
 case wy x lo F mx sz=>
  simp only[zBO,wop]at h;simp only[zn,qr]at z;split at h
  .rename_i ak es g;split at h
   .rename_i C;split at h
    .split at h
     .rename_i aq aa;split at h
      .rename_i aj ac;obtain⟨l,r,hk,Y,e2,_,_⟩:=zGs h;have B:zo x=true:=QD.1 z.1 x (by simp[XO.qb])
       have I:=zJ T D B g;cases I with
       |qo _ _ ad=>exact val (by simp only[xoS,g,aa,ac,zQ7,zFU,C,Y,e2]) (.qo _ _ λe he=>ad e (QM (QW he))) hk
      .exact h.elim
     .exact h.elim
    .exact h.elim
   .exact h.elim
  .rename_i g;unfold WXd at h;split at h
   .rename_i v H' m' B;have:v=.qa/\H'=st.H/\m'=st.m:=by
     simp only[xoS,g]at B;split at B
     .rename_i v0 aw ax ay e0 _ _ _;cases e0;simp only[zFU]at B;split at B
      .rename_i v1 J;cases B;split at J
       .split at J
        .split at J
         .cases J;exact⟨rfl,rfl,rfl⟩
         .cases J
        .cases J
       .cases J
      .cases B
     .cases B
    obtain⟨rfl,rfl,rfl⟩:=this;exact val B .qa h
   .exact h.elim
  .exact h.elim
 case wb x=>
  simp only[zBO,wop]at h;split at h
  .exact h.elim
  .exact t (λv d h=>h) rfl h
 case call f xs=>
  simp only[zBO,wop]at h;have u:xs.all zo=true:=by simp only[zn,XO.qb,zM,QO]at z;exact z
  split at h
  .rename_i W L;exact O (by simp only[xoS,L]) (zEs T D u L) h
  .exact h.elim
 case qN fx xs=>
  simp only[zBO,wop]at h;have u:zo fx=true/\xs.all zo=true:=by simp only[zn,XO.qb,zM,List.all_append,QU,List.all_nil,QO,qr]at z;exact z
  split at h
  .rename_i f first au hf;split at h
   .rename_i W L;refine O (by simp only[xoS,hf,L,zEZ]) (λa S=>?_) h
    have I:=zJ T D u.1 hf;cases I with
    |func _ _ _ h1 o=>
     rcases QH.1 S with S|S
     .rcases QH.1 S with S|S
      .exact h1 a S
      .exact zEs T D u.2 L a S
     .exact o a S
   .exact h.elim
  .exact h.elim
structure KD(K:Sta->Prop)(V:Vecs)(mv:Nat)(fr:Fr)(H:Heap)(nx:Nat):Prop where
 k:K ⟨fr,H,V,nx,mv⟩
 cf:zCx mv nx fr
 cH:HCP mv nx H
theorem zMz(q:TbW P G tb)(B:GPP G){V:Vecs}{mv:Nat}{K:Sta->Prop}:∀(ops:List TOp){fr:Fr}{H:Heap}{m:Nat},(∀t∈ops,zn t.o.op=true)->zCx mv m fr->HCP mv m H->(∀p∈H,p.1<m)->zBC G tb ops K ⟨fr,H,V,m,mv⟩->WN G (zEI mv tb) (ops.map TOp.o) (KD K V mv) fr H m
 |[],fr,H,m,_,g,i,_,h=>⟨h,g,i⟩
 |o::r,fr,H,m,u,g,i,s,h=>by
  have l:∀t∈r,zn t.o.op=true:=λt C=>u t (.tail _ C)
  have step:zBO G tb ⟨fr,H,V,m,mv⟩ o.o.op o.ks (λv st=>zBC G tb r K (st.put o.o.dst v))->∃v z y,xoS G (zEI mv tb) fr H m o.o.op=some (v,z,y)/\WN G (zEI mv tb) (r.map TOp.o) (KD K V mv) (qv fr o.o.dst v) z y:=by
   intro h;obtain⟨v,z,D,d⟩:=zXM (st:=⟨fr,H,V,m,mv⟩) q B (u o (.head _)) g i s h;exact⟨v,z,D,d.x,zMz q B r l ((g.mono (QA _) d.le).qv d.cv) d.cH d.lt d.k⟩
  have skip:zBC G tb r K ⟨qv fr o.o.dst (.qg []),H,V,m,mv⟩->WN G (zEI mv tb) (r.map TOp.o) (KD K V mv) (qv fr o.o.dst (.qg [])) H m:=λh=>
   zMz q B r l (g.qv (.qg _ λe F=>by cases F)) i s h
  simp only[zBC]at h;simp only[Qa,WN];cases hg:o.o.guard with
  |none=>
   rw[hg]at h;exact step h
  |some A=>
   obtain⟨t,b⟩:=A;rw[hg]at h;simp only at h⊢;split at h
   .rename_i c hc;rw[hc];unfold brT at h;rcases zCI h with⟨rfl,f⟩|⟨rfl,f⟩
    .have f:(match true==b with
      |true=>zBO G tb ⟨fr.put t (.bool true),H,V,m,mv⟩ o.o.op o.ks λv st=>zBC G tb r K (st.put o.o.dst v)
      |false=>zBC G tb r K (Sta.put ⟨fr.put t (.bool true),H,V,m,mv⟩ o.o.dst (.qg []))):=f
     rw[qt hc]at f;cases b with
     |true=>exact⟨λ_=>step f,λe=>(by cases e)⟩
     |false=>exact⟨λe=>(by cases e),λ_=>skip f⟩
    .have f:(match false==b with
      |true=>zBO G tb ⟨fr.put t (.bool false),H,V,m,mv⟩ o.o.op o.ks λv st=>zBC G tb r K (st.put o.o.dst v)
      |false=>zBC G tb r K (Sta.put ⟨fr.put t (.bool false),H,V,m,mv⟩ o.o.dst (.qg []))):=f
     rw[qt hc]at f;cases b with
     |true=>exact⟨λe=>(by cases e),λ_=>skip f⟩
     |false=>exact⟨λ_=>step f,λe=>(by cases e)⟩
   .rename_i hc;rw[hc];exact skip h
   .exact h.elim
end
end Go.Sy
