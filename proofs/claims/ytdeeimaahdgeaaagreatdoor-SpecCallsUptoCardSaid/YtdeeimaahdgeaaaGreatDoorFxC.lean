/- A LIBRARY: WHAT A FUNCTION'S CODE RECKONS, AS A LEAN FUNCTION, AND THAT ITS WORD IS THE MODEL'S: part 3 of 6. No condition. -/
import Derived.Test.YtdeeimaahdgeaaaGreatDoorFxB
import Derived.Below
import Derived.Lib.LaidTab
import Derived.Lib.LaidU8
import Derived.Lib.Join
import Derived.Stop.LaidErr
set_option linter.unusedVariables false
set_option linter.unusedSimpArgs false
namespace Go.Sy
open Go.RowKit
section
variable {P:Program} {G:Cx} {E:Env} {w w':World} {H:Heap}
theorem zIq (g:HR E H w) (d:Below w.heap.size w w') (a:Nat):HR E H w'/\Tr E H w E H w' a a/\∀{v cv},VR E w v cv->VR E w' v cv:=by
 have o:Shapes w w':=λ b c e f h=>⟨c,f,(d.block b (Array.getElem?_eq_some_iff.1 h).1).trans h,rfl⟩
 have l:∀{v cv},VR E w v cv->VR E w' v cv:=λ r=>VR.mono (E:=E) (E':=E) (λ _ h=>⟨h,rfl⟩) (λ b h=>⟨h,d.block b (g.wg b h)⟩) o r
 exact ⟨⟨g.nodup,g.qC,g.inj,λ p i=>(g.obj p i).mono (d.block _ (g.lt i)) l,g.nz,λ b h=>QZ (g.wg b h) d.size⟩,
  ⟨QB _,λ _ _=>rfl,λ h=>⟨.inl,λ h=>h.elim id λ⟨x,y⟩=>by omega⟩,λ _ h=>h,λ _ h=>.inl h,λ p i=>.inl ⟨p,i,rfl⟩,d.tape,d.os,d.output,d.size,λ x q _=>d.block x q,o,rfl⟩,l⟩
theorem zOD {n:String} {g:Nat} {cs:Array Value} (d:P.globalNamed n=some g) (h:w.var? P n=some cs):∃t f,w.heap[g]? = some (.cells cs t f):=by
 unfold World.var? at h;rw [d] at h;simp only [Option.bind_some] at h;split at h
 ·rename_i c t f hc;cases h;exact ⟨t,f,hc⟩
 ·cases h
def zQ9 (k:IntKind) (z:Int):Bool:=decide (k.min<=z)&&decide (z<=k.max)
theorem zM2 {l:List (String×DataW Unit)} {W:World} {σ:Nat->Value} (M:laidMet P l W) {n:String} {h:List Int} {k:IntKind} (hm:(n,Lib.tabData k h)∈l) {g:Nat} (C:P.globalNamed n=some g)
  {t e:TypeId} {len:Nat} (s:(P.globals[g]?).map (·.type)=some t) (J:P.underlying t=some (.array len e)) (U:P.underlying e=some (.int k)) (y:P.cellsOf e=1) (u:P.cellsOf t=len)
  (O:h.all (zQ9 k)=true):VR (Env.still W σ) W (.qe (.agg (h.map λ z=>.int k z)) 0) (.pointer (some ⟨g,0,none⟩))/\zEE W g (.qe (.agg (h.map λ z=>.int k z)) 0):=by
 obtain ⟨X,V,cs,I,p,D,B,R,L⟩:=Lib.laidMet.reads M hm;rw [C] at D;cases D;rw [s] at B;cases B;obtain ⟨S,f,d⟩:=zOD C R;have hc:=Lib.cells_of_tab J U y u L;have r:g<W.heap.size:=(Array.getElem?_eq_some_iff.1 d).1;have:=VR.qe (E:=Env.still W σ) (w:=W) (.agg (h.map λ z=>.int k z)) 0 g 0 (.agg cs) rfl r ?_ λ j c T=>?_
 ·exact ⟨by simpa using this,λ N n e=>⟨cs,S,f,d,by cases e;rw [←Array.length_toList,hc];simp⟩⟩
 ·refine VR.qM ?_ λ v o=>?_
  ·rw [hc];refine ⟨by simp,λ i x v q o=>?_⟩
   rw [Qj] at q o;cases hz:h[i]? with
   | none=>rw [hz] at q;cases q
   | some z=>
    rw [hz] at q o;cases q;cases o;have F:=QG.1 O z (QF hz);simp only [zQ9,QA,decide_eq_true_eq] at F;exact .int k z F
  ·rw [hc] at o;obtain ⟨z,_,rfl⟩:=Qf.1 o;rfl
 ·have A:cs[j]? = some c:=T;simp only [World.cell?,d,QV]
  simpa using A
end
end Go.Sy
namespace Go.Sy
open Go.RowKit
noncomputable section
variable {P:Program} {G:Cx} {E:Env} {w w':World} {H:Heap}
def zXQ:List AV->Heap->Option AV
 | [.str s],_=>match Nat.ble s.length 281474976710656 with
  | true=>some (.str s)
  | false=>none
 | _,_=>none
def zEv (sep:List Nat):List (List Nat)->List Nat
 | []=>[]
 | x::r=>x++(r.map (sep++·)).flatten
theorem zTU (xs:List (List UInt8)) (sep:List UInt8):(Lib.join xs sep).map UInt8.toNat=zEv (sep.map UInt8.toNat) (xs.map (·.map UInt8.toNat)):=by
 cases xs with
 | nil=>rfl
 | cons x r=>
  rw [Lib.join_cons];simp [zEv,Lib.joinTail,List.map_flatten,Function.comp_def]
def strs:List AV->Option (List (List Nat))
 | []=>some []
 | .str s::r=>match strs r with
  | some x=>some (s::x)
  | none=>none
 | _::_=>none
theorem zNG:∀{f:List AV} {vs:List Value} {d:List (List Nat)},VRs E w f vs->strs f=some d->∃xs:List ByteArray,vs=xs.map .string/\d=xs.map (λ x=>x.data.toList.map UInt8.toNat)
 | [],vs,d,e,h=>by cases h;rw [e.of_nil];exact ⟨[],rfl,rfl⟩
 | y::r,vs,d,e,h=>by
  obtain ⟨c,q,rfl,hc,i⟩:=e.of_cons;unfold strs at h;split at h
  ·rename_i heq;cases heq
  ·rename_i s p heq;cases heq;split at h
   ·rename_i x o;cases h;obtain ⟨xs,rfl,rfl⟩:=zNG i o;cases hc with
    | str l g h t=>exact ⟨g::xs,rfl,by simp [h]⟩
   ·cases h
  ·cases h
def isSl:AV->Bool
 | .qa=>true
 | .qp _ _=>true
 | .row ..=>true
 | _=>false
def zKD:List AV->Heap->Option AV
 | [y,.str sep],H=>match isSl y with
  | false=>none
  | true=>match content H 1 y with
   | none=>none
   | some (n,cs)=>match strs cs with
    | none=>none
    | some c=>match Nat.ble n 140737488355328&&Nat.ble (zEv sep c).length 140737488355328 with
     | true=>some (.str (zEv sep c))
     | false=>none
 | _,_=>none
theorem VR.vC {y:AV} {a:Option Addr} {n c:Nat} (e:isSl y=true) (h:VR E w y (.slice a n c)):n<=c/\∀d,a=some d->n≠0->d.spot=none:=by
 cases h <;> first | (simp [isSl] at e;done) | simp_all
theorem zRT {f:FuncId} (h0:∀(a:Option Addr) (c:Nat) (sep:ByteArray) (w:World),Calls P f #[.slice a 0 c,.string sep] w λ e w'=>e=.returned (.string ⟨#[]⟩)/\w'=w)
  (h1:∀(z o c:Nat) (xs:List ByteArray) (sep:ByteArray) (w:World),(∀(j:Nat) x,xs[j]? = some x->w.cell? ⟨z,o+j,none⟩=some (.string x))->z<w.heap.size->xs.length<=140737488355328->xs.length<=c →
   (Lib.join (xs.map (·.data.toList)) sep.data.toList).length<=140737488355328 →
   Calls P f #[.slice (some ⟨z,o,none⟩) xs.length c,.string sep] w λ e w'=>e=.returned (.string ⟨(Lib.join (xs.map (·.data.toList)) sep.data.toList).toArray⟩)/\Below w.heap.size w w'):
  ∀args H v,zKD args H=some v->∀(E:Env) (w:World) (cargs:Array Value),HR E H w->VRs E w args cargs.toList->Calls P f cargs w λ e w'=>∃cv,e=.returned cv/\Below w.heap.size w w'/\VR E w v cv:=by
 intro args H v h E w cargs hr hv;unfold zKD at h;split at h
 ·rename_i y sep H';split at h
  ·cases h
  ·rename_i I;split at h
   ·cases h
   ·rename_i n cs B;split at h
    ·cases h
    ·rename_i ls X;split at h
     ·rename_i u;cases h;obtain ⟨cy,cr,hc,U,q⟩:=hv.of_cons;obtain ⟨cp,ab,T,hp,i⟩:=q.of_cons;have aa:=i.of_nil;subst aa;subst T;have M:cargs=#[cy,cp]:=by apply Array.toList_inj.1;simpa using hc
      subst M;rw [QA] at u;have l1:=QM u.1;have V:=QM u.2;obtain ⟨vs,k1,k2,k3,k4,k5,k6,S⟩:=zDJ (P:=P) hr U B;obtain ⟨xs,rfl,rfl⟩:=zNG k1 X;cases hp with
      | str l C h hl=>
       subst h;have O:zEv (C.data.toList.map UInt8.toNat) (xs.map λ x=>x.data.toList.map UInt8.toNat)=(Lib.join (xs.map (·.data.toList)) C.data.toList).map UInt8.toNat:=by
        rw [zTU,List.map_map];rfl
       rw [O] at V;rw [Qb] at V;have g:xs.length=n:=by simpa using k3
       have J:VR E w (.str (zEv (C.data.toList.map UInt8.toNat) (xs.map λ x=>x.data.toList.map UInt8.toNat))) (.string ⟨(Lib.join (xs.map (·.data.toList)) C.data.toList).toArray⟩):=
        .str _ _ (by rw [O]) (by rw [O,Qb];unfold zc;omega)
       rcases S with ⟨a,c,rfl,S⟩ | ⟨s,rfl,_⟩
       ·obtain ⟨D,p⟩:=VR.vC I U;by_cases L:n=0
        ·subst L;have R:xs=[]:=List.eq_nil_of_length_eq_zero g;subst R;refine (h0 a c C w).mono λ e w' ⟨N,W⟩=>⟨_,N,W▸Below.refl _ _,J⟩
        ·obtain ⟨ad,rfl,t⟩:=S (by omega)
         have hs:=p ad rfl L;obtain ⟨z,o,ac⟩:=ad;simp only at hs;subst hs;have d:∀(j:Nat) x,xs[j]? = some x->w.cell? ⟨z,o+j,none⟩=some (.string x):=λ j x hx=>by
          have:=t j (.string x) (by rw [Qj,hx];rfl)
          by_cases F:j=0
          ·subst F;simpa [Addr.add] using this
          ·simpa [Addr.add,F] using this
         have Y:z<w.heap.size:=by
          cases xs with
          | nil=>simp at g;omega
          | cons x r=>
           have A:=d 0 x rfl;unfold World.cell? at A;split at A
           ·rename_i hh;exact (Array.getElem?_eq_some_iff.1 hh).1
           ·cases A
         subst g;exact (h1 z o c xs C w d Y l1 D V).mono λ e w' ⟨N,W⟩=>⟨_,N,W,J⟩
       ·cases U <;> simp [isSl] at I
     ·cases h
 ·cases h
end
end Go.Sy
namespace Go.Sy
open Go.RowKit
section
variable {P:Program}
theorem zSN {l:List (String×DataW Unit)} {W:World} (t:laidMet P l W) {n nm:String} {text:List UInt8} {g:Nat} {F d A ts:TypeId} {ms:Array (String×TypeId)} {f:Field} (hm:(n,(.iface nm (.ptr (.agg [.lit (.string text)])):DataW Unit))∈l)
  (D:P.globalNamed n=some g) (L:(P.globals[g]?).map (·.type)=some F) (R:P.underlying F=some (.interface ms)) (i:∀u,P.typeName? 3 u=some nm->u=d)
  (v:P.underlying d=some (.pointer A)) (T:P.underlying A=some (.struct #[f])) (C:f.type=ts) (q:f.offset=0) (O:P.underlying ts=some .string) (hc:P.cellsOf A=1) (B:P.cellsOf ts=1):
  ∃(a:Addr) (s:ByteArray),W.var? P n=some #[.iface d (.pointer (some a))]/\a.spot=none/\W.cell? a=some (.string s)/\s.data.toList=text/\s.size<=maxLen:=by
 induction l with
 | nil=>cases hm
 | cons x r S=>
  rcases QH.1 hm with e | e
  ·subst e;obtain ⟨a,s,p,J,N,M⟩:=laid_sentinel t D L R i v T C q O hc B;refine ⟨a,s,p,?_,J,N,M⟩
   obtain ⟨X,⟨g0,t0,y,f0,Y,q0,h,U,z,V,_,I⟩,_,c⟩:=t;obtain rfl:=Qu (D.symm.trans h);subst I;have o:y=#[.iface d (.pointer (some a))]:=Qu (z.symm.trans p);subst o;have ok:=(c g 0 (by simp [MemPlace.row])).2 d (.pointer (some a)) (by simpa using World.var?_cell h p 0)
   unfold Value.okWide at ok;simp only [v] at ok;unfold Cell.okWide at ok;simp only [Cell.ok,v] at ok;exact ok.2.1
  ·exact S t.tail e
theorem zOE {l:List (String×DataW Unit)} {W:World} {σ:Nat->Value} (O:laidMet P l W) {n nm:String} {text:List UInt8} {g:Nat} {I h y ts:TypeId} {ms:Array (String×TypeId)} {f:Field} (hm:(n,(.iface nm (.ptr (.agg [.lit (.string text)])):DataW Unit))∈l)
  (C:P.globalNamed n=some g) (J:(P.globals[g]?).map (·.type)=some I) (X:P.underlying I=some (.interface ms)) (q:∀u,P.typeName? 3 u=some nm->u=h)
  (R:P.underlying h=some (.pointer y)) (Y:P.underlying y=some (.struct #[f])) (A:f.type=ts) (x:f.offset=0) (V:P.underlying ts=some .string) (hc:P.cellsOf y=1) (z:P.cellsOf ts=1):
  VR (Env.still W σ) W (.qe (.agg [.iface h (.qe (.agg [.str (text.map UInt8.toNat)]) 0)]) 0) (.pointer (some ⟨g,0,none⟩))/\zEE W g (.qe (.agg [.iface h (.qe (.agg [.str (text.map UInt8.toNat)]) 0)]) 0):=by
 obtain ⟨⟨b,o,sp⟩,s,N,B,r,D,F⟩:=zSN O hm C J X q R Y A x V hc z;simp only at B;subst B;obtain ⟨U,M,d⟩:=zOD C N;have t:g<W.heap.size:=(Array.getElem?_eq_some_iff.1 d).1;have L:b<W.heap.size:=by
  unfold World.cell? at r;split at r
  ·rename_i T;exact (Array.getElem?_eq_some_iff.1 T).1
  ·cases r
 have inner:VR (Env.still W σ) W (.qe (.agg [.str (text.map UInt8.toNat)]) 0) (.pointer (some ⟨b,o,none⟩)):=by
  have:=VR.qe (E:=Env.still W σ) (w:=W) (.agg [.str (text.map UInt8.toNat)]) 0 b o (.agg #[.string s]) rfl L ?_ λ j c i=>?_
  ·simpa using this
  ·refine VR.qM (VRs.cons (.str _ s (by rw [D]) (by rw [Qb,←D,Array.length_toList];unfold maxLen at F;unfold zc;exact F)) VRs.nil) λ v p=>?_
   simp at p;subst p;rfl
  ·cases j with
   | zero=>
    have e:c=.string s:=(Qu i).symm;rw [e];exact r
   | succ j=>simp [Value.cells] at i
 have:=VR.qe (E:=Env.still W σ) (w:=W) (.agg [.iface h (.qe (.agg [.str (text.map UInt8.toNat)]) 0)]) 0 g 0 (.agg #[.iface h (.pointer (some ⟨b,o,none⟩))]) rfl t ?_ λ j c i=>?_
 ·exact ⟨by simpa using this,λ S n e=>⟨_,U,M,d,by cases e;rfl⟩⟩
 ·refine VR.qM (VRs.cons (.iface _ _ _ inner) VRs.nil) λ v p=>?_
  simp at p;subst p;rfl
 ·cases j with
  | zero=>
   have e:c=.iface h (.pointer (some ⟨b,o,none⟩)):=(Qu i).symm;rw [e];simp [World.cell?,d]
  | succ j=>simp [Value.cells] at i
end
end Go.Sy
namespace Go.Sy
def zAV:Nat->AV->Bool
 | 0,_=>false
 | d+1,v=>match v with
  | .bool _ | .int _ _ | .str _ | .ql | .qa | .qj | .qi | .qd | .sym _=>true
  | .qe e _=>zAV d e
  | .qp _ es=>es.all (zAV d)
  | .func _ a b=>a.all (zAV d)&&b.all (zAV d)
  | .iface _ v=>zAV d v
  | .agg cs=>cs.all (zAV d)
  | .qf cs=>cs.all (zAV d)
  | _=>false
section
variable {P:Program} {G:Cx} {E E':Env} {w w':World} {H:Heap}
theorem zIO {p:AV->Bool} {l:List AV} (h:l.all p=true) {i:Nat} {x:AV} (hx:l[i]? = some x):p x=true:=
 QG.1 h x (QF hx)
theorem VR.vn (M:∀b,E.Z b->E'.Z b) (W:E'.σ=E.σ) {v:AV} {cv:Value} (h:VR E w v cv):∀d,zAV d v=true->VR E' w v cv:=by
 induction h with
 | bool b=>intro d _;exact .bool b
 | int k n h=>intro d _;exact .int k n h
 | str l s h A=>intro d _;exact .str l s h A
 | ql=>intro d _;exact .ql
 | ptr h off J=>intro d g;cases d <;> simp [zAV] at g
 | qe e off b o cv y I _ hc r=>
  intro d g;cases d with
  | zero=>simp [zAV] at g
  | succ d=>exact .qe e off b o cv y (M b I) (r d (by simpa [zAV] using g)) hc
 | qa=>intro d _;exact .qa
 | wb sz a c hc=>intro d _;exact .wb sz a c hc
 | qp es b o cap sz f I u C y _ hc r=>
  intro d g;cases d with
  | zero=>simp [zAV] at g
  | succ d=>
   have p:es.all (zAV d)=true:=g;exact .qp es b o cap sz f (M b I) u C y (λ i e B=>r i e B d (zIO p B)) hc
 | row h off len sz cp cap ex J L u S N U Y=>intro d g;cases d <;> simp [zAV] at g
 | wc h off sz ex a=>intro d g;cases d <;> simp [zAV] at g
 | qj=>intro d _;exact .qj
 | map h J=>intro d g;cases d <;> simp [zAV] at g
 | qi=>intro d _;exact .qi
 | func fn f c O V T hc _ _ R X=>
  intro d g;cases d with
  | zero=>simp [zAV] at g
  | succ d=>
   have p:(f.all (zAV d)&&c.all (zAV d))=true:=g;rw [QA] at p;exact .func fn f c O V T hc (λ i x v q z=>R i x v q z d (zIO p.1 q)) (λ i x v q z=>X i x v q z d (zIO p.2 q))
 | qd=>intro d _;exact .qd
 | iface t v cv _ r=>
  intro d g;cases d with
  | zero=>simp [zAV] at g
  | succ d=>exact .iface t v cv (r d (by simpa [zAV] using g))
 | agg cs D A _ F r=>
  intro d g;cases d with
  | zero=>simp [zAV] at g
  | succ d=>
   have p:cs.all (zAV d)=true:=g;exact .agg cs D A (λ i x v q z=>r i x v q z d (zIO p q)) F
 | qf cs D A _ r=>
  intro d g;cases d with
  | zero=>simp [zAV] at g
  | succ d=>
   have p:cs.all (zAV d)=true:=g;exact .qf cs D A (λ i x v q z=>r i x v q z d (zIO p q))
 | sym i cv B F=>intro d _;exact .sym i cv (B.trans (congrFun W i).symm) F
def zNH (G:Cx):Prop:=∀g v,G.wG g=some v->zAV 20 v=true
theorem zQM {f:FuncId} {args:List AV} {v:AV} {n:Nat} (U:zNH G) (W:args.all (zAV 40)=true) (X:zAV 40 v=true) (O:FnT P G f args [] 0 v [] n) (H:Heap) (nx:Nat):FnT P G f args H nx v H nx:=by
 intro E w o r t I N;have A:HR ⟨E.ρ,λ _=>False,E.Z,E.σ⟩ [] w:=⟨.nil,λ p c=>by simp at c,λ p c=>by simp at c,λ p c=>by simp at c,λ p c=>by simp at c,r.wg⟩
 have z:VRs ⟨E.ρ,λ _=>False,E.Z,E.σ⟩ w args o.toList:=⟨t.1,λ i x u q B=>VR.vn (E:=E) (E':=⟨E.ρ,λ _=>False,E.Z,E.σ⟩) (λ _ h=>h) rfl (t.2 i x u q B) 40 (zIO W q)⟩
 have C:GR G ⟨E.ρ,λ _=>False,E.Z,E.σ⟩ w:=λ g u h=>⟨VR.vn (E:=E) (E':=⟨E.ρ,λ _=>False,E.Z,E.σ⟩) (λ _ h=>h) rfl (I g u h).1 20 (U g u h),(I g u h).2⟩
 refine (O _ w o A z C λ _ _ _ h=>h).mono λ e w' h=>?_
 obtain ⟨R,s,rfl,J,d,T⟩:=h;have l:∀x,x<w.heap.size->w'.heap[x]? = w.heap[x]?:=λ x q=>d.wa x q λ p c=>by simp at c
 have M:∀x,s.Z x->E.Z x\/w.heap.size<=x:=λ x q=>(d.qN x q).imp id λ h=>h.elim (λ⟨p,c,_⟩=>by simp at c) id
 have V:∀{u L},VR E w u L->VR ⟨E.ρ,E.D,s.Z,E.σ⟩ w' u L:=λ B=>VR.mono (E:=E) (E':=⟨E.ρ,E.D,s.Z,E.σ⟩) (λ _ h=>⟨h,rfl⟩) (λ b F=>⟨d.qG b F,l b (r.wg b F)⟩) d.qn B rfl
 refine ⟨R,⟨E.ρ,E.D,s.Z,E.σ⟩,rfl,⟨r.nodup,r.qC,r.inj,λ p c=>(r.obj p c).mono (l _ (r.lt c)) V,λ p c S=>?_,J.wg⟩,
  ⟨QB _,λ _ _=>rfl,λ h=>⟨.inl,λ h=>h.elim id λ⟨x,y⟩=>by omega⟩,d.qG,λ x q=>(M x q).imp id .inr,λ p c=>.inl ⟨p,c,rfl⟩,d.tape,d.os,d.output,d.size,λ x q _=>l x q,d.qn,rfl⟩,?_⟩
 ·rcases M _ S with h | h
  ·exact r.nz p c h
  ·have J:=r.lt c;have d:w.heap.size<=E.ρ p.1:=h;omega
 ·exact VR.vn (E:=s) (E':=⟨E.ρ,E.D,s.Z,E.σ⟩) (λ _ h=>h) d.sig.symm T 40 X
noncomputable section
end
end
end Go.Sy
namespace Go.Sy
section
variable {G:Cx} {call:Call}
def zXR (o:Option AV) (A B:Prop):Prop:=match o with
 | some (.bool true)=>A
 | some (.bool false)=>B
 | _=>False
def zPi (o:Option AV) (d:Bool) (A B:Prop):Prop:=match o with
 | some (.bool c)=>(c=d->A)/\(c=!d->B)
 | some (.qf [])=>B
 | _=>False
variable {Q Q':Ext->Fr->Heap->Nat->Prop} {fr:Fr} {H:Heap} {nx:Nat}
end
section
variable {P:Program} {G:Cx}
structure FnX (P:Program) (f:Nat) (xf:XF):Prop where
 ok:∃fn,P.funcs[f]? = some fn/\zNq P fn=some xf/\(fn.name == "runtime.NumGoroutine")=false
def zPP (P:Program) (G:Cx) (f:Nat) (g:List AV->Option AV):Prop:=∀args v,g args=some v->Enters P f/\∀H nx,FnT P G f args H nx v H nx
end
theorem zAP:∀(a b:List Nat),seqb a b=decide (a=b)
 | [],[]=>by simp [seqb]
 | [],_::_=>by simp [seqb]
 | _::_,[]=>by simp [seqb]
 | a::x,b::y=>by
  simp only [seqb];by_cases h:a=b
  ·subst h;have:Nat.beq a a=true:=Nat.beq_refl a;simp [this,zAP x y]
  ·have:Nat.beq a b=false:=by
    cases hb:Nat.beq a b with
    | false=>rfl
    | true=>exact absurd (zb hb) h
   simp [this,h]
section
variable {G:Cx} {call:Call} {Q:Ext->Fr->Heap->Nat->Prop} {K:Fr->Heap->Nat->Prop} {fr:Fr} {H:Heap} {nx:Nat}
theorem zOF {n:Nat} {v:AV}:qv fr (some n) v=fr.put n v:=rfl
end
end Go.Sy
namespace Go.Sy
def zIr:Nat->AV->Bool
 | 0,_=>false
 | d+1,v=>match v with
  | .bool _ | .int _ _ | .str _ | .ql | .ptr _ _ | .qa | .row _ _ _ _ _ _ | .qj | .map _ | .qi | .qd | .sym _=>true
  | .qe e _=>zIr d e
  | .qp _ es=>es.all (zIr d)
  | .func (.func _) a b=>a.all (zIr d)&&b.all (zIr d)
  | .iface _ v=>zIr d v
  | .agg cs=>cs.all (zIr d)
  | .qf cs=>cs.all (zIr d)
  | _=>false
section
variable {G:Cx} {call:Call} {fr:Fr} {H:Heap} {nx:Nat}
theorem zOe {o:XO} (c:zX o=0):xoS G call fr H nx o=match xoS G ze fr [] nx o with | some (v,_,n)=>some (v,H,n) | none=>none:=by
 cases o <;> first | (simp [zX] at c;done) | (simp only [xoS];repeat' split) <;> first | rfl | simp_all
def Calm (call:Call):Prop:=∀f args H nx v d c,call f args H nx=some (v,d,c)->d=H/\c=nx
theorem zLy:∀{ts:List Nat} {t:Nat},fr.get t=none->(only ts fr).get t=none
 | [],t,h=>rfl
 | a::ts,t,h=>by
  simp only [only];split
  ·rename_i v c;simp only [Fr.get];have:Nat.beq a t=false:=by
    cases hb:Nat.beq a t with
    | false=>rfl
    | true=>rw [zb hb,h] at c;cases c
   rw [this];exact zLy h
  ·exact zLy h
theorem zLz:∀{ts:List Nat} {t:Nat} {v:AV},inN t ts=true->fr.get t=some v->(only ts fr).get t=some v
 | [],t,v,h,_=>by cases h
 | a::ts,t,v,h,d=>by
  simp only [only];by_cases e:t=a
  ·subst e;have c:Nat.beq t t=true:=Nat.beq_refl t;simp only [d,Fr.get,c]
  ·have g:Nat.beq t a=false:=by
    cases c:Nat.beq t a with
    | false=>rfl
    | true=>exact absurd (zb c) e
   have f:Nat.beq a t=false:=by
    cases c:Nat.beq a t with
    | false=>rfl
    | true=>exact absurd (zb c).symm e
   simp only [inN,g] at h;split
   ·simp only [Fr.get,f];exact zLz h d
   ·exact zLz h d
theorem zRa {ts:List Nat} {t:Nat} (h:inN t ts=true):(only ts fr).get t=fr.get t:=by
 cases hv:fr.get t with
 | none=>exact zLy hv
 | some v=>exact zLz h hv
theorem zU4 {o:XO} {ts:List Nat} (h:(zIp o.qb).all (λ t=>inN t ts)=true) (call:Call) (H:Heap) (nx:Nat):xo G call (only ts fr) H nx o=xoS G call fr H nx o:=by
 rw [←zGK];refine zPO λ x c=>?_
 cases x with
 | t n=>exact zRa (QG.1 h n (zEo c))
 | _=>rfl
end
end Go.Sy
namespace Go.Sy
section
variable {G:Cx} {call:Call} {fr:Fr} {H:Heap} {nx:Nat}
def WM (G:Cx) (call:Call):List XOper->(Fr->Heap->Nat->Prop)->Fr->Heap->Nat->Prop
 | [],K,fr,H,nx=>K fr H nx
 | o::r,K,fr,H,nx=>match o.guard with
  | none=>∃v d c,xoS G call fr H nx o.op=some (v,d,c)/\zIr 40 v=true/\WM G call r K (qv fr o.dst v) d c
  | some (t,b)=>zPi (fr.get t) b (∃v d c,xoS G call fr H nx o.op=some (v,d,c)/\zIr 40 v=true/\WM G call r K (qv fr o.dst v) d c) (WM G call r K (qv fr o.dst (.qf [])) H nx)
def gdIn (g:Option (Nat×Bool)) (l:List Nat):Bool:=match g with
 | none=>true
 | some (t,_)=>inN t l
theorem zRU {o:XO} (c:zX o=1) {v:AV} {H':Heap} {n:Nat} (h:xoS G call fr H nx o=some (v,H',n)) (m:Nat):xoS G ze fr H m o=some (v,H,m)/\H'=H/\n=nx:=by
 cases o <;> first | (simp [zX] at c;done) | (simp only [xoS] at h ⊢;repeat' split at h) <;> first | (cases h;done) | (cases h;simp_all)
theorem zGO {fr:Fr} {t:Nat} {b c:Bool} (h:fr.get t=some (.bool c)):wantx fr (some (t,b))=some (c==b):=by
 simp only [wantx,h];cases c <;> cases b <;> rfl
variable {K:Fr->Heap->Nat->Prop}
end
end Go.Sy
namespace Go.Sy
section
variable {G:Cx} {call:Call} {fr:Fr} {H:Heap} {nx:Nat}
def zRb:XO->Bool
 | .call _ _ | .qL _ _=>true
 | _=>false
def WN (G:Cx) (call:Call):List XOper->(Fr->Heap->Nat->Prop)->Fr->Heap->Nat->Prop
 | [],K,fr,H,nx=>K fr H nx
 | o::r,K,fr,H,nx=>match o.guard with
  | none=>∃v d c,xoS G call fr H nx o.op=some (v,d,c)/\WN G call r K (qv fr o.dst v) d c
  | some (t,b)=>zPi (fr.get t) b (∃v d c,xoS G call fr H nx o.op=some (v,d,c)/\WN G call r K (qv fr o.dst v) d c) (WN G call r K (qv fr o.dst (.qf [])) H nx)
def zLA:List XOper->List XD->Bool
 | [],_=>true
 | o::r,d::ds=>(zIp o.op.qb).all (λ t=>inN t d.looks)&&gdIn o.guard d.looks&&zLA r ds
 | _::_,[]=>false
def zMf (c:List Nat):XO->Bool
 | .vt (.t b) | .qP (.t b) _=>!memb b c
 | _=>false
def zRV (c:List Nat):XO->Bool
 | .load (.t b) _ _=>!memb b c
 | _=>false
def zD9 (c:List Nat) (o:XOper):List Nat:=match o.dst with
 | none=>c
 | some d=>match zMf c o.op with
  | true=>c
  | false=>d::c
def seqN:Nat->List Nat->List Nat->List Nat->List Nat->List Nat->List Nat->List XOper->List XD->Bool
 | _,_,_,_,_,_,_,[],_=>true
 | i,f,h,cs,cur,g,e,o::r,d::ds=>match zRb o.op with
  | true=>(h++cs).all (λ c=>d.qc.testBit c)&&f.all (λ c=>d.qc.testBit c)&&g.all (λ c=>d.qc.testBit c)&&Nat.blt d.qc (2 ^ i)&&seqN (i+1) f h (i::cs) cur g (zD9 e o) r ds
  | false=>match zX o.op with
   | 0=>seqN (i+1) f h cs cur g (zD9 e o) r ds
   | 1=>match f.all (λ c=>d.qc.testBit c) with
    | true=>h.all (λ c=>d.qc.testBit c)&&Nat.blt d.qc (2 ^ i)&&seqN (i+1) f h cs (i::cur) g (zD9 e o) r ds
    | false=>zRV e o.op&&(h.all (λ c=>d.qc.testBit c)&&Nat.blt d.qc (2 ^ i)&&seqN (i+1) f h cs cur (i::g) (zD9 e o) r ds)
   | 2=>seqN (i+1) (i::f) h cs [] (cur++g) (zD9 e o) r ds
   | _=>(h++cs).all (λ c=>d.qc.testBit c)&&f.all (λ c=>d.qc.testBit c)&&(cur++g).all (λ c=>d.qc.testBit c)&&Nat.blt d.qc (2 ^ i)&&seqN (i+1) f (i::h) cs [] (cur++g) (zD9 e o) r ds
 | _,_,_,_,_,_,_,_::_,[]=>false
theorem zPQ {o:XO} (d:zX o=2) {v:AV} {H':Heap} {n:Nat} (h:xoS G call fr H nx o=some (v,H',n)):∃c,xoS G ze fr [] nx o=some (v,[(nx,c)],nx+1)/\H'=(nx,c)::H/\n=nx+1:=by
 cases o <;> first | (simp [zX] at d;done) | (simp only [xoS] at h ⊢;repeat' split at h) <;> first | (cases h;done) | (cases h;simp_all)
abbrev DAl:=List (Nat×Nat×HO)
def Fut (n0 i:Nat) (al c:DAl):Prop:=∃new,c=new++al/\∀x∈new,i<=x.1/\n0<=x.2.1
noncomputable def rdH (G:Cx) (r:DRead) (H:Heap) (nx:Nat):Bool:=match xo G ze r.fr H nx r.op with
 | some (v,_,_)=>eqC v r.v
 | none=>false
def zFv (H:Heap) (al:DAl) (d:List Nat):List (Nat×Nat)->List (Heap×Nat)->Prop
 | [],(m,inc)::_=>within (λ j=>!inc.testBit j) al++m=H
 | (c,_)::ch,(m,inc)::ms=>within (λ j=>!inc.testBit j) al++m=H/\(c∈d\/zFv H al d ch ms)
 | _,[]=>False
theorem zKf {p i j:Nat} (h:p<2 ^ i) (c:i<=j):p.testBit j=false:=Nat.testBit_lt_two_pow (QZ h (Nat.pow_le_pow_right (by omega) c))
theorem zKE {n0 i inc p:Nat} {al c:DAl} (e:Fut n0 i al c) (d:p<2 ^ i):within (but p inc) c=within (but p inc) al:=by
 obtain ⟨new,rfl,g⟩:=e;rw [zEH,zD2 (al:=new),List.nil_append];intro x f;simp [but,zKf d (g x f).1]
theorem zKF {inc p:Nat} {al:DAl} (h:∀x∈al,p.testBit x.1=true):within (but p inc) al=within (λ j=>!inc.testBit j) al:=
 zDn λ x c=>by simp [but,h x c]
theorem zEw {n0 h:Nat} {f:Nat->Bool} {m:Heap} (g:h<n0):∀{al:DAl},(∀x∈al,n0<=x.2.1)->Heap.get (within f al++m) h=m.get h
 | [],_=>rfl
 | (i,k,o)::r,d=>by
  have p:n0<=k:=d _ (.head _);have c:=zEw (f:=f) (m:=m) g (al:=r) λ x l=>d x (.tail _ l)
  simp only [within];split
  ·have:Nat.beq k h=false:=by
    cases e:Nat.beq k h with
    | false=>rfl
    | true=>have:=zb e;omega
   simp only [List.cons_append,Heap.get,this];exact c
  ·exact c
theorem zOG {n0:Nat} {al d:DAl} {u:List Nat} {r:DRead} (s:∀x∈al,n0<=x.2.1) (e:∀x∈d,n0<=x.2.1) {H:Heap} (q:∀H2 nx,(∀h,h<n0->H2.get h=H.get h)->rdH G r H2 nx=true) {nx:Nat}:∀{ch:List (Nat×Nat)} {ms:List (Heap×Nat)},zFv H al u ch ms →
  (∀c∈u,r.qc.testBit c=true)->(∀c∈ch,c.2.testBit r.i=false)->zCz G d nx r ch ms=true
 | [],[],h,_,_=>h.elim
 | [],(m,inc)::ms,h,_,_=>by
  have h:within (λ j=>!inc.testBit j) al++m=H:=h
  have:=q (within (but r.qc inc) d++m) nx λ k l=>by rw [zEw l e,←h,zEw l s]
  simp only [zCz,zEb];exact this
 | (c,p)::ch,[],h,_,_=>h.elim
 | (c,p)::ch,(m,inc)::ms,h,v,hc=>by
  obtain ⟨z,f⟩:=h;have g:zEb G d nx r m inc=true:=by
   have:=q (within (but r.qc inc) d++m) nx λ k l=>by rw [zEw l e,←z,zEw l s]
   simp only [zEb];exact this
  simp only [zCz];split
  ·exact g
  ·rename_i t;rcases f with f | f
   ·rw [v c f] at t;cases t
   ·simp only [hc _ (.head _),g];exact zOG s e q f v λ y o=>hc y (.tail _ o)
theorem zNI {n0:Nat} {al d:DAl} {u:List Nat} {r:DRead} {i:Nat} (q:Fut n0 i al d) (o:r.qc<2 ^ i) (e:∀x∈al,r.qc.testBit x.1=true) (s:∀nx,rdH G r H nx=true):∀{ch:List (Nat×Nat)} {ms:List (Heap×Nat)},zFv H al u ch ms →
  (∀c∈u,r.qc.testBit c=true)->(∀c∈ch,c.2.testBit r.i=false)->zCz G d nx r ch ms=true
 | [],[],h,_,_=>h.elim
 | [],(m,inc)::ms,h,_,_=>by
  have h:within (λ j=>!inc.testBit j) al++m=H:=h
  have:=s nx;simp only [zCz,zEb,zKE q o,zKF e,h];exact this
 | (c,p)::ch,[],h,_,_=>h.elim
 | (c,p)::ch,(m,inc)::ms,h,v,hc=>by
  obtain ⟨z,f⟩:=h;have g:zEb G d nx r m inc=true:=by
   have:=s nx;simp only [zEb,zKE q o,zKF e,z];exact this
  simp only [zCz];split
  ·exact g
  ·rename_i t;rcases f with f | f
   ·rw [v c f] at t;cases t
   ·simp only [hc _ (.head _),g];exact zNI q o e s f v λ y l=>hc y (.tail _ l)
structure SN (n0:Nat) (G:Cx) (H:Heap) (nx:Nat) (fr:Fr) (s:DS) (i:Nat) (als ws cs cur wa news:List Nat):Prop where
 uB:∀t h o,memb t news=false->fr.get t=some (.ptr h o)->h<n0
 vT:∀x∈s.al,n0<=x.2.1
 nn:n0<=nx
 vY:s.fr=fr
 vX:s.nx=nx
 uG:∀x∈s.al,x.1∈als/\x.1<i
 uC:∀c∈s.ch,(c.1∈ws\/c.1∈cs)/\c.1<i/\c.2<2 ^ c.1
 uh:∃m inc rest,s.ms=(m,inc)::rest
 uo:∀x∈s.ms,x.2<2 ^ i
 chain:zFv H s.al ws s.ch s.ms
 rd:∀r∈s.rd,r.i<i/\r.qc<2 ^ r.i/\((r.i∈cur/\(∀x∈s.al,r.qc.testBit x.1=true)/\∀nx,rdH G r H nx=true)\/r.i∈wa)/\∀nx al',Fut n0 i s.al al'->zCz G al' nx r s.ch s.ms=true
theorem zNJ {al:DAl} {e:List Nat} {ch:List (Nat×Nat)} {m:Heap} {inc:Nat} {d:List (Heap×Nat)} (h:zFv H al e ch ((m,inc)::d)):within (λ j=>!inc.testBit j) al++m=H:=by
 cases ch with
 | nil=>exact h
 | cons c ch=>exact h.1
theorem Fut.step {n0 i:Nat} {al c:DAl} (h:Fut n0 (i+1) al c):Fut n0 i al c:=let ⟨new,e,hn⟩:=h;⟨new,e,λ x d=>by have:=hn x d;omega⟩
theorem zSO {t d:Nat} {l:List Nat} (h:memb t (d::l)=false):t≠d/\memb t l=false:=by
 simp only [memb] at h;split at h
 ·cases h
 ·rename_i e;exact ⟨zA3 e,h⟩
theorem zPR {n0:Nat} {c:List Nat} {o:XOper} {v:AV} (i:∀t h o,memb t c=false->fr.get t=some (.ptr h o)->h<n0) (q:zMf c o.op=true->∀h k,v=.ptr h k->h<n0):
  ∀t h k,memb t (zD9 c o)=false->(qv fr o.dst v).get t=some (.ptr h k)->h<n0:=by
 intro t h k g f;unfold zD9 at g;cases hd:o.dst with
 | none=>rw [hd] at g f;exact i t h k g f
 | some d=>
  rw [hd] at g f;have f:(fr.put d v).get t=some (.ptr h k):=f;rw [Fr.qu] at f;cases ho:zMf c o.op with
  | true=>
   rw [ho] at g;split at f
   ·cases f;exact q ho h k rfl
   ·exact i t h k g f
  | false=>
   rw [ho] at g;obtain ⟨p,l⟩:=zSO g;rw [if_neg λ e=>p e.symm] at f
   exact i t h k l f
theorem zU5 {n0:Nat} {c:List Nat} {o:XO} (d:∀t h o,memb t c=false->fr.get t=some (.ptr h o)->h<n0) {v:AV} {H':Heap} {n':Nat} (hx:xoS G call fr H nx o=some (v,H',n')) (ho:zMf c o=true):∀h k,v=.ptr h k->h<n0:=by
 intro h k e;subst e;cases o <;> try (cases ho;done)
 case vt x=>
  cases x <;> try (cases ho;done)
  rename_i b;have ho:memb b c=false:=by simpa [zMf] using ho
  simp only [xoS] at hx;split at hx
  ·rename_i u f;cases hx;exact d b h k ho f
  ·cases hx
 case qP x off=>
  cases x <;> try (cases ho;done)
  rename_i b;have ho:memb b c=false:=by simpa [zMf] using ho
  simp only [xoS] at hx;split at hx
  ·rename_i g i f;cases hx;exact d b _ _ ho f
  ·cases hx
  ·cases hx
theorem zWg {n0:Nat} {c:List Nat} {o:XO} (e:∀t h o,memb t c=false->fr.get t=some (.ptr h o)->h<n0) {v:AV} {H':Heap} {n':Nat} (hx:xoS G call fr H nx o=some (v,H',n')) (ho:zRV c o=true) {H2:Heap} (i:∀h,h<n0->H2.get h=H.get h) (d:Nat):xoS G ze fr H2 d o=some (v,H2,d):=by
 cases o <;> try (cases ho;done)
 case load x sz ag=>
  cases x <;> try (cases ho;done)
  rename_i b;have ho:memb b c=false:=by simpa [zRV] using ho
  simp only [xoS] at hx ⊢;split at hx
  ·rename_i u g;split at hx
   ·rename_i x f;cases hx;have:xload H2 sz ag u=xload H sz ag u:=by
     cases u with
     | ptr h o=>simp only [xload,i h (e b h o ho g)]
     | _=>rfl
    rw [this,f]
   ·cases hx
  ·cases hx
theorem zM3 {al:DAl} {f d:List Nat} (e:∀c∈f,c∈d):∀{ch:List (Nat×Nat)} {ms:List (Heap×Nat)},zFv H al f ch ms->zFv H al d ch ms
 | [],[],h=>h.elim
 | [],(m,inc)::_,h=>h
 | (c,p)::ch,[],h=>h.elim
 | (c,p)::ch,(m,inc)::ms,h=>⟨h.1,h.2.imp (e c) (zM3 e)⟩
theorem zMR {al:DAl} {g:List Nat} {i e:Nat} {f:HO}:∀{ch:List (Nat×Nat)} {ms:List (Heap×Nat)},zFv H al g ch ms->(∀x∈ms,x.2<2 ^ i)->zFv ((e,f)::H) ((i,e,f)::al) g ch ms
 | [],[],h,_=>h.elim
 | [],(m,inc)::_,h,d=>by
  have h:within (λ j=>!inc.testBit j) al++m=H:=h
  have:=zKf (d _ (.head _)) (QB i);show within (λ j=>!inc.testBit j) ((i,e,f)::al)++m=_
  simp only [within,this,Bool.not_false,List.cons_append,h]
 | (c,p)::ch,[],h,_=>h.elim
 | (c,p)::ch,(m,inc)::ms,h,d=>by
  have:=zKf (d _ (.head _)) (QB i);refine ⟨?_,h.2.imp id λ h=>zMR h λ x l=>d x (.tail _ l)⟩
  simp only [within,this,Bool.not_false,List.cons_append,h.1]
theorem zNK {a b i:Nat} (c:a<2 ^ i) (d:b<2 ^ i):a ||| b<2 ^ i:=Nat.or_lt_two_pow c d
theorem zLB {p i:Nat}:∀{al:DAl},(∀x∈al,x.1<i)->zBZ p al<2 ^ i
 | [],_=>Nat.pow_pos (by omega)
 | (j,h,o)::r,c=>by
  simp only [zBZ];split
  ·exact zNK (Nat.pow_lt_pow_right (by omega) (c _ (.head _))) (zLB λ x d=>c x (.tail _ d))
  ·exact zLB λ x d=>c x (.tail _ d)
theorem zSP {o:XO} (h:zRb o=true):zX o=3:=by cases o <;> first | (cases h;done) | rfl
theorem zFc (I:Calm call) {n0:Nat}:∀(ops:List XOper) (ds:List XD) (i:Nat) (L ws cs cur R C:List Nat) {K:Fr->Heap->Nat->Prop} {fr:Fr} {H:Heap} {nx:Nat} {s:DS},WN G call ops K fr H nx->zLA ops ds=true->seqN i L ws cs cur R C ops ds=true->SN n0 G H nx fr s i L ws cs cur R C →
  ∃s' i' B A cs' g f F fr' H' D,zB0 G call i ops ds s=some s'/\SN n0 G H' D fr' s' i' B A cs' g f F/\K fr' H' D
 | [],ds,i,L,ws,cs,cur,R,C,K,fr,H,nx,s,hw,_,_,u=>⟨s,i,L,ws,cs,cur,R,C,fr,H,nx,by cases ds <;> rfl,u,hw⟩
 | o::r,[],i,L,ws,cs,cur,R,C,K,fr,H,nx,s,hw,hc,_,u=>by cases hc
 | o::r,d::ds,i,L,ws,cs,cur,R,C,K,fr,H,nx,s,hw,hc,z,u=>by
  simp only [zLA,QA] at hc;obtain ⟨⟨c1,cg⟩,c3⟩:=hc;have S:∀{g f:List Nat},(∀r∈s.rd,r.i∈cur->r.i∈g\/r.i∈f)->(∀x∈R,x∈f)->∀r∈s.rd,r.i<i+1/\r.qc<2 ^ r.i/\((r.i∈g/\(∀x∈s.al,r.qc.testBit x.1=true)/\∀nx,rdH G r H nx=true)\/r.i∈f)/\∀nx J,Fut n0 (i+1) s.al J->zCz G J nx r s.ch s.ms=true:=by
   intro g f W h2 r hr;obtain ⟨k1,k2,k3,k4⟩:=u.rd r hr;refine ⟨by omega,k2,?_,λ nx J hf=>k4 nx J hf.step⟩
   rcases k3 with ⟨k5,k6,k7⟩ | k5
   ·rcases W r hr k5 with h | h
    ·exact .inl ⟨h,k6,k7⟩
    ·exact .inr h
   ·exact .inr (h2 _ k5)
  have O:∀x∈s.al,x.1∈L/\x.1<i+1:=λ x y=>⟨(u.uG x y).1,Nat.lt_succ_of_lt (u.uG x y).2⟩
  have M:∀x∈s.ms,x.2<2 ^ (i+1):=λ x y=>QZ (u.uo x y) (Nat.pow_le_pow_right (by omega) (QY i))
  have U:∀{A cs':List Nat},(∀x∈ws,x∈A)->(∀x∈cs,x∈cs')->∀c∈s.ch,(c.1∈A\/c.1∈cs')/\c.1<i+1/\c.2<2 ^ c.1:=λ W h2 c hc=>by
   obtain ⟨k1,k2,k3⟩:=u.uC c hc;exact ⟨k1.imp (W _) (h2 _),by omega,k3⟩
  have ar:(∃v H' D,xoS G call fr H nx o.op=some (v,H',D)/\WN G call r K (qv fr o.dst v) H' D)->wantx (only d.looks s.fr) o.guard=some true →
    ∃s' i' B A cs' g f F fr' H' D,zB0 G call i (o::r) (d::ds) s=some s'/\SN n0 G H' D fr' s' i' B A cs' g f F/\K fr' H' D:=by
   rintro ⟨v,H',D,y,hw2⟩ N
   clear hw
   have Y:∀(call:Call) (H:Heap) (n:Nat),xo G call (only d.looks s.fr) H n o.op=xoS G call fr H n o.op:=λ call H n=>by rw [u.vY];exact zU4 c1 call H n
   have X:=zPR (o:=o) u.uB (zU5 u.uB y);have a8:nx<=D:=zRQ (λ _ _ _ _ _ _ _ h=>by rw [(I _ _ _ _ _ _ _ h).2];exact QB _) y
   obtain ⟨m,inc,bf,ab⟩:=u.uh;have hH:within (λ j=>!inc.testBit j) s.al++m=H:=zNJ (ab▸u.chain)
   have T:∀{l:List Nat} ,L.all (λ c=>d.qc.testBit c)=true->∀x∈s.al,d.qc.testBit x.1=true:=λ h x y=>QG.1 h _ (u.uG x y).1
   have ah:L.all (λ c=>d.qc.testBit c)=true->within (but d.qc inc) s.al++m=H:=λ h=>by rw [zKF (T (l:=[]) h),hH]
   have af:∀{A cs' g f:List Nat},(∃k,zX o.op=k+3)->(ws++cs).all (λ c=>d.qc.testBit c)=true->L.all (λ c=>d.qc.testBit c)=true->d.qc<2 ^ i->seqN (i+1) L A cs' g f (zD9 C o) r ds=true->(∀x∈ws,x∈A)->(∀x∈cs,x∈cs')->(i∈A\/i∈cs') →
     (i∈A\/H'=H) →
     (∀q∈s.rd,((q.i∈g/\(∀x∈s.al,q.qc.testBit x.1=true)/\∀nx,rdH G q H' nx=true)\/(q.i∈f))/\(d.qc.testBit q.i=true\/(∀x∈s.al,q.qc.testBit x.1=true)/\∀nx,rdH G q H' nx=true)) →
     ∃s' i' B A cs' g f F fr' H' D,zB0 G call i (o::r) (d::ds) s=some s'/\SN n0 G H' D fr' s' i' B A cs' g f F/\K fr' H' D:=by
    intro A cs' g f hk q1 q2 q3 q5 au bc a7 bb ba;obtain ⟨k,hk⟩:=hk;have aw:(s.ch.all λ c=>d.qc.testBit c.1)=true:=by
     rw [QG];intro c hc;refine QG.1 q1 c.1 (QI.2 ?_)
     exact (u.uC c hc).1
    have e:zDm G call i o d s=some { s with fr:=qv s.fr o.dst v,nx:=D,ms:=(H',inc ||| zBZ d.qc s.al)::s.ms,ch:=(i,d.qc)::s.ch,tr:=(i,o.dst,v)::s.tr }:=by
     simp only [zDm,N,hk,ab,aw,ah q2,Y,u.vX,y]
    simp only [zB0,e];have ak:inc ||| zBZ d.qc s.al<2 ^ (i+1):=zNK (M _ (by rw [ab];exact .head _)) (zLB λ x y=>(O x y).2)
    have aj:∀p:Nat,p<2 ^ i->∀J,Fut n0 (i+1) s.al J->within (but p (inc ||| zBZ d.qc s.al)) J=[]:=by
     intro p hp J hf;rw [zKE hf (QZ hp (Nat.pow_le_pow_right (by omega) (QY i)))]
     refine zD2 λ x y=>?_
     have:(zBZ d.qc s.al).testBit x.1=true:=zGN.2 ⟨T (l:=[]) q2 x y,x,y,rfl⟩;simp [but,this]
    have ad:within (λ j=>!(inc ||| zBZ d.qc s.al).testBit j) s.al=[]:=by
     refine zD2 λ x y=>?_
     have:(zBZ d.qc s.al).testBit x.1=true:=zGN.2 ⟨T (l:=[]) q2 x y,x,y,rfl⟩;simp [this]
    refine zFc I r ds (i+1) L A cs' g f (zD9 C o) hw2 c3 q5 ⟨X,u.vT,Qk u.nn a8,by simp only [u.vY],rfl,O,λ c hc=>?_,⟨_,_,_,rfl⟩,λ x y=>?_,?_,λ q V=>?_⟩
    ·rcases QH.1 hc with rfl | hc
     ·exact ⟨a7,QU i,q3⟩
     ·exact U au bc c hc
    ·rcases QH.1 y with rfl | y
     ·exact ak
     ·exact M x y
    ·refine ⟨by rw [ad,List.nil_append],?_⟩
     rcases bb with h | h
     ·exact .inl h
     ·exact .inr (by rw [h];exact zM3 au u.chain)
    ·obtain ⟨k1,k2,k3,k4⟩:=u.rd q V;obtain ⟨k5,k6⟩:=ba q V;refine ⟨by omega,k2,k5,λ n J hf=>?_⟩
     have a6:q.qc.testBit i=false:=zKf k2 (by omega)
     simp only [zCz,a6];rcases k6 with k6 | ⟨_,k6⟩
     ·simp only [k6];exact k4 n J hf.step
     ·cases hb:d.qc.testBit q.i with
      | true=>simp only;exact k4 n J hf.step
      | false=>
       have a1:zEb G J n q H' (inc ||| zBZ d.qc s.al)=true:=by
        have:=k6 n;simp only [zEb,aj q.qc (QZ k2 (Nat.pow_le_pow_right (by omega) (by omega))) J hf,List.nil_append]
        exact this
       simp only [a1];exact k4 n J hf.step
   simp only [seqN] at z;split at z
   ·
    rename_i aq;simp only [QA] at z;obtain ⟨⟨⟨⟨q1,q2⟩,q3⟩,q4⟩,q5⟩:=z;have q4:d.qc<2 ^ i:=by simpa [Ql] using q4
    have ay:H'=H:=by
     cases ho:o.op <;> rw [ho] at aq y <;> first | (cases aq;done) | skip
     ·simp only [xoS] at y;split at y
      ·exact (I _ _ _ _ _ _ _ y).1
      ·cases y
     ·simp only [xoS] at y;split at y
      ·unfold applyf at y;split at y
       ·exact (I _ _ _ _ _ _ _ y).1
       ·cases y
      ·cases y
    subst ay;refine af ⟨0,zSP aq⟩ q1 q2 q4 q5 (λ x h=>h) (λ x h=>.tail _ h) (.inr (.head _)) (.inr rfl) λ q V=>?_
    obtain ⟨k1,k2,k3,k4⟩:=u.rd q V;refine ⟨k3,?_⟩
    rcases k3 with ⟨_,k5,k6⟩ | k5
    ·exact .inr ⟨k5,k6⟩
    ·exact .inl (QG.1 q3 _ k5)
   ·rename_i be;by_cases h0:zX o.op=0
    ·simp only [h0] at z;have W:=zOe (G:=G) (call:=call) (fr:=fr) (H:=H) (nx:=nx) h0;have h2:=zOe (G:=G) (call:=ze) (fr:=fr) (H:=[]) (nx:=nx) h0;rw [y] at W;cases hz:xoS G ze fr [] nx o.op with
     | none=>rw [hz] at W;cases W
     | some t=>
      obtain ⟨v',H2,n2⟩:=t;rw [hz] at W h2;simp only [QJ,Prod.mk.injEq] at W h2;obtain ⟨rfl,rfl,rfl⟩:=W;obtain ⟨_,rfl,_⟩:=h2;have hn:D=nx:=by
       have:∀{o:XO},zX o=0->∀{v H2 n2},xoS G ze fr [] nx o=some (v,H2,n2)->n2=nx:=λ{o} hk {v H2 n2} h=>by
        cases o <;> first | (simp [zX] at hk;done) | (simp only [xoS] at h;repeat' split at h) <;> first | (cases h;done) | (cases h;rfl)
       exact this h0 hz
      subst hn;have e:zDm G call i o d s=some { s with fr:=qv s.fr o.dst v,tr:=(i,o.dst,v)::s.tr }:=by
       simp only [zDm,N,h0,Y,u.vX,hz,Nat.beq_refl]
      simp only [zB0,e];exact zFc I r ds (i+1) L ws cs cur R (zD9 C o) hw2 c3 z ⟨X,u.vT,u.nn,by simp only [u.vY],u.vX,O,U (λ x h=>h) (λ x h=>h),u.uh,M,u.chain,S (λ _ _ h=>.inl h) (λ x h=>h)⟩
    ·by_cases W:zX o.op=1
     ·simp only [W] at z;split at z
      ·rename_i q2;simp only [QA] at z;obtain ⟨⟨q1,q3⟩,q4⟩:=z;have q3:d.qc<2 ^ i:=by simpa [Ql] using q3
       obtain ⟨k1,rfl,rfl⟩:=zRU W y nx;have e:zDm G call i o d s=some { s with fr:=qv s.fr o.dst v,rd:=⟨i,o.op,only d.looks s.fr,d.qc,v⟩::s.rd,tr:=(i,o.dst,v)::s.tr }:=by
        simp only [zDm,N,W,ab,ah q2,Y,u.vX,k1]
       have aa:∀n,rdH G ⟨i,o.op,only d.looks s.fr,d.qc,v⟩ H' n=true:=λ n=>by
        have h4:=(zRU W y n).1;simp only [rdH,Y,h4];exact zPy v
       simp only [zB0,e];refine zFc I r ds (i+1) L ws cs (i::cur) R (zD9 C o) hw2 c3 q4 ⟨X,u.vT,u.nn,by simp only [u.vY],u.vX,O,U (λ x h=>h) (λ x h=>h),u.uh,M,u.chain,λ q V=>?_⟩
       rcases QH.1 V with rfl | V
       ·refine ⟨QU i,q3,.inl ⟨.head _,T (l:=[]) q2,aa⟩,λ n J hf=>?_⟩
        refine zNI hf.step q3 (T (l:=[]) q2) aa u.chain (λ c hc=>QG.1 q1 c hc) λ c hc=>?_
        obtain ⟨_,g2,g3⟩:=u.uC c hc;exact zKf g3 (by show c.1<=i;omega)
       ·exact S (λ _ _ h=>.inl (.tail _ h)) (λ x h=>h) q V
      ·simp only [QA] at z;obtain ⟨q0,⟨q1,q3⟩,q4⟩:=z;have q3:d.qc<2 ^ i:=by simpa [Ql] using q3
       obtain ⟨k1,rfl,rfl⟩:=zRU W y nx;have ae:∀(H2:Heap) (n:Nat),(∀h,h<n0->H2.get h=H'.get h)->xoS G ze fr H2 n o.op=some (v,H2,n):=λ H2 n he=>zWg u.uB y q0 he n
       have e:zDm G call i o d s=some { s with fr:=qv s.fr o.dst v,rd:=⟨i,o.op,only d.looks s.fr,d.qc,v⟩::s.rd,tr:=(i,o.dst,v)::s.tr }:=by
        have:=ae (within (but d.qc inc) s.al++m) s.nx λ k hk=>by rw [zEw hk u.vT,←hH,zEw hk u.vT]
        simp only [zDm,N,W,ab,Y,this]
       have aa:∀(H2:Heap) (n:Nat),(∀h,h<n0->H2.get h=H'.get h)->rdH G ⟨i,o.op,only d.looks s.fr,d.qc,v⟩ H2 n=true:=λ H2 n he=>by
        simp only [rdH,Y,ae H2 n he];exact zPy v
       simp only [zB0,e];refine zFc I r ds (i+1) L ws cs cur (i::R) (zD9 C o) hw2 c3 q4 ⟨X,u.vT,u.nn,by simp only [u.vY],u.vX,O,U (λ x h=>h) (λ x h=>h),u.uh,M,u.chain,λ q V=>?_⟩
       rcases QH.1 V with rfl | V
       ·refine ⟨QU i,q3,.inr (.head _),λ n J hf=>?_⟩
        refine zOG u.vT (λ x y=>?_) aa u.chain (λ c hc=>QG.1 q1 c hc) λ c hc=>?_
        ·obtain ⟨new,rfl,hn⟩:=hf;rcases QI.1 y with y | y
         ·exact (hn x y).2
         ·exact u.vT x y
        ·obtain ⟨_,g2,g3⟩:=u.uC c hc;exact zKf g3 (by show c.1<=i;omega)
       ·exact S (λ _ _ h=>.inl h) (λ x h=>.tail _ h) q V
     ·by_cases h2:zX o.op=2
      ·simp only [h2] at z;obtain ⟨ob,k1,rfl,rfl⟩:=zPQ h2 y;have e:zDm G call i o d s=some { s with fr:=qv s.fr o.dst v,nx:=nx+1,al:=(i,nx,ob)::s.al,tr:=(i,o.dst,v)::s.tr }:=by
        simp only [zDm,N,h2,Y,u.vX,k1,Nat.beq_refl]
       simp only [zB0,e];refine zFc I r ds (i+1) (i::L) ws cs [] (cur++R) (zD9 C o) hw2 c3 z ⟨X,λ x y=>?_,Nat.le_succ_of_le u.nn,by simp only [u.vY],rfl,λ x y=>?_,U (λ x h=>h) (λ x h=>h),u.uh,M,zMR u.chain u.uo,λ q V=>?_⟩
       ·rcases QH.1 y with rfl | y
        ·exact u.nn
        ·exact u.vT x y
       ·rcases QH.1 y with rfl | y
        ·exact ⟨.head _,QU i⟩
        ·exact ⟨.tail _ (O x y).1,(O x y).2⟩
       ·obtain ⟨g1,g2,g3,g4⟩:=u.rd q V;refine ⟨by omega,g2,.inr ?_,λ n J hf=>g4 n J ?_⟩
        ·rcases g3 with ⟨g5,_⟩ | g5
         ·exact QI.2 (.inl g5)
         ·exact QI.2 (.inr g5)
        ·obtain ⟨new,rfl,hn⟩:=hf;refine ⟨new++[(i,nx,ob)],by simp,λ x y=>?_⟩
         rcases QI.1 y with y | y
         ·have:=hn x y;omega
         ·simp only [Qc] at y;subst y;exact ⟨QB _,u.nn⟩
      ·have h3:∃k,zX o.op=k+3:=⟨zX o.op-3,by omega⟩
       obtain ⟨k,h3⟩:=h3;simp only [h3,QA] at z;obtain ⟨⟨⟨⟨q1,q2⟩,q3⟩,q4⟩,q5⟩:=z;have q4:d.qc<2 ^ i:=by simpa [Ql] using q4
       refine af ⟨k,h3⟩ q1 q2 q4 q5 (λ x h=>.tail _ h) (λ x h=>h) (.inl (.head _)) (.inl (.head _)) λ q V=>?_
       obtain ⟨g1,g2,g3,g4⟩:=u.rd q V;have az:q.i∈cur++R:=by
        rcases g3 with ⟨g5,_⟩ | g5
        ·exact QI.2 (.inl g5)
        ·exact QI.2 (.inr g5)
       exact ⟨.inr az,.inl (QG.1 q3 _ az)⟩
  have ac:WN G call r K (qv fr o.dst (.qf [])) H nx->wantx (only d.looks s.fr) o.guard=some false →
    ∃s' i' B A cs' g f F fr' H' D,zB0 G call i (o::r) (d::ds) s=some s'/\SN n0 G H' D fr' s' i' B A cs' g f F/\K fr' H' D:=by
   intro hw N;have e:zDm G call i o d s=some { s with fr:=qv s.fr o.dst (.qf []),tr:=(i,o.dst,.qf [])::s.tr }:=by
    simp only [zDm,N]
   simp only [zB0,e];have base:∀{B A cs' g f:List Nat},seqN (i+1) B A cs' g f (zD9 C o) r ds=true->(∀x∈L,x∈B)->(∀x∈ws,x∈A)->(∀x∈cs,x∈cs')->(∀x∈cur,x∈g\/x∈f)->(∀x∈R,x∈f) →
     ∃s' i' B A cs' g f F fr' H' D,zB0 G call (i+1) r ds { s with fr:=qv s.fr o.dst (.qf []),tr:=(i,o.dst,.qf [])::s.tr }=some s'/\SN n0 G H' D fr' s' i' B A cs' g f F/\K fr' H' D:=by
    intro B A cs' g f V W h2 h3 h4 h5;exact zFc I r ds (i+1) B A cs' g f (zD9 C o) hw c3 V ⟨zPR u.uB (λ _ h k e=>by cases e),u.vT,u.nn,by simp only [u.vY],u.vX,λ x y=>⟨W _ (O x y).1,(O x y).2⟩,U h2 h3,u.uh,M,zM3 h2 u.chain,S (λ q _ V=>h4 _ V) h5⟩
   simp only [seqN] at z;split at z
   ·simp only [QA] at z;exact base z.2 (λ x h=>h) (λ x h=>h) (λ x h=>.tail _ h) (λ x h=>.inl h) (λ x h=>h)
   ·split at z
    ·exact base z (λ x h=>h) (λ x h=>h) (λ x h=>h) (λ x h=>.inl h) (λ x h=>h)
    ·split at z
     ·simp only [QA] at z;exact base z.2 (λ x h=>h) (λ x h=>h) (λ x h=>h) (λ x h=>.inl (.tail _ h)) (λ x h=>h)
     ·simp only [QA] at z;exact base z.2.2 (λ x h=>h) (λ x h=>h) (λ x h=>h) (λ x h=>.inl h) (λ x h=>.tail _ h)
    ·exact base z (λ x h=>.tail _ h) (λ x h=>h) (λ x h=>h) (λ x h=>.inr (QI.2 (.inl h))) (λ x h=>QI.2 (.inr h))
    ·simp only [QA] at z;exact base z.2 (λ x h=>h) (λ x h=>.tail _ h) (λ x h=>h) (λ x h=>.inr (QI.2 (.inl h))) (λ x h=>QI.2 (.inr h))
  unfold WN at hw;cases hg:o.guard with
  | none=>
   rw [hg] at hw;exact ar hw (by rw [hg];rfl)
  | some tb=>
   obtain ⟨t,b⟩:=tb;rw [hg] at hw cg;have ag:(only d.looks s.fr).get t=fr.get t:=by rw [u.vY];exact zRa cg
   simp only [zPi] at hw;split at hw
   ·rename_i c hc;obtain ⟨w1,w2⟩:=hw;have ao:=zGO (b:=b) (ag.trans hc);rw [←hg] at ao;by_cases ax:c=b
    ·exact ar (w1 ax) (by rw [ao,ax];simp)
    ·have ai:c=!b:=by cases c <;> cases b <;> simp_all
     exact ac (w2 ai) (by rw [ao,ai];simp)
   ·rename_i hc;exact ac hw (by rw [hg];simp only [wantx,ag,hc])
   ·exact hw.elim
theorem zSQ (g:Calm call) {ops:List XOper} {ds:List XD} {K:Fr->Heap->Nat->Prop} (q:∀t h o,fr.get t=some (.ptr h o)->h<nx) (hc:zLA ops ds=true) (v:seqN 0 [] [] [] [] [] [] ops ds=true) (h:WN G call ops K fr H nx):∃fr' H' d,zMa G call ops ds (fr,H,nx)=some (fr',H',d)/\K fr' H' d:=by
 obtain ⟨s,i,C,J,cs,cur,A,y,fr',H',d,D,l,I⟩:=zFc g (n0:=nx) ops ds 0 [] [] [] [] [] [] (s:=⟨fr,nx,[(H,0)],[],[],[],[]⟩) h hc v ⟨λ t h o _ B=>q t h o B,λ x e=>(by cases e),QB _,rfl,rfl,λ x e=>(by cases e),λ c hc=>(by cases hc),⟨_,_,_,rfl⟩,λ x e=>(by simp only [Qc] at e;subst e;exact Nat.one_pos),rfl,λ r u=>(by cases u)⟩
 obtain ⟨m,inc,z,f⟩:=l.uh;refine ⟨fr',H',d,?_,I⟩
 have p:(s.rd.all λ r=>zCz G s.al s.nx r s.ch s.ms)=true:=by
  rw [QG];intro r u;exact (l.rd r u).2.2.2 _ _ ⟨[],rfl,λ x e=>by cases e⟩
 have F:within (λ j=>!inc.testBit j) s.al++m=H':=zNJ (f▸l.chain)
 rw [f] at p;simp only [zMa,D,f,p,F];rw [l.vY,l.vX]
end
end Go.Sy
namespace Go.Sy
def zAU:Nat->AV->Bool
 | 0,_=>false
 | d+1,v=>match v with
  | .bool _ | .int _ _ | .str _ | .ql | .qa | .qj | .qi | .qd=>true
  | .qe e _=>zAU d e
  | .qp _ es=>es.all (zAU d)
  | .func _ a b=>a.all (zAU d)&&b.all (zAU d)
  | .iface _ v=>zAU d v
  | .agg cs=>cs.all (zAU d)
  | .qf cs=>cs.all (zAU d)
  | _=>false
def ppS:Nat->AV->Bool
 | 0,_=>false
 | d+1,v=>match v with
  | .bool _ | .int _ _ | .str _ | .ql | .qa | .qj | .qi | .qd | .qp _ _ | .qe _ _=>true
  | .func _ a b=>a.all (ppS d)&&b.all (ppS d)
  | .iface _ v=>ppS d v
  | .agg cs=>cs.all (ppS d)
  | .qf cs=>cs.all (ppS d)
  | _=>false
inductive K where
 | b
 | i (k:IntKind)
 | s
 | l (sz:Nat)
 | c (v:AV)
 | agg (n:Nat)
 | qf (n:Nat)
 | ep (off:Nat)
 | uD (t:Nat)
 | av
inductive VI where
 | vec (sz:Nat) (es:List AV)
 | mp (es:List (AV×AV))
 | qS (j i off:Nat)
abbrev Vecs:=List (Nat×VI)
def Vecs.get:Vecs->Nat->Option VI
 | [],_=>none
 | (k,o)::r,h=>match Nat.beq k h with
  | true=>some o
  | false=>Vecs.get r h
def Vecs.del:Vecs->Nat->Vecs
 | [],_=>[]
 | (k,o)::r,h=>match Nat.beq k h with
  | true=>Vecs.del r h
  | false=>(k,o)::Vecs.del r h
inductive WK:AV->AV->Prop where
 | refl (v:AV):WK v v
 | nil (sz:Nat):WK .qa (.qp sz [])
 | qe {e e':AV} (off:Nat) (h:WK e e'):WK (.qe e off) (.qe e' off)
 | iface (t:Nat) {v v':AV} (h:WK v v'):WK (.iface t v) (.iface t v')
 | agg {cs cs':List AV} (hl:cs.length=cs'.length) (h:∀(i:Nat) c c',cs[i]? = some c->cs'[i]? = some c'->WK c c'):WK (.agg cs) (.agg cs')
 | qf {cs cs':List AV} (hl:cs.length=cs'.length) (h:∀(i:Nat) c c',cs[i]? = some c->cs'[i]? = some c'->WK c c'):WK (.qf cs) (.qf cs')
def Br (b:Bool) (A B:Prop):Prop:=match b with
 | true=>A
 | false=>B
def ixN {α:Type} (l:List α):Int->Option α
 | .ofNat n=>l[n]?
 | .negSucc _=>none
structure Sta where
 fr:Fr
 H:Heap
 V:Vecs
 m:Nat
 mv:Nat
def Sta.put (st:Sta) (d:Option Nat) (v:AV):Sta:=⟨qv st.fr d v,st.H,st.V,st.m,st.mv⟩
abbrev TblS:=List (Nat×(List AV->Prop)×(List AV->Option AV))
def zFw:TblS->Nat->List AV->(AV->Prop)->Prop
 | [],_,_,_=>False
 | s::r,f,args,k=>match Nat.beq f s.1 with
  | true=>s.2.1 args/\match s.2.2 args with
   | some v=>k v
   | none=>False
  | false=>zFw r f args k
def zCh:Nat->AV->Bool
 | 0,_=>false
 | d+1,v=>match v with
  | .bool _ | .int _ _ | .str _ | .ql | .qa | .qj | .qi | .qd=>true
  | .iface _ v=>zCh d v
  | .agg cs=>cs.all (zCh d)
  | .qf cs=>cs.all (zCh d)
  | _=>false
def zw (f:AV->Option AV):List AV->Option (List AV)
 | []=>some []
 | v::r=>match f v with
  | some v=>match zw f r with
   | some r=>some (v::r)
   | none=>none
  | none=>none
def hasH:Nat->AV->Bool
 | 0,_=>true
 | d+1,v=>match v with
  | .sym _ | .ptr _ _ | .row _ _ _ _ _ _ | .map _=>true
  | .func _ a b=>a.any (hasH d)||b.any (hasH d)
  | .iface _ v=>hasH d v
  | .agg cs | .qf cs=>cs.any (hasH d)
  | _=>false
def zEe (sz len:Nat) (cs:List AV):Option (List AV):=
 match Nat.ble (len*sz) cs.length&&Nat.blt 0 sz&&cs.all AV.one with
 | true=>some (chunks sz len cs)
 | false=>none
def frz (H:Heap) (V:Vecs):Nat->AV->Option AV
 | 0,_=>none
 | d+1,v=>match v with
  | .sym j=>match V.get j with
   | some (.vec sz es)=>some (.qp sz es)
   | _=>none
  | .ptr h off=>match H.get h with
   | some (.cells _ cs)=>match zw (frz H V d) cs with
    | some cs=>some (.qe (.agg cs) off)
    | none=>none
   | _=>none
  | .func f a b=>match zw (frz H V d) a with
   | some a=>match zw (frz H V d) b with
    | some b=>some (.func f a b)
    | none=>none
   | none=>none
  | .agg cs=>match zw (frz H V d) cs with
   | some cs=>some (.agg cs)
   | none=>none
  | .row h off len sz _ _=>match H.get h with
   | some (.cells _ cs)=>match Nat.ble (off+len*sz) cs.length with
    | true=>match zEe sz len (cs.drop off) with
     | some es=>match es.all (ppS 8) with
      | true=>some (.qp sz es)
      | false=>none
     | none=>none
    | false=>none
   | _=>none
  | v=>match hasH d v with
   | true=>none
   | false=>some v
def wcall (tb:TblS) (f:Nat) (args:List AV) (st:Sta) (k:AV->Sta->Prop):Prop:=
 match args.any (hasH 8) with
 | false=>zFw tb f args λ v=>k v st
 | true=>match zw (frz st.H st.V 8) args with
  | some args=>zFw tb f args λ v=>match zCh 8 v with
   | true=>k v st
   | false=>False
  | none=>False
def zHT (n:Int) (lo c:Option AV) (k:Int->Int->Prop):Prop:=
 match lo with
 | none=>match c with
  | none=>k 0 n
  | some (.int _ h)=>(0<=h/\h<=n)/\k 0 h
  | _=>False
 | some (.int _ l)=>match c with
  | none=>(0<=l/\l<=n)/\k l n
  | some (.int _ h)=>(0<=l/\l<=h/\h<=n)/\k l h
  | _=>False
 | _=>False
def eqv:List Kd->List AV->List AV->Option Bool
 | [],[],[]=>some true
 | k::ks,a::x,b::y=>match eqb k a b with
  | some p=>match ks with
   | []=>match x,y with
    | [],[]=>some p
    | _,_=>none
   | _=>match eqv ks x y with
    | some q=>some (p&&q)
    | none=>none
  | none=>none
 | _,_,_=>none
def zCC (H:Heap) (sz:Nat):AV->Option (List AV)
 | .qa=>some []
 | .qp c es=>match Nat.beq sz c with
  | true=>some es
  | false=>none
 | .row h off len c _ _=>match Nat.beq sz c with
  | true=>match H.get h with
   | some (.cells _ cs)=>match Nat.ble (off+len*sz) cs.length with
    | true=>zEe sz len (cs.drop off)
    | false=>none
   | _=>none
  | false=>none
 | .str s=>match Nat.beq sz 1 with
  | true=>some (s.map λ b=>.int .u8 (.ofNat b))
  | false=>none
 | _=>none
def ldE (es:List AV) (i off sz:Nat) (c:Bool):Option AV:=match es[i]? with
 | some e=>part e.cells off sz c
 | none=>none
def lkV (ok b:Bool) (u:AV):AV:=match ok with
 | true=>.qf [u,.bool b]
 | false=>u
def lkR (ok:Bool) (z:AV):Option (Option AV)->Option AV
 | some (some u)=>some (lkV ok true u)
 | some none=>some (lkV ok false z)
 | none=>none
def zMg:AV->Bool
 | .qp _ _=>true
 | _=>false
def zLC:XV->Bool
 | .c (.qp _ _)=>true
 | _=>false
def WXd (st:Sta) (x:Option Out) (k:AV->Sta->Prop):Prop:=match x with
 | some (v,H,m)=>k v ⟨st.fr,H,st.V,m,st.mv⟩
 | none=>False
def zGP (n:Int):Nat->(Nat->Prop)->Prop
 | 0,_=>True
 | m+1,k=>zGP n m k/\(n=.ofNat m->k m)
def wop (G:Cx) (tb:TblS) (st:Sta) (o:XO) (J:List K) (k:AV->Sta->Prop):Prop:=
 match o with
 | .bin op x y=>match x.ev G st.fr with
  | some (.str a)=>match op with
   | .add=>match y.ev G st.fr with
    | some (.str b)=>(a.length+b.length<=zc)/\k (.str (a++b)) st
    | _=>False
   | op=>WXd st (xoS G ze st.fr st.H st.m (.bin op x y)) k
  | some (.int g a)=>match op with
   | .quo=>match y.ev G st.fr with
    | some (.int M b)=>match ksame g M with
     | true=>(b≠0)/\k (.int g (wrapx g (a.tdiv b))) st
     | false=>False
    | _=>False
   | .rem=>match y.ev G st.fr with
    | some (.int M b)=>match ksame g M with
     | true=>(b≠0)/\k (.int g (a.tmod b)) st
     | false=>False
    | _=>False
   | .shl=>match y.ev G st.fr with
    | some (.int _ b)=>(0<=b)/\k (.int g (wrapx g (a*2 ^ (Min.min b.toNat g.bits)))) st
    | _=>False
   | .shr=>match y.ev G st.fr with
    | some (.int _ b)=>(0<=b)/\k (.int g (a.fdiv (2 ^ (Min.min b.toNat g.bits)))) st
    | _=>False
   | op=>WXd st (xoS G ze st.fr st.H st.m (.bin op x y)) k
  | _=>False
 | .wC neg kd x y=>match x.ev G st.fr with
  | some (.agg a)=>match y.ev G st.fr with
   | some (.agg b)=>match eqv kd a b with
    | some r=>k (bneg neg r) st
    | none=>False
   | _=>False
  | _=>False
 | .pick c a b=>match c.ev G st.fr with
  | some (.bool R)=>match c with
   | .t n=>Br R (match a.ev G st.fr with
     | some v=>k v ⟨st.fr.put n (.bool true),st.H,st.V,st.m,st.mv⟩
     | none=>False) (match b.ev G st.fr with
     | some v=>k v ⟨st.fr.put n (.bool false),st.H,st.V,st.m,st.mv⟩
     | none=>False)
   | _=>WXd st (xoS G ze st.fr st.H st.m (.pick c a b)) k
  | _=>False
 | .wF x i=>match x.ev G st.fr with
  | some (.str s)=>match i.ev G st.fr with
   | some (.int _ n)=>∃c,ixN s n=some c/\k (.int .u8 (.ofNat c)) st
   | _=>False
  | _=>False
 | .wA x A q=>match x.ev G st.fr with
  | some (.str s)=>match evo G st.fr A with
   | some A=>match evo G st.fr q with
    | some q=>zHT (.ofNat s.length) A q λ l h=>k (.str ((s.take h.toNat).drop l.toNat)) st
    | none=>False
   | none=>False
  | _=>False
 | .wu x A q O sz=>match x.ev G st.fr with
  | some (.qp d es)=>match Nat.beq sz d with
   | true=>match O with
    | none=>match evo G st.fr A with
     | some A=>match evo G st.fr q with
      | some q=>zHT (.ofNat es.length) A q λ l h=>k (.qp sz ((es.take h.toNat).drop l.toNat)) st
      | none=>False
     | none=>False
    | some _=>False
   | false=>False
  | some .qa=>WXd st (xoS G ze st.fr st.H st.m (.wu x A q O sz)) k
  | _=>False
 | .qB x i sz=>match x.ev G st.fr with
  | some (.qp d es)=>match Nat.beq sz d with
   | true=>match i.ev G st.fr with
    | some (.int _ n)=>∃v,ixN es n=some v/\k (.qe v 0) st
    | _=>False
   | false=>False
  | some (.sym j)=>match st.V.get j with
   | some (.vec d es)=>match Nat.beq sz d with
    | true=>match i.ev G st.fr with
     | some (.int _ n)=>(0<=n/\n<.ofNat es.length)/\k (.sym st.mv) ⟨st.fr,st.H,(st.mv,.qS j n.toNat 0)::st.V,st.m,st.mv+1⟩
     | _=>False
    | false=>False
   | _=>False
  | some (.row _ _ l _ _ _)=>match i.ev G st.fr with
   | some (.int kd n)=>(0<=n/\n<.ofNat l)/\zGP n l λ m=>WXd st (xoS G ze st.fr st.H st.m (.qB x (.c (.int kd (.ofNat m))) sz)) k
   | _=>False
  | _=>False
 | .wi x=>match x.ev G st.fr with
  | some (.sym j)=>match st.V.get j with
   | some (.vec _ es)=>k (.int .i64 (.ofNat es.length)) st
   | _=>False
  | _=>WXd st (xoS G ze st.fr st.H st.m (.wi x)) k
 | .load x sz B=>match x.ev G st.fr with
  | some (.sym p)=>match st.V.get p with
   | some (.qS j i off)=>match st.V.get j with
    | some (.vec _ es)=>∃v,ldE es i off sz B=some v/\k v st
    | _=>False
   | _=>False
  | _=>WXd st (xoS G ze st.fr st.H st.m (.load x sz B)) k
 | .qP x off=>match x.ev G st.fr with
  | some (.sym p)=>match st.V.get p with
   | some (.qS j i o)=>match st.V.get j with
    | some (.vec _ _)=>k (.sym st.mv) ⟨st.fr,st.H,(st.mv,.qS j i (o+off))::st.V,st.m,st.mv+1⟩
    | _=>False
   | _=>False
  | _=>WXd st (xoS G ze st.fr st.H st.m (.qP x off)) k
 | .store x y sz=>match x.ev G st.fr with
  | some (.sym p)=>match st.V.get p with
   | some (.qS j i off)=>match st.V.get j with
    | some (.vec d es)=>match y.ev G st.fr with
     | some v=>match Nat.beq off 0&&Nat.beq sz d&&ppS 12 v with
      | true=>match cellsOf v sz with
       | some _=>k (.qf []) ⟨st.fr,st.H,(j,.vec d (es.set i v))::st.V.del j,st.m,st.mv⟩
       | none=>False
      | false=>False
     | none=>False
    | _=>False
   | _=>False
  | _=>WXd st (xoS G ze st.fr st.H st.m (.store x y sz)) k
 | .vu x=>match x.ev G st.fr with
  | some (.str s)=>k (.sym st.mv) ⟨st.fr,st.H,(st.mv,.vec 1 (s.map λ b=>.int .u8 (.ofNat b)))::st.V,st.m,st.mv+1⟩
  | _=>False
 | .vb x=>match x.ev G st.fr with
  | some (.sym j)=>match st.V.get j with
   | some (.vec sz es)=>match Nat.beq sz 1 with
    | true=>∃s,zAN es=some s/\k (.str s) st
    | false=>False
   | _=>False
  | some (.qp sz es)=>match Nat.beq sz 1 with
   | true=>∃s,zAN es=some s/\k (.str s) st
   | false=>False
  | some .qa=>k (.str []) st
  | _=>False
 | .qD len sz z N=>match J with
  | []=>match fillx G st.fr z N with
   | some cs=>match Nat.beq cs.length (len*sz) with
    | true=>match zEe sz len cs with
     | some es=>match es.all (ppS 12) with
      | true=>k (.sym st.mv) ⟨st.fr,st.H,(st.mv,.vec sz es)::st.V,st.m,st.mv+1⟩
      | false=>False
     | none=>False
    | false=>False
   | none=>False
  | _=>WXd st (xoS G ze st.fr st.H st.m (.qD len sz z N)) k
 | .qK l c sz bytes z=>match l.ev G st.fr with
  | some (.int _ n)=>match c.ev G st.fr with
   | some (.int _ c)=>match zEe sz 1 z,Nat.beq z.length sz with
    | some [e],true=>(0<=n/\n<=c/\c.toNat*bytes<=zg/\c.toNat<=zg) ∧
     k (.sym st.mv) ⟨st.fr,st.H,(st.mv,.vec sz (List.replicate n.toNat e))::st.V,st.m,st.mv+1⟩
    | _,_=>False
   | _=>False
  | _=>False
 | .append x y sz bytes=>match zLC y with
  | true=>False
  | false=>match x.ev G st.fr with
   | some v=>match y.ev G st.fr with
    | some u=>match zCC st.H sz u with
     | some D=>match zMg u||ppS 12 (.agg D) with
      | true=>match v with
       | .qa=>(D.length*bytes<=zg)/\k (.sym st.mv) ⟨st.fr,st.H,(st.mv,.vec sz D)::st.V,st.m,st.mv+1⟩
       | .sym j=>match st.V.get j with
        | some (.vec d es)=>match Nat.beq sz d with
         | true=>((es.length+D.length)*bytes<=zg/\es.length+D.length<=zg)/\k (.sym st.mv) ⟨st.fr,st.H,(st.mv,.vec sz (es++D))::st.V.del j,st.m,st.mv+1⟩
         | false=>False
        | _=>False
       | _=>False
      | false=>False
     | none=>False
    | none=>False
   | none=>False
 | .qY x i l s a=>match J with
  | []=>WXd st (xoS G ze st.fr st.H st.m (.qY x i l s a)) k
  | _=>match i.ev G st.fr with
   | some (.int kd n)=>(0<=n/\n<.ofNat l)/\zGP n l λ m=>WXd st (xoS G ze st.fr st.H st.m (.qY x (.c (.int kd (.ofNat m))) l s a)) k
   | _=>False
 | .qy x i l s=>match J with
  | []=>WXd st (xoS G ze st.fr st.H st.m (.qy x i l s)) k
  | _=>match i.ev G st.fr with
   | some (.int kd n)=>(0<=n/\n<.ofNat l)/\zGP n l λ m=>WXd st (xoS G ze st.fr st.H st.m (.qy x (.c (.int kd (.ofNat m))) l s)) k
   | _=>False
 | .wj=>k (.sym st.mv) ⟨st.fr,st.H,(st.mv,.mp [])::st.V,st.m,st.mv+1⟩
 | .lookup B kd m x z ok=>match m.ev G st.fr with
  | some (.sym j)=>match st.V.get j with
   | some (.mp es)=>match x.ev G st.fr with
    | some C=>match zDO B kd C with
     | true=>∃v,lkR ok z (mfind B kd C es)=some v/\k v st
     | false=>False
    | none=>False
   | _=>False
  | _=>False
 | .wB B kd m x y=>match m.ev G st.fr with
  | some (.sym j)=>match st.V.get j with
   | some (.mp es)=>match x.ev G st.fr with
    | some C=>match y.ev G st.fr with
     | some u=>match zDO B kd C&&ppS 12 C&&ppS 12 u with
      | true=>∃F,mput B kd C u es=some F/\k (.qf []) ⟨st.fr,st.H,(j,.mp F)::st.V.del j,st.m,st.mv⟩
      | false=>False
     | none=>False
    | none=>False
   | _=>False
  | _=>False
 | .call f args=>match evs G st.fr args with
  | some L=>wcall tb f L st k
  | none=>False
 | .qL f args=>match f.ev G st.fr with
  | some (.func (.func f) first I)=>match evs G st.fr args with
   | some L=>wcall tb f (first++L++I) st k
   | none=>False
  | _=>False
 | .vt _ | .beq _ _ _ | .vH _ _ _ | .vI _ _ _ _ _ | .seq _ _ _ | .vO _ _ _ | .vN _ _ _ | .un _ _ | .conv _ _ | .vV _ | .w3 _ _ | .w4 _ _ | .vS _ _ _ _ | .ext _ _
 | .box _ _ | .alloc _ | .build _ _ | .wo _ | .w7 _ | .wL _ | .min _ _ | .max _ _ | .q9 _ _ _ | .wM _ _ | .vF _ _ _ _=>WXd st (xoS G ze st.fr st.H st.m o) k
 | _=>False
def brT (t:Nat) (c:Bool) (st:Sta) (k:Bool->Sta->Prop):Prop:=
 Br c (k true ⟨st.fr.put t (.bool true),st.H,st.V,st.m,st.mv⟩) (k false ⟨st.fr.put t (.bool false),st.H,st.V,st.m,st.mv⟩)
def addN (h:Nat) (l:List Nat):List Nat:=match inN h l with
 | true=>l
 | false=>l++[h]
def hsA:Nat->AV->List Nat->List Nat
 | 0,_,c=>c
 | d+1,v,c=>match v with
  | .ptr h _ | .map h | .row h _ _ _ _ _=>addN h c
  | .func _ a b=>b.foldl (λ c v=>hsA d v c) (a.foldl (λ c v=>hsA d v c) c)
  | .iface _ v=>hsA d v c
  | .agg cs | .qf cs=>cs.foldl (λ c v=>hsA d v c) c
  | _=>c
def zGc:Nat->AV->List Nat->List Nat
 | 0,_,c=>c
 | d+1,v,c=>match v with
  | .sym j=>addN j c
  | .func _ a b=>b.foldl (λ c v=>zGc d v c) (a.foldl (λ c v=>zGc d v c) c)
  | .iface _ v=>zGc d v c
  | .agg cs | .qf cs=>cs.foldl (λ c v=>zGc d v c) c
  | _=>c
def zF1 (H:Heap):Nat->Nat->List Nat->List Nat
 | 0,_,c=>c
 | f+1,i,c=>match c[i]? with
  | none=>c
  | some h=>match H.get h with
   | some (.cells _ cs)=>zF1 H f (i+1) (cs.foldl (λ a v=>hsA 8 v a) c)
   | _=>zF1 H f (i+1) c
def posN (h:Nat):Nat->List Nat->Option Nat
 | _,[]=>none
 | i,a::r=>match Nat.beq h a with
  | true=>some i
  | false=>posN h (i+1) r
def rnV (hm g:List Nat):Nat->AV->Option AV
 | 0,_=>none
 | d+1,v=>match v with
  | .ptr h o=>match posN h 0 hm with
   | some i=>some (.ptr i o)
   | none=>none
  | .row h o l s c e=>match posN h 0 hm with
   | some i=>some (.row i o l s c e)
   | none=>none
  | .map h=>match posN h 0 hm with
   | some i=>some (.map i)
   | none=>none
  | .sym j=>match posN j 0 g with
   | some i=>some (.sym i)
   | none=>none
  | .func f a b=>match zw (rnV hm g d) a with
   | some a=>match zw (rnV hm g d) b with
    | some b=>some (.func f a b)
    | none=>none
   | none=>none
  | .iface t v=>match rnV hm g d v with
   | some v=>some (.iface t v)
   | none=>none
  | .agg cs=>match zw (rnV hm g d) cs with
   | some cs=>some (.agg cs)
   | none=>none
  | .qf cs=>match zw (rnV hm g d) cs with
   | some cs=>some (.qf cs)
   | none=>none
  | v=>some v
def zNL (fr:Fr):List Nat->Option (List AV)
 | []=>some []
 | t::r=>match fr.get t with
  | some v=>match zNL fr r with
   | some c=>some (v::c)
   | none=>none
  | none=>none
def rnH (H:Heap) (hm c:List Nat):Nat->List Nat->Option Heap
 | _,[]=>some []
 | i,h::r=>match H.get h with
  | some (.cells str cs)=>match zw (rnV hm c 8) cs with
   | some cs=>match rnH H hm c (i+1) r with
    | some d=>some ((i,.cells str cs)::d)
    | none=>none
   | none=>none
  | _=>none
def zIW:List Nat->Bool
 | []=>true
 | a::r=>!(inN a r)&&zIW r
def rnVs (V:Vecs):Nat->List Nat->Option Vecs
 | _,[]=>some []
 | i,j::r=>match V.get j with
  | some (.vec sz es)=>match rnVs V (i+1) r with
   | some c=>some ((i,.vec sz es)::c)
   | none=>none
  | some (.mp es)=>match rnVs V (i+1) r with
   | some c=>some ((i,.mp es)::c)
   | none=>none
  | _=>none
structure Cut where
 qF:List Nat
 grow:List (Nat×Nat)
 pins:Nat
def zJB (H:Heap) (h sz:Nat):AV->Option (Nat×List AV)
 | .row c o l s _ _=>match Nat.beq o 0&&(Nat.beq s sz&&!Nat.beq c h) with
  | true=>match H.get c with
   | some (.cells _ cs)=>match Nat.beq cs.length (l*sz) with
    | true=>match zEe sz l cs with
     | some es=>match es.all (ppS 12) with
      | true=>some (c,es)
      | false=>none
     | none=>none
    | false=>none
   | _=>none
  | false=>none
 | _=>none
def qE (h:Nat):List (Nat×Nat)->Sta->Sta
 | [],st=>st
 | (i,sz)::r,st=>match st.H.get h with
  | some (.cells str cs)=>match cs[i]? with
   | some .qa=>qE h r ⟨st.fr,st.H.put h (.cells str (cs.set i (.sym st.mv))),(st.mv,.vec sz [])::st.V,st.m,st.mv+1⟩
   | some v=>match zJB st.H h sz v with
    | some (c,es)=>qE h r ⟨st.fr,(st.H.del c).put h (.cells str (cs.set i (.sym st.mv))),(st.mv,.vec sz es)::st.V,st.m,st.mv+1⟩
    | none=>qE h r st
   | none=>qE h r st
  | _=>st
def zE6:List (Nat×Nat)->Sta->Sta
 | [],st=>st
 | (t,sz)::r,st=>match Nat.blt t 1000 with
  | true=>match st.fr.get t with
   | some .qa=>zE6 r ⟨st.fr.put t (.sym st.mv),st.H,(st.mv,.vec sz [])::st.V,st.m,st.mv+1⟩
   | some v=>match zJB st.H st.m sz v with
    | some (c,es)=>zE6 r ⟨st.fr.put t (.sym st.mv),st.H.del c,(st.mv,.vec sz es)::st.V,st.m,st.mv+1⟩
    | none=>zE6 r st
   | none=>zE6 r st
  | false=>match st.fr.get (Nat.sub (Nat.div t 1000) 1) with
   | some (.ptr h _)=>zE6 r (qE h [(Nat.mod t 1000,sz)] st)
   | _=>zE6 r st
def zDK (H:Heap):List Nat->List Nat->List Nat
 | [],c=>c
 | h::r,c=>match H.get h with
  | some (.cells _ cs)=>zDK H r (cs.foldl (λ a v=>zGc 8 v a) c)
  | _=>zDK H r c
def zDo (hm c:List Nat) (vs:List AV) (st:Sta) (k:List AV->Heap->Vecs->Prop):Prop:=
 match zIW hm&&zIW c with
 | true=>match zw (rnV hm c 8) vs with
  | some vs=>match rnH st.H hm c 0 hm with
   | some H=>match rnVs st.V 0 c with
    | some V=>k vs H V
    | none=>False
   | none=>False
  | none=>False
 | false=>False
def zIX (c:Nat) (vs:List AV) (st:Sta) (F:List Nat->List Nat->Prop):Prop:=
 (λ d=>F d (zDK st.H d (vs.foldl (λ a v=>zGc 8 v a) []))) (zF1 st.H 30 0 (vs.foldl (λ a v=>hsA 8 v a) (List.range c)))
def canon (c:Cut) (st:Sta) (k:List AV->Heap->Vecs->Prop):Prop:=
 match zNL st.fr c.qF with
 | none=>False
 | some d=>zIX c.pins d st λ e f=>zDo e f d st k
abbrev Inv:=List AV->Heap->Vecs->Prop
def cutP (c:Cut) (P:Inv) (st:Sta):Prop:=canon c (zE6 c.grow st) P
def zipF:List Nat->List AV->Fr
 | t::ts,v::vs=>(t,v)::zipF ts vs
 | _,_=>[]
def mkW (c:Cut) (vs:List AV) (H:Heap) (V:Vecs):Sta:=⟨zipF c.qF vs,H,V,H.length,V.length⟩
structure HEnt where
 f:Nat
 grow:List (Nat×Nat)
 pre:List AV->Heap->Vecs->Prop
 val:List AV->Heap->Vecs->Option (AV×Heap×Vecs)
structure TOp where
 o:XOper
 ks:List K
 h:Option (List HEnt)
def qI (g:List (Nat×Nat)) (args:List AV) (st:Sta):Sta:=match args with
 | .ptr h _::_=>qE h g st
 | _=>st
def w9 (mv:Nat):AV->AV
 | .sym j=>.sym (mv+j)
 | v=>v
def zGQ (hm:List Nat) (mv:Nat) (H2 H:Heap):Heap:=H.map λ p=>match posN p.1 0 hm with
 | some i=>match H2[i]? with
  | some (_,.cells str cs)=>(p.1,.cells str (cs.map (w9 mv)))
  | _=>p
 | none=>p
def zJC (c:List Nat) (mv:Nat):Vecs->Vecs->Vecs
 | [],V=>V.filter λ p=>!inN p.1 c
 | (j,d)::r,V=>(mv+j,d)::zJC c mv r V
def inpl:List (Nat×Nat)->Bool
 | [(0,0)]=>true
 | _=>false
def zIs (d:List Nat) (V2 V:Vecs):Vecs:=V.map λ p=>match posN p.1 0 d with
 | some i=>match V2.get i with
  | some c=>(p.1,c)
  | none=>p
 | none=>p
def zIt (g:List (Nat×Nat)) (hm c:List Nat) (st:Sta) (H2:Heap) (V2:Vecs):Sta:=match inpl g with
 | true=>⟨st.fr,st.H,zIs c V2 st.V,st.m,st.mv⟩
 | false=>⟨st.fr,zGQ hm st.mv H2 st.H,zJC c st.mv V2 st.V,st.m,st.mv+V2.length⟩
def zJD (g:List (Nat×Nat)) (mv:Nat) (v:AV):AV:=match inpl g with
 | true=>v
 | false=>w9 mv v
def zEI (e:HEnt) (args:List AV) (st:Sta) (k:AV->Sta->Prop):Prop:=
 (λ st=>zIX 0 args st λ d f=>zDo d f args st λ c H V=>e.pre c H V/\match e.val c H V with
  | some (v,g,h)=>k (zJD e.grow st.mv v) (zIt e.grow d f st g h)
  | none=>False) (qI e.grow args st)
def zIu:List HEnt->Nat->Option HEnt
 | [],_=>none
 | s::r,f=>match Nat.beq f s.f with
  | true=>some s
  | false=>zIu r f
def zFx (F:List Nat):Heap->Heap
 | []=>[]
 | p::r=>match inN p.1 F with
  | true=>p::zFx F r
  | false=>zFx F r
def zKG (F:List Nat):Heap->Heap
 | []=>[]
 | p::r=>match inN p.1 F with
  | true=>zKG F r
  | false=>p::zKG F r
def frzV (d:Heap) (v:AV):AV:=match hasH 8 v with
 | false=>v
 | true=>match frz d [] 8 v with
  | some c=>c
  | none=>v
def zJE (c:Heap) (fr0:Fr):Fr->Fr
 | []=>[]
 | (t,_)::r=>match fr0.get t with
  | some v=>(t,frzV c v)::zJE c fr0 r
  | none=>zJE c fr0 r
def vj (F:List Nat) (c:Heap) (st:Sta):Sta:=⟨zJE c st.fr st.fr,zKG F st.H,st.V,st.m,st.mv⟩
def wx (V:Vecs):AV->AV
 | .sym j=>match V.get j with
  | some (.vec sz es)=>.qp sz es
  | _=>.sym j
 | v=>v
def zMh:AV->Bool
 | .sym _=>true
 | _=>false
def wP (st:Sta):Sta:=⟨st.fr.map λ p=>(p.1,wx st.V p.2),st.H,[],st.m,st.mv⟩
def wfrz (st:Sta) (v:AV) (k:AV->Sta->Prop):Prop:=match zMh v with
 | true=>k (wx st.V v) (wP st)
 | false=>(λ F=>(λ c=>match frz c [] 8 v with
  | some d=>k d (vj F c st)
  | none=>False) (zFx F st.H)) (zF1 st.H 30 0 (hsA 8 v []))
def isFz {α:Type} (h:Option α):XO->Bool
 | .q9 _ _ _ | .vt _=>h.isSome
 | _=>false
def zLD (G:Cx) (g:List HEnt) (st:Sta) (o:XO) (k:AV->Sta->Prop):Prop:=match o with
 | .call f args=>match zIu g f with
  | some e=>match evs G st.fr args with
   | some d=>zEI e d st k
   | none=>False
  | none=>False
 | .qL f args=>match f.ev G st.fr with
  | some (.func (.func f) first c)=>match zIu g f with
   | some e=>match evs G st.fr args with
    | some d=>zEI e (first++d++c) st k
    | none=>False
   | none=>False
  | _=>False
 | _=>False
def wopT (G:Cx) (tb:TblS) (st:Sta) (o:TOp) (k:AV->Sta->Prop):Prop:=match o.h with
 | none=>wop G tb st o.o.op o.ks k
 | some e=>zLD G e st o.o.op k
def wopR (G:Cx) (tb:TblS) (st:Sta) (o:TOp) (k:AV->Sta->Prop):Prop:=match isFz o.h o.o.op with
 | true=>WXd st (xoS G ze st.fr st.H st.m o.o.op) λ v st=>wfrz st v k
 | false=>wopT G tb st o k
def wops (G:Cx) (tb:TblS):List TOp->(Sta->Prop)->Sta->Prop
 | [],k,st=>k st
 | o::r,k,st=>match o.o.guard with
  | none=>wopR G tb st o λ v st=>∃d,WK v d/\wops G tb r k (st.put o.o.dst d)
  | some (t,b)=>match st.fr.get t with
   | some (.bool c)=>brT t c st λ c st=>match c==b with
    | true=>wopR G tb st o λ v st=>∃d,WK v d/\wops G tb r k (st.put o.o.dst d)
    | false=>wops G tb r k (st.put o.o.dst (.qf []))
   | some (.qf [])=>wops G tb r k (st.put o.o.dst (.qf []))
   | _=>False
inductive PP:AV->Prop where
 | bool (b:Bool):PP (.bool b)
 | int (k:IntKind) (n:Int):PP (.int k n)
 | str (s:List Nat):PP (.str s)
 | ql:PP .ql
 | qa:PP .qa
 | qj:PP .qj
 | qi:PP .qi
 | qd:PP .qd
 | qe (e:AV) (off:Nat) (h:PP e):PP (.qe e off)
 | qp (sz:Nat) (es:List AV) (h:∀e∈es,PP e):PP (.qp sz es)
 | func (fn:Fn) (a b:List AV) (ha:∀e∈a,PP e) (hb:∀e∈b,PP e):PP (.func fn a b)
 | iface (t:Nat) (v:AV) (h:PP v):PP (.iface t v)
 | agg (cs:List AV) (h:∀e∈cs,PP e):PP (.agg cs)
 | qf (cs:List AV) (h:∀e∈cs,PP e):PP (.qf cs)
inductive CP (n k:Nat):AV->Prop where
 | bool (b:Bool):CP n k (.bool b)
 | int (q:IntKind) (m:Int):CP n k (.int q m)
 | str (s:List Nat):CP n k (.str s)
 | ql:CP n k .ql
 | qa:CP n k .qa
 | qj:CP n k .qj
 | qi:CP n k .qi
 | qd:CP n k .qd
 | ptr (h o:Nat) (hk:h<k):CP n k (.ptr h o)
 | row (h o l s c:Nat) (e:Bool) (hk:h<k):CP n k (.row h o l s c e)
 | map (h:Nat) (hk:h<k):CP n k (.map h)
 | sym (i:Nat) (h:i<n):CP n k (.sym i)
 | qe (e:AV) (off:Nat) (h:PP e):CP n k (.qe e off)
 | qp (sz:Nat) (es:List AV) (h:∀e∈es,PP e):CP n k (.qp sz es)
 | func (fn:Fn) (a b:List AV) (ha:∀e∈a,CP n k e) (hb:∀e∈b,CP n k e):CP n k (.func fn a b)
 | iface (t:Nat) (v:AV) (h:CP n k v):CP n k (.iface t v)
 | agg (cs:List AV) (h:∀e∈cs,CP n k e):CP n k (.agg cs)
 | qf (cs:List AV) (h:∀e∈cs,CP n k e):CP n k (.qf cs)
def FrCP (n k:Nat) (fr:Fr):Prop:=∀t v,fr.get t=some v->CP n k v
def HCP (n k:Nat) (H:Heap):Prop:=∀p∈H,∃str cs,p.2=.cells str cs/\∀c∈cs,CP n k c
structure HV (s r:Sta):Prop where
 H:r.H=s.H
 V:r.V=s.V
 m:r.m=s.m
 mv:r.mv=s.mv
def clsQ (t:TOp):Nat:=match t.h with
 | some _=>3
 | none=>match t.o.op with
  | .wi _ | .load _ _ _ | .lookup _ _ _ _ _ _ | .call _ _ | .qL _ _=>1
  | .cap _=>3
  | .box _ _ | .alloc _=>2
  | .qD _ _ _ _=>match t.ks with
   | []=>3
   | _=>2
  | .store _ _ _=>match t.ks with
   | []=>3
   | _=>2
  | o=>match zX o with
   | 0=>0
   | _=>3
def seqQ:Nat->List Nat->List Nat->List Nat->List TOp->List XD->Bool
 | _,_,_,_,[],_=>true
 | i,e,f,g,t::r,d::ds=>match clsQ t with
  | 0=>seqQ (i+1) e f g r ds
  | 1=>f.all (λ c=>d.qc.testBit c)&&seqQ (i+1) e f (i::g) r ds
  | 2=>e.all (λ c=>d.qc.testBit c)&&seqQ (i+1) (i::e) f g r ds
  | _=>e.all (λ c=>d.qc.testBit c)&&g.all (λ c=>d.qc.testBit c)&&seqQ (i+1) (i::e) (i::f) g r ds
 | _,_,_,_,_::_,[]=>false
def zGR:List TOp->List XD->Bool
 | [],_=>true
 | o::r,d::ds=>(zIp o.o.op.qb).all (λ t=>inN t d.looks)&&gdIn o.o.guard d.looks&&zGR r ds
 | _::_,[]=>false
inductive TC where
 | skip
 | ret
 | exit (i:Nat)
 | wD (ops:List TOp)
 | draw (pn:List Nat) (ops:List TOp) (ds:List XD)
 | wS (ops:List TOp) (ds:List XD)
 | qO (ops:List TOp) (ds:List XD)
 | seq (a b:TC)
 | cond (c:XV) (a b:TC)
 | block (i:Nat) (b:TC)
 | loop (c:Cut) (I:List Nat->Inv) (b:TC)
 | qA (k:Nat) (b:TC)
 | we (c:Cut) (J:List Nat->Inv) (a b:TC)
def er:TC->XC
 | .skip=>.skip
 | .ret=>.ret
 | .exit i=>.exit i
 | .wD d=>.wD (d.map TOp.o)
 | .draw _ d e=>.draw (d.map TOp.o) e
 | .wS d e=>.draw (d.map TOp.o) e
 | .qO d e=>.draw (d.map TOp.o) e
 | .seq a b=>.seq (er a) (er b)
 | .cond c a b=>.cond c (er a) (er b)
 | .block i b=>.block i (er b)
 | .loop _ _ b=>.loop (er b)
 | .qA _ b=>.loop (er b)
 | .we _ _ a b=>.seq (er a) (er b)
def wopD (G:Cx) (tb:TblS) (st:Sta) (o:XO) (e:List K) (k:AV->Sta->Prop):Prop:=
 match o with
 | .vu _ | .qK _ _ _ _ _ | .append _ _ _ _ | .wj | .wB _ _ _ _ _ | .lookup _ _ _ _ _ _=>False
 | .qD len sz z d=>WXd st (xoS G ze st.fr st.H st.m (.qD len sz z d)) k
 | .vb x=>WXd st (xoS G ze st.fr st.H st.m (.vb x)) k
 | o=>wop G tb ⟨st.fr,st.H,[],st.m,st.mv⟩ o e λ v c=>k v ⟨c.fr,c.H,st.V,c.m,c.mv⟩
def zCx (G:Cx) (tb:TblS):List TOp->(Sta->Prop)->Sta->Prop
 | [],k,st=>k st
 | o::r,k,st=>match o.o.guard with
  | none=>wopD G tb st o.o.op o.ks λ v st=>zCx G tb r k (st.put o.o.dst v)
  | some (t,b)=>match st.fr.get t with
   | some (.bool c)=>brT t c st λ c st=>match c==b with
    | true=>wopD G tb st o.o.op o.ks λ v st=>zCx G tb r k (st.put o.o.dst v)
    | false=>zCx G tb r k (st.put o.o.dst (.qf []))
   | some (.qf [])=>zCx G tb r k (st.put o.o.dst (.qf []))
   | _=>False
def zPj (Q:Ext->Sta->Prop) (k:Sta->Prop):Ext->Sta->Prop
 | .normal,st=>k st
 | .exit i,st=>Q (.exit i) st
 | .ret,st=>Q .ret st
def zPS (id:Nat) (Q:Ext->Sta->Prop):Ext->Sta->Prop
 | .normal,st=>Q .normal st
 | .exit i,st=>match Nat.beq i id with
  | true=>Q .normal st
  | false=>Q (.exit i) st
 | .ret,st=>Q .ret st
def zNM (ops:List XOper) (ds:List XD):Bool:=zLA ops ds&&seqN 0 [] [] [] [] [] [] ops ds
def zEa (G:Cx) (tb:TblS) (st:Sta) (o:TOp) (k:Sta->Prop):Prop:=match o.o.guard with
 | none=>wopT G tb st o λ v st=>∃d,WK v d/\k (st.put o.o.dst d)
 | some (t,b)=>match st.fr.get t with
  | some (.bool c)=>brT t c st λ c st=>match c==b with
   | true=>wopT G tb st o λ v st=>∃d,WK v d/\k (st.put o.o.dst d)
   | false=>k (st.put o.o.dst (.qf []))
  | some (.qf [])=>k (st.put o.o.dst (.qf []))
  | _=>False
def zMi (F:Nat->TOp->Prop) (listed:Nat):Nat->List TOp->List XD->Prop
 | i,t::ts,d::ds=>match !listed.testBit i&&Nat.beq (d.qc &&& listed) d.qc with
  | true=>F i t/\zMi F listed (i+1) ts ds
  | false=>zMi F listed (i+1) ts ds
 | _,_,_=>True
def zPk (G:Cx) (tb:TblS) (ops:List TOp) (ds:List XD) (K:Sta->Prop):Nat->Nat->Sta->Prop
 | 0,_,st=>K st
 | n+1,listed,st=>zMi (λ i t=>zEa G tb st t (zPk G tb ops ds K n (listed ||| 2 ^ i))) listed 0 ops ds
def zPl (fr:Fr) (t:Nat):Bool:=match fr.get t with
 | some (.ptr _ _)=>true
 | _=>false
def bndL:Option Nat->Nat->Nat
 | none,m=>m
 | some l,m=>Min.min l m
def ltH:Nat->Nat->AV->Bool
 | 0,_,_=>false
 | d+1,l,v=>match v with
  | .ptr h _ | .row h _ _ _ _ _ | .map h=>Nat.blt h l
  | .func _ a b=>a.all (ltH d l)&&b.all (ltH d l)
  | .iface _ v=>ltH d l v
  | .agg cs | .qf cs=>cs.all (ltH d l)
  | _=>true
def ltHp (l:Nat):Heap->Bool
 | []=>true
 | (h,.cells _ cs)::r=>(!(Nat.blt h l)||cs.all (ltH 12 l))&&ltHp l r
 | _::_=>false
structure ChQ (G:Cx) (tb:TblS) (lo:Option Nat) (ops:List TOp) (c:Nat->Sta):Prop where
 st:∀(i:Nat) t,ops[i]? = some t->zEa G tb (c i) t (λ x=>x=c (i+1))
 hv:∀(i:Nat) t,ops[i]? = some t->clsQ t<=1->HV (c i) (c (i+1))
 al:∀(i:Nat) t,ops[i]? = some t->clsQ t=2->(c (i+1)).V=(c i).V/\(c (i+1)).mv=(c i).mv/\(c i).m<=(c (i+1)).m/\∀h,h<bndL lo (c i).m->(c (i+1)).H.get h=(c i).H.get h
 cp:∀i,i<=ops.length->FrCP (c i).mv (c i).m (c i).fr/\HCP (c i).mv (c i).m (c i).H
 rd:∀(i:Nat) t,ops[i]? = some t->clsQ t=1->(∀g v,XV.t g∈t.o.op.qb->(c i).fr.get g=some v->CP (c i).mv (bndL lo (c i).m) v)/\∀h str cs,h<bndL lo (c i).m->(c i).H.get h=some (.cells str cs)->∀x∈cs,CP (c i).mv (bndL lo (c i).m) x
def zMj (B:Nat->(Ext->Sta->Prop)->Sta->Prop) (Q:Ext->Sta->Prop):Nat->Sta->Prop
 | 0,_=>False
 | n+1,st=>B n (zPj Q (zMj B Q n)) st
def WT (G:Cx) (tb:TblS):TC->List Nat->(Ext->Sta->Prop)->Sta->Prop
 | .skip,d,Q,st=>Q .normal st
 | .ret,d,Q,st=>Q .ret st
 | .exit i,d,Q,st=>Q (.exit i) st
 | .wD e,d,Q,st=>wops G tb e (Q .normal) st
 | .draw p e f,d,Q,st=>match zNM (e.map TOp.o) f&&p.all (zPl st.fr) with
  | true=>zCx G tb e (Q .normal) st
  | false=>False
 | .wS e f,d,Q,st=>zPk G tb e f (Q .normal) e.length 0 st
 | .qO e f,d,Q,st=>(zGR e f&&seqQ 0 [] [] [] e f)=true/\∃q c,c 0=st/\ChQ G tb q e c/\Q .normal (c e.length)
 | .seq a b,d,Q,st=>WT G tb a d (zPj Q (WT G tb b d Q)) st
 | .cond c a b,d,Q,st=>match c.ev G st.fr with
  | some (.bool h)=>match c with
   | .t n=>brT n h st λ h st=>match h with
    | true=>WT G tb a d Q st
    | false=>WT G tb b d Q st
   | _=>Br h (WT G tb a d Q st) (WT G tb b d Q st)
  | _=>False
 | .block i b,d,Q,st=>WT G tb b d (zPS i Q) st
 | .qA k b,d,Q,st=>zMj (λ n Q st=>WT G tb b (n::d) Q st) Q k st
 | .loop c I b,d,Q,st=>(∃n,cutP c (I (n::d)) st)/\∀n g H V,I (n::d) g H V->WT G tb b (n::d) (zPj Q λ st=>∃l,l<n/\cutP c (I (l::d)) st) (mkW c g H V)
 | .we c J a b,d,Q,st=>WT G tb a d (zPj Q (cutP c (J d))) st/\∀g H V,J d g H V->WT G tb b d Q (mkW c g H V)
def xvOK:XV->Bool
 | .c v=>zAU 12 v
 | _=>true
def zW:XO->Bool
 | .alloc z | .build z _ | .qD _ _ z _ | .qK _ _ _ _ z=>z.all (zAU 12)
 | .lookup _ _ _ _ z _ | .vF _ _ _ z=>zAU 12 z
 | _=>true
def opOK (o:XO):Bool:=o.qb.all xvOK&&zW o
def tcOK:TC->Bool
 | .wD c | .draw _ c _ | .wS c _ | .qO c _=>c.all λ t=>opOK t.o.op
 | .seq a b | .we _ _ a b | .cond _ a b=>tcOK a&&tcOK b
 | .block _ b | .loop _ _ b | .qA _ b=>tcOK b
 | _=>true
def endW (c:List XR) (R:AV->Sta->Prop):Ext->Sta->Prop
 | .exit _,_=>False
 | _,st=>match ress st.H st.fr c with
  | some d=>R (zCM d) st
  | none=>False
def tcH (F:HEnt->Prop):TC->Prop
 | .wD c | .wS c _ | .qO c _=>∀t∈c,∀es,t.h=some es->∀e∈es,F e
 | .seq a b | .we _ _ a b | .cond _ a b=>tcH F a/\tcH F b
 | .block _ b | .loop _ _ b | .qA _ b=>tcH F b
 | _=>True
def zBy (H:Heap) (V:Vecs):Nat->AV->Option AV
 | 0,_=>none
 | d+1,v=>match v with
  | .sym j=>match V.get j with
   | some (.vec sz es)=>some (.qp sz es)
   | _=>none
  | .agg cs=>match zw (zBy H V d) cs with
   | some cs=>some (.agg cs)
   | none=>none
  | .qf cs=>match zw (zBy H V d) cs with
   | some cs=>some (.qf cs)
   | none=>none
  | .ptr h off=>match H.get h with
   | some (.cells _ cs)=>match zw (zBy H V d) cs with
    | some cs=>some (.qe (.agg cs) off)
    | none=>none
   | _=>none
  | .iface t v=>match zBy H V d v with
   | some v=>some (.iface t v)
   | none=>none
  | .func f a b=>match zw (zBy H V d) a with
   | some a=>match zw (zBy H V d) b with
    | some b=>some (.func f a b)
    | none=>none
   | none=>none
  | .row _ _ _ _ _ _ | .map _=>none
  | v=>some v
def endP (c:List XR) (R:AV->Prop):Ext->Sta->Prop:=endW c λ v st=>match zBy st.H st.V 8 v with
 | some v=>R v
 | none=>False
def pinE (fr:Fr):Nat->List Nat->Bool
 | _,[]=>true
 | i,t::r=>(match fr.get t with
  | some (.ptr h 0)=>Nat.beq h i
  | _=>false)&&pinE fr (i+1) r
def endH (c:List XR) (pn:List Nat) (R:AV->Heap->Vecs->Prop):Ext->Sta->Prop:=endW c λ v st=>match zMh v with
 | false=>match hasH 8 v||!pinE st.fr 0 pn with
  | false=>zDo (List.range pn.length) (zDK st.H (List.range pn.length) []) [] st λ _ H V=>R v H V
  | true=>False
 | true=>match pinE st.fr 0 pn with
  | true=>zDo (List.range pn.length) (zDK st.H (List.range pn.length) (zGc 8 v [])) [v] st λ d H V=>match d with
   | [u]=>R u H V
   | _=>False
  | false=>False
def tcN (pn:List Nat):TC->Bool
 | .wD c | .wS c _ | .qO c _=>c.all λ t=>match t.o.dst with
  | some d=>!inN d pn
  | none=>true
 | .draw e c _=>(c.all λ t=>match t.o.dst with
  | some d=>!inN d pn
  | none=>true)&&pn.all λ t=>inN t e
 | .seq a b | .we _ _ a b | .cond _ a b=>tcN pn a&&tcN pn b
 | .block _ b | .loop _ _ b | .qA _ b=>tcN pn b
 | _=>true
theorem PP.cp {n k:Nat} {v:AV} (h:PP v):CP n k v:=by
 induction h with
 | bool b=>exact .bool b
 | int k m=>exact .int k m
 | str s=>exact .str s
 | ql=>exact .ql
 | qa=>exact .qa
 | qj=>exact .qj
 | qi=>exact .qi
 | qd=>exact .qd
 | qe e off h _=>exact .qe e off h
 | qp sz es h _=>exact .qp sz es h
 | func fn a b _ _ f d=>exact .func fn a b f d
 | iface t v _ c=>exact .iface t v c
 | agg cs _ c=>exact .agg cs c
 | qf cs _ c=>exact .qf cs c
theorem CP.mono {n m k l:Nat} (hm:n<=m) (g:k<=l) {v:AV} (h:CP n k v):CP m l v:=by
 induction h with
 | bool b=>exact .bool b
 | int k m=>exact .int k m
 | str s=>exact .str s
 | ql=>exact .ql
 | qa=>exact .qa
 | qj=>exact .qj
 | qi=>exact .qi
 | qd=>exact .qd
 | ptr h o d=>exact .ptr h o (QZ d g)
 | row h o l s c e d=>exact .row h o l s c e (QZ d g)
 | map h d=>exact .map h (QZ d g)
 | sym i h=>exact .sym i (QZ h hm)
 | qe e off h=>exact .qe e off h
 | qp sz es h=>exact .qp sz es h
 | func fn a b _ _ q p=>exact .func fn a b q p
 | iface t v _ f=>exact .iface t v f
 | agg cs _ f=>exact .agg cs f
 | qf cs _ f=>exact .qf cs f
theorem CP.min {n k l:Nat} {v:AV} (h:CP n k v) (h':CP n l v):CP n (Min.min l k) v:=by
 induction h with
 | bool b=>exact .bool b
 | int k m=>exact .int k m
 | str s=>exact .str s
 | ql=>exact .ql
 | qa=>exact .qa
 | qj=>exact .qj
 | qi=>exact .qi
 | qd=>exact .qd
 | ptr h o f=>cases h' with | ptr _ _ g=>exact .ptr h o (Nat.lt_min.2 ⟨g,f⟩)
 | row h o l s c e f=>cases h' with | row _ _ _ _ _ _ g=>exact .row h o l s c e (Nat.lt_min.2 ⟨g,f⟩)
 | map h f=>cases h' with | map _ g=>exact .map h (Nat.lt_min.2 ⟨g,f⟩)
 | sym i h=>exact .sym i h
 | qe e off h=>exact .qe e off h
 | qp sz es h=>exact .qp sz es h
 | func fn a b _ _ u r=>cases h' with | func _ _ _ x q=>exact .func fn a b (λ e d=>u e d (x e d)) (λ e d=>r e d (q e d))
 | iface t v _ p=>cases h' with | iface _ _ y=>exact .iface t v (p y)
 | agg cs _ p=>cases h' with | agg _ hc=>exact .agg cs λ e d=>p e d (hc e d)
 | qf cs _ p=>cases h' with | qf _ hc=>exact .qf cs λ e d=>p e d (hc e d)
theorem CP.lt {n k l:Nat}:∀(d:Nat) {v:AV},CP n k v->ltH d l v=true->CP n (Min.min l k) v:=by
 intro d
 induction d with
 | zero=>intro v _ h;cases h
 | succ d y=>
  intro v hc h;have q:∀{u:List AV},(∀e∈u,CP n k e)->u.all (ltH d l)=true->∀e∈u,CP n (Min.min l k) e:=λ hc C e f=>y (hc e f) (QG.1 C e f)
  have r:∀{a:Nat},a<k->Nat.blt a l=true->a<Min.min l k:=λ B z=>Nat.lt_min.2 ⟨by simpa [Ql] using z,B⟩
  cases hc with
  | bool b=>exact .bool b
  | int k m=>exact .int k m
  | str s=>exact .str s
  | ql=>exact .ql
  | qa=>exact .qa
  | qj=>exact .qj
  | qi=>exact .qi
  | qd=>exact .qd
  | ptr p o g=>exact .ptr p o (r g h)
  | row p o l s c e g=>exact .row p o l s c e (r g h)
  | map p g=>exact .map p (r g h)
  | sym i D=>exact .sym i D
  | qe e off f=>exact .qe e off f
  | qp sz es f=>exact .qp sz es f
  | func fn a b F A=>
   have h:(a.all (ltH d l)&&b.all (ltH d l))=true:=h;rw [QA] at h;exact .func fn a b (q F h.1) (q A h.2)
  | iface t v I=>exact .iface t v (y I h)
  | agg cs x=>exact .agg cs (q x h)
  | qf cs x=>exact .qf cs (q x h)
theorem zPT {l:Nat}:∀{H:Heap} {h:Nat} {str:Bool} {cs:List AV},ltHp l H=true->h<l->H.get h=some (.cells str cs)->cs.all (ltH 12 l)=true
 | [],_,_,_,_,_,h=>by cases h
 | (i,.cells q o)::r,h,str,cs,c,g,d=>by
  simp only [ltHp,QA,Bool.or_eq_true] at c;simp only [Heap.get] at d;split at d
  ·rename_i e;cases d;have e:=zb e;subst e;rcases c.1 with f | f
   ·have p:Nat.blt i l=true:=by rw [Ql];exact g
    rw [p] at f;cases f
   ·exact f
  ·exact zPT c.2 g d
 | (i,.map es)::r,h,str,cs,c,g,d=>by simp [ltHp] at c
theorem zU6 {lo:Option Nat} {m:Nat}:bndL lo m<=m:=by
 cases lo with
 | none=>exact QB _
 | some l=>exact Nat.min_le_right _ _
theorem zOH {lo:Option Nat} {m c:Nat} (h:m<=c):bndL lo m<=bndL lo c:=by
 cases lo with
 | none=>exact h
 | some l=>simp only [bndL];omega
theorem zTV {lo:Option Nat} {m c:Nat} (h:c<=m):Min.min c (bndL lo m)<=bndL lo c:=by
 cases lo with
 | none=>simp only [bndL];omega
 | some l=>simp only [bndL];omega
theorem zBz:∀(d:Nat) {v:AV},zAU d v=true->PP v:=by
 intro d
 induction d with
 | zero=>intro v h;cases h
 | succ d f=>
  intro v h;have c:∀{l:List AV},l.all (zAU d)=true->∀e∈l,PP e:=λ g e i=>f (QG.1 g e i)
  cases v with
  | bool b=>exact .bool b
  | int k m=>exact .int k m
  | str s=>exact .str s
  | ql=>exact .ql
  | qa=>exact .qa
  | qj=>exact .qj
  | qi=>exact .qi
  | qd=>exact .qd
  | qe e off=>exact .qe e off (f h)
  | qp sz es=>exact .qp sz es (c h)
  | func fn a b=>
   have h:(a.all (zAU d)&&b.all (zAU d))=true:=h;rw [QA] at h;exact .func fn a b (c h.1) (c h.2)
  | iface t v=>exact .iface t v (f h)
  | agg cs=>exact .agg cs (c h)
  | qf cs=>exact .qf cs (c h)
  | _=>cases h
theorem zC3 {n k:Nat}:∀(d:Nat) {v:AV},CP n k v->ppS d v=true->PP v:=by
 intro d
 induction d with
 | zero=>intro v _ h;cases h
 | succ d i=>
  intro v hc h;have f:∀{l:List AV},(∀e∈l,CP n k e)->l.all (ppS d)=true->∀e∈l,PP e:=λ hc p e c=>i (hc e c) (QG.1 p e c)
  cases hc with
  | bool b=>exact .bool b
  | int k m=>exact .int k m
  | str s=>exact .str s
  | ql=>exact .ql
  | qa=>exact .qa
  | qj=>exact .qj
  | qi=>exact .qi
  | qd=>exact .qd
  | qe e off c=>exact .qe e off c
  | qp sz es c=>exact .qp sz es c
  | func fn a b q o=>
   have h:(a.all (ppS d)&&b.all (ppS d))=true:=h;rw [QA] at h;exact .func fn a b (f q h.1) (f o h.2)
  | iface t v r=>exact .iface t v (i r h)
  | agg cs g=>exact .agg cs (f g h)
  | qf cs g=>exact .qf cs (f g h)
  | _=>cases h
theorem CP.cells {n k:Nat} {v:AV} (h:CP n k v):∀c∈v.cells,CP n k c:=by
 cases h with
 | agg cs h=>exact h
 | _=>intro c hc;simp only [AV.cells,Qc] at hc;subst hc;constructor <;> assumption
theorem PP.cells {v:AV} (h:PP v):∀c∈v.cells,PP c:=by
 cases h with
 | agg cs h=>exact h
 | _=>intro c hc;simp only [AV.cells,Qc] at hc;subst hc;constructor <;> assumption
theorem zOf {n k:Nat} {cs:List AV} {off sz:Nat} {e:Bool} {v:AV} (h:∀c∈cs,CP n k c) (d:part cs off sz e=some v):CP n k v:=by
 unfold part at d;split at d
 ·split at d
  ·cases d;exact .agg _ λ c hc=>h c (QW (QP hc))
  ·cases d
 ·exact h v (QF d)
theorem zOg {cs:List AV} {off sz:Nat} {e:Bool} {v:AV} (h:∀c∈cs,PP c) (d:part cs off sz e=some v):PP v:=by
 unfold part at d;split at d
 ·split at d
  ·cases d;exact .agg _ λ c hc=>h c (QW (QP hc))
  ·cases d
 ·exact h v (QF d)
theorem zIv {cs new:List AV} {off:Nat} {c:AV} (h:c∈qm cs off new):c∈cs\/c∈new:=by
 unfold qm at h;rcases QI.1 h with h | h
 ·rcases QI.1 h with h | h
  ·exact .inl (QP h)
  ·exact .inr h
 ·exact .inl (QW h)
theorem zKH {n k:Nat} {v:AV} {sz:Nat} {cs:List AV} (h:CP n k v) (hc:cellsOf v sz=some cs):∀c∈cs,CP n k c:=by
 unfold cellsOf at hc;split at hc
 ·split at hc
  ·cases hc;exact h.cells
  ·cases hc
 ·cases hc
section
variable {G:Cx} {fr:Fr} {H:Heap} {m n k:Nat}
def GPP (G:Cx):Prop:=∀g v,G.wG g=some v->PP v
theorem zR (e:GPP G) (d:FrCP n k fr) {x:XV} (hx:xvOK x=true) {v:AV} (h:x.ev G fr=some v):CP n k v:=by
 cases x with
 | t k=>exact d k v h
 | c u=>cases h;exact (zBz 12 hx).cp
 | g k=>exact (e k v h).cp
theorem zFd (g:GPP G) (f:FrCP n k fr):∀{xs:List XV} {vs:List AV},xs.all xvOK=true->evs G fr xs=some vs->∀v∈vs,CP n k v
 | [],vs,_,h,v,c=>by cases h;cases c
 | x::xs,vs,e,h,v,c=>by
  rw [QX,QA] at e;simp only [evs] at h;split at h
  ·rename_i u i;split at h
   ·rename_i l d;cases h;rcases QH.1 c with rfl | c
    ·exact zR g f e.1 i
    ·exact zFd g f e.2 d v c
   ·cases h
  ·cases h
theorem HCP.mono {n' e:Nat} (l:n<=n') (g:k<=e) (h:HCP n k H):HCP n' e H:=λ p f=>let ⟨a,b,c,d⟩:=h p f;⟨a,b,c,λ x i=>(d x i).mono l g⟩
theorem FrCP.mono {n' c:Nat} (f:n<=n') (d:k<=c) (e:FrCP n k fr):FrCP n' c fr:=λ t v h=>(e t v h).mono f d
theorem HCP.get (d:HCP n k H) {h:Nat} {o:HO} (e:H.get h=some o):∃str cs,o=.cells str cs/\∀c∈cs,CP n k c:=d _ (Heap.qh e)
theorem HCP.cons (e:HCP n k H) {h:Nat} {str:Bool} {cs:List AV} (hc:∀c∈cs,CP n k c):HCP n k ((h,.cells str cs)::H):=λ p d=>by
 rcases QH.1 d with rfl | d
 ·exact ⟨str,cs,rfl,hc⟩
 ·exact e p d
theorem zDp:∀{H:Heap} {h:Nat} {o:HO} {p:Nat×HO},p∈H.put h o->p=(h,o)\/p∈H
 | (k,e)::r,h,o,p,c=>by
  simp only [Heap.put] at c;split at c
  ·rename_i d;rcases QH.1 c with rfl | c
   ·rw [zb d];exact .inl rfl
   ·exact .inr (.tail _ c)
  ·rcases QH.1 c with rfl | c
   ·exact .inr (.head _)
   ·exact (zDp c).imp id (.tail _)
theorem HCP.put (e:HCP n k H) {h:Nat} {str:Bool} {cs:List AV} (hc:∀c∈cs,CP n k c):HCP n k (H.put h (.cells str cs)):=λ p d=>by
 rcases zDp d with rfl | d
 ·exact ⟨str,cs,rfl,hc⟩
 ·exact e p d
theorem zM4 (d:HCP n k H) {a v:AV} {sz:Nat} {i:Bool} (g:CP n k a) (h:xload H sz i a=some v):CP n k v:=by
 cases g with
 | ptr l o=>
  simp only [xload] at h;split at h
  ·rename_i str cs c;obtain ⟨_,_,e,hc⟩:=d.get c;cases e;exact zOf hc h
  ·cases h
 | qe e off f=>exact (zOg f.cells h).cp
 | _=>cases h
theorem zIY (g:GPP G) (f:FrCP n k fr):∀{e:List (Nat×Nat×XV)} {cs cs':List AV},(e.all λ p=>xvOK p.2.2)=true->(∀c∈cs,CP n k c)->fillx G fr cs e=some cs'->∀c∈cs',CP n k c
 | [],cs,cs',_,hc,h=>by cases h;exact hc
 | (off,sz,x)::r,cs,cs',d,hc,h=>by
  rw [QX,QA] at d;simp only [fillx] at h;split at h
  ·rename_i v o;split at h
   ·rename_i new i;split at h
    ·exact zIY g f d.2 (λ c l=>(zIv l).elim (hc c) (zKH (zR g f d.1 o) i c)) h
    ·cases h
   ·cases h
  ·cases h
theorem zU7 {op:BinOp} {a b v:AV} (h:xbin op a b=some v):PP v:=by
 unfold xbin at h;split at h
 ·rename_i k a c b;split at h
  ·split at h
   ·cases h
   ·cases h;exact .int _ _
  ·split at h
   ·cases h
   ·cases h;exact .int _ _
  ·split at h
   ·cases h
   ·split at h
    all_goals first
     | (cases h;exact .int _ _)
     | (split at h <;> first | (cases h;done) | (cases h;exact .int _ _))
     | (unfold xbits at h;split at h <;> first | (cases h;done) | (cases h;exact .int _ _))
     | (unfold xcmp at h;split at h <;> first | (cases h;done) | (cases h;exact .bool _))
 ·rename_i a b;split at h
  ·split at h
   ·cases h;exact .str _
   ·cases h
  all_goals first | (cases h;done) | (cases h;exact .bool _)
 ·cases h
theorem zWh {op:UnOp} {a v:AV} (h:xun op a=some v):PP v:=by
 unfold xun at h;split at h
 ·split at h
  ·cases h;exact .int _ _
  ·unfold xbits at h;cases h;exact .int _ _
  ·cases h
 ·split at h
  ·cases h;exact .bool _
  ·cases h
 ·cases h
def zKg:XO->Bool
 | .vt _ | .pick _ _ _ | .bin _ _ _ | .beq _ _ _ | .vH _ _ _ | .vI _ _ _ _ _ | .seq _ _ _ | .vO _ _ _ | .vN _ _ _ | .un _ _ | .conv _ _ | .vV _ | .w3 _ _ | .w4 _ _ | .vS _ _ _ _ | .ext _ _ | .qY _ _ _ _ _
 | .box _ _ | .alloc _ | .build _ _ | .wo _ | .qy _ _ _ _ | .w7 _ | .wL _ | .wi _ | .min _ _ | .max _ _ | .q9 _ _ _ | .wM _ _ | .vF _ _ _ _ | .load _ _ _ | .store _ _ _ | .qP _ _ | .qD _ _ _ _ | .qB _ _ _=>true
 | _=>false
theorem zLE {o:XO} (L:zKg o=true) (ho:opOK o=true) (l:GPP G) (g:FrCP n m fr) (d:HCP n m H) {v:AV} {H':Heap} {C:Nat} (h:xoS G ze fr H m o=some (v,H',C)):CP n C v/\HCP n C H':=by
 simp only [opOK,QA] at ho;obtain ⟨ho,q⟩:=ho;cases o <;> first | (cases L;done) | skip
 all_goals simp only [XO.qb,QX,List.all_nil,List.all_append,QT,QA] at ho
 all_goals simp only [xoS] at h
 case vt x=>
  split at h
  ·rename_i u p;cases h;exact ⟨zR l g ho p,d⟩
  ·cases h
 case pick c a b=>
  split at h
  ·split at h
   ·rename_i u p;cases h;exact ⟨zR l g ho.1.2 p,d⟩
   ·cases h
  ·split at h
   ·rename_i u p;cases h;exact ⟨zR l g ho.2 p,d⟩
   ·cases h
  ·cases h
 case bin op x y=>
  split at h
  ·split at h
   ·rename_i u p;cases h;exact ⟨(zU7 p).cp,d⟩
   ·cases h
  ·cases h
 case un op x=>
  split at h
  ·split at h
   ·rename_i u p;cases h;exact ⟨(zWh p).cp,d⟩
   ·cases h
  ·cases h
 case vS x off sz ag=>
  split at h
  ·rename_i cs f;have hc:=zR l g ho f;cases hc with
   | agg _ hc=>
    split at h
    ·rename_i u p;cases h;exact ⟨zOf hc p,d⟩
    ·cases h
  ·cases h
 case ext x i=>
  split at h
  ·rename_i T f;have hc:=zR l g ho f;cases hc with
   | qf _ hc=>
    split at h
    ·rename_i u p;cases h;exact ⟨hc _ (QF p),d⟩
    ·cases h
  ·cases h
 case qY x i len sz ag=>
  split at h
  ·rename_i cs J f _;have hc:=zR l g ho.1 f;cases hc with
   | agg _ hc=>
    split at h
    ·split at h
     ·rename_i u p;cases h;exact ⟨zOf hc p,d⟩
     ·cases h
    ·cases h
  ·cases h
 case box x sz=>
  split at h
  ·rename_i u p;split at h
   ·rename_i cs r;cases h;exact ⟨.ptr _ _ (QU _),HCP.cons (d.mono (QB _) (QY _)) λ c hc=>(zKH (zR l g ho p) r c hc).mono (QB _) (QY _)⟩
   ·cases h
  ·cases h
 case alloc z=>
  cases h;have q:z.all (zAU 12)=true:=q;exact ⟨.ptr _ _ (QU _),HCP.cons (d.mono (QB _) (QY _)) λ c hc=>(zBz 12 (QG.1 q c hc)).cp⟩
 case build z ps=>
  have q:z.all (zAU 12)=true:=q;split at h
  ·rename_i cs r;cases h;refine ⟨.agg _ (zIY l g ?_ (λ c hc=>(zBz 12 (QG.1 q c hc)).cp) r),d⟩
   simpa [List.all_map] using ho
  ·cases h
 case qD len sz z ps=>
  have q:z.all (zAU 12)=true:=q;split at h
  ·rename_i cs r;cases h;exact ⟨.row _ _ _ _ _ _ (QU _),HCP.cons (d.mono (QB _) (QY _)) λ c hc=>(zIY l g (by simpa [List.all_map] using ho) (λ c hc=>(zBz 12 (QG.1 q c hc)).cp) r c hc).mono (QB _) (QY _)⟩
  ·cases h
 case load x sz ag=>
  split at h
  ·rename_i a f;split at h
   ·rename_i u p;cases h;exact ⟨zM4 d (zR l g ho f) p,d⟩
   ·cases h
  ·cases h
 case store a x sz=>
  split at h
  ·rename_i U off u I f;split at h
   ·rename_i str cs N;split at h
    ·rename_i new R;split at h
     ·cases h;obtain ⟨_,_,e,hc⟩:=d.get N;cases e;exact ⟨.qf _ (λ c hc=>by cases hc),d.put λ c S=>(zIv S).elim (hc c) (zKH (zR l g ho.2 f) R c)⟩
     ·cases h
    ·cases h
   ·cases h
  ·cases h
 case wo x=>
  split at h <;> first | (cases h;done) | (rename_i f;cases h;exact ⟨zR l g ho f,d⟩)
 case qP x off=>
  split at h
  ·rename_i f;have hc:=zR l g ho f;cases hc with
   | ptr _ _ A=>cases h;exact ⟨.ptr _ _ A,d⟩
  ·rename_i e o f;have hc:=zR l g ho f;cases hc with
   | qe _ _ s=>cases h;exact ⟨.qe _ _ s,d⟩
  ·cases h
 case qB x i sz=>
  split at h
  ·rename_i O es J f _;have hc:=zR l g ho.1 f;cases hc with
   | qp _ _ D=>
    split at h
    ·split at h
     ·rename_i e s;cases h;refine ⟨.qe _ _ (D e ?_),d⟩
      unfold idx at s;split at s
      ·exact QF s
      ·cases s
     ·cases h
    ·cases h
  ·rename_i f _;have hc:=zR l g ho.1 f;cases hc with
   | row _ _ _ _ _ _ A=>
    split at h
    ·split at h
     ·cases h;exact ⟨.ptr _ _ A,d⟩
     ·cases h
    ·cases h
  ·cases h
 case qy x i len sz=>
  split at h
  ·rename_i f _;have hc:=zR l g ho.1 f;cases hc with
   | ptr _ _ A=>
    split at h
    ·cases h;exact ⟨.ptr _ _ A,d⟩
    ·cases h
  ·rename_i e o J f _;have hc:=zR l g ho.1 f;cases hc with
   | qe _ _ s=>
    split at h
    ·cases h;exact ⟨.qe _ _ s,d⟩
    ·cases h
  ·cases h
 case q9 fn first caps=>
  split at h
  ·rename_i a b I M;cases h;exact ⟨.func _ _ _ (zFd l g ho.1 I) (zFd l g ho.2 M),d⟩
  ·cases h
 case wM t x=>
  split at h
  ·rename_i u p;cases h;exact ⟨.iface _ _ (zR l g ho p),d⟩
  ·cases h
 case vF x t ok z=>
  have q:zAU 12 z=true:=q;have B:CP n m z:=(zBz 12 q).cp;split at h
  ·rename_i u w f;have hc:=zR l g ho f;cases hc with
   | iface _ _ F=>
    split at h
    ·cases h;refine ⟨?_,d⟩
     split
     ·exact .qf _ λ c hc=>by
       simp only [QH,List.not_mem_nil,or_false] at hc;rcases hc with rfl | rfl
       ·exact F
       ·exact .bool _
     ·exact F
    ·split at h
     ·cases h;exact ⟨.qf _ λ c hc=>by
       simp only [QH,List.not_mem_nil,or_false] at hc;rcases hc with rfl | rfl
       ·exact B
       ·exact .bool _,d⟩
     ·cases h
  ·split at h
   ·cases h;exact ⟨.qf _ λ c hc=>by
     simp only [QH,List.not_mem_nil,or_false] at hc;rcases hc with rfl | rfl
     ·exact B
     ·exact .bool _,d⟩
   ·cases h
  ·cases h
 all_goals
  (repeat' split at h) <;> first
   | (cases h;done)
   | (cases h;exact ⟨by first | exact .bool _ | exact .int _ _ | exact .str _ | (unfold bneg;exact .bool _),d⟩)
end
end Go.Sy
namespace Go.Sy
section
variable {E E':Env} {w w':World}
theorem VR.pp (B:∀b,E.Z b->E'.Z b/\w'.heap[b]? = w.heap[b]?) {v:AV} {cv:Value} (h:VR E w v cv):PP v->VR E' w' v cv:=by
 induction h with
 | bool b=>intro _;exact .bool b
 | int k n h=>intro _;exact .int k n h
 | str l s h z=>intro _;exact .str l s h z
 | ql=>intro _;exact .ql
 | ptr h off J=>intro d;cases d
 | qe e off b o cv u y _ hc q=>
  intro d;cases d with
  | qe _ _ C=>exact .qe e off b o cv u (B b y).1 (q C) λ j c I=>by rw [zDI (B b y).2];exact hc j c I
 | qa=>intro _;exact .qa
 | wb sz a c hc=>intro _;exact .wb sz a c hc
 | qp es b o cap sz f y r D u _ hc q=>
  intro d;cases d with
  | qp _ _ C=>exact .qp es b o cap sz f (B b y).1 r D u (λ i e A=>q i e A (C e (QF A))) λ i A=>⟨(hc i A).1,λ j c I=>by rw [zDI (B b y).2];exact (hc i A).2 j c I⟩
 | row h off len sz cp cap ex J N r T O V L=>intro d;cases d
 | wc h off sz ex a=>intro d;cases d
 | qj=>intro _;exact .qj
 | map h J=>intro d;cases d
 | qi=>intro _;exact .qi
 | func fn f c R W U hc _ _ S Y=>
  intro d;cases d with
  | func _ _ _ X L=>exact .func fn f c R W U hc (λ i x v g p=>S i x v g p (X x (QF g))) (λ i x v g p=>Y i x v g p (L x (QF g)))
 | qd=>intro _;exact .qd
 | iface t v cv _ q=>intro d;cases d with | iface _ _ p=>exact .iface t v cv (q p)
 | agg cs F z _ M q=>intro d;cases d with | agg _ hc=>exact .agg cs F z (λ i x v g p=>q i x v g p (hc x (QF g))) M
 | qf cs F z _ q=>intro d;cases d with | qf _ hc=>exact .qf cs F z (λ i x v g p=>q i x v g p (hc x (QF g)))
 | sym i cv C M=>intro d;cases d
theorem VR.vd {n k:Nat} (y:∀h,h<k->E.D h->E'.D h/\E'.ρ h=E.ρ h) (C:∀b,E.Z b->E'.Z b/\w'.heap[b]? = w.heap[b]?) (hS:Shapes w w') (hσ:∀i,i<n->E'.σ i=E.σ i) {v:AV} {cv:Value} (h:VR E w v cv):CP n k v->VR E' w' v cv:=by
 induction h with
 | bool b=>intro _;exact .bool b
 | int k n h=>intro _;exact .int k n h
 | str l s h J=>intro _;exact .str l s h J
 | ql=>intro _;exact .ql
 | ptr h off u=>
  intro d;cases d with
  | ptr _ _ r=>rw [←(y h r u).2];exact .ptr h off (y h r u).1
 | qe e off b o cv A I g hc z=>
  intro d;cases d with
  | qe _ _ L=>exact .qe e off b o cv A (C b I).1 (g.pp C L) λ j c T=>by rw [zDI (C b I).2];exact hc j c T
 | qa=>intro _;exact .qa
 | wb sz a c hc=>intro _;exact .wb sz a c hc
 | qp es b o cap sz f I p U A g hc z=>
  intro d;cases d with
  | qp _ _ L=>exact .qp es b o cap sz f (C b I).1 p U A (λ i e B=>(g i e B).pp C (L e (QF B))) λ i B=>⟨(hc i B).1,λ j c T=>by rw [zDI (C b I).2];exact (hc i B).2 j c T⟩
 | row h off len sz cp cap ex u F p S N V O=>
  intro d;cases d with
  | row _ _ _ _ _ _ r=>
   obtain ⟨c,e,f,M,h2⟩:=O;obtain ⟨c',f',k1,k2⟩:=hS _ c e f M;rw [←(y h r u).2];exact .row h off len sz cp cap ex (y h r u).1 F p S N V ⟨c',e,f',by rw [(y h r u).2];exact k1,by omega⟩
 | wc h off sz ex a=>intro _;exact .wc h off sz ex a
 | qj=>intro _;exact .qj
 | map h u=>intro d;cases d with | map _ r=>rw [←(y h r u).2];exact .map h (y h r u).1
 | qi=>intro _;exact .qi
 | func fn f c Y vc X hc _ _ rf W=>
  intro d;cases d with
  | func _ _ _ ha O=>exact .func fn f c Y vc X hc (λ i x v q g=>rf i x v q g (ha x (QF q))) (λ i x v q g=>W i x v q g (O x (QF q)))
 | qd=>intro _;exact .qd
 | iface t v cv _ z=>intro d;cases d with | iface _ _ g=>exact .iface t v cv (z g)
 | agg cs R J _ M z=>intro d;cases d with | agg _ hc=>exact .agg cs R J (λ i x v q g=>z i x v q g (hc x (QF q))) M
 | qf cs R J _ z=>intro d;cases d with | qf _ hc=>exact .qf cs R J (λ i x v q g=>z i x v q g (hc x (QF q)))
 | sym i cv L M=>intro d;cases d with | sym _ B=>exact .sym i cv (L.trans (hσ i B).symm) M
end
def RowV (w:World) (b len sz cp:Nat) (ex:Bool) (cv:Value):Prop:=
 (∃a,cv=.slice (some a) 0 0/\len=0/\cp=0) ∨
 ∃cap,cv=.slice (some ⟨b,0,none⟩) len cap/\len<=cap/\cap<=zc/\0<sz/\cp<=cap/\(ex=true->cap=cp)/\∃c e f,w.heap[b]? = some (.cells c e f)/\0+cap*sz<=c.size
section
variable {E E':Env} {w w':World}
theorem RowV.v8 {h len sz cp:Nat} {ex:Bool} {cv:Value} (l:VR E w (.row h 0 len sz cp ex) cv):RowV w (E.ρ h) len sz cp ex cv:=by
 cases l with
 | row _ _ _ _ _ cap _ o d c f e g i=>exact .inr ⟨cap,rfl,d,c,f,e,g,i⟩
 | wc _ _ _ _ a=>exact .inl ⟨a,rfl,rfl,rfl⟩
theorem RowV.vr {b h len sz cp:Nat} {ex:Bool} {cv:Value} (o:RowV w b len sz cp ex cv) (f:E.ρ h=b) (l:E.D h):VR E w (.row h 0 len sz cp ex) cv:=by
 subst f;rcases o with ⟨a,rfl,rfl,rfl⟩ | ⟨cap,rfl,d,c,i,e,g,f⟩
 ·exact .wc _ _ _ _ _
 ·exact .row _ _ _ _ _ _ _ l d c i e g f
theorem RowV.mono {b len sz cp:Nat} {ex:Bool} {cv:Value} (u:RowV w b len sz cp ex cv) (v:Shapes w w'):RowV w' b len sz cp ex cv:=by
 rcases u with h | ⟨cap,o,g,s,l,p,t,c,e,f,q,h8⟩
 ·exact .inl h
 ·obtain ⟨i,r,d,x⟩:=v _ c e f q;exact .inr ⟨cap,o,g,s,l,p,t,i,e,r,d,by omega⟩
theorem RowV.one {b len sz cp:Nat} {ex:Bool} {cv:Value} (c:RowV w b len sz cp ex cv):cv.oneCell'=true:=by
 rcases c with ⟨a,rfl,_⟩ | ⟨cap,rfl,_⟩ <;> rfl
theorem OR.pp {b:Nat} {str:Bool} {cs:List AV} (t:w'.heap[b]? = w.heap[b]?) (q:∀b,E.Z b->E'.Z b/\w'.heap[b]? = w.heap[b]?) (l:∀c∈cs,PP c) (h:OR E w b (.cells str cs)):OR E' w' b (.cells str cs):=by
 obtain ⟨c,e,f,r,o,s,p⟩:=h;exact ⟨c,e,f,t.trans r,o,s,λ i x g=>let ⟨v,a,b,d⟩:=p i x g;⟨v,a,b,d.pp q (l x (QF g))⟩⟩
theorem OR.vd {n k b:Nat} {str:Bool} {cs:List AV} (o:w'.heap[b]? = w.heap[b]?) (hm:∀{v cv},CP n k v->VR E w v cv->VR E' w' v cv) (r:∀c∈cs,CP n k c) (h:OR E w b (.cells str cs)):OR E' w' b (.cells str cs):=by
 obtain ⟨c,e,f,q,l,s,p⟩:=h;exact ⟨c,e,f,o.trans q,l,s,λ i x g=>let ⟨v,a,b,d⟩:=p i x g;⟨v,a,b,hm (r x (QF g)) d⟩⟩
theorem OR.pm {b:Nat} {es:List (AV×AV)} (t:w'.heap[b]? = w.heap[b]?) (l:∀b,E.Z b->E'.Z b/\w'.heap[b]? = w.heap[b]?) (g:∀p∈es,PP p.1/\PP p.2) (h:OR E w b (.map es)):OR E' w' b (.map es):=by
 obtain ⟨c,clock,r,o,s,q⟩:=h;exact ⟨c,clock,t.trans r,o,λ i k x f=>let ⟨m,a,b,d,e⟩:=s i k x f;⟨m,a,b.pp l (g _ (QF f)).1,d.pp l (g _ (QF f)).2,e⟩,q⟩
end
def VI.qz:VI->Bool
 | .qS _ _ _=>false
 | _=>true
def VOK (E:Env) (w:World) (V:Vecs) (β:Nat->Option Nat) (j:Nat):VI->Prop
 | .vec sz es=>(∀e∈es,PP e)/\((β j=none/\E.σ j=.slice none 0 0/\es=[]) ∨
   ∃b str cs cp ex,β j=some b/\OR E w b (.cells str cs)/\RowV w b es.length sz cp ex (E.σ j)/\(∀c∈cs,PP c)/\es.length*sz<=cs.length/\flatten sz es=some (cs.take (es.length*sz)))
 | .mp es=>(∀p∈es,PP p.1/\PP p.2)/\∃b,β j=some b/\OR E w b (.map es)/\E.σ j=.map (some b)
 | .qS d i off=>∀sz es,V.get d=some (.vec sz es)->i<es.length/\∃b,β d=some b/\E.σ j=.pointer (some ⟨b,i*sz+off,none⟩)
def BS (E:Env) (β:Nat->Option Nat) (H:Heap) (V:Vecs) (x:Nat):Prop:=(∃p∈H,E.ρ p.1=x)\/∃j c,V.get j=some c/\c.qz=true/\β j=some x
structure Kp (Z B:Nat->Prop) (w:World) (Z' B':Nat->Prop) (w':World):Prop where
 qG:∀x,Z x->Z' x
 qN:∀x,Z' x->Z x\/B x\/w.heap.size<=x
 own:∀x,B' x->B x\/w.heap.size<=x
 tape:w'.tape=w.tape
 os:w'.os=w.os
 output:w'.output=w.output
 size:w.heap.size<=w'.heap.size
 wa:∀x,x<w.heap.size->¬B x->w'.heap[x]? = w.heap[x]?
 qn:Shapes w w'
theorem Kp.refl {Z B:Nat->Prop} {w:World}:Kp Z B w Z B w:=⟨λ _ h=>h,λ _ h=>.inl h,λ _ h=>.inl h,rfl,rfl,rfl,QB _,λ _ _ _=>rfl,.refl w⟩
theorem Kp.less {Z B c:Nat->Prop} {w:World} (h:∀x,c x->B x):Kp Z B w Z c w:=⟨λ _ h=>h,λ _ h=>.inl h,λ x d=>.inl (h x d),rfl,rfl,rfl,QB _,λ _ _ _=>rfl,.refl w⟩
theorem Kp.trans {Z B i f d e:Nat->Prop} {w c g:World} (h:Kp Z B w i f c) (k:Kp i f c d e g):Kp Z B w d e g where
 qG x hx:=k.qG x (h.qG x hx)
 qN x hx:=by
  rcases k.qN x hx with a | a | a
  ·exact h.qN x a
  ·rcases h.own x a with b | b
   ·exact .inr (.inl b)
   ·exact .inr (.inr b)
  ·exact .inr (.inr (Qk h.size a))
 own x hx:=by
  rcases k.own x hx with a | a
  ·exact h.own x a
  ·exact .inr (Qk h.size a)
 tape:=k.tape.trans h.tape
 os:=k.os.trans h.os
 output:=k.output.trans h.output
 size:=Qk h.size k.size
 wa x hx hb:=(k.wa x (QZ hx h.size) λ l=>(h.own x l).elim hb λ o=>by omega).trans (h.wa x hx hb)
 qn:=h.qn.trans k.qn
structure SR (G:Cx) (nt:Nat) (E:Env) (w:World) (a:Act) (β:Nat->Option Nat) (st:Sta):Prop where
 hr:HR E st.H w
 hf:FrR E w st.fr a nt
 hg:GR G E w
 qC:∀h,E.D h->h<st.m
 qZ:FrCP st.mv st.m st.fr
 cH:HCP st.mv st.m st.H
 qU:∀j vi,st.V.get j=some vi->j<st.mv/\VOK E w st.V β j vi
 vp:∀j j2 i off,st.V.get j=some (.qS j2 i off)->j2<st.mv
 bz:∀j vi b,st.V.get j=some vi->vi.qz=true->β j=some b->¬E.Z b/\∀p∈st.H,E.ρ p.1≠b
 qT:∀j j' vi vi' b,st.V.get j=some vi->st.V.get j'=some vi'->vi.qz=true->vi'.qz=true->β j=some b->β j'=some b->j=j'
section
variable {P:Program} {G:Cx} {nt:Nat} {E:Env} {w:World} {a:Act} {β:Nat->Option Nat} {st:Sta}
theorem VOK.lt {V:Vecs} {j:Nat} {vi:VI} {b:Nat} (h:VOK E w V β j vi) (ho:vi.qz=true) (c:β j=some b):b<w.heap.size:=by
 cases vi with
 | vec sz es=>
  obtain ⟨_,⟨d,_⟩ | ⟨f,str,cs,cp,ex,d,e,_⟩⟩:=h
  ·rw [d] at c;cases c
  ·rw [d] at c;cases c;exact e.lt
 | mp es=>
  obtain ⟨_,f,d,e,_⟩:=h;rw [d] at c;cases c;exact e.lt
 | qS=>cases ho
theorem VOK.mono {E':Env} {w':World} {V u:Vecs} {r:Nat->Option Nat} {j:Nat} {vi:VI} (h:VOK E w V β j vi) (o:E'.σ j=E.σ j) (p:vi.qz=true->r j=β j) (s:∀b,vi.qz=true->β j=some b->w'.heap[b]? = w.heap[b]?)
  (v:∀b,E.Z b->E'.Z b/\w'.heap[b]? = w.heap[b]?) (D:Shapes w w') (F:∀f i off,vi=.qS f i off->∀sz es,u.get f=some (.vec sz es)->r f=β f/\∃d,V.get f=some (.vec sz d)/\d.length=es.length):VOK E' w' u r j vi:=by
 cases vi with
 | vec sz es=>
  obtain ⟨g,⟨c,e,l⟩ | ⟨b,str,cs,cp,ex,c,e,l,t,y,A⟩⟩:=h
  ·exact ⟨g,.inl ⟨(p rfl).trans c,o.trans e,l⟩⟩
  ·exact ⟨g,.inr ⟨b,str,cs,cp,ex,(p rfl).trans c,e.pp (s b rfl c) v t,by rw [o];exact l.mono D,t,y,A⟩⟩
 | mp es=>
  obtain ⟨g,b,c,e,l⟩:=h;exact ⟨g,b,(p rfl).trans c,e.pm (s b rfl c) v g,o.trans l⟩
 | qS f i off=>
  intro sz es q;obtain ⟨B,d,z,C⟩:=F f i off rfl sz es q;obtain ⟨x,b,c,e⟩:=h sz d z;exact ⟨C▸x,b,B.trans c,o.trans e⟩
theorem FrCP.qv {n k:Nat} {fr:Fr} (e:FrCP n k fr) {d:Option Nat} {v:AV} (f:CP n k v):FrCP n k (qv fr d v):=by
 cases d with
 | none=>exact e
 | some t=>
  intro u x c;simp only [zOF,Fr.qu] at c;split at c
  ·cases c;exact f
  ·exact e u x c
theorem SR.step (s:SR G nt E w a β st) {E':Env} {w':World} {H':Heap} {A:Nat} {d:Option Nat} {v:AV} {cv:Value} (B:HR E' H' w') (t:Tr E st.H w E' H' w' st.m A) (R:VR E' w' v cv) (I:CP st.mv A v) (F:HCP st.mv A H') (J:∀n,d=some n->n<nt):
  SR G nt E' w' (a.put d cv) β ⟨qv st.fr d v,H',st.V,A,st.mv⟩/\Kp E.Z (BS E β st.H st.V) w E'.Z (BS E' β H' st.V) w':=by
 have y:∀b,E.Z b->E'.Z b/\w'.heap[b]? = w.heap[b]?:=λ b o=>⟨t.qG b o,t.wa b (s.hr.wg b o) λ p g e=>s.hr.nz p g (e▸o)⟩
 have i:∀j f b,st.V.get j=some f->f.qz=true->β j=some b->b<w.heap.size/\w'.heap[b]? = w.heap[b]?:=λ j f b c l u=>by
  have r:=(s.qU j f c).2.lt l u;exact ⟨r,t.wa b r λ p g e=>(s.bz j f b c l u).2 p g e⟩
 refine ⟨⟨B,s.hf.put (t.vr s.hr) J R,s.hg.step s.hr t,λ h O=>?_,(s.qZ.mono (QB _) t.le).qv I,F,λ j f c=>⟨(s.qU j f c).1,?_⟩,s.vp,λ j f b c l u=>⟨λ M=>?_,λ p g e=>?_⟩,s.qT⟩,?_⟩
 ·rcases (t.qC h).1 O with c | c
  ·exact QZ (s.qC h c) t.le
  ·exact c.2
 ·exact (s.qU j f c).2.mono (congrFun t.sig j) (λ _=>rfl) (λ b N o=>(i j f b c N o).2) y t.qn λ _ _ _ _ sz es h=>⟨rfl,es,h,rfl⟩
 ·have r:=s.bz j f b c l u;rcases t.qN b M with D | ⟨p,g,e⟩ | D
  ·exact r.1 D
  ·exact r.2 p g e
  ·have:=(i j f b c l u).1;omega
 ·have r:=s.bz j f b c l u;rcases t.own p g with ⟨q,C,L⟩ | D
  ·exact r.2 q C (L.trans e)
  ·have:=(i j f b c l u).1;omega
 ·refine ⟨t.qG,λ x z=>?_,λ x z=>?_,t.tape,t.os,t.output,t.size,λ x z o=>t.wa x z λ p g e=>o (.inl ⟨p,g,e⟩),t.qn⟩
  ·rcases t.qN x z with h | h | h
   ·exact .inl h
   ·exact .inr (.inl (.inl h))
   ·exact .inr (.inr h)
  ·rcases z with ⟨p,g,rfl⟩ | h
   ·rcases t.own p g with ⟨q,C,e⟩ | h
    ·exact .inl (.inl ⟨q,C,e⟩)
    ·exact .inr h
   ·exact .inl (.inr h)
end
end Go.Sy
namespace Go.Sy
theorem Vecs.qg {V:Vecs} {k j:Nat} {o:VI}:Vecs.get ((k,o)::V) j=if k=j then some o else V.get j:=by
 simp only [Vecs.get];by_cases h:k=j
 ·subst h;have:Nat.beq k k=true:=Nat.beq_refl k;simp [this]
 ·have:Nat.beq k j=false:=by
   cases hb:Nat.beq k j with
   | false=>rfl
   | true=>exact absurd (zb hb) h
  simp [this,h]
theorem Vecs.qQ:∀{V:Vecs} {k j:Nat},(V.del k).get j=if k=j then none else V.get j
 | [],k,j=>by simp [Vecs.del,Vecs.get]
 | (i,o)::r,k,j=>by
  simp only [Vecs.del];cases hb:Nat.beq i k with
  | true=>
   have:=zb hb;subst this;simp only [Vecs.qQ,Vecs.qg];split <;> rfl
  | false=>
   have c:=zA3 hb;simp only [Vecs.qg,Vecs.qQ];by_cases d:i=j
   ·subst d;have:¬k=i:=λ e=>c e.symm
    simp [this]
   ·simp [d]
abbrev XB:=Option (Nat×HO)
def extE (E:Env) (m:Nat):XB->Env
 | none=>E
 | some (b,_)=>⟨λ h=>if h=m then b else E.ρ h,λ h=>E.D h\/h=m,E.Z,E.σ⟩
def extH (H:Heap) (m:Nat):XB->Heap
 | none=>H
 | some (_,o)=>(m,o)::H
def extN (m:Nat):XB->Nat
 | none=>m
 | some _=>m+1
def zA (E E':Env) (mv:Nat) (x:Value):Env:=⟨E.ρ,E.D,E'.Z,λ i=>if i=mv then x else E.σ i⟩
structure OutW (G:Cx) (E:Env) (w:World) (st:Sta) (xb:XB) (E':Env) (w':World) (H':Heap) (v:AV) (cv:Value):Prop where
 vh:HR E' H' w'
 hv:VR E' w' v cv
 agree:∀h,E.D h->E'.ρ h=E.ρ h
 wY:∀b o,xb=some (b,o)->E'.ρ st.m=b
 uK:∀h,h<st.m->E'.D h->E.D h
 uz:∀z,E.Z z->E'.Z z/\w'.heap[z]? = w.heap[z]?
 qN:∀z,E'.Z z->E.Z z\/(∃p∈st.H,E.ρ p.1=z)\/(∃b o,xb=some (b,o)/\z=b)\/w.heap.size<=z
 own:∀p∈H',(∃q∈st.H,E.ρ q.1=E'.ρ p.1)\/(∃b o,xb=some (b,o)/\E'.ρ p.1=b)\/w.heap.size<=E'.ρ p.1
 wa:∀x,x<w.heap.size->¬(∃p∈st.H,E.ρ p.1=x)->(∀b o,xb=some (b,o)->x≠b)->w'.heap[x]? = w.heap[x]?
 tape:w'.tape=w.tape
 os:w'.os=w.os
 output:w'.output=w.output
 size:w.heap.size<=w'.heap.size
 qn:Shapes w w'
 sig:E'.σ=E.σ
 back:∀x,HR (zA E E' st.mv x) st.H w'
 conv:∀x {v c},CP st.mv st.m v->VR E w v c->VR (zA E E' st.mv x) w' v c
 gr:∀x,GR G (zA E E' st.mv x) w'
section
variable {P:Program} {G:Cx} {nt:Nat} {E:Env} {w:World} {a:Act} {β:Nat->Option Nat} {st:Sta}
theorem zJF (s:SR G nt E w a β st) {xb:XB} {v:AV} {cv:Value} (h:VR E w v cv):VR (extE E st.m xb) w v cv:=by
 cases xb with
 | none=>exact h
 | some p=>
  refine VR.mono (E:=E) (E':=extE E st.m (some p)) (λ h c=>⟨Or.inl c,?_⟩) (λ b d=>⟨d,rfl⟩) (.refl w) h
  have:h≠st.m:=by have:=s.qC h c;omega
  simp [extE,this]
theorem zU8 (s:SR G nt E w a β st) {xb:XB} (i:∀b o,xb=some (b,o)->OR E w b o/\¬E.Z b/\∀p∈st.H,E.ρ p.1≠b):HR (extE E st.m xb) (extH st.H st.m xb) w:=by
 cases xb with
 | none=>exact s.hr
 | some p=>
  obtain ⟨b,o⟩:=p;obtain ⟨t,r,l⟩:=i b o rfl;have h:∀p∈st.H,p.1≠st.m:=λ p c=>by have:=s.qC p.1 (s.hr.qC p c);omega
  have g:∀p∈st.H,(extE E st.m (some (b,o))).ρ p.1=E.ρ p.1:=λ p c=>by simp [extE,h p c]
  have f:(extE E st.m (some (b,o))).ρ st.m=b:=by simp [extE]
  refine ⟨List.nodup_cons.2 ⟨λ f=>?_,s.hr.nodup⟩,λ p c=>?_,λ p c q d e=>?_,λ p c=>?_,λ p c=>?_,s.hr.wg⟩
  ·obtain ⟨p,c,e⟩:=Qf.1 f;exact h p c e
  ·rcases QH.1 c with rfl | c
   ·exact .inr rfl
   ·exact .inl (s.hr.qC p c)
  ·rcases QH.1 c with rfl | c
   ·rcases QH.1 d with rfl | d
    ·rfl
    ·rw [f,g q d] at e;exact absurd e.symm (l q d)
   ·rcases QH.1 d with rfl | d
    ·rw [g p c,f] at e;exact absurd e (l p c)
    ·rw [g p c,g q d] at e;exact s.hr.inj p c q d e
  ·rcases QH.1 c with rfl | c
   ·rw [f];exact t.mono rfl (zJF s)
   ·rw [g p c];exact (s.hr.obj p c).mono rfl (zJF s)
  ·rcases QH.1 c with rfl | c
   ·rw [f];exact r
   ·rw [g p c];exact s.hr.nz p c
theorem zSR (s:SR G nt E w a β st) (hG:GPP G) (hm:zBe P G) {xb:XB} (T:∀b o,xb=some (b,o)->OR E w b o/\¬E.Z b/\∀p∈st.H,E.ρ p.1≠b) {fr':Fr} (aa:FrR (extE E st.m xb) w fr' a nt)
  {o:Oper} {W:XO} (hc:zB1 P o.op=some W) {v:AV} {H':Heap} {n':Nat} (hx:xoS G ze fr' (extH st.H st.m xb) (extN st.m xb) W=some (v,H',n')) (hH:∀p∈st.H,p∈H'):
  ∀next Q,(∀cv E' w',OutW G E w st xb E' w' H' v cv->next (a.put o.dst cv) w')->o.wp P a w next Q:=by
 intro next Q hn;have ad:=zU8 s T;have ab:GR G (extE E st.m xb) w:=λ g u h=>⟨zJF s (s.hg g u h).1,(s.hg g u h).2⟩
 have F:Fresh (extE E st.m xb) (extN st.m xb) n':=by
  intro h y Y S;cases xb with
  | none=>have:=s.qC h S;have y:st.m<=h:=y;omega
  | some p=>
   have y:st.m+1<=h:=y;rcases S with S | S
   ·have:=s.qC h S;omega
   ·omega
 refine zGk ad aa ab hm zET hc F hx next Q λ cv E' w' X l k3=>hn cv E' w' ?_
 have U:(extE E st.m xb).Z=E.Z:=by cases xb <;> rfl
 have R:(extE E st.m xb).σ=E.σ:=by cases xb <;> rfl
 have M:∀h,E.D h->(extE E st.m xb).D h/\(extE E st.m xb).ρ h=E.ρ h:=λ h A=>by
  cases xb with
  | none=>exact ⟨A,rfl⟩
  | some p=>
   have:h≠st.m:=by have:=s.qC h A;omega
   exact ⟨.inl A,by simp [extE,this]⟩
 have f:∀h,E.D h->E'.ρ h=E.ρ h:=λ h A=>(l.agree h (M h A).1).trans (M h A).2
 have C:∀x,(∃p∈extH st.H st.m xb,(extE E st.m xb).ρ p.1=x)->(∃p∈st.H,E.ρ p.1=x)\/∃b o,xb=some (b,o)/\x=b:=by
  rintro x ⟨p,d,e⟩
  cases xb with
  | none=>exact .inl ⟨p,d,e⟩
  | some q=>
   obtain ⟨b,o⟩:=q;rcases QH.1 d with rfl | d
   ·exact .inr ⟨b,o,rfl,by simpa [extE] using e.symm⟩
   ·exact .inl ⟨p,d,by rw [←(M p.1 (s.hr.qC p d)).2];exact e⟩
 have J:∀x,x<w.heap.size->¬(∃p∈st.H,E.ρ p.1=x)->(∀b o,xb=some (b,o)->x≠b)->w'.heap[x]? = w.heap[x]?:=λ x y Y I=>l.wa x y λ p d e=>by
  rcases C x ⟨p,d,e⟩ with h | ⟨b,o,e1,e2⟩
  ·exact Y h
  ·exact I b o e1 e2
 have B:∀z,E.Z z->E'.Z z/\w'.heap[z]? = w.heap[z]?:=λ z N=>⟨l.qG z (by rw [U];exact N),J z (s.hr.wg z N) (λ⟨p,d,e⟩=>s.hr.nz p d (e▸N)) λ b o e1 e2=>(T b o e1).2.1 (e2▸N)⟩
 have r:∀h,h<st.m->E'.D h->E.D h:=λ h y Y=>by
  rcases (l.qC h).1 Y with I | I
  ·cases xb with
   | none=>exact I
   | some p=>exact I.resolve_right (by omega)
  ·cases xb with
   | none=>have I:st.m<=h/\_:=I;omega
   | some p=>have I:st.m+1<=h/\_:=I;omega
 have V:∀(x:Value) i,i<st.mv->(zA E E' st.mv x).σ i=E.σ i:=λ x i hi=>by
  have:i≠st.mv:=by omega
  simp [zA,this]
 have t:∀x {v c},CP st.mv st.m v->VR E w v c->VR (zA E E' st.mv x) w' v c:=λ x v c L hv=>
  VR.vd (E:=E) (E':=zA E E' st.mv x) (w:=w) (w':=w') (λ h _ A=>⟨A,rfl⟩) B l.qn (V x) hv L
 refine ⟨X,k3,f,λ b o e=>?_,r,B,λ z N=>?_,λ p d=>?_,J,l.tape,l.os,l.output,l.size,l.qn,l.sig.trans R,λ x=>?_,t,λ x g u h=>⟨t x (hG g u h).cp (s.hg g u h).1,(s.hg g u h).2.mono l.qn⟩⟩
 ·subst e;have:(extE E st.m (some (b,o))).D st.m:=.inr rfl;rw [l.agree _ this];simp [extE]
 ·rcases l.qN z N with h | h | h
  ·rw [U] at h;exact .inl h
  ·rcases C z h with h | h
   ·exact .inr (.inl h)
   ·exact .inr (.inr (.inl h))
  ·exact .inr (.inr (.inr h))
 ·rcases l.own p d with h | h
  ·rcases C _ h with h | h
   ·exact .inl h
   ·exact .inr (.inl h)
  ·exact .inr (.inr h)
 ·have hρ:∀p∈st.H,E'.ρ p.1=E.ρ p.1:=λ p d=>f p.1 (s.hr.qC p d)
  refine ⟨s.hr.nodup,s.hr.qC,s.hr.inj,λ p d=>?_,λ p d=>?_,X.wg⟩
  ·obtain ⟨str,cs,e,ac⟩:=s.cH p d;have y:=X.obj p (hH p d);rw [e] at y ⊢;rw [hρ p d] at y;refine OR.vd rfl (λ L hv=>?_) ac y
   exact VR.vd (E':=zA E E' st.mv x) (λ h O A=>⟨r h O A,(f h (r h O A)).symm⟩) (λ b hb=>⟨hb,rfl⟩) (.refl w') (λ i hi=>by rw [V x i hi,l.sig,R]) hv L
  ·have:=X.nz p (hH p d);rw [hρ p d] at this;exact this
theorem FrR.ue {n k:Nat} {fr:Fr} {E2:Env} {c:World} {d:Option Nat} {v:AV} {cv:Value} (f:FrR E w fr a nt) (hc:FrCP n k fr) (hm:∀{v cv},CP n k v->VR E w v cv->VR E2 c v cv) (g:∀n,d=some n->n<nt) (i:VR E2 c v cv):FrR E2 c (qv fr d v) (a.put d cv) nt:=by
 have e:FrR E2 c fr a nt:=⟨f.size,λ t u h=>hm (hc t u h) (f.get t u h)⟩
 exact e.put id g i
theorem OutW.sr (s:SR G nt E w a β st) {xb:XB} {E':Env} {w':World} {H':Heap} {v:AV} {cv:Value} (O:OutW G E w st xb E' w' H' v cv) (S:∀b o,xb=some (b,o)->∃j vi,st.V.get j=some vi/\vi.qz=true/\β j=some b)
  (x:Value) (R:Vecs) (C:Nat) (D:Nat->Option Nat) {d:Option Nat} {v2:AV} (I:st.mv<=C) (aa:VR (zA E E' st.mv x) w' v2 cv) (W:CP C st.m v2) (hd:∀n,d=some n->n<nt)
  (T:∀j vi,R.get j=some vi->(st.V.get j=some vi/\(vi.qz=true->D j=β j/\∀b o,xb=some (b,o)->β j≠some b)) ∨
   (j<C/\VOK (zA E E' st.mv x) w' R D j vi/\(∀y i off,vi=.qS y i off->y<C)/\(vi.qz=true->∀U,D j=some U->¬E'.Z U/\(∀p∈st.H,E.ρ p.1≠U)/\((∃b o,xb=some (b,o)/\U=b)\/w.heap.size<=U))))
  (Y:∀j q vi l,R.get j=some vi->R.get q=some l->vi.qz=true->l.qz=true->¬(st.V.get j=some vi/\D j=β j/\∀b o,xb=some (b,o)->β j≠some b)->¬(st.V.get q=some l/\D q=β q/\∀b o,xb=some (b,o)->β q≠some b)->j=q)
  (ac:∀y sz es,y<st.mv->R.get y=some (.vec sz es)->D y=β y/\∃X,st.V.get y=some (.vec sz X)/\X.length=es.length):
  SR G nt (zA E E' st.mv x) w' (a.put d cv) D ⟨qv st.fr d v2,st.H,R,st.m,C⟩/\Kp E.Z (BS E β st.H st.V) w (zA E E' st.mv x).Z (BS (zA E E' st.mv x) D st.H R) w':=by
 have t:∀j vi b,st.V.get j=some vi->vi.qz=true->β j=some b->(∀c o,xb=some (c,o)->β j≠some c)->b<w.heap.size/\w'.heap[b]? = w.heap[b]?/\¬E'.Z b/\∀p∈st.H,E.ρ p.1≠b:=λ j vi b r g f u=>by
  have J:=(s.qU j vi r).2.lt g f;have N:=s.bz j vi b r g f;have h7:∀c o,xb=some (c,o)->b≠c:=λ c o e A=>u c o e (by rw [f,A])
  refine ⟨J,O.wa b J (λ⟨p,hp,e⟩=>N.2 p hp e) h7,λ L=>?_,N.2⟩
  rcases O.qN b L with h | ⟨p,hp,e⟩ | ⟨c,o,e,A⟩ | h
  ·exact N.1 h
  ·exact N.2 p hp e
  ·exact h7 c o e A
  ·omega
 have hσ:∀i,i<st.mv->(zA E E' st.mv x).σ i=E.σ i:=λ i hi=>by
  have:i≠st.mv:=by omega
  simp [zA,this]
 refine ⟨⟨O.back x,s.hf.ue s.qZ (O.conv x) hd aa,O.gr x,s.qC,(s.qZ.mono I (QB _)).qv W,s.cH.mono I (QB _),λ j vi r=>?_,λ j y i off r=>?_,λ j vi b r g f=>?_,λ j q vi l b r g f u J N=>?_⟩,?_⟩
 ·rcases T j vi r with ⟨g,f⟩ | ⟨g,f,_⟩
  ·have u:=s.qU j vi g;refine ⟨QZ u.1 I,u.2.mono (hσ j u.1) (λ ho=>(f ho).1) (λ b ho F=>(t j vi b g ho F (f ho).2).2.1) O.uz O.qn λ y i off e sz es ab=>?_⟩
   subst e;exact ac y sz es (s.vp j y i off g) ab
  ·exact ⟨g,f⟩
 ·rcases T j _ r with ⟨g,f⟩ | ⟨g,_,f,_⟩
  ·exact QZ (s.vp j y i off g) I
  ·exact f y i off rfl
 ·rcases T j vi r with ⟨u,J⟩ | ⟨_,_,_,u⟩
  ·rw [(J g).1] at f;have:=t j vi b u g f (J g).2;exact ⟨this.2.2.1,this.2.2.2⟩
  ·have:=u g b f;exact ⟨this.1,this.2.1⟩
 ·by_cases M:st.V.get j=some vi/\D j=β j/\∀b o,xb=some (b,o)->β j≠some b
  ·by_cases c2:st.V.get q=some l/\D q=β q/\∀b o,xb=some (b,o)->β q≠some b
   ·exact s.qT j q vi l b M.1 c2.1 f u (by rw [←M.2.1];exact J) (by rw [←c2.2.1];exact N)
   ·exfalso
    have F:β j=some b:=by rw [←M.2.1];exact J
    have hk:=t j vi b M.1 f F M.2.2;rcases T q l g with ⟨q1,B⟩ | ⟨_,_,_,B⟩
    ·exact c2 ⟨q1,(B u).1,(B u).2⟩
    ·rcases (B u b N).2.2 with ⟨c,o,e,A⟩ | h
     ·exact M.2.2 c o e (by rw [F,A])
     ·omega
  ·by_cases c2:st.V.get q=some l/\D q=β q/\∀b o,xb=some (b,o)->β q≠some b
   ·exfalso
    have F:β q=some b:=by rw [←c2.2.1];exact N
    have hk:=t q l b c2.1 u F c2.2.2;rcases T j vi r with ⟨q1,B⟩ | ⟨_,_,_,B⟩
    ·exact M ⟨q1,(B f).1,(B f).2⟩
    ·rcases (B f b J).2.2 with ⟨c,o,e,A⟩ | h
     ·exact c2.2.2 c o e (by rw [F,A])
     ·omega
   ·exact Y j q vi l r g f u M c2
 ·refine ⟨λ z L=>(O.uz z L).1,λ z L=>?_,λ z L=>?_,O.tape,O.os,O.output,O.size,λ z L F=>O.wa z L (λ h=>F (.inl h)) λ b o e A=>?_,O.qn⟩
  ·rcases O.qN z L with h | h | ⟨b,o,e,A⟩ | h
   ·exact .inl h
   ·exact .inr (.inl (.inl h))
   ·obtain ⟨j,vi,r,g,f⟩:=S b o e;exact .inr (.inl (.inr ⟨j,vi,r,g,by rw [A];exact f⟩))
   ·exact .inr (.inr h)
  ·rcases L with h | ⟨j,vi,r,g,f⟩
   ·exact .inl (.inl h)
   ·rcases T j vi r with ⟨q1,B⟩ | ⟨_,_,_,B⟩
    ·exact .inl (.inr ⟨j,vi,q1,g,by rw [←(B g).1];exact f⟩)
    ·rcases (B g z f).2.2 with ⟨b,o,e,A⟩ | h
     ·obtain ⟨j,vi,r,g,f⟩:=S b o e;exact .inl (.inr ⟨j,vi,r,g,by rw [A];exact f⟩)
     ·exact .inr h
  ·obtain ⟨j,vi,r,g,f⟩:=S b o e;exact F (.inr ⟨j,vi,r,g,by rw [A];exact f⟩)
end
end Go.Sy
namespace Go.Sy
theorem zO {v:AV} {sz:Nat} {cs:List AV} (h:cellsOf v sz=some cs):cs.length=sz/\v.cells=cs/\v.flat=true:=by
 unfold cellsOf at h;cases hf:v.flat with
 | false=>rw [hf] at h;cases h
 | true=>
  rw [hf] at h;simp only at h;split at h
  ·rename_i c;cases h;exact ⟨zb c,rfl,rfl⟩
  ·cases h
theorem zY {sz:Nat}:∀{es f:List AV},flatten sz es=some f->f.length=es.length*sz/\∀(i:Nat) e,es[i]? = some e->cellsOf e sz=some ((f.drop (i*sz)).take sz)
 | [],f,h=>by cases h;exact ⟨by simp,λ i e d=>by simp at d⟩
 | a::r,f,h=>by
  simp only [flatten] at h;split at h
  ·rename_i c hc;split at h
   ·rename_i cs l;cases h;obtain ⟨p,o⟩:=zY l;obtain ⟨g,_,_⟩:=zO hc;refine ⟨by simp [p,g,Nat.succ_mul];omega,λ i e d=>?_⟩
    cases i with
    | zero=>
     simp only [List.getElem?_cons_zero,QJ] at d;subst d;rw [hc];simp [←g]
    | succ i=>
     rw [List.getElem?_cons_succ] at d;rw [o i e d];have:(i+1)*sz=c.length+i*sz:=by rw [Nat.succ_mul,g];omega
     rw [this,←List.drop_drop,List.drop_left]
   ·cases h
  ·cases h
theorem flatten_append {sz:Nat}:∀{a b x y:List AV},flatten sz a=some x->flatten sz b=some y->flatten sz (a++b)=some (x++y)
 | [],b,x,y,h,k=>by cases h;simpa using k
 | e::r,b,x,y,h,k=>by
  simp only [flatten] at h;split at h
  ·rename_i c hc;split at h
   ·rename_i cs d;cases h;simp only [List.cons_append,flatten,hc,flatten_append d k,Qi]
   ·cases h
  ·cases h
theorem zMS {sz:Nat} {v:AV} {new:List AV} (l:cellsOf v sz=some new):∀{es e:List AV} {i:Nat},flatten sz es=some e->i<es.length->flatten sz (es.set i v)=some (qm e (i*sz) new)
 | [],e,i,h,g=>by simp at g
 | a::r,e,i,h,g=>by
  simp only [flatten] at h;split at h
  ·rename_i c hc;split at h
   ·rename_i cs d;cases h;obtain ⟨o,_,_⟩:=zO hc;obtain ⟨p,_,_⟩:=zO l;cases i with
    | zero=>
     simp only [List.set_cons_zero,flatten,l,d,qm,Nat.zero_mul,List.take_zero,List.nil_append,QV];rw [p,←o,List.drop_left]
    | succ i=>
     have f:i<r.length:=by simpa using g
     simp only [List.set_cons_succ,flatten,hc,zMS l d f,qm];have s:(i+1)*sz=c.length+i*sz:=by rw [Nat.succ_mul,o];omega
     have q:(i+1)*sz+new.length=c.length+(i*sz+new.length):=by omega
     rw [q,s,List.take_length_add_append,List.drop_length_add_append];simp [Qi]
   ·cases h
  ·cases h
theorem zLF {c:AV} (h:c.one=true):cellsOf c 1=some [c]:=by
 cases c <;> first | (cases h;done) | rfl
theorem zAm {sz:Nat}:∀{len:Nat} {cs es:List AV},zEe sz len cs=some es->es=chunks sz len cs/\es.length=len/\0<sz/\len*sz<=cs.length/\flatten sz es=some (cs.take (len*sz))
 | len,cs,es,h=>by
  unfold zEe at h;split at h
  ·rename_i hc;cases h;simp only [QA,Qs,Ql] at hc;obtain ⟨⟨i,q⟩,t⟩:=hc;refine ⟨rfl,zLc _ _ _,q,i,?_⟩
   have key:∀(len:Nat) (cs:List AV),len*sz<=cs.length->cs.all AV.one=true->flatten sz (chunks sz len cs)=some (cs.take (len*sz)):=by
    intro len
    induction len with
    | zero=>intro cs _ _;simp [chunks,flatten]
    | succ len y=>
     intro cs p d;have o:len*sz<=(cs.drop sz).length:=by rw [Qr];rw [Nat.succ_mul] at p;omega
     have e:(cs.drop sz).all AV.one=true:=QG.2 λ x u=>QG.1 d x (QW u)
     have f:=y (cs.drop sz) o e;have g:sz<=cs.length:=by rw [Nat.succ_mul] at p;omega
     obtain ⟨l,s,v⟩:∃l,chunks sz (len+1) cs=l::chunks sz len (cs.drop sz)/\cellsOf l sz=some (cs.take sz):=by
      by_cases i:sz=1
      ·subst i;cases cs with
       | nil=>simp at g
       | cons c r=>
        rw [QX,QA] at d;exact ⟨c,rfl,by simpa using zLF d.1⟩
      ·refine ⟨.agg (cs.take sz),?_,?_⟩
       ·simp only [chunks]
       ·have:(AV.agg (cs.take sz)).cells.length=sz:=by simp [AV.cells,g]
        simp only [cellsOf,AV.flat,this,Nat.beq_refl];rfl
     simp only [s,flatten,v,f];rw [Nat.succ_mul,Nat.add_comm (len*sz) sz,List.take_add]
   exact key _ _ i t
  ·cases h
theorem zGd:∀s:List Nat,flatten 1 (s.map λ b=>AV.int .u8 (.ofNat b))=some (s.map λ b=>AV.int .u8 (.ofNat b))
 | []=>rfl
 | a::r=>by
  simp only [Qd,flatten,zLF (c:=.int .u8 (.ofNat a)) rfl,zGd r];rfl
theorem zIZ:∀{es:List AV} {s:List Nat},zAN es=some s->flatten 1 es=some es
 | [],s,h=>rfl
 | a::r,s,h=>by
  unfold zAN at h;split at h
  ·cases ‹_::_=[]›
  ·rename_i b g e;cases e;split at h
   ·rename_i f d;simp only [flatten,zLF (c:=.int .u8 (.ofNat b)) rfl,zIZ d];rfl
   ·cases h
  ·cases h
theorem zIj {sz:Nat} {e:AV} {c:List AV} (h:cellsOf e sz=some c):∀n:Nat,flatten sz (List.replicate n e)=some (rep n c)
 | 0=>rfl
 | n+1=>by simp only [List.replicate_succ,flatten,h,zIj h n,rep]
theorem zNN (c:List AV):∀n:Nat,(rep n c).length=n*c.length
 | 0=>by simp [rep]
 | n+1=>by simp [rep,zNN c n,Nat.succ_mul];omega
theorem zPU (c:List AV):∀{l n:Nat},l<=n->(rep n c).take (l*c.length)=rep l c
 | 0,n,_=>by simp [rep]
 | l+1,0,h=>by omega
 | l+1,n+1,h=>by
  simp only [rep];rw [Nat.succ_mul,Nat.add_comm,List.take_length_add_append,zPU c (by omega)]
theorem zPf {E:Env} {w:World} {sz:Nat} {es:List AV} {cv:Value} (h:VR E w (.qp sz es) cv):∃d,flatten sz es=some d:=by
 have key:∀(es:List AV),(∀(i:Nat) e,es[i]? = some e->∃c,cellsOf e sz=some c)->∃d,flatten sz es=some d:=by
  intro es
  induction es with
  | nil=>intro _;exact ⟨[],rfl⟩
  | cons a r z=>
   intro q;obtain ⟨c,hc⟩:=q 0 a rfl;obtain ⟨d,l⟩:=z λ i e g=>q (i+1) e g
   exact ⟨c++d,by simp only [flatten,hc,l]⟩
 cases h with
 | wb=>exact ⟨[],rfl⟩
 | qp _ b o cap _ f B t v p A hc=>
  refine key es λ i e g=>?_
  have y:i<es.length:=(QD.1 g).1;have s:e.flat=true:=by have:=p i e g;cases e <;> first | rfl | cases this
  have u:=((A i e g).cells s).1.1;have x:=(hc i y).1;refine ⟨e.cells,?_⟩
  have:e.cells.length=sz:=by rw [u];simpa using x
  simp only [cellsOf,s,this,Nat.beq_refl]
theorem zMT {H:Heap} {sz:Nat} {es c:List AV} (h:flatten sz es=some c):content H sz (.qp sz es)=some (es.length,c):=by
 simp only [content,Nat.beq_refl,h]
theorem zLe {E:Env} {w:World} {H:Heap} {sz:Nat} {u:AV} {f:List AV} {cv:Value} (r:VR E w u cv) (h:zCC H sz u=some f):∃d,flatten sz f=some d/\content H sz u=some (f.length,d)/\d.length=f.length*sz:=by
 unfold zCC at h;split at h
 ·cases h;exact ⟨[],rfl,rfl,by simp⟩
 ·rename_i g es;split at h
  ·rename_i e;cases h;have e:=zb e;subst e;obtain ⟨d,c⟩:=zPf r;exact ⟨d,c,zMT c,(zY c).1⟩
  ·cases h
 ·rename_i t off len g cp ex;split at h
  ·rename_i e;split at h
   ·rename_i str cs p;split at h
    ·rename_i i;obtain ⟨_,o,_,v,l⟩:=zAm h;refine ⟨_,l,?_,(zY l).1⟩
     simp only [content,e,p,i,o]
    ·cases h
   ·cases h
  ·cases h
 ·rename_i s;split at h
  ·rename_i e;cases h;have q:=zb e;subst q;exact ⟨_,zGd s,by simp [content,e],by simp⟩
  ·cases h
 ·cases h
theorem zU9 {sz:Nat} {es q cs:List AV} {i off s:Nat} {l:Bool} {e v:AV} (u:flatten sz es=some q) (h:q=cs.take (es.length*sz)) (A:es.length*sz<=cs.length) (r:es[i]? = some e) (d:part e.cells off s l=some v):part cs (i*sz+off) s l=some v:=by
 obtain ⟨z,t⟩:=zY u;obtain ⟨x,p,_⟩:=zO (t i e r);have y:i<es.length:=(QD.1 r).1;have o:i*sz+sz<=es.length*sz:=by rw [←Nat.succ_mul];exact Nat.mul_le_mul_right _ y
 have c:e.cells=(cs.drop (i*sz)).take sz:=by
  rw [p,h,List.drop_take,List.take_take,Nat.min_eq_left (by omega)]
 have f:e.cells.length=sz:=by rw [p];exact x
 unfold part at d ⊢;cases l with
 | true=>
  simp only at d ⊢;split at d
  ·rename_i g;have g:=QM g;rw [f] at g;have:Nat.ble (i*sz+off+s) cs.length=true:=by rw [Qs];omega
   rw [this];cases d;simp only;rw [c,List.drop_take,List.take_take,Nat.min_eq_left (by omega),List.drop_drop]
  ·cases d
 | false=>
  simp only at d ⊢;rw [c,List.getElem?_take] at d;split at d
  ·rw [List.getElem?_drop] at d;exact d
  ·cases d
theorem zM5:∀{d:List Kd} {a b:List AV} {r:Bool},eqv d a b=some r->eqbs d a b=some r/\a.length=d.length/\b.length=d.length
 | [],a,b,r,h=>by
  unfold eqv at h;split at h
  ·cases h;exact ⟨rfl,rfl,rfl⟩
  ·cases ‹_=_::_›
  ·cases h
 | k::d,a,b,r,h=>by
  unfold eqv at h;split at h
  ·cases ‹_=[]›
  ·rename_i A t a x b y e;cases e;split at h
   ·rename_i p l;cases d with
    | nil=>
     simp only at h;split at h
     ·cases h;simp only [eqbs,l];cases r <;> simp [eqbs]
     ·cases h
    | cons B d=>
     simp only at h;split at h
     ·rename_i q v;cases h;obtain ⟨z,g,o⟩:=zM5 v;simp only [eqbs,l];cases p with
      | true=>simp only [z,Bool.true_and];exact ⟨trivial,by simp [g],by simp [o]⟩
      | false=>exact ⟨by simp,by simp [g],by simp [o]⟩
     ·cases h
   ·cases h
  ·cases h
structure Rs (G:Cx) (nt:Nat) (Z0 B0:Nat->Prop) (w0:World) (dl:List Deferred) (E:Env) (w:World) (a:Act) (st:Sta):Prop where
 out:∃β,SR G nt E w a β st/\Kp Z0 B0 w0 E.Z (BS E β st.H st.V) w/\a.defers=dl
def OpK (P:Program) (G:Cx) (nt:Nat) (f e:Nat->Prop) (w0:World) (dl:List Deferred) (o:Oper) (w:World) (a:Act) (k:AV->Sta->Prop):Prop:=
 ∀(next:Act->World->Prop) (Q:Exit->Act->World->Prop),(∀v c d E' w',k v c->Rs G nt f e w0 dl E' w' (a.put o.dst d) (c.put o.dst v)->next (a.put o.dst d) w')->o.wp P a w next Q
section
variable {P:Program} {G:Cx} {nt:Nat} {E:Env} {w:World} {a:Act} {β:Nat->Option Nat} {st:Sta}
theorem FrR.uF {c:Env} {fr:Fr} {t:Nat} {X:AV} (d:FrR E w fr a nt) (hm:∀{v cv},VR E w v cv->VR c w v cv) (f:VR c w X (a.tmps.getD t undef)):FrR c w (fr.put t X) a nt:=
 ⟨d.size,λ u v h=>by
  rw [Fr.qu] at h;split at h
  ·rename_i e;subst e;cases h;exact f
  ·exact hm (d.get u v h)⟩
theorem zGS (d:GPP G) {fr:Fr} {x:XV} {j:Nat} (hx:xvOK x=true) (h:x.ev G fr=some (.sym j)):∃t,x=.t t/\fr.get t=some (.sym j):=by
 cases x with
 | t n=>exact ⟨n,rfl,h⟩
 | c v=>cases h;cases hx
 | g n=>have:=d n _ h;cases this
theorem zFe {fr:Fr} {y:XV} {u X:AV} {t j:Nat} (h:y.ev G fr=some u) (f:fr.get t=some (.sym j)) (d:u≠.sym j):y.ev G (fr.put t X)=some u:=by
 cases y with
 | t n=>
  have h:fr.get n=some u:=h;show (fr.put t X).get n=some u
  rw [Fr.qu];split
  ·rename_i e;subst e;rw [f] at h;cases h;exact absurd rfl d
  ·exact h
 | c v=>exact h
 | g n=>exact h
theorem zAs {fr:Fr} {X:AV} {t:Nat}:(XV.t t).ev G (fr.put t X)=some X:=by
 show (fr.put t X).get t=some X
 rw [Fr.qu];simp
theorem VR.vz {j:Nat} {cv:Value} (h:VR E w (.sym j) cv):cv=E.σ j:=by
 cases h with
 | sym _ _ c _=>exact c
theorem VR.bk {E':Env} {w':World} {mv:Nat} {x cv:Value} {v:AV} (h:VR E' w' v cv) (c:PP v):VR (zA E E' mv x) w' v cv:=
 VR.pp (E:=E') (E':=zA E E' mv x) (w:=w') (w':=w') (λ b d=>⟨d,rfl⟩) h c
theorem OR.bk {E':Env} {w':World} {mv b:Nat} {x:Value} {str:Bool} {cs:List AV} (h:OR E' w' b (.cells str cs)) (d:∀c∈cs,PP c):OR (zA E E' mv x) w' b (.cells str cs):=
 OR.pp (E:=E') (E':=zA E E' mv x) (w:=w') (w':=w') rfl (λ b e=>⟨e,rfl⟩) d h
theorem OR.uI {E':Env} {w':World} {mv b:Nat} {x:Value} {es:List (AV×AV)} (h:OR E' w' b (.map es)) (c:∀p∈es,PP p.1/\PP p.2):OR (zA E E' mv x) w' b (.map es):=
 OR.pm (E:=E') (E':=zA E E' mv x) (w:=w') (w':=w') rfl (λ b d=>⟨d,rfl⟩) c h
theorem OutW.wX (s:SR G nt E w a β st) {xb:XB} {E':Env} {w':World} {H':Heap} {v:AV} {cv:Value} (O:OutW G E w st xb E' w' H' v cv) (D:∀b o,xb=some (b,o)->∃j vi,st.V.get j=some vi/\vi.qz=true/\β j=some b)
  {V0:Vecs} (g:∀j vi,V0.get j=some vi->st.V.get j=some vi/\(vi.qz=true->∀b o,xb=some (b,o)->β j≠some b)) {h' sz cp:Nat} {str ex:Bool} {cs es:List AV} (f:(h',HO.cells str cs)∈H') (t:∀p∈st.H,p∈H'/\p.1≠h')
  (hv:v=.row h' 0 es.length sz cp ex) (I:∀e∈es,PP e) (u:∀c∈cs,PP c) (hl:es.length*sz<=cs.length) (F:flatten sz es=some (cs.take (es.length*sz))) {d:Option Nat} (S:∀n,d=some n->n<nt):
  ∃x R,SR G nt (zA E E' st.mv x) w' (a.put d cv) R ⟨qv st.fr d (.sym st.mv),st.H,(st.mv,.vec sz es)::V0,st.m,st.mv+1⟩/\Kp E.Z (BS E β st.H st.V) w (zA E E' st.mv x).Z (BS (zA E E' st.mv x) R st.H ((st.mv,.vec sz es)::V0)) w':=by
 subst hv;have l:=RowV.v8 O.hv;have r:∀j vi,V0.get j=some vi->j≠st.mv:=λ j vi h=>by have:=(s.qU j vi (g j vi h).1).1;omega
 refine ⟨cv,λ j=>if j=st.mv then some (E'.ρ h') else β j,O.sr s D cv _ (st.mv+1) _ (QY _) ?_ (.sym _ (QU _)) S ?_ ?_ ?_⟩
 ·exact .sym _ _ (by simp [zA]) l.one
 ·intro j vi h;rw [Vecs.qg] at h;split at h
  ·rename_i e;subst e;cases h;refine .inr ⟨QU _,⟨I,.inr ⟨E'.ρ h',str,cs,cp,ex,by simp,?_,?_,u,hl,F⟩⟩,λ z i off e=>(by cases e),λ _ b' y=>?_⟩
   ·exact (O.vh.obj _ f).bk u
   ·simpa [zA] using l
   ·simp only [if_true,QJ] at y;subst y;refine ⟨O.vh.nz _ f,λ p M e=>?_,?_⟩
    ·obtain ⟨q1,J⟩:=t p M;rw [←O.agree p.1 (s.hr.qC p M)] at e;exact J (O.vh.inj p q1 _ f e)
    ·rcases O.own _ f with ⟨q,L,e⟩ | h | h
     ·exfalso
      obtain ⟨q1,J⟩:=t q L;rw [←O.agree q.1 (s.hr.qC q L)] at e;exact J (O.vh.inj q q1 _ f e)
     ·exact .inl h
     ·exact .inr h
  ·refine .inl ⟨(g j vi h).1,λ C=>⟨?_,(g j vi h).2 C⟩⟩
   simp [r j vi h]
 ·intro j T vi A X U h3 W Y h6;have key:∀j vi,Vecs.get ((st.mv,VI.vec sz es)::V0) j=some vi->vi.qz=true->¬(st.V.get j=some vi/\(if j=st.mv then some (E'.ρ h') else β j)=β j/\∀b o,xb=some (b,o)->β j≠some b)->j=st.mv:=by
   intro j vi h C hn;rw [Vecs.qg] at h;split at h
   ·rename_i e;exact e.symm
   ·exact absurd ⟨(g j vi h).1,by simp [r j vi h],(g j vi h).2 C⟩ hn
  rw [key j vi X h3 Y,key T A U W h6]
 ·intro z aa B N h;rw [Vecs.qg] at h;split at h
  ·omega
  ·exact ⟨by simp [show z≠st.mv by omega],B,(g z _ h).1,rfl⟩
theorem OutW.vU (s:SR G nt E w a β st) {E':Env} {w':World} {H':Heap} {v:AV} {cv:Value} (O:OutW G E w st none E' w' H' v cv)
  {V0:Vecs} (c:∀j vi,V0.get j=some vi->st.V.get j=some vi) {sz:Nat} (L:v=.qa) {d:Option Nat} (y:∀n,d=some n->n<nt):
  ∃x u,SR G nt (zA E E' st.mv x) w' (a.put d cv) u ⟨qv st.fr d (.sym st.mv),st.H,(st.mv,.vec sz [])::V0,st.m,st.mv+1⟩/\Kp E.Z (BS E β st.H st.V) w (zA E E' st.mv x).Z (BS (zA E E' st.mv x) u st.H ((st.mv,.vec sz [])::V0)) w':=by
 subst L;have g:cv=.slice none 0 0:=by cases O.hv;rfl
 have f:∀j vi,V0.get j=some vi->j≠st.mv:=λ j vi h=>by have:=(s.qU j vi (c j vi h)).1;omega
 refine ⟨cv,λ j=>if j=st.mv then none else β j,O.sr s (λ b o e=>(by cases e)) cv _ (st.mv+1) _ (QY _) ?_ (.sym _ (QU _)) y ?_ ?_ ?_⟩
 ·exact .sym _ _ (by simp [zA]) (by rw [g];rfl)
 ·intro j vi h;rw [Vecs.qg] at h;split at h
  ·rename_i e;subst e;cases h;exact .inr ⟨QU _,⟨λ e J=>(by cases J),.inl ⟨by simp,by simp [zA,g],rfl⟩⟩,λ r i off e=>(by cases e),λ _ M q=>(by simp at q)⟩
  ·exact .inl ⟨c j vi h,λ R=>⟨by simp [f j vi h],λ b o e=>(by cases e)⟩⟩
 ·intro j z vi l B A S N C I;have key:∀j vi,Vecs.get ((st.mv,VI.vec sz [])::V0) j=some vi->¬(st.V.get j=some vi/\(if j=st.mv then none else β j)=β j/\∀b o,(none:XB)=some (b,o)->β j≠some b)->j=st.mv:=by
   intro j vi h F;rw [Vecs.qg] at h;split at h
   ·rename_i e;exact e.symm
   ·exact absurd ⟨c j vi h,by simp [f j vi h],λ b o e=>by cases e⟩ F
  rw [key j vi B C,key z l A I]
 ·intro r D p t h;rw [Vecs.qg] at h;split at h
  ·omega
  ·exact ⟨by simp [show r≠st.mv by omega],p,c r _ h,rfl⟩
theorem OutW.wU (s:SR G nt E w a β st) {xb:XB} {E':Env} {w':World} {H':Heap} {v:AV} {cv:Value} (O:OutW G E w st xb E' w' H' v cv) (t:∀b o,xb=some (b,o)->(st.m,o)∈H'/\∃j vi,st.V.get j=some vi/\vi.qz=true/\β j=some b)
  (g:∀j vi b o,st.V.get j=some vi->vi.qz=true->xb=some (b,o)->β j=some b->VOK (zA E E' st.mv undef) w' st.V β j vi) (u:∀b o,xb=some (b,o)->∀p∈st.H,E.ρ p.1≠b) (B:PP v) {d:Option Nat} (C:∀n,d=some n->n<nt):
  SR G nt (zA E E' st.mv undef) w' (a.put d cv) β ⟨qv st.fr d v,st.H,st.V,st.m,st.mv⟩/\Kp E.Z (BS E β st.H st.V) w (zA E E' st.mv undef).Z (BS (zA E E' st.mv undef) β st.H st.V) w':=by
 refine O.sr s (λ b o e=>(t b o e).2) undef st.V st.mv β (QB _) (O.hv.bk B) B.cp C ?_ ?_ ?_
 ·intro j vi h;by_cases r:vi.qz=true/\∃b o,xb=some (b,o)/\β j=some b
  ·obtain ⟨r,b,o,e,f⟩:=r;refine .inr ⟨(s.qU j vi h).1,g j vi b o h r e f,λ N i off e=>(by subst e;cases r),λ _ D c=>?_⟩
   rw [f] at c;cases c;have l:=O.vh.nz _ (t b o e).1;rw [O.wY b o e] at l;exact ⟨l,u b o e,.inl ⟨b,o,e,rfl⟩⟩
  ·exact .inl ⟨h,λ x=>⟨rfl,λ b o e f=>r ⟨x,b,o,e,f⟩⟩⟩
 ·intro j y vi q l z J F I M;have key:∀j vi,st.V.get j=some vi->¬(st.V.get j=some vi/\β j=β j/\∀b o,xb=some (b,o)->β j≠some b)->∃b o,xb=some (b,o)/\β j=some b:=by
   intro j vi h L;apply Classical.byContradiction;intro hc;exact L ⟨h,rfl,λ b o e f=>hc ⟨b,o,e,f⟩⟩
  obtain ⟨b,o,e,f⟩:=key j vi l I;obtain ⟨D,R,A,c⟩:=key y q z M;rw [e] at A;cases A;exact s.qT j y vi q b l z J F f c
 ·intro N sz es _ h;exact ⟨rfl,es,h,rfl⟩
theorem OutW.v7 (s:SR G nt E w a β st) {xb:XB} {E':Env} {w':World} {H':Heap} {v:AV} {cv:Value} (O:OutW G E w st xb E' w' H' v cv) (t:∀b o,xb=some (b,o)->(st.m,o)∈H'/\∃j vi,st.V.get j=some vi/\vi.qz=true/\β j=some b)
  (l:∀j vi b o,st.V.get j=some vi->vi.qz=true->xb=some (b,o)->β j=some b->VOK (zA E E' st.mv cv) w' st.V β j vi) (C:∀b o,xb=some (b,o)->∀p∈st.H,E.ρ p.1≠b) {q i off u:Nat} {x:List AV} (y:st.V.get q=some (.vec u x)) (hi:i<x.length) {D:Nat} (F:β q=some D)
  (A:cv=.pointer (some ⟨D,i*u+off,none⟩)) {d:Option Nat} (U:∀n,d=some n->n<nt):
  SR G nt (zA E E' st.mv cv) w' (a.put d cv) β ⟨qv st.fr d (.sym st.mv),st.H,(st.mv,.qS q i off)::st.V,st.m,st.mv+1⟩/\Kp E.Z (BS E β st.H st.V) w (zA E E' st.mv cv).Z (BS (zA E E' st.mv cv) β st.H ((st.mv,.qS q i off)::st.V)) w':=by
 have L:=(s.qU q _ y).1;refine O.sr s (λ b o e=>(t b o e).2) cv _ (st.mv+1) β (QY _) (.sym _ _ (by simp [zA]) (by rw [A];rfl)) (.sym _ (QU _)) U ?_ ?_ ?_
 ·intro j vi h;rw [Vecs.qg] at h;split at h
  ·rename_i e;subst e;cases h;refine .inr ⟨QU _,?_,λ T i2 R e=>(by cases e;omega),λ c=>(by cases c)⟩
   intro sz es z;rw [Vecs.qg,if_neg (by omega),y] at z
   cases z;exact ⟨hi,D,F,by simp [zA,A]⟩
  ·by_cases c:vi.qz=true/\∃b o,xb=some (b,o)/\β j=some b
   ·obtain ⟨c,b,o,e,g⟩:=c;refine .inr ⟨Nat.lt_succ_of_lt (s.qU j vi h).1,?_,λ T i off e=>(by subst e;cases c),λ _ Y f=>?_⟩
    ·have:=l j vi b o h c e g;cases vi with
     | qS=>cases c
     | _=>exact this
    ·rw [g] at f;cases f;have B:=O.vh.nz _ (t b o e).1;rw [O.wY b o e] at B;exact ⟨B,C b o e,.inl ⟨b,o,e,rfl⟩⟩
   ·exact .inl ⟨h,λ I=>⟨rfl,λ b o e g=>c ⟨I,b,o,e,g⟩⟩⟩
 ·intro j J vi r B X S M h5 h6;have key:∀j vi,Vecs.get ((st.mv,VI.qS q i off)::st.V) j=some vi->vi.qz=true->¬(st.V.get j=some vi/\β j=β j/\∀b o,xb=some (b,o)->β j≠some b)->st.V.get j=some vi/\∃b o,xb=some (b,o)/\β j=some b:=by
   intro j vi h c hn;rw [Vecs.qg] at h;split at h
   ·cases h;cases c
   ·refine ⟨h,Classical.byContradiction λ hc=>hn ⟨h,rfl,λ b o e g=>hc ⟨b,o,e,g⟩⟩⟩
  obtain ⟨g1,b,o,e,g⟩:=key j vi B S h5;obtain ⟨g2,Y,o',N,f⟩:=key J r X M h6;rw [e] at N;cases N;exact s.qT j J vi r b g1 g2 S M g f
 ·intro T sz es W h;rw [Vecs.qg,if_neg (by omega)] at h
  exact ⟨rfl,es,h,rfl⟩
theorem OutW.replace (s:SR G nt E w a β st) {u:Nat} {C:HO} {E':Env} {w':World} {H':Heap} {v:AV} {cv:Value} (O:OutW G E w st (some (u,C)) E' w' H' v cv) {c:Nat} {g vi1:VI} (l:st.V.get c=some g) (q:g.qz=true) (p:β c=some u)
  (L:vi1.qz=true) (x:VOK (zA E E' st.mv undef) w' ((c,vi1)::st.V.del c) β c vi1) {o1:HO} (A:(st.m,o1)∈H') (y:∀sz es,vi1=.vec sz es->∃r,g=.vec sz r/\r.length=es.length) (M:PP v) {d:Option Nat} (N:∀n,d=some n->n<nt):
  SR G nt (zA E E' st.mv undef) w' (a.put d cv) β ⟨qv st.fr d v,st.H,(c,vi1)::st.V.del c,st.m,st.mv⟩/\Kp E.Z (BS E β st.H st.V) w (zA E E' st.mv undef).Z (BS (zA E E' st.mv undef) β st.H ((c,vi1)::st.V.del c)) w':=by
 have F:=s.bz c g u l q p;refine O.sr s (λ b o e=>(by cases e;exact ⟨c,g,l,q,p⟩)) undef _ st.mv β (QB _) (O.hv.bk M) M.cp N ?_ ?_ ?_
 ·intro j t h;rw [Vecs.qg] at h;split at h
  ·rename_i e;subst e;cases h;refine .inr ⟨(s.qU _ _ l).1,x,λ j2 i off e=>(by subst e;cases L),λ _ b' z=>?_⟩
   rw [p] at z;cases z;have B:=O.vh.nz _ A;rw [O.wY u C rfl] at B;exact ⟨B,F.2,.inl ⟨u,C,rfl,rfl⟩⟩
  ·rename_i f;rw [Vecs.qQ,if_neg f] at h;refine .inl ⟨h,λ J=>⟨rfl,λ b o e D=>?_⟩⟩
   cases e;exact f (s.qT c j g t u l h q J p D)
 ·intro j R t I B T Y U W h6;have key:∀j t,Vecs.get ((c,vi1)::st.V.del c) j=some t->t.qz=true->¬(st.V.get j=some t/\β j=β j/\∀b o,(some (u,C):XB)=some (b,o)->β j≠some b)->j=c:=by
   intro j t h J hn;rw [Vecs.qg] at h;split at h
   ·rename_i e;exact e.symm
   ·rename_i f;rw [Vecs.qQ,if_neg f] at h;refine absurd ⟨h,rfl,λ b o e D=>?_⟩ hn
    cases e;exact f (s.qT c j g t u l h q J p D)
  rw [key j t B Y W,key R I T U h6]
 ·intro j2 sz es S h;rw [Vecs.qg] at h;split at h
  ·rename_i e;subst e;cases h;obtain ⟨r,e1,X⟩:=y sz es rfl;exact ⟨rfl,r,by rw [l,e1],X⟩
  ·rename_i f;rw [Vecs.qQ,if_neg f] at h;exact ⟨rfl,es,h,rfl⟩
end
end Go.Sy
namespace Go.Sy
section
variable {P:Program} {G:Cx} {nt:Nat} {E:Env} {w:World} {a:Act} {β:Nat->Option Nat} {st:Sta}
 {Z0 B0:Nat->Prop} {w0:World} {dl:List Deferred} {o:Oper} {k:AV->Sta->Prop}
theorem zFy {H:Heap} {h:Nat} {o:HO}:Heap.get ((h,o)::H) h=some o:=by simp only [Heap.get,Nat.beq_refl]
theorem zCy {n k:Nat} {e:AV} (d:e.flat=true) (h:∀c∈e.cells,CP n k c):CP n k e:=by
 cases e with
 | agg cs=>exact .agg _ h
 | qf cs=>cases d
 | _=>exact h _ (.head _)
theorem zMU {e:AV} (d:e.flat=true) (h:∀c∈e.cells,PP c):PP e:=by
 cases e with
 | agg cs=>exact .agg _ h
 | qf cs=>cases d
 | _=>exact h _ (.head _)
structure Ctx (P:Program) (G:Cx) (nt:Nat) (Z0 B0:Nat->Prop) (w0:World) (dl:List Deferred) (E:Env) (w:World) (a:Act) (β:Nat->Option Nat) (st:Sta) (o:Oper) (xop:XO):Prop where
 s:SR G nt E w a β st
 kp:Kp Z0 B0 w0 E.Z (BS E β st.H st.V) w
 df:a.defers=dl
 hG:GPP G
 hm:zBe P G
 hc:zB1 P o.op=some xop
 hd:∀n,o.dst=some n->n<nt
 ok:opOK xop=true
theorem zRW {E2:Env} {c:World} {β2:Nat->Option Nat} {st2:Sta} {d:Option Nat} {cv:Value} (h:SR G nt E2 c (a.put d cv) β2 st2/\Kp E.Z (BS E β st.H st.V) w E2.Z (BS E2 β2 st2.H st2.V) c) (f:Kp Z0 B0 w0 E.Z (BS E β st.H st.V) w) (e:a.defers=dl):Rs G nt Z0 B0 w0 dl E2 c (a.put d cv) st2:=
 ⟨β2,h.1,f.trans h.2,by rw [DRun.put_defers];exact e⟩
theorem Ctx.gen {f:XO} (c:Ctx P G nt Z0 B0 w0 dl E w a β st o f) {call:Sy.Call} (d:zFb P G call) {v:AV} {H':Heap} {e:Nat} (hx:xoS G call st.fr st.H st.m f=some (v,H',e)) (i:CP st.mv e v) (g:HCP st.mv e H') (t:k v ⟨st.fr,H',st.V,e,st.mv⟩):
  OpK P G nt Z0 B0 w0 dl o w a k:=by
 intro next Q x;refine zGk c.s.hr c.s.hf c.s.hg c.hm d c.hc (λ h p l r=>by have:=c.s.qC h r;omega) hx next Q λ q E' w' p l u=>?_
 exact x v _ q E' w' t (zRW (st:=st) (st2:=⟨qv st.fr o.dst v,H',st.V,e,st.mv⟩) (c.s.step p l u i g c.hd) c.kp c.df)
theorem Ctx.wy {d:XO} (c:Ctx P G nt Z0 B0 w0 dl E w a β st o d) (e:zKg d=true) (h:WXd st (xoS G ze st.fr st.H st.m d) k):OpK P G nt Z0 B0 w0 dl o w a k:=by
 unfold WXd at h;split at h
 ·rename_i v l p f;obtain ⟨i,g⟩:=zLE e c.ok c.hG c.s.qZ c.s.cH f;exact c.gen zET f i g h
 ·exact h.elim
theorem Ctx.val {d:XO} (c:Ctx P G nt Z0 B0 w0 dl E w a β st o d) {v:AV} (hx:xoS G ze st.fr st.H st.m d=some (v,st.H,st.m)) (e:CP st.mv st.m v) (f:k v st):OpK P G nt Z0 B0 w0 dl o w a k:=
 c.gen zET hx e c.s.cH f
theorem Ctx.ext {d:XO} (c:Ctx P G nt Z0 B0 w0 dl E w a β st o d) {xb:XB} (g:∀b o,xb=some (b,o)->OR E w b o/\¬E.Z b/\∀p∈st.H,E.ρ p.1≠b) {fr':Fr} (e:FrR (extE E st.m xb) w fr' a nt)
  {v:AV} {H':Heap} {n':Nat} (hx:xoS G ze fr' (extH st.H st.m xb) (extN st.m xb) d=some (v,H',n')) (l:∀p∈st.H,p∈H') {v2:AV} {H2:Heap} {V2:Vecs} {m2 mv2:Nat}
  (q:∀cv E' w',OutW G E w st xb E' w' H' v cv->∃E2 β2,SR G nt E2 w' (a.put o.dst cv) β2 ⟨qv st.fr o.dst v2,H2,V2,m2,mv2⟩/\Kp E.Z (BS E β st.H st.V) w E2.Z (BS E2 β2 H2 V2) w') (i:k v2 ⟨st.fr,H2,V2,m2,mv2⟩):OpK P G nt Z0 B0 w0 dl o w a k:=by
 intro next Q f;refine zSR c.s c.hG c.hm g e c.hc hx l next Q λ cv E' w' O=>?_
 obtain ⟨E2,β2,h⟩:=q cv E' w' O;exact f v2 _ cv E2 w' i (zRW (st:=st) (st2:=⟨qv st.fr o.dst v2,H2,V2,m2,mv2⟩) h c.kp c.df)
theorem zCX (s:SR G nt E w a β st) {t j:Nat} (c:st.fr.get t=some (.sym j)) {xb:XB} {X:AV} (d:VR (extE E st.m xb) w X (E.σ j)):FrR (extE E st.m xb) w (st.fr.put t X) a nt:=
 s.hf.uF (zJF s) (by rw [(s.hf.get t _ c).vz];exact d)
structure VecIn (E:Env) (w:World) (st:Sta) (β:Nat->Option Nat) (j sz:Nat) (es:List AV) (b:Nat) (str:Bool) (cs:List AV) (cp:Nat) (ex:Bool):Prop where
 hb:β j=some b
 uJ:OR E w b (.cells str cs)
 row:RowV w b es.length sz cp ex (E.σ j)
 pc:∀c∈cs,PP c
 hl:es.length*sz<=cs.length
 vZ:flatten sz es=some (cs.take (es.length*sz))
theorem zF2 (s:SR G nt E w a β st) {j sz:Nat} {es:List AV} (h:st.V.get j=some (.vec sz es)):(∀e∈es,PP e)/\((β j=none/\E.σ j=.slice none 0 0/\es=[])\/∃b str cs cp ex,VecIn E w st β j sz es b str cs cp ex):=by
 obtain ⟨d,c⟩:=(s.qU j _ h).2;refine ⟨d,c.imp id ?_⟩
 rintro ⟨b,str,cs,cp,ex,q1,q2,q3,q4,q5,q6⟩
 exact ⟨b,str,cs,cp,ex,q1,q2,q3,q4,q5,q6⟩
section
variable {j sz b cp:Nat} {es cs:List AV} {str ex:Bool}
theorem VecIn.xb (s:SR G nt E w a β st) (h:st.V.get j=some (.vec sz es)) (v:VecIn E w st β j sz es b str cs cp ex):∀c o',(some (b,HO.cells str cs):XB)=some (c,o')->OR E w c o'/\¬E.Z c/\∀p∈st.H,E.ρ p.1≠c:=by
 intro c o' e;cases e;have:=s.bz j _ b h rfl v.hb;exact ⟨v.uJ,this.1,this.2⟩
theorem VecIn.uj (h:st.V.get j=some (.vec sz es)) (v:VecIn E w st β j sz es b str cs cp ex):∀c o',(some (b,HO.cells str cs):XB)=some (c,o')->∃j vi,st.V.get j=some vi/\vi.qz=true/\β j=some c:=by
 intro c o' e;cases e;exact ⟨j,_,h,rfl,v.hb⟩
theorem VecIn.vr (v:VecIn E w st β j sz es b str cs cp ex):VR (extE E st.m (some (b,.cells str cs))) w (.row st.m 0 es.length sz cp ex) (E.σ j):=
 v.row.vr (by simp [extE]) (.inr rfl)
theorem VecIn.self (s:SR G nt E w a β st) (i:∀e∈es,PP e) (h:st.V.get j=some (.vec sz es)) (v:VecIn E w st β j sz es b str cs cp ex) {E':Env} {w':World} {H':Heap} {u:AV} {cv:Value} (O:OutW G E w st (some (b,.cells str cs)) E' w' H' u cv) (d:(st.m,HO.cells str cs)∈H') (x:Value):
  ∀c vi f o',st.V.get c=some vi->vi.qz=true->(some (b,HO.cells str cs):XB)=some (f,o')->β c=some f->VOK (zA E E' st.mv x) w' st.V β c vi:=by
 intro c vi f o' g o e p;cases e;have:=s.qT j c _ _ b h g rfl o v.hb p;subst this;rw [h] at g;cases g;have l:=O.vh.obj _ d;rw [O.wY b _ rfl] at l;have q:j≠st.mv:=by have:=(s.qU j _ h).1;omega
 refine ⟨i,.inr ⟨b,str,cs,cp,ex,v.hb,l.bk v.pc,?_,v.pc,v.hl,v.vZ⟩⟩
 have:(zA E E' st.mv x).σ j=E.σ j:=by simp [zA,q]
 rw [this];exact v.row.mono O.qn
theorem VecIn.bz (s:SR G nt E w a β st) (h:st.V.get j=some (.vec sz es)) (v:VecIn E w st β j sz es b str cs cp ex):∀c o',(some (b,HO.cells str cs):XB)=some (c,o')->∀p∈st.H,E.ρ p.1≠c:=λ c o' e=>(v.xb s h c o' e).2.2
end
theorem zWi {x:XV} (c:Ctx P G nt Z0 B0 w0 dl E w a β st o (.wi x)) {j sz:Nat} {es:List AV} (hx:x.ev G st.fr=some (.sym j)) (d:st.V.get j=some (.vec sz es)) (l:k (.int .i64 (.ofNat es.length)) st):OpK P G nt Z0 B0 w0 dl o w a k:=by
 have g:xvOK x=true:=by have:=c.ok;simp only [opOK,XO.qb,zW,QT,QX,List.all_nil] at this;exact this
 obtain ⟨t,rfl,i⟩:=zGS c.hG g hx;obtain ⟨h,⟨z,q,rfl⟩ | ⟨b,str,cs,cp,ex,v⟩⟩:=zF2 c.s d
 ·refine c.ext (xb:=none) (λ b o e=>by cases e) (zCX c.s i (X:=.qa) (xb:=none) (by rw [q];exact .qa)) (v:=.int .i64 (.ofNat 0)) (H':=st.H) (n':=st.m) (by simp only [xoS,zAs];rfl) (λ p f=>f) (λ u E' w' O=>⟨_,_,O.wU c.s (λ b o e=>by cases e) (λ _ _ _ _ _ _ e=>by cases e) (λ b o e=>by cases e) (.int _ _) c.hd⟩) l
 ·refine c.ext (v.xb c.s d) (zCX c.s i v.vr) (v:=.int .i64 (.ofNat es.length)) (H':=(st.m,.cells str cs)::st.H) (n':=st.m+1) (by simp only [xoS,zAs];rfl) (λ p f=>.tail _ f) (λ u E' w' O=>⟨_,_,O.wU c.s (λ r y e=>⟨by cases e;exact .head _,v.uj d r y e⟩) (v.self c.s h d O (.head _) undef) (v.bz c.s d) (.int _ _) c.hd⟩) l
theorem zTW {x i:XV} {sz:Nat} (c:Ctx P G nt Z0 B0 w0 dl E w a β st o (.qB x i sz)) {j:Nat} {es:List AV} (hx:x.ev G st.fr=some (.sym j)) (f:st.V.get j=some (.vec sz es)) {kd:IntKind} {n:Int} (J:i.ev G st.fr=some (.int kd n)) (C:0<=n) (u:n<.ofNat es.length)
  (r:k (.sym st.mv) ⟨st.fr,st.H,(st.mv,.qS j n.toNat 0)::st.V,st.m,st.mv+1⟩):OpK P G nt Z0 B0 w0 dl o w a k:=by
 have h:xvOK x=true:=by have:=c.ok;simp only [opOK,XO.qb,zW,QT,List.all_append,QX,List.all_nil,QA] at this;exact this.1
 obtain ⟨t,rfl,q⟩:=zGS c.hG h hx;obtain ⟨m,rfl⟩:=Int.eq_ofNat_of_zero_le C;have d:m<es.length:=by have u:(m:Int)<(es.length:Int):=u;omega
 rw [Int.toNat_natCast] at r;obtain ⟨l,⟨_,_,rfl⟩ | ⟨b,str,cs,cp,ex,v⟩⟩:=zF2 c.s f
 ·simp at d
 ·have g:=zFe (X:=.row st.m 0 es.length sz cp ex) J q (by simp)
  refine c.ext (v.xb c.s f) (zCX c.s q v.vr) (v:=.ptr st.m (0+m*sz)) (H':=(st.m,.cells str cs)::st.H) (n':=st.m+1) ?_ (λ p D=>.tail _ D) (v2:=.sym st.mv) (λ B E' w' O=>⟨_,_,O.v7 c.s (λ z I e=>⟨by cases e;exact .head _,v.uj f z I e⟩) (v.self c.s l f O (.head _) B) (v.bz c.s f) f d v.hb ?_ c.hd⟩) r
  ·have A:Nat.blt m es.length=true:=by rw [Ql];exact d
   have:zE5 es.length (.int kd (m:Int))=some m:=by
    show (match Nat.blt m es.length with | true=>some m | false=>none)=some m
    rw [A]
   simp only [xoS,zAs,g,Nat.beq_refl,this];rfl
  ·have y:=O.hv;have F:=O.wY b _ rfl;cases y with
   | ptr _ _ L=>rw [F];simp
theorem zPV (c:SR G nt E w a β st) {p j i off sz:Nat} {es:List AV} (h:st.V.get p=some (.qS j i off)) (e:st.V.get j=some (.vec sz es)):∃b str cs cp ex,i<es.length/\E.σ p=.pointer (some ⟨b,i*sz+off,none⟩)/\VecIn E w st β j sz es b str cs cp ex:=by
 obtain ⟨g,b,d,l⟩:=(c.qU p _ h).2 sz es e;obtain ⟨o,⟨f,_,_⟩ | ⟨q,str,cs,cp,ex,v⟩⟩:=zF2 c e
 ·rw [f] at d;cases d
 ·have:=v.hb;rw [d] at this;cases this;exact ⟨b,str,cs,cp,ex,g,l,v⟩
theorem zPW {b off:Nat} {ho:HO} {cv:Value} (h:cv=.pointer (some ⟨b,off,none⟩)):VR (extE E st.m (some (b,ho))) w (.ptr st.m off) cv:=by
 subst h;have:=VR.ptr (E:=extE E st.m (some (b,ho))) (w:=w) st.m off (.inr rfl)
 simpa [extE] using this
theorem zWj {x:XV} {s:Nat} {z:Bool} (c:Ctx P G nt Z0 B0 w0 dl E w a β st o (.load x s z)) {p j i off sz:Nat} {es:List AV} (hx:x.ev G st.fr=some (.sym p)) (r:st.V.get p=some (.qS j i off)) (g:st.V.get j=some (.vec sz es)) {v:AV}
  (l:ldE es i off s z=some v) (C:k v st):OpK P G nt Z0 B0 w0 dl o w a k:=by
 have u:xvOK x=true:=by have:=c.ok;simp only [opOK,XO.qb,zW,QT,QX,List.all_nil] at this;exact this
 obtain ⟨t,rfl,B⟩:=zGS c.hG u hx;obtain ⟨b,str,cs,cp,ex,J,F,f⟩:=zPV c.s r g;have h:=(zF2 c.s g).1;unfold ldE at l;split at l
 rotate_left
 ·cases l
 rename_i e y;have d:=zU9 f.vZ rfl f.hl y l;have q:PP v:=zOg (h e (QF y)).cells l;refine c.ext (f.xb c.s g) (zCX c.s B (X:=.ptr st.m (i*sz+off)) (zPW F)) (v:=v) (H':=(st.m,.cells str cs)::st.H) (n':=st.m+1) ?_ (λ p r=>.tail _ r) (λ I E' w' O=>⟨_,_,O.wU c.s (λ A D e=>⟨by cases e;exact .head _,f.uj g A D e⟩) (f.self c.s h g O (.head _) undef) (f.bz c.s g) q c.hd⟩) C
 simp only [xoS,zAs,xload,extH,zFy,d,extN]
theorem zVa {x:XV} {f:Nat} (c:Ctx P G nt Z0 B0 w0 dl E w a β st o (.qP x f)) {p j i off sz:Nat} {es:List AV} (hx:x.ev G st.fr=some (.sym p)) (h:st.V.get p=some (.qS j i off)) (d:st.V.get j=some (.vec sz es))
  (A:k (.sym st.mv) ⟨st.fr,st.H,(st.mv,.qS j i (off+f))::st.V,st.m,st.mv+1⟩):OpK P G nt Z0 B0 w0 dl o w a k:=by
 have l:xvOK x=true:=by have:=c.ok;simp only [opOK,XO.qb,zW,QT,QX,List.all_nil] at this;exact this
 obtain ⟨t,rfl,y⟩:=zGS c.hG l hx;obtain ⟨b,str,cs,cp,ex,C,F,g⟩:=zPV c.s h d;have q:=(zF2 c.s d).1;refine c.ext (g.xb c.s d) (zCX c.s y (X:=.ptr st.m (i*sz+off)) (zPW F)) (v:=.ptr st.m (i*sz+off+f)) (H':=(st.m,.cells str cs)::st.H) (n':=st.m+1) ?_ (λ p h=>.tail _ h) (v2:=.sym st.mv) (λ z E' w' O=>⟨_,_,O.v7 c.s (λ u D e=>⟨by cases e;exact .head _,g.uj d u D e⟩) (g.self c.s q d O (.head _) z) (g.bz c.s d) d C g.hb ?_ c.hd⟩) A
 ·simp only [xoS,zAs];rfl
 ·have r:=O.hv;have B:=O.wY b _ rfl;cases r with
  | ptr _ _ I=>rw [B,Nat.add_assoc]
theorem zVb {x y:XV} {sz:Nat} (c:Ctx P G nt Z0 B0 w0 dl E w a β st o (.store x y sz)) {p j i:Nat} {es:List AV} (hx:x.ev G st.fr=some (.sym p)) (z:st.V.get p=some (.qS j i 0)) (r:st.V.get j=some (.vec sz es)) {v:AV} {new:List AV}
  (Y:y.ev G st.fr=some v) (f:PP v) (C:cellsOf v sz=some new) (T:k (.qf []) ⟨st.fr,st.H,(j,.vec sz (es.set i v))::st.V.del j,st.m,st.mv⟩):OpK P G nt Z0 B0 w0 dl o w a k:=by
 have D:xvOK x=true:=by have:=c.ok;simp only [opOK,XO.qb,zW,QT,List.all_append,QX,List.all_nil,QA] at this;exact this.1
 obtain ⟨t,rfl,N⟩:=zGS c.hG D hx;obtain ⟨b,str,cs,cp,ex,R,I,d⟩:=zPV c.s z r;have F:=(zF2 c.s r).1;have I:E.σ p=.pointer (some ⟨b,i*sz,none⟩):=I;have B:=zFe (X:=.ptr st.m (i*sz)) Y N (by intro e;rw [e] at f;cases f)
 obtain ⟨W,A,_⟩:=zO C;have M:i*sz+sz<=es.length*sz:=by rw [←Nat.succ_mul];exact Nat.mul_le_mul_right _ R
 have l:(qm cs (i*sz) new).length=cs.length:=by
  have:=d.hl;simp only [qm,QC,Qm,Qr];omega
 have g:flatten sz (es.set i v)=some ((qm cs (i*sz) new).take (es.length*sz)):=by
  rw [zMS C d.vZ R];congr 1;have:=d.hl;simp only [qm];rw [List.take_append,List.take_append,List.take_take,List.drop_take];simp only [QC,Qm,List.take_take];congr 1
  ·congr 1
   ·congr 1;omega
   ·rw [List.take_of_length_le (by omega)]
  ·congr 1;omega
 have q:∀c∈qm cs (i*sz) new,PP c:=λ c hc=>(zIv hc).elim (d.pc c) λ h=>by rw [←A] at h;exact f.cells c h
 have u:∀e∈es.set i v,PP e:=λ e J=>(List.mem_or_eq_of_mem_set J).elim (F e) λ h=>h▸f
 refine c.ext (d.xb c.s r) (zCX c.s N (X:=.ptr st.m (i*sz)) (zPW I)) (v:=.qf []) (H':=(st.m,.cells str (qm cs (i*sz) new))::st.H) (n':=st.m+1) ?_ (λ p z=>.tail _ z) (λ cv E' w' O=>⟨_,_,O.replace c.s r rfl d.hb (vi1:=.vec sz (es.set i v)) rfl ?_ (.head _) (λ aa U e=>by cases e;exact ⟨es,rfl,by simp⟩) (.qf _ λ e J=>by cases J) c.hd⟩) T
 ·have L:Nat.ble (i*sz+sz) cs.length=true:=by rw [Qs];have:=d.hl;omega
  simp only [xoS,zAs,B,extH,zFy,C,L,Heap.put,Nat.beq_refl,extN]
 ·have S:=O.vh.obj _ (.head _);rw [O.wY b _ rfl] at S;have hj:j≠st.mv:=by have:=(c.s.qU j _ r).1;omega
  refine ⟨u,.inr ⟨b,str,_,cp,ex,d.hb,S.bk q,?_,q,by rw [List.length_set,l];exact d.hl,by rw [List.length_set];exact g⟩⟩
  have:(zA E E' st.mv undef).σ j=E.σ j:=by simp [zA,hj]
  rw [this,List.length_set];exact d.row.mono O.qn
theorem zGT {sz:Nat} {es f:List AV} (h:flatten sz es=some f) (i:∀e∈es,PP e):∀c∈f,PP c:=by
 induction es generalizing f with
 | nil=>cases h;intro c hc;cases hc
 | cons e r p=>
  simp only [flatten] at h;split at h
  ·rename_i c hc;split at h
   ·rename_i cs g;cases h;intro x d;rcases QI.1 d with d | d
    ·obtain ⟨_,l,_⟩:=zO hc;rw [←l] at d;exact (i e (.head _)).cells x d
    ·exact p g (λ e o=>i e (.tail _ o)) x d
   ·cases h
  ·cases h
theorem Ctx.ug {d:XO} (c:Ctx P G nt Z0 B0 w0 dl E w a β st o d) {sz cp:Nat} {str ex:Bool} {cs es:List AV} (hx:xoS G ze st.fr st.H st.m d=some (.row st.m 0 es.length sz cp ex,(st.m,.cells str cs)::st.H,st.m+1)) (l:∀e∈es,PP e) (i:∀c∈cs,PP c) (r:es.length*sz<=cs.length) (g:flatten sz es=some (cs.take (es.length*sz)))
  (q:k (.sym st.mv) ⟨st.fr,st.H,(st.mv,.vec sz es)::st.V,st.m,st.mv+1⟩):OpK P G nt Z0 B0 w0 dl o w a k:=by
 refine c.ext (xb:=none) (λ b o e=>by cases e) c.s.hf hx (λ p f=>.tail _ f) (λ u E' w' O=>?_) q
 obtain ⟨x,t,h⟩:=O.wX c.s (λ b o e=>by cases e) (V0:=st.V) (λ j v h=>⟨h,λ _ b o e=>by cases e⟩) (.head _) (λ p f=>⟨.tail _ f,λ e=>by have:=c.s.qC p.1 (c.s.hr.qC p f);omega⟩) rfl l i r g c.hd
 exact ⟨_,t,h⟩
theorem zWL {x:XV} (c:Ctx P G nt Z0 B0 w0 dl E w a β st o (.vu x)) {s:List Nat} (hx:x.ev G st.fr=some (.str s)) (f:k (.sym st.mv) ⟨st.fr,st.H,(st.mv,.vec 1 (s.map λ b=>.int .u8 (.ofNat b)))::st.V,st.m,st.mv+1⟩):OpK P G nt Z0 B0 w0 dl o w a k:=by
 have d:∀e∈s.map λ b=>AV.int .u8 (.ofNat b),PP e:=λ e g=>by
  obtain ⟨b,_,rfl⟩:=Qf.1 g;exact .int _ _
 refine c.ug (sz:=1) (cp:=s.length) (str:=true) (ex:=false) (cs:=s.map λ b=>.int .u8 (.ofNat b)) ?_ d d (by simp) ?_ f
 ·simp only [xoS,hx,Qb]
 ·rw [zGd,List.take_of_length_le (by simp)]
theorem zTX {len sz:Nat} {z:List AV} {r:List (Nat×Nat×XV)} (c:Ctx P G nt Z0 B0 w0 dl E w a β st o (.qD len sz z r)) {cs es:List AV} (u:fillx G st.fr z r=some cs) (t:cs.length=len*sz) (J:zEe sz len cs=some es) (F:es.all (ppS 12)=true)
  (A:k (.sym st.mv) ⟨st.fr,st.H,(st.mv,.vec sz es)::st.V,st.m,st.mv+1⟩):OpK P G nt Z0 B0 w0 dl o w a k:=by
 obtain ⟨N,p,R,B,h⟩:=zAm J;have f:=c.ok;simp only [opOK,XO.qb,QA] at f;have D:z.all (zAU 12)=true:=f.2;have l:∀q∈cs,CP st.mv st.m q:=zIY c.hG c.s.qZ (by simpa [List.all_map] using f.1) (λ q hc=>(zBz 12 (QG.1 D q hc)).cp) u
 have g:∀e∈es,PP e:=by
  intro e y;obtain ⟨i,L⟩:=List.getElem?_of_mem y;obtain ⟨q1,M⟩:=zY h;obtain ⟨O,I,C⟩:=zO (M i e L);refine zC3 (n:=st.mv) (k:=st.m) 12 (zCy C λ x v=>l x ?_) (QG.1 F e y)
  rw [I] at v;exact QP (QW (QP v))
 have d:cs.take (len*sz)=cs:=List.take_of_length_le (by omega)
 refine c.ug (sz:=sz) (cp:=len) (str:=false) (ex:=true) (cs:=cs) ?_ g ?_ (by rw [p];exact B) (by rw [p];exact h) A
 ·simp only [xoS,u,p]
 ·rw [d] at h;exact zGT h g
theorem zSS {l t:XV} {sz bytes:Nat} {z:List AV} (c:Ctx P G nt Z0 B0 w0 dl E w a β st o (.qK l t sz bytes z)) {A J:IntKind} {n m:Int} {e:AV} (R:l.ev G st.fr=some (.int A n)) (q:t.ev G st.fr=some (.int J m)) (S:zEe sz 1 z=some [e]) (F:z.length=sz)
  (C:0<=n) (f:n<=m) (B:m.toNat*bytes<=zg) (I:m.toNat<=zg) (D:k (.sym st.mv) ⟨st.fr,st.H,(st.mv,.vec sz (List.replicate n.toNat e))::st.V,st.m,st.mv+1⟩):OpK P G nt Z0 B0 w0 dl o w a k:=by
 obtain ⟨n,rfl⟩:=Int.eq_ofNat_of_zero_le C;obtain ⟨m,rfl⟩:=Int.eq_ofNat_of_zero_le (Int.le_trans C f);rw [Int.toNat_natCast] at B I D;have f:n<=m:=by omega
 obtain ⟨q1,q2,X,Y,O⟩:=zAm S;have g:=c.ok;simp only [opOK,XO.qb,QA] at g;have u:z.all (zAU 12)=true:=g.2;have i:∀d∈z,PP d:=λ d hc=>zBz 12 (QG.1 u d hc)
 have p:cellsOf e sz=some z:=by
  have:=(zY O).2 0 e rfl;rw [this,Nat.zero_mul,List.drop_zero,List.take_take,Nat.one_mul,Nat.min_self,List.take_of_length_le (by omega)]
 have r:PP e:=by
  obtain ⟨_,M,W⟩:=zO p;exact zMU W λ x y=>i x (by rw [←M];exact y)
 have h:∀d∈rep m z,PP d:=by
  have:∀m,∀d∈rep m z,PP d:=by
   intro m
   induction m with
   | zero=>intro d hc;cases hc
   | succ m U=>intro d hc;exact (QI.1 hc).elim (i d) (U d)
  exact this m
 refine c.ug (sz:=sz) (cp:=m) (str:=false) (ex:=true) (cs:=rep m z) ?_ (λ x y=>by rw [(List.mem_replicate.1 y).2];exact r) h ?_ ?_ D
 ·have L:Nat.ble n m=true:=by rw [Qs];exact f
  have T:Nat.ble (m*bytes) zg=true:=by rw [Qs];exact B
  have N:Nat.ble m zg=true:=by rw [Qs];exact I
  have v:l.ev G st.fr=some (.int A (.ofNat n)):=R;have s:t.ev G st.fr=some (.int J (.ofNat m)):=q;simp only [xoS,v,s,L,T,N,List.length_replicate]
 ·rw [List.length_replicate,zNN,F];exact Nat.mul_le_mul_right _ f
 ·rw [zIj p,List.length_replicate,←F,zPU z f]
theorem zVc (c:Ctx P G nt Z0 B0 w0 dl E w a β st o .wj) (F:k (.sym st.mv) ⟨st.fr,st.H,(st.mv,.mp [])::st.V,st.m,st.mv+1⟩):OpK P G nt Z0 B0 w0 dl o w a k:=by
 refine c.ext (xb:=none) (λ b o e=>by cases e) c.s.hf (v:=.map st.m) (H':=(st.m,.map [])::st.H) (n':=st.m+1) rfl (λ p f=>.tail _ f) (v2:=.sym st.mv) (λ z E' w' O=>?_) F
 have g:∀j d,st.V.get j=some d->j≠st.mv:=λ j d h=>by have:=(c.s.qU j d h).1;omega
 have t:z=.map (some (E'.ρ st.m)):=by cases O.hv;rfl
 have l:∀p∈st.H,p.1≠st.m:=λ p f e=>by have:=c.s.qC p.1 (c.s.hr.qC p f);omega
 refine ⟨_,λ j=>if j=st.mv then some (E'.ρ st.m) else β j,O.sr c.s (λ b o e=>by cases e) z _ (st.mv+1) _ (QY _) (.sym _ _ (by simp [zA]) (by rw [t];rfl)) (.sym _ (QU _)) c.hd ?_ ?_ ?_⟩
 ·intro j d h;rw [Vecs.qg] at h;split at h
  ·rename_i e;subst e;cases h;refine .inr ⟨QU _,⟨λ p f=>(by cases f),E'.ρ st.m,by simp,(O.vh.obj _ (.head _)).uI (λ p f=>by cases f),by simp [zA,t]⟩,λ B i off e=>(by cases e),λ _ R r=>?_⟩
   simp only [if_true,QJ] at r;subst r;refine ⟨O.vh.nz _ (.head _),λ p f e=>?_,?_⟩
   ·rw [←O.agree p.1 (c.s.hr.qC p f)] at e;exact l p f (O.vh.inj p (.tail _ f) _ (.head _) e)
   ·rcases O.own _ (.head _) with ⟨q,u,e⟩ | h | h
    ·exfalso
     rw [←O.agree q.1 (c.s.hr.qC q u)] at e;exact l q u (O.vh.inj q (.tail _ u) _ (.head _) e)
    ·exact .inl h
    ·exact .inr h
  ·exact .inl ⟨h,λ T=>⟨by simp [g j d h],λ b o e=>(by cases e)⟩⟩
 ·intro j C d x I D U S J N;have key:∀j d,Vecs.get ((st.mv,VI.mp [])::st.V) j=some d->¬(st.V.get j=some d/\(if j=st.mv then some (E'.ρ st.m) else β j)=β j/\∀b o,(none:XB)=some (b,o)->β j≠some b)->j=st.mv:=by
   intro j d h M;rw [Vecs.qg] at h;split at h
   ·rename_i e;exact e.symm
   ·exact absurd ⟨h,by simp [g j d h],λ b o e=>by cases e⟩ M
  rw [key j d I J,key C x D N]
 ·intro B L y A h;rw [Vecs.qg,if_neg (by omega)] at h
  exact ⟨by simp [show B≠st.mv by omega],y,h,rfl⟩
end
end Go.Sy
namespace Go.Sy
section
variable {P:Program} {G:Cx} {nt:Nat} {E:Env} {w:World} {a:Act} {β:Nat->Option Nat} {st:Sta}
 {Z0 B0:Nat->Prop} {w0:World} {dl:List Deferred} {o:Oper} {k:AV->Sta->Prop}
theorem zQN {n m sz:Nat} {H:Heap} {o:HO} {u:AV} (c:CP n m u):content ((m,o)::H) sz u=content H sz u:=by
 cases c with
 | row h _ _ _ _ _ d=>
  have:Nat.beq m h=false:=by
   cases hb:Nat.beq m h with
   | false=>rfl
   | true=>have:=zb hb;omega
  simp only [content,Heap.get,this]
 | _=>rfl
theorem zQO {cs c:List AV} {n:Nat} (h:n<=cs.length):(qm cs n c).take (n+c.length)=cs.take n++c:=by
 unfold qm;rw [List.take_append_of_le_length (by simp;omega),List.take_of_length_le (by simp;omega)]
theorem zRX {cs c:List AV} {n:Nat} (h:n<=cs.length):n+c.length<=(qm cs n c).length:=by
 simp only [qm,QC,Qm,Qr];omega
theorem zOI {x y:XV} {sz bytes:Nat} (c:Ctx P G nt Z0 B0 w0 dl E w a β st o (.append x y sz bytes)) {u:AV} {l:List AV} (L:zLC y=false) (A:y.ev G st.fr=some u) (d:zCC st.H sz u=some l) (f:(zMg u||ppS 12 (.agg l))=true):
  ∃q,flatten sz l=some q/\content st.H sz u=some (l.length,q)/\q.length=l.length*sz/\(∀e∈l,PP e)/\CP st.mv st.m u:=by
 have B:xvOK x=true/\xvOK y=true:=by have:=c.ok;simp only [opOK,XO.qb,zW,QT,List.all_append,QX,List.all_nil,QA] at this;exact this
 have r:CP st.mv st.m u:=zR c.hG c.s.qZ B.2 A;obtain ⟨q,C,v,F⟩:∃q,flatten sz l=some q/\content st.H sz u=some (l.length,q)/\q.length=l.length*sz:=by
  cases y with
  | t n=>exact zLe (c.s.hf.get n u A) d
  | g n=>exact zLe (c.s.hg n u A).1 d
  | c M=>
   have A:M=u:=by simpa [XV.ev] using A
   subst A;cases M with
   | qa=>cases d;exact ⟨[],rfl,rfl,by simp⟩
   | qp=>cases L
   | row=>exact absurd B.2 (by simp [xvOK,zAU])
   | str s=>
    simp only [zCC] at d;split at d
    ·rename_i R;cases d;have U:=zb R;subst U;exact ⟨_,zGd s,by simp [content],by simp⟩
    ·cases d
   | _=>cases d
 refine ⟨q,C,v,F,?_,r⟩
 rw [Bool.or_eq_true] at f;rcases f.symm with f | f
 ·
  have D:CP st.mv st.m (.agg l):=by
   refine .agg _ λ e p=>?_
   cases u with
   | qa=>cases d;cases p
   | qp I es=>
    simp only [zCC] at d;split at d
    ·cases d;cases r with
     | qp _ _ h=>exact (h e p).cp
    ·cases d
   | row=>
    simp only [zCC] at d;split at d
    ·split at d
     ·rename_i str cs S;split at d
      ·obtain ⟨_,q2,_,q4,W⟩:=zAm d;obtain ⟨i,Y⟩:=List.getElem?_of_mem p;obtain ⟨r1,r2⟩:=zY W;obtain ⟨r3,T,V⟩:=zO (r2 i e Y);obtain ⟨N,X,e1,J⟩:=c.s.cH.get S;cases e1;refine zCy V λ z O=>J z ?_
       rw [T] at O;exact QW (QP (QW (QP O)))
      ·cases d
     ·cases d
    ·cases d
   | str s=>
    simp only [zCC] at d;split at d
    ·cases d;obtain ⟨b,_,rfl⟩:=Qf.1 p;exact .int _ _
    ·cases d
   | _=>cases d
  have:=zC3 12 D f;cases this with
  | agg _ h=>exact h
 ·cases u with
  | qp I es=>
   simp only [zCC] at d;split at d
   ·cases d;cases r with
    | qp _ _ h=>exact h
   ·cases d
  | _=>cases f
theorem zLG {x y:XV} {sz bytes:Nat} (c:Ctx P G nt Z0 B0 w0 dl E w a β st o (.append x y sz bytes)) {u:AV} {t:List AV} (C:zLC y=false) {fr':Fr} (i:FrR E w fr' a nt) (hx:x.ev G fr'=some .qa) (l:y.ev G fr'=some u) (M:y.ev G st.fr=some u) (U:zCC st.H sz u=some t) (B:(zMg u||ppS 12 (.agg t))=true)
  (J:t.length*bytes<=zg) {V0:Vecs} (q:∀j vi,V0.get j=some vi->st.V.get j=some vi) (F:k (.sym st.mv) ⟨st.fr,st.H,(st.mv,.vec sz t)::V0,st.m,st.mv+1⟩):OpK P G nt Z0 B0 w0 dl o w a k:=by
 obtain ⟨R,g,d,N,r,S⟩:=zOI c C M U B;cases t with
 | nil=>
  refine c.ext (xb:=none) (λ b o e=>by cases e) i (v:=.qa) (H':=st.H) (n':=st.m) ?_ (λ p f=>f) (λ L E' w' O=>?_) F
  ·simp only [xoS,hx,l,xappend,extH,extN,d];rfl
  ·obtain ⟨z,D,h⟩:=O.vU c.s q (sz:=sz) rfl c.hd;exact ⟨_,D,h⟩
 | cons T A=>
  have I:Nat.ble ((A.length+1)*bytes) zg=true:=by rw [Qs];simpa using J
  refine c.ext (xb:=none) (λ b o e=>by cases e) i (v:=.row st.m 0 (A.length+1) sz (A.length+1) false) (H':=(st.m,.cells false R)::st.H) (n':=st.m+1) ?_ (λ p f=>.tail _ f) (λ L E' w' O=>?_) F
  ·simp only [xoS,hx,l,xappend,extH,extN,d,QK,I]
  ·obtain ⟨z,D,h⟩:=O.wX c.s (λ b o e=>by cases e) (V0:=V0) (λ j vi h=>⟨q j vi h,λ _ b o e=>by cases e⟩) (.head _) (λ p f=>⟨.tail _ f,λ e=>by have:=c.s.qC p.1 (c.s.hr.qC p f);omega⟩) (es:=T::A) rfl r (zGT g r) (by omega) (by rw [List.take_of_length_le (by omega)];exact g) c.hd
   exact ⟨_,D,h⟩
theorem zPX {x y:XV} {sz bytes:Nat} (c:Ctx P G nt Z0 B0 w0 dl E w a β st o (.append x y sz bytes)) {u:AV} {j:Nat} {es f:List AV} (ae:zLC y=false) (hx:x.ev G st.fr=some (.sym j)) (hV:st.V.get j=some (.vec sz es)) (hy:y.ev G st.fr=some u) (he:zCC st.H sz u=some f) (ac:(zMg u||ppS 12 (.agg f))=true)
  (hb:(es.length+f.length)*bytes<=zg) (ai:es.length+f.length<=zg) (hk:k (.sym st.mv) ⟨st.fr,st.H,(st.mv,.vec sz (es++f))::st.V.del j,st.m,st.mv+1⟩):OpK P G nt Z0 B0 w0 dl o w a k:=by
 have ag:xvOK x=true:=by have:=c.ok;simp only [opOK,XO.qb,zW,QT,List.all_append,QX,List.all_nil,QA] at this;exact this.1
 obtain ⟨t,rfl,ht⟩:=zGS c.hG ag hx;have M:∀i,u≠.sym i:=λ i e=>by subst e;cases he
 have Y:∀A C,(st.V.del j).get A=some C->st.V.get A=some C/\j≠A:=λ A C h=>by
  rw [Vecs.qQ] at h;split at h
  ·cases h
  ·rename_i r;exact ⟨h,r⟩
 obtain ⟨aq,⟨h1,h2,rfl⟩ | ⟨b,str,cs,cp,ex,v⟩⟩:=zF2 c.s hV
 ·exact zLG c ae (fr':=st.fr.put t .qa) (zCX c.s ht (xb:=none) (by rw [h2];exact .qa)) zAs (zFe hy ht (M j)) hy he ac (by simpa using hb) (λ A C h=>(Y A C h).1) (by simpa using hk)
 ·obtain ⟨q,F,W,ah,U,ao⟩:=zOI c ae hy he ac;have L:=zFe (X:=.row st.m 0 es.length sz cp ex) hy ht (M j);have d:content ((st.m,HO.cells str cs)::st.H) sz u=some (f.length,q):=by rw [zQN ao];exact W
  have aa:∀e∈es++f,PP e:=λ e B=>(QI.1 B).elim (aq e) (U e)
  have S:flatten sz (es++f)=some (cs.take (es.length*sz)++q):=flatten_append v.vZ F;have N:(es++f).length*sz=es.length*sz+q.length:=by rw [QC,Nat.add_mul,ah]
  have ad:∀I∈cs.take (es.length*sz)++q,PP I:=λ I B=>(QI.1 B).elim (λ h=>v.pc I (QP h)) (zGT F U I)
  have c1:Nat.ble (0+es.length*sz) cs.length=true:=by rw [Qs];have:=v.hl;omega
  have J:Nat.ble (es.length*sz) cs.length=true:=by rw [Qs];exact v.hl
  have c2:Nat.ble ((es.length+f.length)*bytes) zg=true:=by rw [Qs];exact hb
  have c3:Nat.ble (es.length+f.length) zg=true:=by rw [Qs];exact ai
  have r:∀p∈st.H,p.1≠st.m/\p.1≠st.m+1:=λ p l=>by have:=c.s.qC p.1 (c.s.hr.qC p l);omega
  have aw:∀A C,(st.V.del j).get A=some C->st.V.get A=some C/\(C.qz=true->∀b' o,(some (b,HO.cells str cs):XB)=some (b',o)->β A≠some b'):=λ A C h=>by
   obtain ⟨q1,q2⟩:=Y A C h;refine ⟨q1,λ ho b' o e ak=>?_⟩
   cases e;exact q2 (c.s.qT j A _ _ b hV q1 rfl ho v.hb ak)
  have au:=zCX c.s ht v.vr;have D:∀{h' cp':Nat} {str' ex':Bool} {cs':List AV} {H':Heap} {n':Nat},xoS G ze (st.fr.put t (.row st.m 0 es.length sz cp ex)) (extH st.H st.m (some (b,.cells str cs))) (extN st.m (some (b,.cells str cs))) (.append (.t t) y sz bytes)=some (.row h' 0 (es.length+f.length) sz cp' ex',H',n') →
    (h',HO.cells str' cs')∈H'->(∀p∈st.H,p∈H'/\p.1≠h')->(∀I∈cs',PP I)->es.length*sz+q.length<=cs'.length->cs'.take (es.length*sz+q.length)=cs.take (es.length*sz)++q->OpK P G nt Z0 B0 w0 dl o w a k:=by
   intro h' cp' str' ex' cs' H' n' aj ab R al hl af;refine c.ext (v.xb c.s hV) au aj (λ p l=>(R p l).1) (λ cv E' w' O=>?_) hk
   obtain ⟨z,β',h⟩:=O.wX c.s (v.uj hV) (V0:=st.V.del j) aw ab R (es:=es++f) (by rw [QC]) aa al (by rw [N];exact hl) (by rw [N,af];exact S) c.hd
   exact ⟨_,β',h⟩
  by_cases g:Nat.ble (es.length+f.length) cp=true
  ·refine D (h':=st.m) (cp':=cp) (str':=str) (ex':=ex) (cs':=qm cs (es.length*sz) q) (H':=(st.m,.cells str (qm cs (es.length*sz) q))::st.H) (n':=st.m+1) ?_ (.head _) (λ p l=>⟨.tail _ l,(r p l).1⟩) (λ I B=>(zIv B).elim (v.pc I) (zGT F U I)) (zRX v.hl) (zQO v.hl)
   simp only [xoS,zAs,L,xappend,extH,extN,d,Nat.beq_refl,zFy,c1,J,c2,c3,g,QT,Heap.put,QV]
  ·have g:Nat.ble (es.length+f.length) cp=false:=Bool.eq_false_iff.2 g;cases ex with
   | true=>
    refine D (h':=st.m+1) (cp':=es.length+f.length) (str':=false) (ex':=false) (cs':=cs.take (es.length*sz)++q) (H':=(st.m+1,.cells false (cs.take (es.length*sz)++q))::(st.m,.cells str cs)::st.H) (n':=st.m+1+1) ?_ (.head _) (λ p l=>⟨.tail _ (.tail _ l),(r p l).2⟩) ad (by have:=v.hl;simp;omega) (by rw [List.take_of_length_le (by simp;omega)])
    simp only [xoS,zAs,L,xappend,extH,extN,d,Nat.beq_refl,zFy,c1,J,c2,c3,g,QT,List.drop_zero]
   | false=>
    by_cases T:f.length=0
    ·have ar:f=[]:=List.eq_nil_of_length_eq_zero T;subst ar;have ax:q=[]:=by cases F;rfl
     subst ax;refine D (h':=st.m) (cp':=cp) (str':=str) (ex':=false) (cs':=cs) (H':=(st.m,.cells str cs)::st.H) (n':=st.m+1) ?_ (.head _) (λ p l=>⟨.tail _ l,(r p l).1⟩) v.pc (by have:=v.hl;simpa using this) (by simp)
     simp only [xoS,zAs,L,xappend,extH,extN,d,Nat.beq_refl,zFy,c1,J,c2,c3,g,QT,QS,Nat.add_zero];simp only [QS,Nat.add_zero] at c2 c3 g;simp only [c2,c3,g,QT]
    ·obtain ⟨n0,T⟩:∃n0,f.length=n0+1:=⟨f.length-1,by omega⟩
     refine D (h':=st.m+1) (cp':=es.length+f.length) (str':=str) (ex':=false) (cs':=cs.take (es.length*sz)++q) (H':=(st.m+1,.cells str (cs.take (es.length*sz)++q))::st.H) (n':=st.m+1+1) ?_ (.head _) (λ p l=>⟨.tail _ l,(r p l).2⟩) ad (by have:=v.hl;simp;omega) (by rw [List.take_of_length_le (by simp;omega)])
     rw [T] at d c2 c3 g ⊢;simp only [xoS,zAs,L,xappend,extH,extN,d,Nat.beq_refl,zFy,c1,J,c2,c3,g,QT,Heap.del]
theorem zWM {x:XV} (c:Ctx P G nt Z0 B0 w0 dl E w a β st o (.vb x)) {j:Nat} {es:List AV} {s:List Nat} (hx:x.ev G st.fr=some (.sym j)) (f:st.V.get j=some (.vec 1 es)) (h:zAN es=some s) (r:k (.str s) st):OpK P G nt Z0 B0 w0 dl o w a k:=by
 have i:xvOK x=true:=by have:=c.ok;simp only [opOK,XO.qb,zW,QT,QX,List.all_nil] at this;exact this
 obtain ⟨t,rfl,q⟩:=zGS c.hG i hx;obtain ⟨l,⟨C,u,rfl⟩ | ⟨b,str,cs,cp,ex,v⟩⟩:=zF2 c.s f
 ·cases h;refine c.ext (xb:=none) (λ b o e=>by cases e) (zCX c.s q (X:=.qa) (xb:=none) (by rw [u];exact .qa)) (v:=.str []) (H':=st.H) (n':=st.m) (by simp only [xoS,zAs,content,zAN];rfl) (λ p g=>g) (λ z E' w' O=>⟨_,_,O.wU c.s (λ b o e=>by cases e) (λ _ _ _ _ _ _ e=>by cases e) (λ b o e=>by cases e) (.str _) c.hd⟩) r
 ·have d:=v.vZ;rw [zIZ h] at d;have d:es=cs.take (es.length*1):=by simpa using d
  have A:Nat.ble (0+es.length*1) cs.length=true:=by rw [Qs];have:=v.hl;omega
  refine c.ext (v.xb c.s f) (zCX c.s q v.vr) (v:=.str s) (H':=(st.m,.cells str cs)::st.H) (n':=st.m+1) ?_ (λ p g=>.tail _ g) (λ z E' w' O=>⟨_,_,O.wU c.s (λ y B e=>⟨by cases e;exact .head _,v.uj f y B e⟩) (v.self c.s l f O (.head _) undef) (v.bz c.s f) (.str _) c.hd⟩) r
  have:content ((st.m,HO.cells str cs)::st.H) 1 (.row st.m 0 es.length 1 cp ex)=some (es.length,es):=by
   simp only [content,Nat.beq_refl,zFy,A,List.drop_zero,←d]
  simp only [xoS,zAs,extH,extN,this,h]
theorem zTY {m x:XV} {L ok:Bool} {kd:List Kd} {z:AV} (c:Ctx P G nt Z0 B0 w0 dl E w a β st o (.lookup L kd m x z ok)) {j:Nat} {es:List (AV×AV)} {C v:AV} (hm:m.ev G st.fr=some (.sym j)) (B:st.V.get j=some (.mp es)) (hx:x.ev G st.fr=some C) (I:zDO L kd C=true)
  (d:lkR ok z (mfind L kd C es)=some v) (hk:k v st):OpK P G nt Z0 B0 w0 dl o w a k:=by
 have F:(xvOK m=true/\xvOK x=true)/\zAU 12 z=true:=by have:=c.ok;simp only [opOK,XO.qb,zW,List.all_append,QX,List.all_nil,QT,QA] at this;exact this
 obtain ⟨t,rfl,W⟩:=zGS c.hG F.1.1 hm;have N:C≠.sym j:=by intro e;subst e;cases I
 obtain ⟨y,b,J,h2,h3⟩:=(c.s.qU j _ B).2;have l:=c.s.bz j _ b B rfl J;have M:=zFe (X:=.map st.m) hx W N;have hj:j≠st.mv:=by have:=(c.s.qU j _ B).1;omega
 have T:PP z:=zBz 12 F.2;have A:∀{es:List (AV×AV)} {u:AV},(∀p∈es,PP p.1/\PP p.2)->mfind L kd C es=some (some u)->PP u:=by
  intro es
  induction es with
  | nil=>intro u _ h;cases h
  | cons q r ih=>
   intro u Y h;simp only [mfind] at h;split at h
   ·cases h;exact (Y _ (.head _)).2
   ·exact ih (λ p y=>Y p (.tail _ y)) h
   ·cases h
 have D:∀(b:Bool) {u:AV},PP u->PP (lkV ok b u):=λ b u g=>by
  cases ok with
  | true=>
   refine .qf _ λ e he=>?_
   simp only [QH,List.not_mem_nil,or_false] at he;rcases he with rfl | rfl
   ·exact g
   ·exact .bool _
  | false=>exact g
 have S:PP v:=by
  unfold lkR at d;split at d
  ·rename_i u g;cases d;exact D true (A y g)
  ·cases d;exact D false T
  ·cases d
 refine c.ext (xb:=some (b,.map es)) (λ R U e=>by cases e;exact ⟨h2,l.1,l.2⟩) (zCX c.s W (X:=.map st.m) (by rw [h3];have:=VR.map (E:=extE E st.m (some (b,.map es))) (w:=w) st.m (.inr rfl);simpa [extE] using this)) (v:=v) (H':=(st.m,.map es)::st.H) (n':=st.m+1) ?_ (λ p y=>.tail _ y)
  (λ cv E' w' O=>⟨_,_,O.wU c.s (λ R U e=>by cases e;exact ⟨.head _,j,_,B,rfl,J⟩) (λ j' vi R U q1 q2 e q3=>?_) (λ R U e=>by cases e;exact l.2) S c.hd⟩) hk
 ·simp only [xoS,zAs,M,I,extH,extN,zFy];unfold lkR at d;split at d
  ·rename_i u g;cases d;simp only [g];cases ok <;> rfl
  ·rename_i g;cases d;simp only [g];cases ok <;> rfl
  ·cases d
 ·cases e;have:=c.s.qT j j' _ _ b B q1 rfl q2 J q3;subst this;rw [B] at q1;cases q1;have hm:=O.vh.obj _ (.head _);rw [O.wY b _ rfl] at hm;exact ⟨y,b,J,hm.uI y,by simp [zA,hj,h3]⟩
theorem zWk {m x y:XV} {N:Bool} {kd:List Kd} (c:Ctx P G nt Z0 B0 w0 dl E w a β st o (.wB N kd m x y)) {j:Nat} {es d:List (AV×AV)} {z u:AV} (hm:m.ev G st.fr=some (.sym j)) (M:st.V.get j=some (.mp es)) (hx:x.ev G st.fr=some z) (hy:y.ev G st.fr=some u) (J:zDO N kd z=true) (aa:ppS 12 z=true) (I:ppS 12 u=true)
  (l:mput N kd z u es=some d) (hk:k (.qf []) ⟨st.fr,st.H,(j,.mp d)::st.V.del j,st.m,st.mv⟩):OpK P G nt Z0 B0 w0 dl o w a k:=by
 have A:(xvOK m=true/\xvOK x=true)/\xvOK y=true:=by have:=c.ok;simp only [opOK,XO.qb,zW,List.all_append,QX,List.all_nil,QT,QA] at this;exact this
 obtain ⟨t,rfl,T⟩:=zGS c.hG A.1.1 hm;have S:z≠.sym j:=by intro e;subst e;cases J
 have B:u≠.sym j:=by intro e;subst e;cases I
 obtain ⟨g,b,Y,h2,h3⟩:=(c.s.qU j _ M).2;have F:=c.s.bz j _ b M rfl Y;have R:=zFe (X:=.map st.m) hx T S;have ab:=zFe (X:=.map st.m) hy T B;have hj:j≠st.mv:=by have:=(c.s.qU j _ M).1;omega
 have L:PP z:=zC3 12 (zR c.hG c.s.qZ A.1.2 hx) aa;have D:PP u:=zC3 12 (zR c.hG c.s.qZ A.2 hy) I;have W:∀{es d:List (AV×AV)},(∀p∈es,PP p.1/\PP p.2)->mput N kd z u es=some d->∀p∈d,PP p.1/\PP p.2:=by
  intro es
  induction es with
  | nil=>intro d _ h p g;cases h;simp only [Qc] at g;subst g;exact ⟨L,D⟩
  | cons q r ih=>
   intro d U h p g;simp only [mput] at h;split at h
   ·cases h;rcases QH.1 g with rfl | g
    ·exact ⟨L,D⟩
    ·exact U p (.tail _ g)
   ·split at h
    ·rename_i r' hr;cases h;rcases QH.1 g with rfl | g
     ·exact U _ (.head _)
     ·exact ih (λ p g=>U p (.tail _ g)) hr p g
    ·cases h
   ·cases h
 have C:=W g l;refine c.ext (xb:=some (b,.map es)) (λ b' o' e=>by cases e;exact ⟨h2,F.1,F.2⟩) (zCX c.s T (X:=.map st.m) (by rw [h3];have:=VR.map (E:=extE E st.m (some (b,.map es))) (w:=w) st.m (.inr rfl);simpa [extE] using this)) (v:=.qf []) (H':=(st.m,.map d)::st.H) (n':=st.m+1) ?_ (λ p g=>.tail _ g)
  (λ cv E' w' O=>⟨_,_,O.replace c.s M rfl Y (vi1:=.mp d) rfl ?_ (.head _) (λ sz es e=>by cases e) (.qf _ λ e he=>by cases he) c.hd⟩) hk
 ·simp only [xoS,zAs,R,ab,J,extH,extN,zFy,l,Heap.put,Nat.beq_refl]
 ·have hm:=O.vh.obj _ (.head _);rw [O.wY b _ rfl] at hm;exact ⟨C,b,Y,hm.uI C,by simp [zA,hj,h3]⟩
end
end Go.Sy
namespace Go.Sy
def TbW (P:Program) (G:Cx) (tb:TblS):Prop:=∀s∈tb,∀args v,s.2.1 args->s.2.2 args=some v->Enters P s.1/\PP v/\∀H nx,FnT P G s.1 args H nx v H nx
theorem zEx:∀{tb:TblS} {f:Nat} {args:List AV} {k:AV->Prop},zFw tb f args k->∃s∈tb,s.1=f/\s.2.1 args/\∃v,s.2.2 args=some v/\k v
 | [],f,args,k,h=>h.elim
 | s::r,f,args,k,h=>by
  simp only [zFw] at h;split at h
  ·rename_i e;obtain ⟨d,c⟩:=h;split at c
   ·rename_i v i;exact ⟨s,.head _,(zb e).symm,d,v,i,c⟩
   ·exact c.elim
  ·obtain ⟨g,d,c⟩:=zEx h;exact ⟨g,.tail _ d,c⟩
open Classical in
noncomputable def zNO (f0:Nat) (a0:List AV) (v:AV):Call:=λ f args H nx=>if f=f0/\args=a0 then some (v,H,nx) else none
theorem zM6 {P:Program} {G:Cx} {f:Nat} {args:List AV} {v:AV} (i:Enters P f) (g:∀H nx,FnT P G f args H nx v H nx):zFb P G (zNO f args v):=by
 intro o c H nx l p d h;simp only [zNO] at h;split at h
 ·rename_i e;obtain ⟨rfl,rfl⟩:=e;cases h;exact ⟨i,QB _,g _ _⟩
 ·cases h
theorem zIw {f:Nat} {args:List AV} {v:AV} {H:Heap} {nx:Nat}:zNO f args v f args H nx=some (v,H,nx):=by simp [zNO]
theorem zBf {f:AV->Option AV}:∀{xs c:List AV},zw f xs=some c->c.length=xs.length/\∀(i:Nat) x y,xs[i]? = some x->c[i]? = some y->f x=some y
 | [],c,h=>by cases h;exact ⟨rfl,λ i x y d=>by simp at d⟩
 | x::xs,c,h=>by
  simp only [zw] at h;split at h
  ·rename_i v g;split at h
   ·rename_i r o;cases h;obtain ⟨p,l⟩:=zBf o;refine ⟨by simp [p],λ i q y d e=>?_⟩
    cases i with
    | zero=>simp at d e;subst d;subst e;exact g
    | succ i=>exact l i q y (by simpa using d) (by simpa using e)
   ·cases h
  ·cases h
theorem zI0 {f:AV->Option AV}:∀{a b c:List AV},zw f (a++b)=some c->∃x y,zw f a=some x/\zw f b=some y/\c=x++y
 | [],b,c,h=>⟨[],c,rfl,h,rfl⟩
 | e::r,b,c,h=>by
  simp only [List.cons_append,zw] at h;split at h
  ·rename_i v g;split at h
   ·rename_i q d;cases h;obtain ⟨x,y,l,i,rfl⟩:=zI0 d;exact ⟨v::x,y,by simp only [zw,g,l],i,rfl⟩
   ·cases h
  ·cases h
theorem zFz {f g:AV->Option AV} (c:∀x y,f x=some y->g x=some y):∀{xs d:List AV},zw f xs=some d->zw g xs=some d
 | [],d,h=>h
 | x::xs,d,h=>by
  simp only [zw] at h ⊢;split at h
  ·rename_i v e;rw [c _ _ e];split at h
   ·rename_i r i;rw [zFz c i];exact h
   ·cases h
  ·cases h
theorem zIP {n k:Nat}:∀(d:Nat) {v:AV},CP n k v->hasH d v=false->PP v:=by
 intro d
 induction d with
 | zero=>intro v _ h;cases h
 | succ d o=>
  intro v hc h;have f:∀{l:List AV},(∀e∈l,CP n k e)->l.any (hasH d)=false->∀e∈l,PP e:=λ hc i e c=>o (hc e c) (by
   rw [List.any_eq_false] at i
   simpa using i e c)
  cases hc with
  | bool b=>exact .bool b
  | int k m=>exact .int k m
  | str s=>exact .str s
  | ql=>exact .ql
  | qa=>exact .qa
  | qj=>exact .qj
  | qi=>exact .qi
  | qd=>exact .qd
  | qe e off c=>exact .qe e off c
  | qp sz es c=>exact .qp sz es c
  | func fn a b q p=>
   have h:(a.any (hasH d)||b.any (hasH d))=false:=h;rw [Bool.or_eq_false_iff] at h;exact .func fn a b (f q h.1) (f p h.2)
  | iface t v r=>exact .iface t v (o r h)
  | agg cs g=>exact .agg cs (f g h)
  | qf cs g=>exact .qf cs (f g h)
  | _=>cases h
theorem zST:∀(d:Nat) {v:AV},hasH d v=false->hasH (d+1) v=false:=by
 intro d
 induction d with
 | zero=>intro v h;cases h
 | succ d f=>
  intro v h;have c:∀{l:List AV},l.any (hasH d)=false->l.any (hasH (d+1))=false:=λ e=>by
   rw [List.any_eq_false] at e ⊢;intro x g;have:=f (v:=x) (by simpa using e x g)
   simp [this]
  cases v with
  | func fn a b=>
   have h:(a.any (hasH d)||b.any (hasH d))=false:=h;rw [Bool.or_eq_false_iff] at h;show (a.any (hasH (d+1))||b.any (hasH (d+1)))=false
   rw [c h.1,c h.2];rfl
  | iface t v=>exact f h
  | agg cs=>exact c h
  | qf cs=>exact c h
  | _=>exact h
theorem zTZ {H:Heap} {V:Vecs}:∀(d:Nat) {v v':AV},frz H V d v=some v'->frz H V (d+1) v=some v':=by
 intro d
 induction d with
 | zero=>intro v v' h;cases h
 | succ d e=>
  intro v v' h;unfold frz at h ⊢;split at h
  ·exact h
  ·split at h
   ·split at h
    ·rename_i f c;rw [zFz (λ x y=>e) c]
     exact h
    ·cases h
   ·cases h
  ·split at h
   ·rename_i o g;rw [zFz (λ x y=>e) g]
    split at h
    ·rename_i p l;rw [zFz (λ x y=>e) l]
     exact h
    ·cases h
   ·cases h
  ·split at h
   ·rename_i f c;rw [zFz (λ x y=>e) c]
    exact h
   ·cases h
  ·exact h
  ·split at h
   ·cases h
   ·rename_i i;rw [zST d i];exact h
theorem zSU {H:Heap} {V:Vecs}:∀(d:Nat) {v v':AV},PP v->frz H V d v=some v'->v'=v:=by
 intro d
 induction d with
 | zero=>intro v v' _ h;cases h
 | succ d D=>
  intro v v' y h;have g:∀{l c:List AV},(∀e∈l,PP e)->zw (frz H V d) l=some c->c=l:=by
   intro l
   induction l with
   | nil=>intro c _ h;cases h;rfl
   | cons e r f=>
    intro c s h;simp only [zw] at h;split at h
    ·rename_i u A;split at h
     ·rename_i q x;cases h;rw [D (s _ (.head _)) A,f (λ e C=>s e (.tail _ C)) x]
     ·cases h
    ·cases h
  unfold frz at h;cases y with
  | func fn a b F t=>
   simp only at h;split at h
   ·rename_i J o;split at h
    ·rename_i I p;cases h;rw [g F o,g t p]
    ·cases h
   ·cases h
  | agg cs B=>
   simp only at h;split at h
   ·rename_i z i;cases h;rw [g B i]
   ·cases h
  | _=>
   simp only at h;split at h
   ·cases h
   ·cases h;rfl
section
variable {P:Program} {G:Cx} {nt:Nat} {E:Env} {w:World} {a:Act} {β:Nat->Option Nat} {st:Sta}
 {Z0 B0:Nat->Prop} {w0:World} {dl:List Deferred} {o:Oper} {k:AV->Sta->Prop}
theorem zPY {e:AV} {sz:Nat} {xs:List AV} {vs:List Value} (hc:cellsOf e sz=some xs) (d:VRs E w xs vs) (g:∀v∈vs,v.oneCell'=true):∃u,VR E w e u/\u.cells.toList=vs:=by
 obtain ⟨p,c,i⟩:=zO hc;cases e with
 | agg cs=>
  have c:cs=xs:=c;subst c;exact ⟨.agg vs.toArray,VR.qM (by simpa using d) (λ v d=>g v (by simpa using d)),by simp [Value.cells]⟩
 | qf=>cases i
 | _=>
  have c:[_]=xs:=c;subst c;obtain ⟨v,l,rfl,h,o⟩:=d.of_cons;have:=o.of_nil;subst this;have f:v.oneCell'=true:=g v (.head _);refine ⟨v,h,?_⟩
  cases v <;> first | (simp [Value.oneCell'] at f;done) | simp [Value.cells]
def frzE (E:Env) (β:Nat->Option Nat) (H:Heap) (V:Vecs):Env:=⟨E.ρ,λ _=>False,λ x=>E.Z x\/BS E β H V x,E.σ⟩
theorem zKI {b:Nat} {str:Bool} {cs:List AV} (h:OR E w b (.cells str cs)):∃vs:List Value,VRs E w cs vs/\(∀v∈vs,v.oneCell'=true)/\∀(j:Nat) c,vs[j]? = some c->w.cell? ⟨b,j,none⟩=some c:=by
 obtain ⟨c,e,f,z,B,C,y⟩:=h;have q:∀(i:Nat) (x:AV) (v:Value),cs[i]? = some x->(c.toList.take cs.length)[i]? = some v->v.oneCell'=true/\VR E w x v/\c[i]? = some v:=λ i x v p g=>by
  obtain ⟨u,r,A,t⟩:=y i x p;have o:i<cs.length:=(QD.1 p).1;rw [List.getElem?_take,if_pos o] at g;have:c[i]? = some v:=by simpa using g
  rw [r] at this;cases this;exact ⟨A,t,r⟩
 have l:(c.toList.take cs.length).length=cs.length:=by simp;omega
 refine ⟨c.toList.take cs.length,⟨l.symm,λ i x v p g=>(q i x v p g).2.1⟩,λ v g=>?_,λ j u s=>?_⟩
 ·obtain ⟨i,o⟩:=List.getElem?_of_mem g;have d:i<cs.length:=by have:=(QD.1 o).1;omega
  exact (q i _ v (QE d) o).1
 ·have d:j<cs.length:=by have:=(QD.1 s).1;omega
  have:=(q j _ u (QE d) s).2.2;simp only [World.cell?,z];exact this
theorem zFf (s:SR G nt E w a β st):∀(d:Nat) {v v':AV} {cv:Value},CP st.mv st.m v->VR E w v cv->frz st.H st.V d v=some v'->VR (frzE E β st.H st.V) w v' cv:=by
 have O:∀{v:AV} {cv:Value},PP v->VR E w v cv->VR (frzE E β st.H st.V) w v cv:=λ hp l=>VR.pp (E:=E) (E':=frzE E β st.H st.V) (w:=w) (w':=w) (λ b hb=>⟨.inl hb,rfl⟩) l hp
 intro d
 induction d with
 | zero=>intro v v' cv _ _ h;cases h
 | succ d ih=>
  intro v v' cv C l h;have al:∀{xs ys:List AV} {vs:List Value},(∀e∈xs,CP st.mv st.m e)->VRs E w xs vs->zw (frz st.H st.V d) xs=some ys->VRs (frzE E β st.H st.V) w ys vs:=λ hc U hm=>by
   obtain ⟨m1,m2⟩:=zBf hm;refine ⟨m1.trans U.1,λ i y u hy hu=>?_⟩
   have z:i<_:=(QD.1 hy).1;rw [m1] at z;have q:=QE z;exact ih (hc _ (QF q)) (U.2 i _ u q hu) (m2 i _ y q hy)
  unfold frz at h;split at h
  ·
   rename_i j;split at h
   ·rename_i sz es hV;cases h;have ae:=l.vz;subst ae;obtain ⟨M,⟨h1,h2,rfl⟩ | ⟨b,str,cs,cp,ex,vi⟩⟩:=zF2 s hV
    ·rw [h2];exact .wb _ _ _ (QR _)
    ·rcases vi.row with ⟨ad,J,e2,_⟩ | ⟨cap,J,t,A,ai,_,_,_⟩
     ·have:=List.eq_nil_of_length_eq_zero e2;subst this;rw [J];exact .wb _ _ _ (QR _)
     ·rw [J];obtain ⟨vs,F,I,k3⟩:=zKI vi.uJ;obtain ⟨q1,R⟩:=zY vi.vZ;have key:∀i,∃u:Value,∀e,es[i]? = some e->VR E w e u/\e.flat=true/\u.cells.toList=(vs.drop (i*sz)).take sz:=by
       intro i;cases o:es[i]? with
       | none=>exact ⟨.bool true,λ e h=>by cases h⟩
       | some e=>
        have z:i<es.length:=(QD.1 o).1;have B:i*sz+sz<=es.length*sz:=by rw [←Nat.succ_mul];exact Nat.mul_le_mul_right _ z
        have r:=R i e o;rw [List.drop_take,List.take_take,Nat.min_eq_left (by omega)] at r
        obtain ⟨u,r1,r2⟩:=zPY r (F.extract (i*sz) sz) (λ v l=>I v (QW (QP l)))
        exact ⟨u,λ e' h=>by cases h;exact ⟨r1,(zO r).2.2,r2⟩⟩
      obtain ⟨f,D⟩:=Classical.axiomOfChoice key;refine .qp es b 0 cap sz f (.inr (.inr ⟨j,_,hV,rfl,vi.hb⟩)) t A (λ i e o=>?_) (λ i e o=>O (M e (QF o)) (D i e o).1) (λ i z=>?_)
      ·have:=(D i e o).2.1;unfold AV.flat at this;exact this
      ·have o:es[i]? = some es[i]:=QE z;obtain ⟨_,_,T⟩:=D i _ o;have ag:vs.length=cs.length:=F.1.symm;have B:i*sz+sz<=es.length*sz:=by rw [←Nat.succ_mul];exact Nat.mul_le_mul_right _ z
       have:=vi.hl;refine ⟨?_,λ j' c hc=>?_⟩
       ·have:(f i).cells.toList.length=sz:=by rw [T];simp;omega
        simpa using this
       ·have g:(f i).cells.toList[j']? = some c:=by simpa using hc
        rw [T,List.getElem?_take] at g;split at g
        ·rw [List.getElem?_drop] at g;have:=k3 _ c g;rw [QV];exact this
        ·cases g
   ·cases h
  ·
   rename_i X off;split at h
   ·rename_i str cs W;split at h
    ·rename_i S L;cases h;have p:=Heap.qh W;have ab:=s.hr.obj _ p;obtain ⟨vs,F,I,k3⟩:=zKI ab;obtain ⟨_,_,J,N⟩:=s.cH.get W;cases J;cases l with
     | ptr _ _ hd=>
      have:=VR.qe (E:=frzE E β st.H st.V) (w:=w) (.agg S) off (E.ρ X) 0 (.agg vs.toArray) rfl (.inr (.inl ⟨_,p,rfl⟩)) (VR.qM (by simpa using al N F L) (λ v l=>I v (by simpa using l))) (λ j c hj=>by
       rw [QV];exact k3 j c (by simpa [Value.cells] using hj))
      rw [QV] at this;exact this
    ·cases h
   ·cases h
  ·rename_i f x y;split at h
   ·rename_i x' q;split at h
    ·rename_i y' hy;cases h;cases C with
     | func _ _ _ ha hb=>
      cases l with
      | func _ _ _ vf vc D hc rf rc=>
       obtain ⟨g1,g2⟩:=al (vs:=vf.toList) ha ⟨by simpa using D,λ i x v q l=>rf i x v q (by simpa using l)⟩ q
       obtain ⟨g3,g4⟩:=al (vs:=vc.toList) hb ⟨by simpa using hc,λ i x v q l=>rc i x v q (by simpa using l)⟩ hy
       exact .func _ _ _ vf vc (by simpa using g1) (by simpa using g3) (λ i x v q l=>g2 i x v q (by simpa using l)) (λ i x v q l=>g4 i x v q (by simpa using l))
    ·cases h
   ·cases h
  ·rename_i cs;split at h
   ·rename_i S L;cases h;cases C with
    | agg _ hc=>
     obtain ⟨vs,rfl,F,I⟩:=l.qV;exact VR.qM (al hc F L) I
   ·cases h
  ·rename_i X off len sz cp ex;split at h
   ·rename_i str cs W;split at h
    ·rename_i Y;split at h
     ·rename_i es hr;split at h
      ·rename_i af;cases h;obtain ⟨_,_,J,N⟩:=s.cH.get W;cases J;obtain ⟨q1,R,q3,q4,q5⟩:=zAm hr;obtain ⟨g1,g2⟩:=zY q5;have M:∀e∈es,PP e:=by
        intro e o;obtain ⟨i,z⟩:=List.getElem?_of_mem o;obtain ⟨r1,r2,r3⟩:=zO (g2 i e z);refine zC3 (n:=st.mv) (k:=st.m) 8 (zCy r3 λ x q=>N x ?_) (QG.1 af e o)
        rw [r2] at q;exact QW (QP (QW (QP q)))
       have p:=Heap.qh W;cases l with
       | wc _ _ _ _ ad=>
        have:=List.eq_nil_of_length_eq_zero R;subst this;exact .wb _ _ _ (QR _)
       | row _ _ _ _ _ cap _ hD t A ah C ak aj=>
        obtain ⟨vs,F,I,k3⟩:=zKI (s.hr.obj _ p);have aa:=F.extract off cs.length;have ac:(cs.drop off).take cs.length=cs.drop off:=List.take_of_length_le (by simp)
        rw [ac] at aa;have Y:=QM Y;have key:∀i,∃u:Value,∀e,es[i]? = some e->VR E w e u/\e.flat=true/\u.cells.toList=(((vs.drop off).take cs.length).drop (i*sz)).take sz:=by
         intro i;cases o:es[i]? with
         | none=>exact ⟨.bool true,λ e h=>by cases h⟩
         | some e=>
          have z:i<es.length:=(QD.1 o).1;have B:i*sz+sz<=len*sz:=by rw [←Nat.succ_mul,←R];exact Nat.mul_le_mul_right _ z
          have r:=g2 i e o;rw [List.drop_take,List.take_take,Nat.min_eq_left (by omega)] at r
          obtain ⟨u,r1,r2⟩:=zPY r (aa.extract (i*sz) sz) (λ v l=>I v (QW (QP (QW (QP l)))))
          exact ⟨u,λ e' h=>by cases h;exact ⟨r1,(zO r).2.2,r2⟩⟩
        obtain ⟨f,D⟩:=Classical.axiomOfChoice key;rw [←R] at t ⊢;refine .qp es (E.ρ X) off cap sz f (.inr (.inl ⟨_,p,rfl⟩)) t A (λ i e o=>?_) (λ i e o=>O (M e (QF o)) (D i e o).1) (λ i z=>?_)
        ·have:=(D i e o).2.1;unfold AV.flat at this;exact this
        ·have o:es[i]? = some es[i]:=QE z;obtain ⟨_,_,T⟩:=D i _ o;have ag:vs.length=cs.length:=F.1.symm;have B:i*sz+sz<=len*sz:=by rw [←Nat.succ_mul,←R];exact Nat.mul_le_mul_right _ z
         refine ⟨?_,λ j' c hc=>?_⟩
         ·have:(f i).cells.toList.length=sz:=by rw [T];simp;omega
          simpa using this
         ·have g:(f i).cells.toList[j']? = some c:=by simpa using hc
          rw [T,List.getElem?_take] at g;split at g
          ·rw [List.getElem?_drop,List.getElem?_take] at g;split at g
           ·rw [List.getElem?_drop] at g;have:=k3 _ c g;rw [Nat.add_assoc];exact this
           ·cases g
          ·cases g
      ·cases h
     ·cases h
    ·cases h
   ·cases h
  ·split at h
   ·cases h
   ·rename_i X;cases h;exact O (zIP d C X) l
end
end Go.Sy
namespace Go.Sy
theorem zOJ {E E':Env} {w:World}:∀(d:Nat) {v:AV} {cv:Value},zCh d v=true->VR E w v cv->VR E' w v cv:=by
 intro d
 induction d with
 | zero=>intro v cv h;cases h
 | succ d r=>
  intro v cv h q;cases q with
  | bool b=>exact .bool b
  | int k n g=>exact .int k n g
  | str l s g c=>exact .str l s g c
  | ql=>exact .ql
  | qa=>exact .qa
  | qj=>exact .qj
  | qi=>exact .qi
  | qd=>exact .qd
  | iface t v cv q=>exact .iface t v cv (r h q)
  | agg cs f c o u=>
   have h:cs.all (zCh d)=true:=h;exact .agg cs f c (λ i x v e p=>r (QG.1 h x (QF e)) (o i x v e p)) u
  | qf cs f c o=>
   have h:cs.all (zCh d)=true:=h;exact .qf cs f c (λ i x v e p=>r (QG.1 h x (QF e)) (o i x v e p))
  | _=>cases h
theorem zDL {b:Bool} {A B:Prop} (h:Br b A B):(b=true/\A)\/(b=false/\B):=by
 cases b with
 | true=>exact .inl ⟨rfl,h⟩
 | false=>exact .inr ⟨rfl,h⟩
section
variable {P:Program} {G:Cx} {nt:Nat} {E:Env} {w:World} {a:Act} {β:Nat->Option Nat} {st:Sta}
 {Z0 B0:Nat->Prop} {w0:World} {dl:List Deferred} {o:Oper} {k:AV->Sta->Prop} {tb:TblS}
theorem zPZ {y:XO} (c:Ctx P G nt Z0 B0 w0 dl E w a β st o y) {f:Nat} {q:List AV} {v:AV} {fr':Fr} (B:FrR (frzE E β st.H st.V) w fr' a nt) (hx:xoS G (zNO f q v) fr' [] 0 y=some (v,[],0)) (R:Enters P f) (J:∀H nx,FnT P G f q H nx v H nx) (U:zCh 8 v=true) (A:PP v)
  (N:k v st):OpK P G nt Z0 B0 w0 dl o w a k:=by
 intro next Q W;have t:∀b,(frzE E β st.H st.V).Z b->b<w.heap.size:=by
  rintro b (l | ⟨p,i,rfl⟩ | ⟨j,z,q1,q2,q3⟩)
  ·exact c.s.hr.wg b l
  ·exact c.s.hr.lt i
  ·exact (c.s.qU j z q1).2.lt q2 q3
 have C:HR (frzE E β st.H st.V) [] w:=⟨.nil,λ p i=>by simp at i,λ p i=>by simp at i,λ p i=>by simp at i,λ p i=>by simp at i,t⟩
 have D:GR G (frzE E β st.H st.V) w:=λ g u h=>⟨VR.pp (E:=E) (E':=frzE E β st.H st.V) (w:=w) (w':=w) (λ b l=>⟨.inl l,rfl⟩) (c.s.hg g u h).1 (c.hG g u h),(c.s.hg g u h).2⟩
 refine zGk C B D c.hm (zM6 R J) c.hc (λ h _ _ M=>M) hx next Q λ L E' w' X r O=>?_
 have e:∀x,x<w.heap.size->w'.heap[x]? = w.heap[x]?:=λ x hx=>r.wa x hx λ p i=>by simp at i
 have F:∀{u I},VR E w u I->VR E w' u I:=λ T=>VR.mono (E:=E) (E':=E) (λ _ h=>⟨h,rfl⟩) (λ b l=>⟨l,e b (c.s.hr.wg b l)⟩) r.qn T
 have d:=c.s;refine W v st L E w' N (zRW (E:=E) (E2:=E) (w:=w) (β:=β) (β2:=β) (st:=st) (st2:=st.put o.dst v) ⟨⟨⟨d.hr.nodup,d.hr.qC,d.hr.inj,λ p i=>(d.hr.obj p i).mono (e _ (d.hr.lt i)) F,d.hr.nz,λ b l=>QZ (d.hr.wg b l) r.size⟩,d.hf.put F c.hd (zOJ 8 U O),λ g u h=>⟨F (d.hg g u h).1,(d.hg g u h).2.mono r.qn⟩,d.qC,d.qZ.qv A.cp,d.cH,λ j z h=>⟨(d.qU j z h).1,(d.qU j z h).2.mono rfl (λ _=>rfl) (λ b S l=>e b ((d.qU j z h).2.lt S l)) (λ b l=>⟨l,e b (d.hr.wg b l)⟩) r.qn λ _ _ _ _ sz es h=>⟨rfl,es,h,rfl⟩⟩,d.vp,d.bz,d.qT⟩,
  ⟨λ _ h=>h,λ _ h=>.inl h,λ _ h=>.inl h,r.tape,r.os,r.output,r.size,λ x hx _=>e x hx,r.qn⟩⟩ c.kp c.df)
theorem zT0 {H:Heap} {V:Vecs} {d:Nat} {f:Fn} {a b x y:List AV} (c:zw (frz H V d) a=some x) (e:zw (frz H V d) b=some y):frz H V (d+1) (.func f a b)=some (.func f x y):=by
 conv=>lhs;unfold frz
 simp only [c,e]
def zIx:List XV->List AV->Fr
 | .t t::xs,v::vs=>(t,v)::zIx xs vs
 | _::xs,_::vs=>zIx xs vs
 | _,_=>[]
theorem zLH {G:Cx} {fr:Fr} {f:AV->Option AV}:∀{xs:List XV} {vs d:List AV},evs G fr xs=some vs->zw f vs=some d->∀t,((zIx xs d).get t=none/\XV.t t ∉ xs)\/∃v v',fr.get t=some v/\f v=some v'/\(zIx xs d).get t=some v'
 | [],vs,d,h,l,t=>.inl ⟨by cases d <;> rfl,by simp⟩
 | x::xs,vs,d,h,l,t=>by
  simp only [evs] at h;split at h
  ·rename_i v s;split at h
   ·rename_i y q;cases h;simp only [zw] at l;split at l
    ·rename_i v' p;split at l
     ·rename_i r o;cases l;have i:=zLH q o t;cases x with
      | t n=>
       simp only [zIx,Fr.get];by_cases e:n=t
       ·subst e;simp only [Nat.beq_refl];exact .inr ⟨v,v',s,p,rfl⟩
       ·have:Nat.beq n t=false:=by
         cases hb:Nat.beq n t with
         | false=>rfl
         | true=>exact absurd (zb hb) e
        simp only [this];rcases i with ⟨i1,i2⟩ | i
        ·exact .inl ⟨i1,by simp only [QH,XV.t.injEq,not_or];exact ⟨λ h=>e h.symm,i2⟩⟩
        ·exact .inr i
      | c u=>
       rcases i with ⟨i1,i2⟩ | i
       ·exact .inl ⟨i1,by simpa using i2⟩
       ·exact .inr i
      | g u=>
       rcases i with ⟨i1,i2⟩ | i
       ·exact .inl ⟨i1,by simpa using i2⟩
       ·exact .inr i
     ·cases l
    ·cases l
   ·cases h
  ·cases h
theorem zLI {G:Cx} {fr fr':Fr} {H:Heap} {V:Vecs} {d:Nat} (s:GPP G):∀{xs:List XV} {vs e:List AV},xs.all xvOK=true->(∀t,XV.t t∈xs->∀v v',fr.get t=some v->frz H V d v=some v'->fr'.get t=some v')->evs G fr xs=some vs->zw (frz H V d) vs=some e->evs G fr' xs=some e
 | [],vs,e,_,_,h,f=>by cases h;cases f;rfl
 | x::xs,vs,e,l,r,h,f=>by
  rw [QX,QA] at l;simp only [evs] at h ⊢;split at h
  ·rename_i v p;split at h
   ·rename_i C q;cases h;simp only [zw] at f;split at f
    ·rename_i v' i;split at f
     ·rename_i z o;cases f;have B:=zLI s l.2 (λ t y=>r t (.tail _ y)) q o
      have A:x.ev G fr'=some v':=by
       cases x with
       | t n=>exact r n (.head _) v v' p i
       | c u=>cases p;rw [zSU d (zBz 12 l.1) i];rfl
       | g u=>rw [zSU d (s u v p) i];exact p
      rw [A,B]
     ·cases f
    ·cases f
   ·cases h
  ·cases h
theorem zWl {f:Nat} {xs:List XV} (x:TbW P G tb) (c:Ctx P G nt Z0 B0 w0 dl E w a β st o (.call f xs)) {vs:List AV} (F:evs G st.fr xs=some vs) (h:wcall tb f vs st k):OpK P G nt Z0 B0 w0 dl o w a k:=by
 have D:xs.all xvOK=true:=by have:=c.ok;simp only [opOK,XO.qb,zW,QT] at this;exact this
 unfold wcall at h;split at h
 ·obtain ⟨s,C,rfl,g,v,d,r⟩:=zEx h;obtain ⟨q1,J,A⟩:=x s C vs v g d;exact c.gen (zM6 q1 A) (by simp only [xoS,F,zIw]) J.cp c.s.cH r
 ·split at h
  ·rename_i p i;obtain ⟨s,C,rfl,g,v,d,r⟩:=zEx h;obtain ⟨q1,J,A⟩:=x s C p v g d;split at r
   rotate_left
   ·exact r.elim
   rename_i I;have l:=zLH (f:=frz st.H st.V 8) F i;refine zPZ c (fr':=zIx xs p) ⟨c.s.hf.size,λ t u q=>?_⟩ ?_ q1 A I J r
   ·rcases l t with ⟨e,_⟩ | ⟨v1,v2,y,B,z⟩
    ·rw [e] at q;cases q
    ·rw [z] at q;cases q;exact zFf c.s 8 (c.s.qZ t v1 y) (c.s.hf.get t v1 y) B
   ·have:=zLI (fr':=zIx xs p) c.hG D (λ t q v1 v2 y B=>by
     rcases l t with ⟨_,e⟩ | ⟨v3,v4,z,L,M⟩
     ·exact absurd q e
     ·rw [y] at z;cases z;rw [B] at L;cases L;exact M) F i
    simp only [xoS,this,zIw]
  ·exact h.elim
theorem zVd {z:XV} {xs:List XV} (J:TbW P G tb) (c:Ctx P G nt Z0 B0 w0 dl E w a β st o (.qL z xs)) {f:Nat} {first i vs:List AV} (hf:z.ev G st.fr=some (.func (.func f) first i)) (hv:evs G st.fr xs=some vs) (h:wcall tb f (first++vs++i) st k):OpK P G nt Z0 B0 w0 dl o w a k:=by
 have F:xvOK z=true/\xs.all xvOK=true:=by have:=c.ok;simp only [opOK,XO.qb,zW,List.all_append,QX,List.all_nil,QT,QA] at this;exact this
 unfold wcall at h;split at h
 ·obtain ⟨s,U,rfl,p,v,l,C⟩:=zEx h;obtain ⟨q1,q2,O⟩:=J s U _ v p l;exact c.gen (zM6 q1 O) (by simp only [xoS,hf,hv,applyf,zIw]) q2.cp c.s.cH C
 ·split at h
  ·rename_i W D;obtain ⟨s,U,rfl,p,v,l,C⟩:=zEx h;obtain ⟨q1,q2,O⟩:=J s U W v p l;split at C
   rotate_left
   ·exact C.elim
   rename_i X;obtain ⟨xy,g,h1,h2,rfl⟩:=zI0 D;obtain ⟨d,q,h3,h4,rfl⟩:=zI0 h1;have Y:frz st.H st.V 9 (.func (.func s.1) first i)=some (.func (.func s.1) d g):=zT0 h3 h2;have N:zw (frz st.H st.V 9) vs=some q:=zFz (λ x y=>zTZ 8) h4
   have B:evs G st.fr (z::xs)=some (.func (.func s.1) first i::vs):=by simp only [evs,hf,hv]
   have I:zw (frz st.H st.V 9) (.func (.func s.1) first i::vs)=some (.func (.func s.1) d g::q):=by simp only [zw,Y,N]
   have r:=zLH (f:=frz st.H st.V 9) B I;refine zPZ c (fr':=zIx (z::xs) (.func (.func s.1) d g::q)) ⟨c.s.hf.size,λ t u A=>?_⟩ ?_ q1 O X q2 C
   ·rcases r t with ⟨e,_⟩ | ⟨v1,v2,L,T,M⟩
    ·rw [e] at A;cases A
    ·rw [M] at A;cases A;exact zFf c.s 9 (c.s.qZ t v1 L) (c.s.hf.get t v1 L) T
   ·have:=zLI (fr':=zIx (z::xs) (.func (.func s.1) d g::q)) c.hG (xs:=z::xs) (by rw [QX,F.1,F.2];rfl) (λ t A v1 v2 L T=>by
     rcases r t with ⟨_,e⟩ | ⟨v3,v4,M,e4,e5⟩
     ·exact absurd A e
     ·rw [L] at M;cases M;rw [T] at e4;cases e4;exact e5) B I
    simp only [evs] at this;split at this
    ·rename_i g1 R;split at this
     ·rename_i g2 S;cases this;simp only [xoS,R,S,applyf,zIw]
     ·cases this
    ·cases this
  ·exact h.elim
theorem zKJ {k:IntKind} {n:Int} {c top:Nat} (e:0<=n) (d:n.toNat<=top):bnd (some (.int k n)) c top=some n.toNat:=by
 obtain ⟨m,rfl⟩:=Int.eq_ofNat_of_zero_le e;rw [Int.toNat_natCast] at d ⊢;have:Nat.ble m top=true:=by rw [Qs];exact d
 show (match Nat.ble m top with | true=>some m | false=>none)=some m
 rw [this]
theorem zHJ {N:Nat} {lo g:Option AV} {k:Int->Int->Prop} (h:zHT (.ofNat N) lo g k):∃l r:Int,k l r/\bnd g N N=some r.toNat/\bnd lo 0 r.toNat=some l.toNat/\l.toNat<=r.toNat/\r.toNat<=N:=by
 unfold zHT at h;split at h
 ·split at h
  ·exact ⟨0,.ofNat N,h,rfl,rfl,QR _,QB _⟩
  ·rename_i kd r;obtain ⟨⟨e,c⟩,f⟩:=h;have c:r<=(N:Int):=c;exact ⟨0,r,f,zKJ e (by omega),rfl,QR _,by omega⟩
  ·exact h.elim
 ·rename_i kd l;split at h
  ·obtain ⟨⟨e,c⟩,f⟩:=h;have c:l<=(N:Int):=c;refine ⟨l,.ofNat N,f,rfl,zKJ e ?_,?_,QB _⟩
   ·show l.toNat<=N;omega
   ·show l.toNat<=N;omega
  ·rename_i i r;obtain ⟨⟨e,c,d⟩,f⟩:=h;have d:r<=(N:Int):=d;exact ⟨l,r,f,zKJ (by omega) (by omega),zKJ e (by omega),by omega,by omega⟩
  ·exact h.elim
 ·exact h.elim
theorem zP0 {fr:Fr}:evo G fr none=some none:=rfl
theorem zRc {es:List AV} {k:IntKind} {n:Int} {v:AV} (h:ixN es n=some v):idx es (.int k n)=some v/\v∈es:=by
 unfold ixN at h;split at h
 ·exact ⟨h,QF h⟩
 ·cases h
theorem SR.known (s:SR G nt E w a β st) {n:Nat} {v:AV} (h:st.fr.get n=some v):SR G nt E w a β ⟨st.fr.put n v,st.H,st.V,st.m,st.mv⟩:=by
 have d:∀t,(st.fr.put n v).get t=st.fr.get t:=λ t=>by
  rw [Fr.qu];split
  ·rename_i e;subst e;exact h.symm
  ·rfl
 exact ⟨s.hr,⟨s.hf.size,λ t u c=>s.hf.get t u (by rw [←d t];exact c)⟩,s.hg,s.qC,λ t u c=>s.qZ t u (by rw [←d t];exact c),s.cH,s.qU,s.vp,s.bz,s.qT⟩
theorem zP1 {fr:Fr} {n:Nat} {v:AV} (h:fr.get n=some v) (x:XV):x.ev G (fr.put n v)=x.ev G fr:=by
 cases x with
 | t t=>
  show (fr.put n v).get t=fr.get t
  rw [Fr.qu];split
  ·rename_i e;subst e;exact h.symm
  ·rfl
 | _=>rfl
theorem zDQ {n:Int}:∀{l:Nat} {k:Nat->Prop},zGP n l k->∀m,m<l->n=.ofNat m->k m
 | 0,k,_,m,c,_=>by omega
 | l+1,k,h,m,c,e=>by
  rcases Nat.lt_succ_iff_lt_or_eq.1 c with d | rfl
  ·exact zDQ h.1 m d e
  ·exact h.2 e
theorem zSV (ad:TbW P G tb) {ac:XO} {ks:List K} (c:Ctx P G nt Z0 B0 w0 dl E w a β st o ac) (h:wop G tb st ac ks k):OpK P G nt Z0 B0 w0 dl o w a k:=by
 cases ac <;> try (exact h.elim)
 all_goals try (exact c.wy rfl h)
 case qY x i l sz ag=>
  simp only [wop] at h;split at h
  ·exact c.wy rfl h
  ·split at h
   ·rename_i kd n J;obtain ⟨⟨F,A⟩,R⟩:=h;obtain ⟨m,rfl⟩:=Int.eq_ofNat_of_zero_le F;have B:=zDQ R m (Int.ofNat_lt.1 A) rfl;have e:xoS G ze st.fr st.H st.m (.qY x i l sz ag)=xoS G ze st.fr st.H st.m (.qY x (.c (.int kd (.ofNat m))) l sz ag):=by
     have J:i.ev G st.fr=some (.int kd (.ofNat m)):=J;simp only [xoS];rw [J];rfl
    exact c.wy rfl (by rw [e];exact B)
   ·exact h.elim
 case qy x i l sz=>
  simp only [wop] at h;split at h
  ·exact c.wy rfl h
  ·split at h
   ·rename_i kd n J;obtain ⟨⟨F,A⟩,R⟩:=h;obtain ⟨m,rfl⟩:=Int.eq_ofNat_of_zero_le F;have B:=zDQ R m (Int.ofNat_lt.1 A) rfl;have e:xoS G ze st.fr st.H st.m (.qy x i l sz)=xoS G ze st.fr st.H st.m (.qy x (.c (.int kd (.ofNat m))) l sz):=by
     have J:i.ev G st.fr=some (.int kd (.ofNat m)):=J;simp only [xoS];rw [J];rfl
    exact c.wy rfl (by rw [e];exact B)
   ·exact h.elim
 case pick cc x y=>
  simp only [wop] at h;split at h
  ·rename_i cb ab;split at h
   ·rename_i n;have S:st.fr.get n=some (.bool cb):=ab;have C:(xvOK (.t n)=true/\xvOK x=true)/\xvOK y=true:=by have:=c.ok;simp only [opOK,XO.qb,zW,List.all_append,QX,List.all_nil,QT,QA] at this;exact this
    have c':Ctx P G nt Z0 B0 w0 dl E w a β ⟨st.fr.put n (.bool cb),st.H,st.V,st.m,st.mv⟩ o (.pick (.t n) x y):=⟨c.s.known S,c.kp,c.df,c.hG,c.hm,c.hc,c.hd,c.ok⟩;rcases zDL h with ⟨rfl,A⟩ | ⟨rfl,A⟩
    ·split at A
     ·rename_i v N;exact c'.val (by simp only [xoS,zP1 S,ab,N]) (zR c.hG c.s.qZ C.1.2 N) A
     ·exact A.elim
    ·split at A
     ·rename_i v N;exact c'.val (by simp only [xoS,zP1 S,ab,N]) (zR c.hG c.s.qZ C.2 N) A
     ·exact A.elim
   ·exact c.wy rfl h
  ·exact h.elim
 case bin op x y=>
  simp only [wop] at h;split at h
  ·rename_i s1 d;split at h
   ·split at h
    ·rename_i s2 I;obtain ⟨F,A⟩:=h;have g:Nat.ble (s1.length+s2.length) zc=true:=by rw [Qs];exact F
     exact c.val (by simp only [xoS,d,I,xbin,g]) (.str _) A
    ·exact h.elim
   ·exact c.wy rfl h
  ·rename_i k1 n1 d;split at h
   ·split at h
    ·rename_i k2 n2 I;split at h
     ·rename_i B;obtain ⟨F,A⟩:=h;have g:(n2==0)=false:=by rw [beq_eq_false_iff_ne];exact F
      exact c.val (by simp only [xoS,d,I,xbin,B,g]) (.int _ _) A
     ·exact h.elim
    ·exact h.elim
   ·split at h
    ·rename_i k2 n2 I;split at h
     ·rename_i B;obtain ⟨F,A⟩:=h;have g:(n2==0)=false:=by rw [beq_eq_false_iff_ne];exact F
      exact c.val (by simp only [xoS,d,I,xbin,B,g]) (.int _ _) A
     ·exact h.elim
    ·exact h.elim
   ·split at h
    ·rename_i k2 n2 I;obtain ⟨F,A⟩:=h;have g:decide (n2<0)=false:=by rw [decide_eq_false_iff_not];omega
     exact c.val (by simp only [xoS,d,I,xbin,g]) (.int _ _) A
    ·exact h.elim
   ·split at h
    ·rename_i k2 n2 I;obtain ⟨F,A⟩:=h;have g:decide (n2<0)=false:=by rw [decide_eq_false_iff_not];omega
     exact c.val (by simp only [xoS,d,I,xbin,g]) (.int _ _) A
    ·exact h.elim
   ·exact c.wy rfl h
  ·exact h.elim
 case wC neg kd x y=>
  simp only [wop] at h;split at h
  ·rename_i p d;split at h
   ·rename_i q I;split at h
    ·rename_i r hr;obtain ⟨W,e2,e3⟩:=zM5 hr;have:eqs kd p q=some r:=by simp only [eqs,e2,e3,Nat.beq_refl,W]
     exact c.val (by simp only [xoS,d,I,this]) (by unfold bneg;exact .bool _) h
    ·exact h.elim
   ·exact h.elim
  ·exact h.elim
 case vu x=>
  simp only [wop] at h;split at h
  ·rename_i s d;exact zWL c d h
  ·exact h.elim
 case vb x=>
  simp only [wop] at h;have C:xvOK x=true:=by have:=c.ok;simp only [opOK,XO.qb,zW,QT,QX,List.all_nil] at this;exact this
  split at h
  ·rename_i j d;split at h
   ·rename_i sz es L;split at h
    ·rename_i g;have:=zb g;subst this;obtain ⟨s,hs,B⟩:=h;exact zWM c d L hs B
    ·exact h.elim
   ·exact h.elim
  ·rename_i sz es d;split at h
   ·rename_i g;have:=zb g;subst this;obtain ⟨s,hs,B⟩:=h;exact c.val (by simp only [xoS,d,zMT (zIZ hs),hs]) (.str _) B
   ·exact h.elim
  ·rename_i d;exact c.val (by simp only [xoS,d,content,zAN]) (.str _) h
  ·exact h.elim
 case wF x i=>
  simp only [wop] at h;split at h
  ·rename_i s d;split at h
   ·rename_i kd n J;obtain ⟨b,g,B⟩:=h;unfold ixN at g;split at g
    ·exact c.val (by simp only [xoS,d,J,g]) (.int _ _) B
    ·cases g
   ·exact h.elim
  ·exact h.elim
 case qD len sz z ps=>
  simp only [wop] at h;split at h
  ·split at h
   ·rename_i cs hf;split at h
    ·rename_i hl;split at h
     ·rename_i es hr;split at h
      ·rename_i T;exact zTX c hf (zb hl) hr T h
      ·exact h.elim
     ·exact h.elim
    ·exact h.elim
   ·exact h.elim
  ·exact c.wy rfl h
 case load x sz ag=>
  simp only [wop] at h;split at h
  ·rename_i p d;split at h
   ·rename_i j i off T;split at h
    ·rename_i O es L;obtain ⟨v,N,B⟩:=h;exact zWj c d T L N B
    ·exact h.elim
   ·exact h.elim
  ·exact c.wy rfl h
 case store x y sz=>
  simp only [wop] at h;have C:xvOK x=true/\xvOK y=true:=by have:=c.ok;simp only [opOK,XO.qb,zW,QT,List.all_append,QX,List.all_nil,QA] at this;exact this
  split at h
  ·rename_i p d;split at h
   ·rename_i j i off T;split at h
    ·rename_i O es L;split at h
     ·rename_i v I;split at h
      ·rename_i g;simp only [QA] at g;obtain ⟨⟨b1,b2⟩,b3⟩:=g;have b1:=zb b1;have b2:=zb b2;subst b1;subst b2;split at h
       ·rename_i new hn;exact zVb c d T L I (zC3 12 (zR c.hG c.s.qZ C.2 I) b3) hn h
       ·exact h.elim
      ·exact h.elim
     ·exact h.elim
    ·exact h.elim
   ·exact h.elim
  ·exact c.wy rfl h
 case qP x off=>
  simp only [wop] at h;split at h
  ·rename_i p d;split at h
   ·rename_i j i o' T;split at h
    ·rename_i sz es L;exact zVa c d T L h
    ·exact h.elim
   ·exact h.elim
  ·exact c.wy rfl h
 case qB x i sz=>
  simp only [wop] at h;have C:xvOK x=true/\xvOK i=true:=by have:=c.ok;simp only [opOK,XO.qb,zW,QT,List.all_append,QX,List.all_nil,QA] at this;exact this
  split at h
  ·rename_i O es d;split at h
   ·rename_i g;split at h
    ·rename_i kd n J;obtain ⟨v,N,B⟩:=h;obtain ⟨W,e2⟩:=zRc (k:=kd) N;have U:=zR c.hG c.s.qZ C.1 d;cases U with
     | qp _ _ aa=>exact c.val (by simp only [xoS,d,J,g,W]) (.qe _ _ (aa v e2)) B
    ·exact h.elim
   ·exact h.elim
  ·rename_i j d;split at h
   ·rename_i O es L;split at h
    ·rename_i g;have:=zb g;subst this;split at h
     ·rename_i kd n J;obtain ⟨⟨F,A⟩,R⟩:=h;exact zTW c d L J F A R
     ·exact h.elim
    ·exact h.elim
   ·exact h.elim
  ·split at h
   ·rename_i kd n J;obtain ⟨⟨F,A⟩,R⟩:=h;obtain ⟨m,rfl⟩:=Int.eq_ofNat_of_zero_le F;have B:=zDQ R m (Int.ofNat_lt.1 A) rfl;have e:xoS G ze st.fr st.H st.m (.qB x i sz)=xoS G ze st.fr st.H st.m (.qB x (.c (.int kd (.ofNat m))) sz):=by
     have J:i.ev G st.fr=some (.int kd (.ofNat m)):=J;simp only [xoS];rw [J];rfl
    exact c.wy rfl (by rw [e];exact B)
   ·exact h.elim
  ·exact h.elim
 case wA x lo J=>
  simp only [wop] at h;split at h
  ·rename_i s d;split at h
   ·rename_i aj X;split at h
    ·rename_i ai Y;obtain ⟨l,r,B,W,e2,_,_⟩:=zHJ h;exact c.val (by simp only [xoS,d,X,Y,W,e2]) (.str _) B
    ·exact h.elim
   ·exact h.elim
  ·exact h.elim
 case wu x lo J mx sz=>
  simp only [wop] at h;have C:=c.ok;simp only [opOK,QA] at C;split at h
  ·rename_i O es d;split at h
   ·rename_i g;split at h
    ·split at h
     ·rename_i aj X;split at h
      ·rename_i ai Y;obtain ⟨l,r,B,W,e2,_,_⟩:=zHJ h;have D:xvOK x=true:=by
        have:=QG.1 C.1 x (by simp [XO.qb])
        exact this
       have U:=zR c.hG c.s.qZ D d;cases U with
       | qp _ _ aa=>exact c.val (by simp only [xoS,d,X,Y,zP0,xslice,g,W,e2]) (.qp _ _ λ e he=>aa e (QP (QW he))) B
      ·exact h.elim
     ·exact h.elim
    ·exact h.elim
   ·exact h.elim
  ·rename_i d;unfold WXd at h;split at h
   ·rename_i v H' m' D;have:v=.qa/\H'=st.H/\m'=st.m:=by
     simp only [xoS,d] at D;split at D
     ·rename_i v0 aq ar au e0 _ _ _;cases e0;simp only [xslice] at D;split at D
      ·rename_i v1 M;cases D;split at M
       ·split at M
        ·split at M
         ·cases M;exact ⟨rfl,rfl,rfl⟩
         ·cases M
        ·cases M
       ·cases M
      ·cases D
     ·cases D
    obtain ⟨rfl,rfl,rfl⟩:=this;exact c.val D .qa h
   ·exact h.elim
  ·exact h.elim
 case wi x=>
  simp only [wop] at h;split at h
  ·rename_i j d;split at h
   ·rename_i sz es L;exact zWi c d L h
   ·exact h.elim
  ·exact c.wy rfl h
 case append x y sz bytes=>
  simp only [wop] at h;split at h
  ·exact h.elim
  ·rename_i af;split at h
   ·rename_i v d;split at h
    ·rename_i u I;split at h
     ·rename_i ys he;split at h
      ·rename_i ae;split at h
       ·obtain ⟨F,A⟩:=h;exact zLG c af c.s.hf d I I he ae F (λ j vi h=>h) A
       ·rename_i j;split at h
        ·rename_i O es L;split at h
         ·rename_i g;have:=zb g;subst this;obtain ⟨⟨F,A⟩,R⟩:=h;exact zPX c af d L I he ae F A R
         ·exact h.elim
        ·exact h.elim
       ·exact h.elim
      ·exact h.elim
     ·exact h.elim
    ·exact h.elim
   ·exact h.elim
 case qK l cx sz bytes z=>
  simp only [wop] at h;split at h
  ·rename_i k1 n hl;split at h
   ·rename_i k2 m ah;split at h
    ·rename_i e hr hz;obtain ⟨⟨F,A,R,h4⟩,h5⟩:=h;exact zSS c hl ah hr (zb hz) F A R h4 h5
    ·exact h.elim
   ·exact h.elim
  ·exact h.elim
 case wj=>exact zVc c h
 case lookup ag kd m x z ok=>
  simp only [wop] at h;split at h
  ·rename_i j hm;split at h
   ·rename_i es L;split at h
    ·rename_i kv d;split at h
     ·rename_i ak;obtain ⟨v,N,B⟩:=h;exact zTY c hm L d ak N B
     ·exact h.elim
    ·exact h.elim
   ·exact h.elim
  ·exact h.elim
 case wB ag kd m x y=>
  simp only [wop] at h;split at h
  ·rename_i j hm;split at h
   ·rename_i es L;split at h
    ·rename_i kv d;split at h
     ·rename_i u I;split at h
      ·rename_i g;simp only [QA] at g;obtain ⟨ao,T,B⟩:=h;exact zWk c hm L d I g.1.1 g.1.2 g.2 T B
      ·exact h.elim
     ·exact h.elim
    ·exact h.elim
   ·exact h.elim
  ·exact h.elim
 case call f xs=>
  simp only [wop] at h;split at h
  ·rename_i vs N;exact zWl ad c N h
  ·exact h.elim
 case qL fx xs=>
  simp only [wop] at h;split at h
  ·rename_i f first al hf;split at h
   ·rename_i vs N;exact zVd ad c hf N h
   ·exact h.elim
  ·exact h.elim
end
end Go.Sy
namespace Go.Sy
open Classical in
noncomputable def zJG:TblS->Nat->List AV->Option AV
 | [],_,_=>none
 | s::r,f,args=>match Nat.beq f s.1 with
  | true=>if s.2.1 args then s.2.2 args else none
  | false=>zJG r f args
theorem zM7:∀{tb:TblS} {f:Nat} {args:List AV} {k:AV->Prop},zFw tb f args k->∃v,zJG tb f args=some v/\k v
 | [],f,args,k,h=>h.elim
 | s::r,f,args,k,h=>by
  simp only [zFw] at h;cases hb:Nat.beq f s.1 with
  | true=>
   simp only [hb] at h;obtain ⟨d,c⟩:=h;split at c
   ·rename_i v e;exact ⟨v,by simp only [zJG,hb,d,if_true];exact e,c⟩
   ·exact c.elim
  | false=>
   simp only [hb] at h;obtain ⟨v,d,c⟩:=zM7 h;exact ⟨v,by simp only [zJG,hb];exact d,c⟩
theorem zI1 {P:Program} {G:Cx}:∀{tb:TblS} {f:Nat} {args:List AV} {v:AV},TbW P G tb->zJG tb f args=some v->Enters P f/\PP v/\∀H nx,FnT P G f args H nx v H nx
 | [],f,args,v,_,h=>by cases h
 | s::r,f,args,v,c,h=>by
  simp only [zJG] at h;split at h
  ·rename_i e;split at h
   ·rename_i d;have:=c s (.head _) args v d h;rw [zb e];exact this
   ·cases h
  ·exact zI1 (λ s g=>c s (.tail _ g)) h
open Classical in
noncomputable def zFA (mv:Nat) (tb:TblS):Call:=λ f args H nx=>
 match args.any (hasH 8) with
 | false=>match zJG tb f args with
  | some v=>some (v,H,nx)
  | none=>none
 | true=>if (∀a∈args,CP mv nx a)/\HCP mv nx H/\(∀p∈H,p.1<nx) then
   match zw (frz H [] 8) args with
   | some c=>match zJG tb f c with
    | some v=>match zCh 8 v with
     | true=>some (v,H,nx)
     | false=>none
    | none=>none
   | none=>none
  else none
theorem zRY {mv:Nat} {tb:TblS}:Calm (zFA mv tb):=by
 intro f args H nx v d c h;simp only [zFA] at h
 repeat' split at h
 all_goals first
  | (cases h;done)
  | (cases h;exact ⟨rfl,rfl⟩)
theorem zT1 {P:Program} {G:Cx} {mv:Nat} {tb:TblS} (L:TbW P G tb) (hG:GPP G):zFb P G (zFA mv tb):=by
 intro f args H nx v H' ad h;simp only [zFA] at h;split at h
 ·split at h
  ·rename_i u F;cases h;obtain ⟨O,Y,U⟩:=zI1 L F;exact ⟨O,QB _,U _ _⟩
  ·cases h
 ·split at h
  rotate_left
  ·cases h
  rename_i hc;obtain ⟨T,R,W⟩:=hc;split at h
  rotate_left
  ·cases h
  rename_i z B;split at h
  rotate_left
  ·cases h
  rename_i u F;split at h
  rotate_left
  ·cases h
  rename_i hs;cases h;obtain ⟨O,Y,U⟩:=zI1 L F;refine ⟨O,QB _,λ E w l d N S ab=>?_⟩
  have C:∀{x:AV} {cx:Value},CP mv nx x->VR E w x cx->VR ⟨E.ρ,λ h=>E.D h/\h<nx,E.Z,E.σ⟩ w x cx:=λ hc hv=>
   VR.vd (E:=E) (E':=⟨E.ρ,λ h=>E.D h/\h<nx,E.Z,E.σ⟩) (w:=w) (w':=w) (λ h O Y=>⟨⟨Y,O⟩,rfl⟩) (λ b q=>⟨q,rfl⟩) (.refl w) (λ i _=>rfl) hv hc
  have s:SR G 0 ⟨E.ρ,λ h=>E.D h/\h<nx,E.Z,E.σ⟩ w { tmps:=#[],defers:=[] } (λ _=>none) ⟨[],H,[],nx,mv⟩:=by
   refine ⟨⟨d.nodup,λ p c=>⟨d.qC p c,W p c⟩,d.inj,λ p c=>?_,d.nz,d.wg⟩,⟨rfl,λ t v h=>(by cases h)⟩,λ g u h=>⟨C (hG g u h).cp (S g u h).1,(S g u h).2⟩,λ h hh=>hh.2,λ t v h=>(by cases h),R,λ j vi h=>(by cases h),λ j j2 i off h=>(by cases h),λ j vi b h=>(by cases h),λ j j' vi ac b h=>(by cases h)⟩
   obtain ⟨str,cs,e,X⟩:=R p c;have:=d.obj p c;rw [e] at this ⊢;exact OR.vd rfl (λ hc hv=>C hc hv) X this
  obtain ⟨m1,m2⟩:=zBf B;have M:VRs (frzE ⟨E.ρ,λ h=>E.D h/\h<nx,E.Z,E.σ⟩ (λ _=>none) H []) w z l.toList:=by
   refine ⟨m1.trans N.1,λ i y u hy F=>?_⟩
   have hi:i<args.length:=by have:=(QD.1 hy).1;omega
   have A:=QE hi;have I:=T _ (QF A);exact zFf s 8 I (C I (N.2 i _ u A F)) (m2 i _ y A hy)
  have J:∀b,(frzE ⟨E.ρ,λ h=>E.D h/\h<nx,E.Z,E.σ⟩ (λ _=>none) H []).Z b->b<w.heap.size:=by
   rintro b (q | ⟨p,c,rfl⟩ | ⟨j,vi,q1,_⟩)
   ·exact d.wg b q
   ·exact d.lt c
   ·cases q1
  have aa:HR (frzE ⟨E.ρ,λ h=>E.D h/\h<nx,E.Z,E.σ⟩ (λ _=>none) H []) [] w:=⟨.nil,λ p c=>by simp at c,λ p c=>by simp at c,λ p c=>by simp at c,λ p c=>by simp at c,J⟩
  have V:GR G (frzE ⟨E.ρ,λ h=>E.D h/\h<nx,E.Z,E.σ⟩ (λ _=>none) H []) w:=λ g u h=>⟨VR.pp (E:=E) (E':=frzE ⟨E.ρ,λ h=>E.D h/\h<nx,E.Z,E.σ⟩ (λ _=>none) H []) (w:=w) (w':=w) (λ b q=>⟨.inl q,rfl⟩) (S g u h).1 (hG g u h),(S g u h).2⟩
  refine (U [] 0 _ w l aa M V λ h _ _ hD=>hD).mono λ e w' h=>?_
  obtain ⟨cv,E',rfl,k1,r,k3⟩:=h;have o:∀x,x<w.heap.size->w'.heap[x]? = w.heap[x]?:=λ x A=>r.wa x A λ p c=>by simp at c
  have hm:∀{u cu},VR E w u cu->VR E w' u cu:=λ F=>VR.mono (E:=E) (E':=E) (λ _ h=>⟨h,rfl⟩) (λ b q=>⟨q,o b (d.wg b q)⟩) r.qn F
  exact ⟨cv,E,rfl,⟨d.nodup,d.qC,d.inj,λ p c=>(d.obj p c).mono (o _ (d.lt c)) hm,d.nz,λ b q=>QZ (d.wg b q) r.size⟩,
   ⟨QB _,λ _ _=>rfl,λ h=>⟨.inl,λ h=>h.elim id λ⟨x,y⟩=>by omega⟩,λ _ h=>h,λ _ h=>.inl h,λ p c=>.inl ⟨p,c,rfl⟩,r.tape,r.os,r.output,r.size,λ x A _=>o x A,r.qn,rfl⟩,zOJ 8 hs k3⟩
theorem qq:∀{fr:Fr} {n:Nat} {v:AV},fr.get n=some v->fr.put n v=fr
 | [],n,v,h=>by cases h
 | (k,u)::r,n,v,h=>by
  simp only [Fr.get] at h;simp only [Fr.put];cases e:Nat.beq k n with
  | true=>
   rw [e] at h;cases h;simp only;rw [zb e]
  | false=>
   rw [e] at h;simp only;rw [qq h]
theorem zP2 {G:Cx} {call:Call} {fr:Fr} {H:Heap} {m:Nat} {o:XO} {r:Out} (h:xoS G ze fr H m o=some r):xoS G call fr H m o=some r:=by
 cases o <;> first | exact h | skip
 ·simp only [xoS] at h ⊢;split at h
  ·cases h
  ·cases h
 ·simp only [xoS] at h ⊢;split at h
  ·unfold applyf at h;split at h
   ·cases h
   ·cases h
  ·cases h
 ·simp only [xoS] at h ⊢;split at h
  ·split at h
   ·cases h
   ·cases h
  ·cases h
theorem zNP {G:Cx} {fr:Fr} {H:Heap} {m:Nat} {o:XO} (q:zKg o=true) {v:AV} {H':Heap} {g:Nat} (c:∀p∈H,p.1<m) (h:xoS G ze fr H m o=some (v,H',g)):(∀p∈H',p.1<g)/\m<=g:=by
 have f:=zRQ (call:=ze) (λ _ _ _ _ _ _ _ h=>by cases h) h
 refine ⟨?_,f⟩
 by_cases l:zX o=0
 ·have e:=zOe (G:=G) (call:=ze) (fr:=fr) (H:=H) (nx:=m) l;rw [h] at e;split at e
  ·simp only [QJ,Prod.mk.injEq] at e;obtain ⟨_,rfl,_⟩:=e;exact λ p d=>QZ (c p d) f
  ·cases e
 ·by_cases e:zX o=1
  ·obtain ⟨rfl,rfl⟩:=zQ8 e h;exact c
  ·by_cases i:zX o=2
   ·obtain ⟨s,_,rfl,rfl⟩:=zPQ i h;intro p d;rcases QH.1 d with rfl | d
    ·exact QU _
    ·exact Nat.lt_succ_of_lt (c p d)
   ·cases o <;> first | (cases q;done) | (exact absurd rfl l) | (exact absurd rfl e) | (exact absurd rfl i) | skip
    simp only [xoS] at h
    repeat' split at h
    all_goals first | (cases h;done) | skip
    cases h;intro p d;rcases zDp d with rfl | d
    ·have key:∀{h:Nat} {o:HO},H.get h=some o->h<m:=λ r=>c _ (Heap.qh r)
     exact key (by assumption)
    ·exact c p d
section
variable {P:Program} {G:Cx} {tb:TblS} {st:Sta} {k:AV->Sta->Prop}
structure DXo (G:Cx) (tb:TblS) (st:Sta) (xop:XO) (k:AV->Sta->Prop) (v:AV) (H':Heap) (m':Nat):Prop where
 x:xoS G (zFA st.mv tb) st.fr st.H st.m xop=some (v,H',m')
 cv:CP st.mv m' v
 cH:HCP st.mv m' H'
 lt:∀p∈H',p.1<m'
 le:st.m<=m'
 k:k v ⟨st.fr,H',st.V,m',st.mv⟩
theorem zVe (af:TbW P G tb) (X:GPP G) {B:XO} {ks:List K} (A:opOK B=true) (F:FrCP st.mv st.m st.fr) (U:HCP st.mv st.m st.H) (R:∀p∈st.H,p.1<st.m) (h:wopD G tb st B ks k):∃v H' O,DXo G tb st B k v H' O:=by
 have u:∀{k':AV->Sta->Prop},(∀v d,k' v d->k v ⟨d.fr,d.H,st.V,d.m,d.mv⟩)->zKg B=true->WXd ⟨st.fr,st.H,[],st.m,st.mv⟩ (xoS G ze st.fr st.H st.m B) k'->∃v H' O,DXo G tb st B k v H' O:=by
  intro k' ai ah h;unfold WXd at h;split at h
  ·rename_i v H' O g;obtain ⟨J,o⟩:=zLE ah A X F U g;obtain ⟨h3,h4⟩:=zNP ah R g;exact ⟨v,H',O,zP2 g,J,o,h3,h4,ai _ _ h⟩
  ·exact h.elim
 have val:∀{v:AV},xoS G ze st.fr st.H st.m B=some (v,st.H,st.m)->CP st.mv st.m v->k v st->∃v H' O,DXo G tb st B k v H' O:=λ{v} g ar z=>⟨v,st.H,st.m,zP2 g,ar,U,R,QB _,z⟩
 have T:∀{f:Nat} {vs:List AV},xoS G (zFA st.mv tb) st.fr st.H st.m B=zFA st.mv tb f vs st.H st.m->(∀a∈vs,CP st.mv st.m a)->wcall tb f vs ⟨st.fr,st.H,[],st.m,st.mv⟩ (λ v d=>k v ⟨d.fr,d.H,st.V,d.m,d.mv⟩)->∃v H' O,DXo G tb st B k v H' O:=by
  intro f vs g L h;unfold wcall at h;split at h
  ·rename_i hh;obtain ⟨v,e,z⟩:=zM7 h;obtain ⟨_,o,_⟩:=zI1 af e;exact ⟨v,st.H,st.m,by rw [g];simp only [zFA,hh,e],o.cp,U,R,QB _,z⟩
  ·rename_i hh;split at h
   ·rename_i al ab;obtain ⟨v,e,z⟩:=zM7 h;obtain ⟨_,o,_⟩:=zI1 af e;split at z
    ·rename_i hs;have ab:zw (frz st.H [] 8) vs=some al:=ab;refine ⟨v,st.H,st.m,?_,o.cp,U,R,QB _,z⟩
     rw [g];simp only [zFA,hh];rw [if_pos ⟨L,U,R⟩];simp only [ab,e,hs]
    ·exact z.elim
   ·exact h.elim
 cases B <;> try (exact h.elim)
 case vb x=>
  simp only [wopD] at h;unfold WXd at h;split at h
  ·rename_i v H' O g;have ao:=g;simp only [xoS] at g;split at g
   ·cases g
   ·split at g
    ·split at g
     ·cases g;exact val ao (.str _) h
     ·cases g
    ·cases g
   ·cases g
  ·exact h.elim
 all_goals try (exact u (λ v d h=>h) rfl h)
 case qY x i l sz ag=>
  simp only [wopD,wop] at h;split at h
  ·exact u (λ v d h=>h) rfl h
  ·split at h
   ·rename_i kd n I;obtain ⟨⟨J,o⟩,h3⟩:=h;obtain ⟨m,rfl⟩:=Int.eq_ofNat_of_zero_le J;have z:=zDQ h3 m (Int.ofNat_lt.1 o) rfl;have e:xoS G ze st.fr st.H st.m (.qY x i l sz ag)=xoS G ze st.fr st.H st.m (.qY x (.c (.int kd (.ofNat m))) l sz ag):=by
     have I:i.ev G st.fr=some (.int kd (.ofNat m)):=I;simp only [xoS];rw [I];rfl
    exact u (λ v d h=>h) rfl (by rw [e];exact z)
   ·exact h.elim
 case qy x i l sz=>
  simp only [wopD,wop] at h;split at h
  ·exact u (λ v d h=>h) rfl h
  ·split at h
   ·rename_i kd n I;obtain ⟨⟨J,o⟩,h3⟩:=h;obtain ⟨m,rfl⟩:=Int.eq_ofNat_of_zero_le J;have z:=zDQ h3 m (Int.ofNat_lt.1 o) rfl;have e:xoS G ze st.fr st.H st.m (.qy x i l sz)=xoS G ze st.fr st.H st.m (.qy x (.c (.int kd (.ofNat m))) l sz):=by
     have I:i.ev G st.fr=some (.int kd (.ofNat m)):=I;simp only [xoS];rw [I];rfl
    exact u (λ v d h=>h) rfl (by rw [e];exact z)
   ·exact h.elim
 case pick cc x y=>
  simp only [wopD,wop] at h;have t:(xvOK cc=true/\xvOK x=true)/\xvOK y=true:=by simp only [opOK,XO.qb,zW,List.all_append,QX,List.all_nil,QT,QA] at A;exact A
  split at h
  ·rename_i cb ae;split at h
   ·rename_i n;have Y:st.fr.get n=some (.bool cb):=ae;rcases zDL h with ⟨rfl,o⟩ | ⟨rfl,o⟩
    ·split at o
     ·rename_i v N;rw [qq Y] at o;exact val (by simp only [xoS,ae,N]) (zR X F t.1.2 N) o
     ·exact o.elim
    ·split at o
     ·rename_i v N;rw [qq Y] at o;exact val (by simp only [xoS,ae,N]) (zR X F t.2 N) o
     ·exact o.elim
   ·exact u (λ v d h=>h) rfl h
  ·exact h.elim
 case bin op x y=>
  simp only [wopD,wop] at h;split at h
  ·rename_i s1 g;split at h
   ·split at h
    ·rename_i s2 S;obtain ⟨J,o⟩:=h;have D:Nat.ble (s1.length+s2.length) zc=true:=by rw [Qs];exact J
     exact val (by simp only [xoS,g,S,xbin,D]) (.str _) o
    ·exact h.elim
   ·exact u (λ v d h=>h) rfl h
  ·rename_i k1 n1 g;split at h
   ·split at h
    ·rename_i k2 n2 S;split at h
     ·rename_i z;obtain ⟨J,o⟩:=h;have D:(n2==0)=false:=by rw [beq_eq_false_iff_ne];exact J
      exact val (by simp only [xoS,g,S,xbin,z,D]) (.int _ _) o
     ·exact h.elim
    ·exact h.elim
   ·split at h
    ·rename_i k2 n2 S;split at h
     ·rename_i z;obtain ⟨J,o⟩:=h;have D:(n2==0)=false:=by rw [beq_eq_false_iff_ne];exact J
      exact val (by simp only [xoS,g,S,xbin,z,D]) (.int _ _) o
     ·exact h.elim
    ·exact h.elim
   ·split at h
    ·rename_i k2 n2 S;obtain ⟨J,o⟩:=h;have D:decide (n2<0)=false:=by rw [decide_eq_false_iff_not];omega
     exact val (by simp only [xoS,g,S,xbin,D]) (.int _ _) o
    ·exact h.elim
   ·split at h
    ·rename_i k2 n2 S;obtain ⟨J,o⟩:=h;have D:decide (n2<0)=false:=by rw [decide_eq_false_iff_not];omega
     exact val (by simp only [xoS,g,S,xbin,D]) (.int _ _) o
    ·exact h.elim
   ·exact u (λ v d h=>h) rfl h
  ·exact h.elim
 case wC neg kd x y=>
  simp only [wopD,wop] at h;split at h
  ·rename_i p g;split at h
   ·rename_i q S;split at h
    ·rename_i r hr;obtain ⟨e1,e2,e3⟩:=zM5 hr;have:eqs kd p q=some r:=by simp only [eqs,e2,e3,Nat.beq_refl,e1]
     exact val (by simp only [xoS,g,S,this]) (by unfold bneg;exact .bool _) h
    ·exact h.elim
   ·exact h.elim
  ·exact h.elim
 case wF x i=>
  simp only [wopD,wop] at h;split at h
  ·rename_i s g;split at h
   ·rename_i kd n I;obtain ⟨b,D,z⟩:=h;unfold ixN at D;split at D
    ·exact val (by simp only [xoS,g,I,D]) (.int _ _) z
    ·cases D
   ·exact h.elim
  ·exact h.elim
 case load x sz ag=>
  simp only [wopD,wop] at h;split at h
  ·exact h.elim
  ·exact u (λ v d h=>h) rfl h
 case store x y sz=>
  simp only [wopD,wop] at h;split at h
  ·exact h.elim
  ·exact u (λ v d h=>h) rfl h
 case qP x off=>
  simp only [wopD,wop] at h;split at h
  ·exact h.elim
  ·exact u (λ v d h=>h) rfl h
 case qB x i sz=>
  simp only [wopD,wop] at h;have t:xvOK x=true/\xvOK i=true:=by simp only [opOK,XO.qb,zW,QT,List.all_append,QX,List.all_nil,QA] at A;exact A
  split at h
  ·rename_i ak es g;split at h
   ·rename_i D;split at h
    ·rename_i kd n I;obtain ⟨v,N,z⟩:=h;obtain ⟨e1,e2⟩:=zRc (k:=kd) N;have L:=zR X F t.1 g;cases L with
     | qp _ _ ad=>exact val (by simp only [xoS,g,I,D,e1]) (.qe _ _ (ad v e2)) z
    ·exact h.elim
   ·exact h.elim
  ·exact h.elim
  ·split at h
   ·rename_i kd n I;obtain ⟨⟨J,o⟩,h3⟩:=h;obtain ⟨m,rfl⟩:=Int.eq_ofNat_of_zero_le J;have z:=zDQ h3 m (Int.ofNat_lt.1 o) rfl;have e:xoS G ze st.fr st.H st.m (.qB x i sz)=xoS G ze st.fr st.H st.m (.qB x (.c (.int kd (.ofNat m))) sz):=by
     have I:i.ev G st.fr=some (.int kd (.ofNat m)):=I;simp only [xoS];rw [I];rfl
    exact u (λ v d h=>h) rfl (by rw [e];exact z)
   ·exact h.elim
  ·exact h.elim
 case wA x lo I=>
  simp only [wopD,wop] at h;split at h
  ·rename_i s g;split at h
   ·rename_i aq aa;split at h
    ·rename_i aj ac;obtain ⟨l,r,z,e1,e2,_,_⟩:=zHJ h;exact val (by simp only [xoS,g,aa,ac,e1,e2]) (.str _) z
    ·exact h.elim
   ·exact h.elim
  ·exact h.elim
 case wu x lo I mx sz=>
  simp only [wopD,wop] at h;simp only [opOK,QA] at A;split at h
  ·rename_i ak es g;split at h
   ·rename_i D;split at h
    ·split at h
     ·rename_i aq aa;split at h
      ·rename_i aj ac;obtain ⟨l,r,z,e1,e2,_,_⟩:=zHJ h;have C:xvOK x=true:=QG.1 A.1 x (by simp [XO.qb])
       have L:=zR X F C g;cases L with
       | qp _ _ ad=>exact val (by simp only [xoS,g,aa,ac,zP0,xslice,D,e1,e2]) (.qp _ _ λ e he=>ad e (QP (QW he))) z
      ·exact h.elim
     ·exact h.elim
    ·exact h.elim
   ·exact h.elim
  ·rename_i g;unfold WXd at h;split at h
   ·rename_i v H' O C;have:v=.qa/\H'=st.H/\O=st.m:=by
     simp only [xoS,g] at C;split at C
     ·rename_i v0 aw ax ay e0 _ _ _;cases e0;simp only [xslice] at C;split at C
      ·rename_i v1 M;cases C;split at M
       ·split at M
        ·split at M
         ·cases M;exact ⟨rfl,rfl,rfl⟩
         ·cases M
        ·cases M
       ·cases M
      ·cases C
     ·cases C
    obtain ⟨rfl,rfl,rfl⟩:=this;exact val C .qa h
   ·exact h.elim
  ·exact h.elim
 case wi x=>
  simp only [wopD,wop] at h;split at h
  ·exact h.elim
  ·exact u (λ v d h=>h) rfl h
 case call f xs=>
  simp only [wopD,wop] at h;have t:xs.all xvOK=true:=by simp only [opOK,XO.qb,zW,QT] at A;exact A
  split at h
  ·rename_i vs N;exact T (by simp only [xoS,N]) (zFd X F t N) h
  ·exact h.elim
 case qL fx xs=>
  simp only [wopD,wop] at h;have t:xvOK fx=true/\xs.all xvOK=true:=by simp only [opOK,XO.qb,zW,List.all_append,QX,List.all_nil,QT,QA] at A;exact A
  split at h
  ·rename_i f first au hf;split at h
   ·rename_i vs N;refine T (by simp only [xoS,hf,N,applyf]) (λ a W=>?_) h
    have L:=zR X F t.1 hf;cases L with
    | func _ _ _ J o=>
     rcases QI.1 W with W | W
     ·rcases QI.1 W with W | W
      ·exact J a W
      ·exact zFd X F t.2 N a W
     ·exact o a W
   ·exact h.elim
  ·exact h.elim
structure KD (K:Sta->Prop) (V:Vecs) (mv:Nat) (fr:Fr) (H:Heap) (nx:Nat):Prop where
 k:K ⟨fr,H,V,nx,mv⟩
 cf:FrCP mv nx fr
 cH:HCP mv nx H
theorem zM8 (q:TbW P G tb) (B:GPP G) {V:Vecs} {mv:Nat} {K:Sta->Prop}:∀(ops:List TOp) {fr:Fr} {H:Heap} {m:Nat},(∀t∈ops,opOK t.o.op=true)->FrCP mv m fr->HCP mv m H->(∀p∈H,p.1<m)->zCx G tb ops K ⟨fr,H,V,m,mv⟩->WN G (zFA mv tb) (ops.map TOp.o) (KD K V mv) fr H m
 | [],fr,H,m,_,g,i,_,h=>⟨h,g,i⟩
 | o::r,fr,H,m,u,g,i,s,h=>by
  have l:∀t∈r,opOK t.o.op=true:=λ t C=>u t (.tail _ C)
  have step:wopD G tb ⟨fr,H,V,m,mv⟩ o.o.op o.ks (λ v st=>zCx G tb r K (st.put o.o.dst v))->∃v z y,xoS G (zFA mv tb) fr H m o.o.op=some (v,z,y)/\WN G (zFA mv tb) (r.map TOp.o) (KD K V mv) (qv fr o.o.dst v) z y:=by
   intro h;obtain ⟨v,z,D,d⟩:=zVe (st:=⟨fr,H,V,m,mv⟩) q B (u o (.head _)) g i s h;exact ⟨v,z,D,d.x,zM8 q B r l ((g.mono (QB _) d.le).qv d.cv) d.cH d.lt d.k⟩
  have skip:zCx G tb r K ⟨qv fr o.o.dst (.qf []),H,V,m,mv⟩->WN G (zFA mv tb) (r.map TOp.o) (KD K V mv) (qv fr o.o.dst (.qf [])) H m:=λ h=>
   zM8 q B r l (g.qv (.qf _ λ e F=>by cases F)) i s h
  simp only [zCx] at h;simp only [Qd,WN];cases hg:o.o.guard with
  | none=>
   rw [hg] at h;exact step h
  | some A=>
   obtain ⟨t,b⟩:=A;rw [hg] at h;simp only at h ⊢;split at h
   ·rename_i c hc;rw [hc];unfold brT at h;rcases zDL h with ⟨rfl,f⟩ | ⟨rfl,f⟩
    ·have f:(match true==b with
      | true=>wopD G tb ⟨fr.put t (.bool true),H,V,m,mv⟩ o.o.op o.ks λ v st=>zCx G tb r K (st.put o.o.dst v)
      | false=>zCx G tb r K (Sta.put ⟨fr.put t (.bool true),H,V,m,mv⟩ o.o.dst (.qf []))):=f
     rw [qq hc] at f;cases b with
     | true=>exact ⟨λ _=>step f,λ e=>(by cases e)⟩
     | false=>exact ⟨λ e=>(by cases e),λ _=>skip f⟩
    ·have f:(match false==b with
      | true=>wopD G tb ⟨fr.put t (.bool false),H,V,m,mv⟩ o.o.op o.ks λ v st=>zCx G tb r K (st.put o.o.dst v)
      | false=>zCx G tb r K (Sta.put ⟨fr.put t (.bool false),H,V,m,mv⟩ o.o.dst (.qf []))):=f
     rw [qq hc] at f;cases b with
     | true=>exact ⟨λ e=>(by cases e),λ _=>skip f⟩
     | false=>exact ⟨λ _=>step f,λ e=>(by cases e)⟩
   ·rename_i hc;rw [hc];exact skip h
   ·exact h.elim
end
end Go.Sy
namespace Go.Sy
section
variable {P:Program} {G:Cx} {nt:Nat} {E:Env} {w:World} {a:Act} {β:Nat->Option Nat} {st:Sta}
 {Z0 B0:Nat->Prop} {w0:World} {dl:List Deferred} {tb:TblS}
theorem zEp {h:Nat}:∀{l:List Nat} {i k:Nat},posN h i l=some k->∃j,k=i+j/\l[j]? = some h
 | [],i,k,e=>by cases e
 | a::r,i,k,e=>by
  simp only [posN] at e;split at e
  ·rename_i d;cases e;exact ⟨0,rfl,by rw [zb d];rfl⟩
  ·obtain ⟨j,f,c⟩:=zEp e;exact ⟨j+1,by omega,by simpa using c⟩
theorem zMk {n:Nat}:∀{l:List Nat},inN n l=false->n ∉ l
 | [],_,h=>by cases h
 | a::r,e,h=>by
  simp only [inN] at e;split at e
  ·cases e
  ·rename_i c;rcases QH.1 h with rfl | h
   ·rw [Nat.beq_refl] at c;cases c
   ·exact zMk e h
theorem zJ5:∀{l:List Nat},zIW l=true->l.Nodup
 | [],_=>.nil
 | a::r,h=>by
  simp only [zIW,QA,Bool.not_eq_true'] at h;exact List.nodup_cons.2 ⟨zMk h.1,zJ5 h.2⟩
def zAa (E:Env) (hm c:List Nat):Env:=⟨λ i=>E.ρ (hm.getD i 0),λ i=>∃h,hm[i]? = some h/\E.D h,E.Z,λ i=>E.σ (c.getD i 0)⟩
theorem zLJ {hm r:List Nat} {n k:Nat}:∀(d:Nat) {v v':AV} {cv:Value},CP n k v->VR E w v cv->rnV hm r d v=some v'->VR (zAa E hm r) w v' cv/\CP r.length hm.length v':=by
 intro d
 induction d with
 | zero=>intro v v' cv _ _ h;cases h
 | succ d ih=>
  intro v v' cv q g h;have Y:∀{T W:List AV} {vs:List Value},(∀e∈T,CP n k e)->VRs E w T vs->zw (rnV hm r d) T=some W->VRs (zAa E hm r) w W vs/\∀e∈W,CP r.length hm.length e:=λ{T W vs} hc J ac=>by
   obtain ⟨m1,m2⟩:=zBf ac;have key:∀(i:Nat) y u,W[i]? = some y->vs[i]? = some u->VR (zAa E hm r) w y u/\CP r.length hm.length y:=λ i y u O U=>by
    have X:i<T.length:=by have:=(QD.1 O).1;omega
    have z:=QE X;exact ih (hc _ (QF z)) (J.2 i _ u z U) (m2 i _ y z O)
   refine ⟨⟨m1.trans J.1,λ i y u O U=>(key i y u O U).1⟩,λ e C=>?_⟩
   obtain ⟨i,X⟩:=List.getElem?_of_mem C;have A:i<vs.length:=by have:=(QD.1 X).1;have:=J.1;omega
   exact (key i e _ X (QE A)).2
  have hD:∀{h i:Nat},posN h 0 hm=some i->E.D h->(zAa E hm r).D i/\(zAa E hm r).ρ i=E.ρ h/\i<hm.length:=λ{h i} e M=>by
   obtain ⟨j,N,F⟩:=zEp e;have N:i=j:=by omega
   subst N;refine ⟨⟨h,F,M⟩,?_,(QD.1 F).1⟩
   show E.ρ (hm.getD i 0)=E.ρ h
   rw [List.getD_eq_getElem?_getD,F];rfl
  have p:∀{v:AV} {cv:Value},PP v->VR E w v cv->VR (zAa E hm r) w v cv:=λ hp g=>VR.pp (E:=E) (E':=zAa E hm r) (w:=w) (w':=w) (λ b I=>⟨I,rfl⟩) g hp
  unfold rnV at h;split at h
  ·split at h
   ·rename_i i e;cases h;cases g with
    | ptr _ _ M=>
     obtain ⟨g1,g2,g3⟩:=hD e M;rw [←g2];exact ⟨.ptr _ _ g1,.ptr _ _ g3⟩
   ·cases h
  ·split at h
   ·rename_i i e;cases h;obtain ⟨j,N,F⟩:=zEp e;have A:i<hm.length:=by have:=(QD.1 F).1;omega
    cases g with
    | row _ _ _ _ _ cap _ M S R aa q ae I=>
     obtain ⟨g1,g2,g3⟩:=hD e M;rw [←g2] at I ⊢;exact ⟨.row _ _ _ _ _ cap _ g1 S R aa q ae I,.row _ _ _ _ _ _ A⟩
    | wc _ _ _ _ ad=>exact ⟨.wc _ _ _ _ ad,.row _ _ _ _ _ _ A⟩
   ·cases h
  ·split at h
   ·rename_i i e;cases h;cases g with
    | map _ M=>
     obtain ⟨g1,g2,g3⟩:=hD e M;rw [←g2];exact ⟨.map _ g1,.map _ g3⟩
   ·cases h
  ·split at h
   ·rename_i i e;cases h;obtain ⟨j,N,F⟩:=zEp e;have N:i=j:=by omega
    subst N;have A:i<r.length:=(QD.1 F).1;cases g with
    | sym _ _ C h1=>
     refine ⟨.sym _ _ (C.trans ?_) h1,.sym _ A⟩
     show _=E.σ (r.getD i 0)
     rw [List.getD_eq_getElem?_getD,F];rfl
   ·cases h
  ·split at h
   ·rename_i x' z;split at h
    ·rename_i y' O;cases h;cases q with
     | func _ _ _ V I=>
      cases g with
      | func _ _ _ vf vc hf hc rf rc=>
       obtain ⟨⟨g1,g2⟩,g3⟩:=Y (vs:=vf.toList) V ⟨by simpa using hf,λ i x v z g=>rf i x v z (by simpa using g)⟩ z
       obtain ⟨⟨g4,g5⟩,g6⟩:=Y (vs:=vc.toList) I ⟨by simpa using hc,λ i x v z g=>rc i x v z (by simpa using g)⟩ O
       exact ⟨.func _ _ _ vf vc (by simpa using g1) (by simpa using g4) (λ i x v z g=>g2 i x v z (by simpa using g)) (λ i x v z g=>g5 i x v z (by simpa using g)),.func _ _ _ g3 g6⟩
    ·cases h
   ·cases h
  ·split at h
   ·rename_i u' U;cases h;cases q with
    | iface _ _ hc=>
     cases g with
     | iface _ _ cv g=>
      obtain ⟨g1,g2⟩:=ih hc g U;exact ⟨.iface _ _ cv g1,.iface _ _ g2⟩
   ·cases h
  ·split at h
   ·rename_i ab L;cases h;cases q with
    | agg _ hc=>
     obtain ⟨vs,rfl,k1,k2⟩:=g.qV;obtain ⟨g1,g2⟩:=Y hc k1 L;exact ⟨VR.qM g1 k2,.agg _ g2⟩
   ·cases h
  ·split at h
   ·rename_i ab L;cases h;cases q with
    | qf _ hc=>
     obtain ⟨vs,rfl,k1⟩:=g.w8;obtain ⟨g1,g2⟩:=Y hc k1 L;exact ⟨VR.qJ g1,.qf _ g2⟩
   ·cases h
  ·cases h;cases q with
   | qe e off C=>exact ⟨p (.qe _ _ C) g,.qe _ _ C⟩
   | qp sz es C=>exact ⟨p (.qp _ _ C) g,.qp _ _ C⟩
   | bool b=>exact ⟨p (.bool _) g,.bool _⟩
   | int k m=>exact ⟨p (.int _ _) g,.int _ _⟩
   | str s=>exact ⟨p (.str _) g,.str _⟩
   | ql=>exact ⟨p .ql g,.ql⟩
   | qa=>exact ⟨p .qa g,.qa⟩
   | qj=>exact ⟨p .qj g,.qj⟩
   | qi=>exact ⟨p .qi g,.qi⟩
   | qd=>exact ⟨p .qd g,.qd⟩
   | ptr h' o' hk=>exact (‹∀(h o:Nat),AV.ptr h' o'=AV.ptr h o->False› _ _ rfl).elim
   | row B a2 a3 a4 a5 a6 hk=>exact (‹∀(h o l s c:Nat) (e:Bool),AV.row B a2 a3 a4 a5 a6=AV.row h o l s c e->False› _ _ _ _ _ _ rfl).elim
   | map B hk=>exact (‹∀(h:Nat),AV.map B=AV.map h->False› _ rfl).elim
   | sym B hk=>exact (‹∀(h:Nat),AV.sym B=AV.sym h->False› _ rfl).elim
   | func B a2 a3 V I=>exact (‹∀(f:Fn) (a b:List AV),AV.func B a2 a3=AV.func f a b->False› _ _ _ rfl).elim
   | iface B a2 V=>exact (‹∀(t:Nat) (v:AV),AV.iface B a2=AV.iface t v->False› _ _ rfl).elim
   | agg B V=>exact (‹∀(cs:List AV),AV.agg B=AV.agg cs->False› _ rfl).elim
   | qf B V=>exact (‹∀(cs:List AV),AV.qf B=AV.qf cs->False› _ rfl).elim
theorem zHs {H:Heap} {hm g:List Nat}:∀{l:List Nat} {i:Nat} {H':Heap},rnH H hm g i l=some H'->H'.length=l.length/\H'.keys=List.range' i l.length/\∀p∈H',∃(j:Nat) (h:Nat) (str:Bool) (cs cs':List AV),l[j]? = some h/\p=(i+j,HO.cells str cs')/\H.get h=some (.cells str cs)/\zw (rnV hm g 8) cs=some cs'
 | [],i,H',e=>by cases e;exact ⟨rfl,rfl,λ p c=>by cases c⟩
 | h::r,i,H',e=>by
  simp only [rnH] at e;split at e
  ·rename_i str cs s;split at e
   ·rename_i cs' f;split at e
    ·rename_i o z;cases e;obtain ⟨u,d,A⟩:=zHs z;refine ⟨by simp [u],?_,λ p c=>?_⟩
     ·have d:List.map (·.1) o=List.range' (i+1) r.length:=d;show List.map (·.1) ((i,HO.cells str cs')::o)=_
      rw [Qd,d,QK,List.range'_succ]
     ·rcases QH.1 c with rfl | c
      ·exact ⟨0,h,str,cs,cs',rfl,rfl,s,f⟩
      ·obtain ⟨j,t,q,x,c2,q1,B,v,y⟩:=A p c;exact ⟨j+1,t,q,x,c2,by simpa using q1,by rw [B];congr 1;omega,v,y⟩
    ·cases e
   ·cases e
  ·cases e
theorem zHU {V:Vecs}:∀{l:List Nat} {i:Nat} {c:Vecs},rnVs V i l=some c->c.length=l.length/\∀j vi,c.get j=some vi->∃k s,j=i+k/\l[k]? = some s/\V.get s=some vi/\vi.qz=true
 | [],i,c,e=>by cases e;exact ⟨rfl,λ j vi h=>by cases h⟩
 | s::r,i,c,e=>by
  have key:∀{f:Vecs} {vi:VI},V.get s=some vi->vi.qz=true->rnVs V (i+1) r=some f->c=(i,vi)::f->c.length=(s::r).length/\∀j vi,c.get j=some vi->∃k o,j=i+k/\(s::r)[k]? = some o/\V.get o=some vi/\vi.qz=true:=by
   intro f vi d v g e;subst e;obtain ⟨t,q⟩:=zHU g;refine ⟨by simp [t],λ j p h=>?_⟩
   rw [Vecs.qg] at h;split at h
   ·rename_i e;cases h;exact ⟨0,s,e.symm,rfl,d,v⟩
   ·obtain ⟨k,o,q1,y,u,x⟩:=q j p h;exact ⟨k+1,o,by omega,by simpa using y,u,x⟩
  simp only [rnVs] at e;split at e
  ·rename_i sz es d;split at e
   ·rename_i f g;cases e;exact key d rfl g rfl
   ·cases e
  ·rename_i es d;split at e
   ·rename_i f g;cases e;exact key d rfl g rfl
   ·cases e
  ·cases e
theorem zLK {fr:Fr}:∀{ts:List Nat} {vs:List AV},zNL fr ts=some vs->vs.length=ts.length/\∀(i t:Nat) v,ts[i]? = some t->vs[i]? = some v->fr.get t=some v
 | [],vs,e=>by cases e;exact ⟨rfl,λ i t v h=>by simp at h⟩
 | t::ts,vs,e=>by
  simp only [zNL] at e;split at e
  ·rename_i v q;split at e
   ·rename_i r p;cases e;obtain ⟨o,g⟩:=zLK p;refine ⟨by simp [o],λ i l f d c=>?_⟩
    cases i with
    | zero=>simp at d c;subst d;subst c;exact q
    | succ i=>exact g i l f (by simpa using d) (by simpa using c)
   ·cases e
  ·cases e
theorem zKK:∀{ts:List Nat} {vs:List AV} {t:Nat} {v:AV},(zipF ts vs).get t=some v->∃i:Nat,ts[i]? = some t/\vs[i]? = some v
 | [],vs,t,v,h=>by cases vs <;> cases h
 | t0::ts,[],t,v,h=>by cases h
 | t0::ts,v0::vs,t,v,h=>by
  simp only [zipF,Fr.get] at h;split at h
  ·rename_i e;cases h;exact ⟨0,by rw [zb e];rfl,rfl⟩
  ·obtain ⟨i,d,c⟩:=zKK h;exact ⟨i+1,by simpa using d,by simpa using c⟩
structure CanV (hm sm:List Nat) (st:Sta) (H:Heap) (V:Vecs):Prop where
 uM:hm.Nodup
 uL:sm.Nodup
 rh:rnH st.H hm sm 0 hm=some H
 rv:rnVs st.V 0 sm=some V
theorem zJH (hG:GPP G) (s:SR G nt E w a β st) {hm d:List Nat} {vs0:List AV} {cvs:List Value} (ag:∀v∈vs0,CP st.mv st.m v) (M:VRs E w vs0 cvs) {k:List AV->Heap->Vecs->Prop} (h:zDo hm d vs0 st k):
  ∃vs H V,k vs H V/\CanV hm d st H V/\zw (rnV hm d 8) vs0=some vs/\VRs (zAa E hm d) w vs cvs/\(∀v∈vs,CP V.length H.length v)/\(∀X a' fr',FrR (zAa E hm d) w fr' a' X->FrCP V.length H.length fr'->SR G X (zAa E hm d) w a' (λ i=>β (d.getD i 0)) ⟨fr',H,V,H.length,V.length⟩) ∧
   Kp E.Z (BS E β st.H st.V) w (zAa E hm d).Z (BS (zAa E hm d) (λ i=>β (d.getD i 0)) H V) w:=by
 unfold zDo at h;split at h
 rotate_left
 ·exact h.elim
 rename_i aa;rw [QA] at aa;have T:=zJ5 aa.1;have U:=zJ5 aa.2;split at h
 rotate_left
 ·exact h.elim
 rename_i vs ab;split at h
 rotate_left
 ·exact h.elim
 rename_i H hH;split at h
 rotate_left
 ·exact h.elim
 rename_i V hV;obtain ⟨g1,g2,g3⟩:=zHs hH;obtain ⟨v1,v2⟩:=zHU hV;obtain ⟨m1,m2⟩:=zBf ab;have hσ:∀{j y:Nat},d[j]? = some y->(zAa E hm d).σ j=E.σ y:=λ{j y} e=>by
  show E.σ (d.getD j 0)=E.σ y
  rw [List.getD_eq_getElem?_getD,e];rfl
 have hρ:∀{j D:Nat},hm[j]? = some D->(zAa E hm d).ρ j=E.ρ D:=λ{j D} e=>by
  show E.ρ (hm.getD j 0)=E.ρ D
  rw [List.getD_eq_getElem?_getD,e];rfl
 have inj:∀{l:List Nat} {i j x:Nat},l.Nodup->l[i]? = some x->l[j]? = some x->i=j:=λ{l i j x} hn F O=>by
  obtain ⟨h1,h2⟩:=QD.1 F;obtain ⟨h3,h4⟩:=QD.1 O;exact (List.getElem_inj hn).1 (h2.trans h4.symm)
 have W:∀(i:Nat) x u,vs[i]? = some x->cvs[i]? = some u->VR (zAa E hm d) w x u/\CP V.length H.length x:=λ i x u C hu=>by
  have F:i<vs0.length:=by have:=(QD.1 C).1;omega
  have c:=QE F;have:=zLJ 8 (ag _ (QF c)) (M.2 i _ u c hu) (m2 i _ x c C);rw [v1,g1];exact this
 refine ⟨vs,H,V,h,⟨T,U,hH,hV⟩,ab,⟨m1.trans M.1,λ i x u C hu=>(W i x u C hu).1⟩,λ x C=>?_,λ X a' fr' ak ai=>⟨⟨?_,λ p t=>?_,λ p t q hq e=>?_,λ p t=>?_,λ p t=>?_,s.hr.wg⟩,ak,?_,λ i F=>?_,ai,λ p t=>?_,λ j I O=>?_,λ j j2 i off O=>?_,λ j I b O ho B=>?_,λ j j' I ae b h1 h2 h3 h4 h5 h6=>?_⟩,?_⟩
 ·obtain ⟨i,F⟩:=List.getElem?_of_mem C;have J:i<cvs.length:=by have:=(QD.1 F).1;have:=M.1;omega
  exact (W i x _ F (QE J)).2
 ·show H.keys.Nodup
  rw [g2];exact List.nodup_range'
 ·obtain ⟨j,D,str,cs,z,r,rfl,f,L⟩:=g3 p t;have:=s.hr.qC _ (Heap.qh f);exact ⟨D,by simpa using r,this⟩
 ·obtain ⟨j,D,str,cs,z,r,rfl,f,L⟩:=g3 p t;obtain ⟨j2,h2,al,aq,ao,f1,rfl,f3,f4⟩:=g3 q hq;simp only [QV] at e ⊢;rw [hρ r,hρ f1] at e;have:=s.hr.inj _ (Heap.qh f) _ (Heap.qh f3) e;simp only at this;subst this;exact inj T r f1
 ·obtain ⟨j,D,str,cs,z,r,rfl,f,L⟩:=g3 p t;simp only [QV];rw [hρ r];have ac:=Heap.qh f;have aj:=s.hr.obj _ ac;obtain ⟨_,_,ec,Y⟩:=s.cH.get f;cases ec;obtain ⟨cc,ee,ff,q1,A,N,R⟩:=aj;obtain ⟨r1,r2⟩:=zBf L;refine ⟨cc,ee,ff,q1,by omega,N,λ i x C=>?_⟩
  have F:i<cs.length:=by have:=(QD.1 C).1;omega
  have c:=QE F;obtain ⟨v,k1,k2,k3⟩:=R i _ c;exact ⟨v,k1,k2,(zLJ 8 (Y _ (QF c)) k3 (r2 i _ x c C)).1⟩
 ·obtain ⟨j,D,str,cs,z,r,rfl,f,L⟩:=g3 p t;simp only [QV];rw [hρ r];exact s.hr.nz _ (Heap.qh f)
 ·exact λ g u hg=>⟨VR.pp (E:=E) (E':=zAa E hm d) (w:=w) (w':=w) (λ b B=>⟨B,rfl⟩) (s.hg g u hg).1 (hG g u hg),(s.hg g u hg).2⟩
 ·obtain ⟨D,e,_⟩:=F;show i<H.length
  rw [g1];exact (QD.1 e).1
 ·obtain ⟨j,D,str,cs,z,r,rfl,f,L⟩:=g3 p t;refine ⟨str,z,rfl,λ x C=>?_⟩
  show CP V.length H.length x
  rw [v1,g1];obtain ⟨_,_,ec,Y⟩:=s.cH.get f;cases ec;obtain ⟨r1,r2⟩:=zBf L;obtain ⟨i,F⟩:=List.getElem?_of_mem C;have J:i<cs.length:=by have:=(QD.1 F).1;omega
  have c:=QE J;obtain ⟨_,_,_,_,_,_,R⟩:=s.hr.obj _ (Heap.qh f);obtain ⟨v,k1,k2,k3⟩:=R i _ c;exact (zLJ 8 (Y _ (QF c)) k3 (r2 i _ x c F)).2
 ·obtain ⟨S,y,rfl,A,N,R⟩:=v2 j I O;simp only [QV] at O ⊢;have J:=(QD.1 A).1;refine ⟨by show S<V.length;rw [v1];exact J,?_⟩
  have o:d.getD S 0=y:=by rw [List.getD_eq_getElem?_getD,A];rfl
  have ad:=(s.qU y I N).2;cases I with
  | vec sz es=>
   obtain ⟨t,⟨r,e2,f⟩ | ⟨b,str,cs,cp,ex,r,e2,f,L,e5,e6⟩⟩:=ad
   ·exact ⟨t,.inl ⟨by simp only [o];exact r,(hσ A).trans e2,f⟩⟩
   ·exact ⟨t,.inr ⟨b,str,cs,cp,ex,by simp only [o];exact r,OR.pp (E:=E) (E':=zAa E hm d) (w:=w) (w':=w) rfl (λ b B=>⟨B,rfl⟩) L e2,by rw [hσ A];exact f,L,e5,e6⟩⟩
  | mp es=>
   obtain ⟨t,b,r,e2,f⟩:=ad;exact ⟨t,b,by simp only [o];exact r,OR.pm (E:=E) (E':=zAa E hm d) (w:=w) (w':=w) rfl (λ b B=>⟨B,rfl⟩) t e2,(hσ A).trans f⟩
  | qS=>cases R
 ·obtain ⟨S,y,rfl,A,N,R⟩:=v2 j _ O;cases R
 ·obtain ⟨S,y,rfl,A,N,R⟩:=v2 j I O;simp only [QV] at B;have o:d.getD S 0=y:=by rw [List.getD_eq_getElem?_getD,A];rfl
  rw [o] at B;obtain ⟨z1,z2⟩:=s.bz y I b N ho B;refine ⟨z1,λ p t e=>?_⟩
  obtain ⟨j,D,str,cs,z,r,rfl,f,L⟩:=g3 p t;simp only [QV] at e;rw [hρ r] at e;exact z2 _ (Heap.qh f) e
 ·obtain ⟨S,y,rfl,A,N,R⟩:=v2 j I h1;obtain ⟨ah,s2,rfl,r2,r3,r4⟩:=v2 j' ae h2;simp only [QV] at h5 h6 ⊢;have o:d.getD S 0=y:=by rw [List.getD_eq_getElem?_getD,A];rfl
  have af:d.getD ah 0=s2:=by rw [List.getD_eq_getElem?_getD,r2];rfl
  rw [o] at h5;rw [af] at h6;have:=s.qT y s2 I ae b N r3 h3 h4 h5 h6;subst this;exact inj U A r2
 ·refine Kp.less λ x C=>?_
  rcases C with ⟨p,t,e⟩ | ⟨j,I,O,ho,B⟩
  ·obtain ⟨j,D,str,cs,z,r,rfl,f,L⟩:=g3 p t;simp only [QV] at e;rw [hρ r] at e;exact .inl ⟨_,Heap.qh f,e⟩
  ·obtain ⟨S,y,rfl,A,N,R⟩:=v2 j I O;simp only [QV] at B;have o:d.getD S 0=y:=by rw [List.getD_eq_getElem?_getD,A];rfl
   rw [o] at B;exact .inr ⟨y,I,N,ho,B⟩
theorem zWm (D:GPP G) (s:SR G nt E w a β st) {c:Cut} {k:List AV->Heap->Vecs->Prop} (h:canon c st k):∃vs H V,k vs H V/\∃p r,SR G nt p w a r (mkW c vs H V)/\Kp E.Z (BS E β st.H st.V) w p.Z (BS p r H V) w:=by
 unfold canon at h;split at h
 ·exact h.elim
 rename_i vs0 g;unfold zIX at h;generalize zF1 st.H 30 0 (vs0.foldl (λ a v=>hsA 8 v a) (List.range c.pins))=F at h
 generalize zDK st.H F (vs0.foldl (λ a v=>zGc 8 v a) [])=N at h
 obtain ⟨I,J⟩:=zLK g;have q:∀(i:Nat) x,vs0[i]? = some x->∃t,c.qF[i]? = some t/\st.fr.get t=some x:=λ i x f=>by
  have o:i<c.qF.length:=by have:=(QD.1 f).1;omega
  have e:=QE o;exact ⟨_,e,J i _ x e f⟩
 obtain ⟨vs,H,V,z,M,O,A,L,B,C⟩:=zJH D s (vs0:=vs0) (cvs:=c.qF.map λ t=>a.tmps.getD t undef) (λ x f=>by
  obtain ⟨i,o⟩:=List.getElem?_of_mem f;obtain ⟨t,_,d⟩:=q i x o;exact s.qZ t x d) ⟨by simp [I],λ i x u f y=>by
  obtain ⟨t,l,d⟩:=q i x f;rw [Qj,l] at y;cases y;exact s.hf.get t x d⟩ h
 refine ⟨vs,H,V,z,_,_,B nt a (zipF c.qF vs) ⟨s.hf.size,λ t v e=>?_⟩ (λ t v e=>?_),C⟩
 ·obtain ⟨i,l,d⟩:=zKK e;exact A.2 i v _ d (by rw [Qj,l];rfl)
 ·obtain ⟨i,l,d⟩:=zKK e;exact L v (QF d)
end
end Go.Sy
