/- A LIBRARY: WHAT A FUNCTION'S CODE RECKONS, AS A LEAN FUNCTION, AND THAT ITS WORD IS THE MODEL'S: part 1 of 6. No condition. -/
import Derived.Calls
import Derived.Orders
import Derived.Laws.Sem
import Derived.Laws.Strings
import Derived.Laws.Small
import Derived.Laws.Entries
import Derived.Laws.StructEq
import Derived.Laws.Externs
import Derived.Laws.Cells
import Derived.Laws.Pointers
import Derived.Laws.AppendOwn
import Derived.Laws.MakeOwn
import Derived.Laws.IdiomStrings
import Derived.Laws.RangeString
import Derived.Laws.IdiomRangeMap
set_option linter.unusedVariables false
set_option linter.unusedSimpArgs false
theorem qr:type_of% @Bool.and_eq_true:=@Bool.and_eq_true
theorem QA:type_of% @Nat.le_refl:=@Nat.le_refl
theorem QB:type_of% @Int.ofNat_eq_natCast:=@Int.ofNat_eq_natCast
theorem QC:type_of% @List.getElem?_eq_some_iff:=@List.getElem?_eq_some_iff
theorem QD:type_of% @List.all_eq_true:=@List.all_eq_true
theorem QE:type_of% @List.getElem?_eq_getElem:=@List.getElem?_eq_getElem
theorem QF:type_of% @List.mem_of_getElem?:=@List.mem_of_getElem?
theorem QG:type_of% @List.mem_cons:=@List.mem_cons
theorem QH:type_of% @List.mem_append:=@List.mem_append
theorem QI:type_of% @Nat.le_trans:=@Nat.le_trans
theorem QJ:type_of% @List.length_append:=@List.length_append
theorem QK:type_of% @Option.some.injEq:=@Option.some.injEq
theorem QL:type_of% @List.mem_map:=@List.mem_map
theorem QM:type_of% @List.mem_of_mem_take:=@List.mem_of_mem_take
theorem QN:type_of% @Nat.le_of_ble_eq_true:=@Nat.le_of_ble_eq_true
theorem QO:type_of% @Bool.and_true:=@Bool.and_true
theorem QP:type_of% @List.length_map:=@List.length_map
theorem QR:type_of% @Nat.lt_succ_self:=@Nat.lt_succ_self
theorem QS:type_of% @Nat.zero_add:=@Nat.zero_add
theorem QT:type_of% @Nat.le_succ:=@Nat.le_succ
theorem QU:type_of% @List.all_cons:=@List.all_cons
theorem QV:type_of% @Nat.zero_le:=@Nat.zero_le
theorem QW:type_of% @List.mem_of_mem_drop:=@List.mem_of_mem_drop
theorem QX:type_of% @Nat.lt_of_lt_of_le:=@Nat.lt_of_lt_of_le
theorem QY:type_of% @List.mem_singleton:=@List.mem_singleton
theorem QZ:type_of% @List.length_cons:=@List.length_cons
theorem Qa:type_of% @List.map_cons:=@List.map_cons
theorem Qb:type_of% @List.getElem?_map:=@List.getElem?_map
theorem Qc:type_of% @of_decide_eq_true:=@of_decide_eq_true
theorem Qd:type_of% @List.drop_eq_getElem_cons:=@List.drop_eq_getElem_cons
theorem Qe:type_of% @Array.getElem?_eq_getElem:=@Array.getElem?_eq_getElem
theorem Qf:type_of% @Int.natCast_nonneg:=@Int.natCast_nonneg
theorem Qg:type_of% @Nat.blt_eq:=@Nat.blt_eq
theorem Qh:type_of% @Nat.le_of_lt:=@Nat.le_of_lt
theorem Qi:type_of% @List.getElem_mem:=@List.getElem_mem
theorem Qj:type_of% @List.length_nil:=@List.length_nil
theorem Qk:type_of% @List.mem_append_right:=@List.mem_append_right
theorem Ql:type_of% @List.append_assoc:=@List.append_assoc
theorem Qm:type_of% @List.length_take:=@List.length_take
theorem Qn:type_of% @List.mem_append_left:=@List.mem_append_left
theorem Qo:type_of% @Nat.ble_eq:=@Nat.ble_eq
theorem Qp:type_of% @List.getElem?_append_left:=@List.getElem?_append_left
theorem Qq:type_of% @decide_eq_true:=@decide_eq_true
theorem Qr:type_of% @decide_eq_false:=@decide_eq_false
theorem Qs:type_of% @Option.some.inj:=@Option.some.inj
theorem Qt:type_of% @Nat.le_add_right:=@Nat.le_add_right
theorem Qu:type_of% @List.drop_eq_nil_of_le:=@List.drop_eq_nil_of_le
theorem Qv:type_of% @List.length_drop:=@List.length_drop
theorem Qw:type_of% @Nat.succ_pos:=@Nat.succ_pos
theorem Qx:type_of% @List.nodup_cons:=@List.nodup_cons
theorem Qy:type_of% @List.map_append:=@List.map_append
theorem Qz:type_of% @of_decide_eq_false:=@of_decide_eq_false
namespace Go.Sy
abbrev JV:=List Nat
abbrev JN:=List (Nat×Nat)
abbrev JA:=Nat->Option Nat
abbrev JB:=Array Value
abbrev JC:=List Value
inductive AV where
 |bool (b:Bool)
 |int (k:IntKind) (n:Int)
 |str (s:JV)
 |qj
 |ptr (h off:Nat)
 |qc (e:AV) (off:Nat)
 |qa
 |qo (sz:Nat) (es:List AV)
 |row (h off len sz cp:Nat) (ex:Bool)
 |qm
 |map (h:Nat)
 |ql
 |func (fn:Fn) (first caps:List AV)
 |qe
 |iface (t:Nat) (v:AV)
 |agg (cs:List AV)
 |qg (vs:List AV)
 |sym (i:Nat)
abbrev JE:=List AV
abbrev JF:=Option AV
inductive HO where
 |cells (str:Bool) (cs:JE)
 |map (es:List (AV×AV))
 |wa (s:JV) (pos:Nat)
abbrev Heap:=List (Nat×HO)
def AV.cells:AV->JE
 |.agg b=>b
 |v=>[v]
structure Env where
 ρ:Nat->Nat
 D:Nat->Prop
 Z:Nat->Prop
 σ:Nat->Value
def zf:Nat:=9223372036854775807
def has(k:IntKind)(n:Int):Prop:=k.min<=n/\n<=k.max
inductive VR(E:Env)(w:World):AV->Value->Prop where
 |bool (b:Bool):VR E w (.bool b) (.bool b)
 |int (k:IntKind) (n:Int) (h:has k n):VR E w (.int k n) (.int k n)
 |str (l:JV) (s:ByteArray) (h:s.data.toList.map UInt8.toNat=l) (hl:l.length<=zf):VR E w (.str l) (.string s)
 |qj:VR E w .qj (.pointer none)
 |ptr (h off:Nat) (hd:E.D h):VR E w (.ptr h off) (.pointer (some ⟨E.ρ h,off,none⟩))
 |qc (e:AV) (off b o:Nat) (cv:Value) (ue:(match e with|.qg _=>false|_=>true)=true) (hz:E.Z b) (hv:VR E w e cv)
   (hc:∀j c,cv.cells[j]?=some c->w.cell? ⟨b,o+j,none⟩=some c):VR E w (.qc e off) (.pointer (some ⟨b,o+off,none⟩))
 |qa:VR E w .qa (.slice none 0 0)
 |wq (sz:Nat) (a:Option Addr) (c:Nat) (hc:c<=zf):VR E w (.qo sz []) (.slice a 0 c)
 |qo (es:JE) (b o cap sz:Nat) (f:Nat->Value) (hz:E.Z b) (uj:es.length<=cap) (hcm:cap<=zf) (ue:∀(i:Nat) e,es[i]?=some e->(match e with|.qg _=>false|_=>true)=true)
   (hv:∀i e,es[i]?=some e->VR E w e (f i))
   (hc:∀i,i<es.length->(f i).cells.size=sz/\∀j c,(f i).cells[j]?=some c->w.cell? ⟨b,o+i*sz+j,none⟩=some c):
   VR E w (.qo sz es) (.slice (some ⟨b,o,none⟩) es.length cap)
 |row (h off len sz cp cap:Nat) (ex:Bool) (hd:E.D h) (hlen:len<=cap) (uj:cap<=zf) (hsz:0<sz) (hcp:cp<=cap) (hex:ex=true->cap=cp)
   (hb:∃c e f,w.heap[E.ρ h]?=some (.cells c e f)/\off+cap*sz<=c.size):VR E w (.row h off len sz cp ex) (.slice (some ⟨E.ρ h,off,none⟩) len cap)
 |wm (h off sz:Nat) (ex:Bool) (a:Addr):VR E w (.row h off 0 sz 0 ex) (.slice (some a) 0 0)
 |qm:VR E w .qm (.map none)
 |map (h:Nat) (hd:E.D h):VR E w (.map h) (.map (some (E.ρ h)))
 |ql:VR E w .ql .nilFunc
 |func (fn:Fn) (f c:JE) (vf vc:JB) (hf:f.length=vf.size) (hc:c.length=vc.size)
   (rf:∀(i:Nat) x v,f[i]?=some x->vf[i]?=some v->VR E w x v) (rc:∀(i:Nat) x v,c[i]?=some x->vc[i]?=some v->VR E w x v):
   VR E w (.func fn f c) (.func fn vf vc)
 |qe:VR E w .qe .nilIface
 |iface (t:Nat) (v:AV) (cv:Value) (h:VR E w v cv):VR E w (.iface t v) (.iface t cv)
 |agg (cs:JE) (vs:JB) (hl:cs.length=vs.size) (h:∀(i:Nat) x v,cs[i]?=some x->vs[i]?=some v->VR E w x v)
   (h1:∀(i:Nat) v,vs[i]?=some v->v.oneCell'=true):VR E w (.agg cs) (.agg vs)
 |qg (cs:JE) (vs:JB) (hl:cs.length=vs.size) (h:∀(i:Nat) x v,cs[i]?=some x->vs[i]?=some v->VR E w x v):
   VR E w (.qg cs) (.tuple vs)
 |sym (i:Nat) (cv:Value) (he:cv=E.σ i) (h1:cv.oneCell'=true):VR E w (.sym i) cv
def z7(w w':World):Prop:=
 ∀(b:Nat)(c:JB)(e:TypeId)(f:Nat×Nat),w.heap[b]?=some (Obj.cells c e f)->∃(d:JB) (g:Nat×Nat),w'.heap[b]?=some (Obj.cells d e g)/\d.size=c.size
theorem z7.refl(w:World):z7 w w:=λ_ c _ f h=>⟨c,f,h,rfl⟩
theorem z7.trans{a b c:World}(h:z7 a b)(k:z7 b c):z7 a c:=λx y e f d=>
 let ⟨_,f1,h1,h2⟩:=h x y e f d
 let ⟨c',f',k1,k2⟩:=k x _ e f1 h1
 ⟨c',f',k1,k2.trans h2⟩
theorem zCG{w w':World}{b o:Nat}(h:w'.heap[b]? = w.heap[b]?):w'.cell? ⟨b,o,none⟩=w.cell? ⟨b,o,none⟩:=by
 simp only[World.cell?,h]
theorem VR.mono{E E':Env}{w w':World}(p:∀h,E.D h->E'.D h/\E'.ρ h=E.ρ h)(z:∀b,E.Z b->E'.Z b/\w'.heap[b]? = w.heap[b]?)
  (hS:z7 w w') {v:AV} {cv:Value} (h:VR E w v cv) (U:E'.σ=E.σ:=by rfl):VR E' w' v cv:=by
 induction h with
 |bool b=>exact .bool b
 |int k n h=>exact .int k n h
 |str l s h y=>exact .str l s h y
 |qj=>exact .qj
 |ptr h off m=>rw[←(p h m).2];exact .ptr h off (p h m).1
 |qc e off b o cv r x _ hc g=>exact .qc e off b o cv r (z b x).1 g λj c F=>by rw[zCG (z b x).2];exact hc j c F
 |qa=>exact .qa
 |wq q a c hc=>exact .wq q a c hc
 |qo R b o cap q f x d I r _ hc g=>
  exact .qo R b o cap q f (z b x).1 d I r g λi M=>⟨(hc i M).1,λj c F=>by rw[zCG (z b x).2];exact(hc i M).2 j c F⟩
 |row h off len q W cap K m u d C A L N=>
  obtain⟨c,e,f,h1,h2⟩:=N;obtain⟨Y,T,X,k2⟩:=hS _ c e f h1;rw[←(p h m).2];exact .row h off len q W cap K (p h m).1 u d C A L ⟨Y,e,T,by rw[(p h m).2];exact X,by omega⟩
 |wm h off q K a=>exact .wm h off q K a
 |qm=>exact .qm
 |map h m=>rw[←(p h m).2];exact .map h (p h m).1
 |ql=>exact .ql
 |func fn f c S vc Q hc _ _ rf O=>exact .func fn f c S vc Q hc rf O
 |qe=>exact .qe
 |iface t v cv _ g=>exact .iface t v cv g
 |agg J B y _ h1 g=>exact .agg J B y g h1
 |qg J B y _ g=>exact .qg J B y g
 |sym i cv V h1=>exact .sym i cv (V.trans (congrFun U i).symm) h1
def VRs(E:Env)(w:World)(xs:JE)(vs:JC):Prop:=xs.length=vs.length/\∀(i:Nat) x v,xs[i]?=some x->vs[i]?=some v->VR E w x v
theorem VRs.nil{E:Env}{w:World}:VRs E w [] []:=⟨rfl,λi x v h=>by simp at h⟩
theorem VRs.cons{E:Env}{w:World}{x:AV}{v:Value}{xs:JE}{vs:JC}(h:VR E w x v)(d:VRs E w xs vs):VRs E w (x::xs) (v::vs):=
 ⟨by simp[d.1],λi y u b c=>by
  cases i with
  |zero=>simp at b c;subst b;subst c;exact h
  |succ i=>simp at b c;exact d.2 i y u b c⟩
theorem VRs.of_cons{E:Env}{w:World}{x:AV}{xs:JE}{vs:JC}(h:VRs E w (x::xs) vs):∃v b,vs=v::b/\VR E w x v/\VRs E w xs b:=by
 cases vs with
 |nil=>have:=h.1;simp at this
 |cons v vs=>exact⟨v,vs,rfl,h.2 0 x v rfl rfl,by have:=h.1;simpa using this,λi y u c d=>h.2 (i+1) y u (by simpa using c) (by simpa using d)⟩
theorem VRs.of_nil{E:Env}{w:World}{vs:JC}(h:VRs E w [] vs):vs=[]:=by
 have:=h.1;cases vs<;>simp_all
theorem VRs.mono{E E':Env}{w w':World}(hm:∀{v cv},VR E w v cv->VR E' w' v cv){xs:JE}{vs:JC}(h:VRs E w xs vs):VRs E' w' xs vs:=
 ⟨h.1,λi x v c b=>hm (h.2 i x v c b)⟩
theorem VRs.append{E:Env}{w:World}:∀{xs:JE}{vs:JC}{c:JE}{b:JC},VRs E w xs vs->VRs E w c b->VRs E w (xs++c) (vs++b)
 |[],vs,c,b,h,k=>by rw[h.of_nil];simpa using k
 |x::xs,vs,c,b,h,k=>by
  obtain⟨v,e,rfl,h1,d⟩:=h.of_cons;exact .cons h1 (d.append k)
theorem VRs.getElem?{E:Env}{w:World}{xs:JE}{vs:JC}(h:VRs E w xs vs){i:Nat}{x:AV}(hx:xs[i]?=some x):∃v,vs[i]?=some v/\VR E w x v:=by
 have d:i<xs.length:=by
  rcases Nat.lt_or_ge i xs.length with b|b
  .exact b
  .rw[List.getElem?_eq_none b]at hx;cases hx
 have c:vs[i]?=some (vs[i]'(h.1▸d)):=QE _
 exact⟨_,c,h.2 i x _ hx c⟩
theorem VRs.extract{E:Env}{w:World}{xs:JE}{vs:JC}(h:VRs E w xs vs)(a n:Nat):VRs E w ((xs.drop a).take n) ((vs.drop a).take n):=
 ⟨by simp[h.1],λi x v b c=>by
  rw[List.getElem?_take]at b c;split at b
  .rename_i d;simp only[d,if_true,List.getElem?_drop]at b c;exact h.2 _ x v b c
  .cases b⟩
theorem VR.qX{E:Env}{w:World}{cs:JE}{cv:Value}(h:VR E w (.agg cs) cv):∃vs:JB,cv=.agg vs/\VRs E w cs vs.toList/\∀v∈vs.toList,v.oneCell'=true:=by
 cases h with
 |agg _ vs c h h1=>
  refine⟨vs,rfl,⟨by simpa using c,λi x v e b=>h i x v e (by simpa using b)⟩,λv b=>?_⟩
  obtain⟨i,d⟩:=List.getElem?_of_mem b;exact h1 i v (by simpa using d)
theorem VR.qT{E:Env}{w:World}{cs:JE}{vs:JB}(h:VRs E w cs vs.toList)(h1:∀v∈vs.toList,v.oneCell'=true):VR E w (.agg cs) (.agg vs):=
 .agg cs vs (by simpa using h.1) (λi x v c b=>h.2 i x v c (by simpa using b)) λi v b=>h1 v (by
  have:=QF (l:=vs.toList) (i:=i) (a:=v) (by simpa using b)
  exact this)
theorem VR.w5{E:Env}{w:World}{cs:JE}{cv:Value}(h:VR E w (.qg cs) cv):∃vs:JB,cv=.tuple vs/\VRs E w cs vs.toList:=by
 cases h with
 |qg _ vs c h=>exact⟨vs,rfl,⟨by simpa using c,λi x v d b=>h i x v d (by simpa using b)⟩⟩
theorem VR.qI{E:Env}{w:World}{cs:JE}{vs:JB}(h:VRs E w cs vs.toList):VR E w (.qg cs) (.tuple vs):=
 .qg cs vs (by simpa using h.1) λi x v c b=>h.2 i x v c (by simpa using b)
def AV.one:AV->Bool
 |.agg _|.qg _=>false
 |_=>true
theorem VR.wW{E:Env}{w:World}{v:AV}{cv:Value}(h:VR E w v cv)(h1:v.one=true):cv.oneCell'=true:=by
 cases h<;>simp_all[AV.one,Value.oneCell']
theorem VR.ug{E:Env}{w:World}{v:AV}{cv:Value}(h:VR E w v cv)(h1:v.one=true):cv.cells=#[cv]:=by
 have b:=h.wW h1;cases cv<;>simp_all[Value.cells,Value.oneCell']
def AV.flat:AV->Bool
 |.qg _=>false
 |_=>true
theorem VR.cells{E:Env}{w:World}{v:AV}{cv:Value}(h:VR E w v cv)(c:v.flat=true):VRs E w v.cells cv.cells.toList/\∀u∈cv.cells.toList,u.oneCell'=true:=by
 cases v with
 |agg g=>
  obtain⟨d,rfl,b,f⟩:=h.qX;exact⟨b,f⟩
 |qg d=>simp[AV.flat]at c
 |_=>
  have h1:=h.ug rfl;have b:=h.wW rfl;rw[h1];exact⟨VRs.cons h VRs.nil,λu e=>by
   have:u=cv:=by simpa using e
   rw[this];exact b⟩
def Heap.get:Heap->Nat->Option HO
 |[],_=>none
 |(k,o)::r,h=>match Nat.beq k h with
  |true=>some o
  |false=>Heap.get r h
def Heap.put:Heap->Nat->HO->Heap
 |[],_,_=>[]
 |(k,o)::r,h,n=>match Nat.beq k h with
  |true=>(k,n)::r
  |false=>(k,o)::Heap.put r h n
def Heap.del:Heap->Nat->Heap
 |[],_=>[]
 |(k,o)::r,h=>match Nat.beq k h with
  |true=>r
  |false=>(k,o)::Heap.del r h
def Heap.keys(H:Heap):JV:=H.map (·.1)
theorem zb{a b:Nat}(h:Nat.beq a b=true):a=b:=Nat.eq_of_beq_eq_true h
theorem zAq{a b:Nat}(h:Nat.beq a b=false):a≠b:=Nat.ne_of_beq_eq_false h
theorem Heap.qi:∀{H:Heap}{h:Nat}{o:HO},H.get h=some o->(h,o)∈H
 |(k,c)::r,h,o,e=>by
  simp only[Heap.get]at e;split at e
  .rename_i b;cases e;rw[zb b];exact .head _
  .exact .tail _ (Heap.qi e)
theorem Heap.wI:∀(H:Heap)(h:Nat)(o:HO),(H.put h o).keys=H.keys
 |[],_,_=>rfl
 |(k,b)::r,h,o=>by
  simp only[Heap.put];split
  .rfl
  .show k::(Heap.put r h o).keys=k::Heap.keys r
   rw[Heap.wI r h o]
theorem Heap.vw:∀{H:Heap}{h:Nat}{o:HO}{p:Nat×HO},H.keys.Nodup->p∈H.put h o->p=(h,o)\/(p∈H/\p.1≠h)
 |(k,i)::r,h,o,p,g,c=>by
  simp only[Heap.put]at c;have d:k ∉ Heap.keys r/\(Heap.keys r).Nodup:=Qx.1 g;split at c
  .rename_i f;have:=zb f;subst this;cases c with
   |head=>exact .inl rfl
   |tail _ c=>exact .inr ⟨.tail _ c,λe=>d.1 (e▸List.mem_map_of_mem c)⟩
  .rename_i f;cases c with
   |head=>exact .inr ⟨.head _,zAq f⟩
   |tail _ c=>exact(Heap.vw d.2 c).imp id λ⟨a,b⟩=>⟨.tail _ a,b⟩
theorem Heap.vh:∀{H:Heap}{h:Nat}{p:Nat×HO},H.keys.Nodup->p∈H.del h->p∈H/\p.1≠h
 |(k,i)::r,h,p,g,c=>by
  simp only[Heap.del]at c;have d:k ∉ Heap.keys r/\(Heap.keys r).Nodup:=Qx.1 g;split at c
  .rename_i f;have:=zb f;subst this;exact⟨.tail _ c,λe=>d.1 (e▸List.mem_map_of_mem c)⟩
  .rename_i f;cases c with
   |head=>exact⟨.head _,zAq f⟩
   |tail _ c=>exact let ⟨a,b⟩:=Heap.vh d.2 c;⟨.tail _ a,b⟩
theorem Heap.wx:∀(H:Heap)(h:Nat),(H.del h).Sublist H
 |[],_=>.slnil
 |(k,o)::r,h=>by
  simp only[Heap.del];split
  .exact List.sublist_cons_self _ _
  .exact(Heap.wx r h).cons_cons _
def OR(E:Env)(w:World)(b:Nat):HO->Prop
 |.cells str g=>∃(c:JB) (e:TypeId) (f:Nat×Nat),w.heap[b]?=some (Obj.cells c e f)/\g.length<=c.size/\(f.2=f.1\/(str=true/\c.size<=f.1)) ∧
   ∀(i:Nat) x,g[i]?=some x->∃v,c[i]?=some v/\v.oneCell'=true/\VR E w x v
 |.map h=>∃(c:Array MapEntry) (clock:Nat),w.heap[b]?=some (Obj.map c clock)/\h.length=c.size ∧
   (∀(i:Nat) k x,h[i]?=some (k,x)->∃m,c[i]?=some m/\VR E w k m.key/\VR E w x m.val/\m.born<clock) ∧
   ∀(i j:Nat) m n,c[i]?=some m->c[j]?=some n->m.born=n.born->i=j
 |.wa s pos=>∃d:ByteArray,w.heap[b]?=some (Obj.stringIter d pos)/\d.data.toList.map UInt8.toNat=s
theorem OR.lt{E:Env}{w:World}{b:Nat}{o:HO}(h:OR E w b o):b<w.heap.size:=by
 cases o with
 |cells _ d=>obtain⟨c,e,f,h,_⟩:=h;exact(Array.getElem?_eq_some_iff.1 h).1
 |map g=>obtain⟨c,e,h,_⟩:=h;exact(Array.getElem?_eq_some_iff.1 h).1
 |wa s pos=>obtain⟨c,h,_⟩:=h;exact(Array.getElem?_eq_some_iff.1 h).1
theorem OR.mono{E E':Env}{w w':World}{b:Nat}{o:HO}(j:w'.heap[b]? = w.heap[b]?)(hm:∀{v cv},VR E w v cv->VR E' w' v cv)(h:OR E w b o):OR E' w' b o:=by
 cases o with
 |cells _ r=>
  obtain⟨c,e,f,h1,g,n,l⟩:=h;exact⟨c,e,f,j.trans h1,g,n,λi x p=>let ⟨v,a,b,d⟩:=l i x p;⟨v,a,b,hm d⟩⟩
 |map t=>
  obtain⟨c,clock,h1,g,n,l⟩:=h;exact⟨c,clock,j.trans h1,g,λi k x p=>let ⟨m,a,b,d,e⟩:=n i k x p;⟨m,a,hm b,hm d,e⟩,l⟩
 |wa s pos=>
  obtain⟨q,h1,g⟩:=h;exact⟨q,j.trans h1,g⟩
structure HR(E:Env)(H:Heap)(w:World):Prop where
 nodup:H.keys.Nodup
 qx:∀p∈H,E.D p.1
 inj:∀p∈H,∀q∈H,E.ρ p.1=E.ρ q.1->p.1=q.1
 obj:∀p∈H,OR E w (E.ρ p.1) p.2
 nz:∀p∈H,¬E.Z (E.ρ p.1)
 we:∀b,E.Z b->b<w.heap.size
theorem HR.lt{E:Env}{H:Heap}{w:World}(h:HR E H w){p:Nat×HO}(b:p∈H):E.ρ p.1<w.heap.size:=(h.obj p b).lt
theorem HR.sub{E:Env}{H H':Heap}{w:World}(h:HR E H w)(c:H'.Sublist H):HR E H' w:=
 ⟨h.nodup.sublist (c.map _),λp b=>h.qx p (c.subset b),λp b q d=>h.inj p (c.subset b) q (c.subset d),
  λp b=>h.obj p (c.subset b),λp b=>h.nz p (c.subset b),h.we⟩
structure Tr(E:Env)(H:Heap)(w:World)(E':Env)(H':Heap)(w':World)(a b:Nat):Prop where
 le:a<=b
 agree:∀h,E.D h->E'.ρ h=E.ρ h
 qx:∀h,E'.D h↔E.D h\/(a<=h/\h<b)
 qH:∀x,E.Z x->E'.Z x
 qP:∀x,E'.Z x->E.Z x\/(∃p∈H,E.ρ p.1=x)\/w.heap.size<=x
 own:∀p∈H',(∃q∈H,E.ρ q.1=E'.ρ p.1)\/w.heap.size<=E'.ρ p.1
 tape:w'.tape=w.tape
 os:w'.os=w.os
 output:w'.output=w.output
 size:w.heap.size<=w'.heap.size
 wh:∀x,x<w.heap.size->(∀p∈H,E.ρ p.1≠x)->w'.heap[x]? = w.heap[x]?
 qn:z7 w w'
 sig:E'.σ=E.σ:=by rfl
theorem Tr.refl{E:Env}{H:Heap}{w:World}(a:Nat):Tr E H w E H w a a:=
 ⟨QA _,λ_ _=>rfl,λh=>⟨.inl,λh=>h.elim id λ⟨x,y⟩=>by omega⟩,λ_ h=>h,λ_ h=>.inl h,λp b=>.inl ⟨p,b,rfl⟩,rfl,rfl,rfl,QA _,λ_ _ _=>rfl,.refl w,rfl⟩
theorem Tr.sub{E:Env}{H:Heap}{w:World}{E':Env}{H' H2:Heap}{w':World}{a b:Nat}(h:Tr E H w E' H' w' a b)(d:H2.Sublist H'):Tr E H w E' H2 w' a b:=
 { h with own:=λp c=>h.own p (d.subset c) }
theorem Tr.vr{E:Env}{H:Heap}{w:World}{E':Env}{H':Heap}{w':World}{a b:Nat}(d:HR E H w)(h:Tr E H w E' H' w' a b){v:AV}{cv:Value}(g:VR E w v cv):VR E' w' v cv:=
 g.mono (λx c=>⟨(h.qx x).2 (.inl c),h.agree x c⟩)
  (λx c=>⟨h.qH x c,h.wh x (d.we x c) λp f e=>d.nz p f (e▸c)⟩) h.qn h.sig
theorem Tr.trans{E:Env}{H:Heap}{w:World}{l:Env}{j:Heap}{w1:World}{E2:Env}{H2:Heap}{m:World}{a b c:Nat}
  (_:HR l j w1) (h:Tr E H w l j w1 a b) (k:Tr l j w1 E2 H2 m b c):Tr E H w E2 H2 m a c where
 le:=QI h.le k.le
 agree x d:=(k.agree x ((h.qx x).2 (.inl d))).trans (h.agree x d)
 qx x:=by
  rw[k.qx,h.qx];have:=h.le;have:=k.le
  constructor
  .rintro ((h|h)|h)
   .exact .inl h
   .exact .inr ⟨by omega,by omega⟩
   .exact .inr ⟨by omega,by omega⟩
  .rintro (h|h)
   .exact .inl (.inl h)
   .by_cases d:x<b
    .exact .inl (.inr ⟨by omega,d⟩)
    .exact .inr ⟨by omega,by omega⟩
 qH x d:=k.qH x (h.qH x d)
 qP x d:=by
  rcases k.qP x d with h1|⟨p,f,rfl⟩|h1
  .exact h.qP x h1
  .exact .inr (h.own p f)
  .exact .inr (.inr (QI h.size h1))
 own p f:=by
  rcases k.own p f with⟨q,i,e⟩|h1
  .rw[←e];exact h.own q i
  .exact .inr (QI h.size h1)
 tape:=k.tape.trans h.tape
 os:=k.os.trans h.os
 output:=k.output.trans h.output
 size:=QI h.size k.size
 wh x d f:=by
  rw[k.wh x (QX d h.size) λp g e=>by
   rcases h.own p g with⟨q,i,n⟩|h1
   .exact f q i (n.trans e)
   .omega]
  exact h.wh x d f
 qn:=h.qn.trans k.qn
 sig:=k.sig.trans h.sig
theorem Tr.frame{E:Env}{H R:Heap}{w:World}{E':Env}{H':Heap}{w':World}{a b:Nat}
  (k:HR E (H++R) w) (g:HR E' H' w') (h:Tr E H w E' H' w' a b):HR E' (H'++R) w'/\Tr E (H++R) w E' (H'++R) w' a b:=by
 have hH:HR E H w:=k.sub (List.sublist_append_left _ _);have o:(H.map (·.1)++R.map (·.1)).Nodup:=by have:=k.nodup;simpa[Heap.keys]using this
 have j:∀p∈H,∀q∈R,E.ρ p.1≠E.ρ q.1:=λp c q d e=>by
  have z:=k.inj p (Qn _ c) q (Qk _ d) e;exact(List.nodup_append.1 o).2.2 p.1 (List.mem_map_of_mem c) q.1 (List.mem_map_of_mem d) z
 have n:∀q∈R,E.D q.1:=λq d=>k.qx q (Qk _ d)
 have i:∀q∈R,E.ρ q.1<w.heap.size:=λq d=>k.lt (Qk _ d)
 have f:∀p∈H',∀q∈R,E'.ρ p.1≠E.ρ q.1:=λp c q d e=>by
  rcases h.own p c with⟨A,m,s⟩|B
  .exact j A m q d (s.trans e)
  .have:=i q d;omega
 have l:∀q∈R,E'.ρ q.1=E.ρ q.1:=λq d=>h.agree _ (n q d)
 refine⟨⟨?_,?_,?_,?_,?_,g.we⟩,{ h with qP:=?_,own:=?_,wh:=?_ }⟩
 .show((H'++R).map (·.1)).Nodup
  rw[Qy,List.nodup_append];refine⟨g.nodup,(List.nodup_append.1 o).2.1,?_⟩
  intro x r y u e;obtain⟨p,c,rfl⟩:=QL.1 r;obtain⟨q,d,rfl⟩:=QL.1 u;exact f p c q d (by rw[e];exact l q d)
 .intro p c;rcases QH.1 c with c|c
  .exact g.qx p c
  .exact(h.qx _).2 (.inl (n p c))
 .intro p c q d e;rcases QH.1 c with c|c<;>rcases QH.1 d with d|d
  .exact g.inj p c q d e
  .exact absurd (e.trans (l q d)) (f p c q d)
  .exact absurd (e.symm.trans (l p c)) (f q d p c)
  .rw[l p c,l q d]at e;exact k.inj p (Qk _ c) q (Qk _ d) e
 .intro p c;rcases QH.1 c with c|c
  .exact g.obj p c
  .rw[l p c];exact(k.obj p (Qk _ c)).mono (h.wh _ (i p c) λq d=>j q d p c) (h.vr hH)
 .intro p c;rcases QH.1 c with c|c
  .exact g.nz p c
  .rw[l p c];intro t;rcases h.qP _ t with h1|⟨q,d,e⟩|h1
   .exact k.nz p (Qk _ c) h1
   .exact j q d p c e
   .have:=i p c;omega
 .intro x r;rcases h.qP x r with h1|⟨q,d,e⟩|h1
  .exact .inl h1
  .exact .inr (.inl ⟨q,Qn _ d,e⟩)
  .exact .inr (.inr h1)
 .intro p c;rcases QH.1 c with c|c
  .exact(h.own p c).imp (λ⟨q,d,e⟩=>⟨q,Qn _ d,e⟩) id
  .exact .inl ⟨p,Qk _ c,(l p c).symm⟩
 .intro x r c;exact h.wh x r λp m=>c p (Qn _ m)
theorem HR.perm{E:Env}{H H':Heap}{w:World}(h:HR E H w)(b:H.Perm H'):HR E H' w:=
 ⟨(b.map _).nodup_iff.1 h.nodup,λp k=>h.qx p (b.mem_iff.2 k),λp k q l=>h.inj p (b.mem_iff.2 k) q (b.mem_iff.2 l),
  λp k=>h.obj p (b.mem_iff.2 k),λp k=>h.nz p (b.mem_iff.2 k),h.we⟩
theorem Tr.perm{E:Env}{H H2:Heap}{w:World}{E':Env}{H' c:Heap}{w':World}{a b:Nat}(h:Tr E H w E' H' w' a b)(f:H.Perm H2)(d:H'.Perm c):Tr E H2 w E' c w' a b:=
 { h with
  qP:=λx g=>(h.qP x g).imp id (Or.imp (λ⟨p,k,e⟩=>⟨p,f.mem_iff.1 k,e⟩) id)
  own:=λp k=>(h.own p (d.mem_iff.2 k)).imp (λ⟨q,k,e⟩=>⟨q,f.mem_iff.1 k,e⟩) id
  wh:=λx g k=>h.wh x g λp i=>k p (f.mem_iff.1 i) }
theorem zE3{h:Array Obj}{o:Obj}{b:Nat}(c:b<h.size):(h.push o)[b]? = h[b]?:=by
 rw[Array.getElem?_push,if_neg (by omega)]
theorem zBg{h:Array Obj}{o:Obj}:(h.push o)[h.size]?=some o:=by
 rw[Array.getElem?_push,if_pos rfl]
def Env.add(E:Env)(a b:Nat):Env:=⟨λh=>if h=a then b else E.ρ h,λh=>E.D h\/h=a,E.Z,E.σ⟩
theorem Env.qw(E:Env)(a b:Nat):(E.add a b).ρ a=b:=by simp[Env.add]
theorem Env.wj{E:Env}{a b h:Nat}(c:h≠a):(E.add a b).ρ h=E.ρ h:=by simp[Env.add,c]
def World.vH(w w':World):Prop:=w'.heap=w.heap/\w'.tape=w.tape/\w'.os=w.os/\w'.output=w.output
theorem World.vH.refl(w:World):World.vH w w:=⟨rfl,rfl,rfl,rfl⟩
theorem World.vH.mk(w:World)(n:Nat):World.vH w { w with drawn:=n }:=⟨rfl,rfl,rfl,rfl⟩
theorem z7.of_heap{w w':World}(h:w'.heap=w.heap):z7 w w':=λb c e f d=>⟨c,f,by rw[h];exact d,rfl⟩
theorem zFl{E:Env}{H:Heap}{w w':World}(c:HR E H w)(e:World.vH w w')(a:Nat):HR E H w'/\Tr E H w E H w' a a:=by
 obtain⟨h1,f,k,i⟩:=e;have l:∀{v d},VR E w v d->VR E w' v d:=λh=>h.mono (λ_ h=>⟨h,rfl⟩) (λb h=>⟨h,by rw[h1]⟩) (.of_heap h1)
 refine⟨⟨c.nodup,c.qx,c.inj,λp j=>(c.obj p j).mono (by rw[h1]) l,c.nz,λb g=>by rw[h1];exact c.we b g⟩,
  { Tr.refl (E:=E) (H:=H) (w:=w) a with tape:=f,os:=k,output:=i,size:=by rw[h1];exact QA _,wh:=λ_ _ _=>by rw[h1],qn:=.of_heap h1 }⟩
theorem zG0{E:Env}{H:Heap}{w:World}(g:HR E H w){a:Nat}(y:¬E.D a){o:Obj}{ho:HO}
  (r:∀w':World,w'.heap=w.heap.push o->z7 w w'->(∀{v cv},VR E w v cv->VR (E.add a w.heap.size) w' v cv)->OR (E.add a w.heap.size) w' w.heap.size ho):
  HR (E.add a w.heap.size) ((a,ho)::H) { w with heap:=w.heap.push o } ∧
  Tr E H w (E.add a w.heap.size) ((a,ho)::H) { w with heap:=w.heap.push o } a (a+1) ∧
  ∀{v cv},VR E w v cv->VR (E.add a w.heap.size) { w with heap:=w.heap.push o } v cv:=by
 have i:∀{h},E.D h->h≠a:=λh e=>y (e▸h)
 have s:z7 w { w with heap:=w.heap.push o }:=λb c e f k=>⟨c,f,by
  have:=(Array.getElem?_eq_some_iff.1 k).1;show(w.heap.push o)[b]? = _
  rw[zE3 this];exact k,rfl⟩
 have m:∀{v cv},VR E w v cv->VR (E.add a w.heap.size) { w with heap:=w.heap.push o } v cv:=λh=>
  h.mono (λx n=>⟨Or.inl n,Env.wj (i n)⟩) (λb k=>⟨k,zE3 (g.we b k)⟩) s
 have l:∀p∈H,(E.add a w.heap.size).ρ p.1=E.ρ p.1:=λp d=>Env.wj (i (g.qx p d))
 refine⟨⟨?_,?_,?_,?_,?_,?_⟩,⟨by omega,λh u=>Env.wj (i u),?_,λ_ h=>h,λ_ h=>.inl h,?_,rfl,rfl,rfl,by simp,λx n _=>zE3 n,s,rfl⟩,m⟩
 .show(a::Heap.keys H).Nodup
  refine Qx.2 ⟨λm=>?_,g.nodup⟩
  obtain⟨p,d,e⟩:=QL.1 m;exact i (g.qx p d) e
 .intro p d;cases d with
  |head=>exact .inr rfl
  |tail _ d=>exact .inl (g.qx p d)
 .intro p d q j e;cases d with
  |head=>
   cases j with
   |head=>rfl
   |tail _ j=>
    rw[l q j,Env.qw]at e;have:=g.lt j;omega
  |tail _ d=>
   cases j with
   |head=>
    rw[l p d,Env.qw]at e;have:=g.lt d;omega
   |tail _ j=>
    rw[l p d,l q j]at e;exact g.inj p d q j e
 .intro p d;cases d with
  |head=>rw[Env.qw];exact r _ rfl s m
  |tail _ d=>
   rw[l p d];exact(g.obj p d).mono (zE3 (g.lt d)) m
 .intro p d;cases d with
  |head=>
   rw[Env.qw];intro t;have:=g.we _ t;omega
  |tail _ d=>rw[l p d];exact g.nz p d
 .intro b k;have:=g.we b k;simp;omega
 .intro h;show E.D h\/h=a↔_
  constructor
  .rintro (h|h)
   .exact .inl h
   .exact .inr (by omega)
  .rintro (h|h)
   .exact .inl h
   .exact .inr (by omega)
 .intro p d;cases d with
  |head=>rw[Env.qw];exact .inr (QA _)
  |tail _ d=>exact .inl ⟨p,d,(l p d).symm⟩
theorem zIK{E:Env}{H:Heap}{w w':World}(g:HR E H w){h:Nat}{o o':HO}(D:H.get h=some o)
  (h1:w'.tape=w.tape) (C:w'.os=w.os) (I:w'.output=w.output) (F:w'.heap.size=w.heap.size) (r:∀b,b≠E.ρ h->w'.heap[b]? = w.heap[b]?)
  (B:z7 w w') (n:(∀{v cv},VR E w v cv->VR E w' v cv)->OR E w' (E.ρ h) o') (a:Nat):
  HR E (H.put h o') w'/\Tr E H w E (H.put h o') w' a a/\∀{v cv},VR E w v cv->VR E w' v cv:=by
 have f:=Heap.qi D;have k:∀b,E.Z b->b≠E.ρ h:=λb j e=>g.nz _ f (e▸j)
 have u:∀{v cv},VR E w v cv->VR E w' v cv:=λJ=>J.mono (λ_ s=>⟨s,rfl⟩) (λb j=>⟨j,r b (k b j)⟩) B
 have c:∀p∈H.put h o',∃q∈H,q.1=p.1:=λp d=>by
  rcases Heap.vw g.nodup d with rfl|⟨d,_⟩
  .exact⟨_,f,rfl⟩
  .exact⟨p,d,rfl⟩
 refine⟨⟨by rw[Heap.wI];exact g.nodup,?_,?_,?_,?_,λb j=>by rw[F];exact g.we b j⟩,⟨QA _,λ_ _=>rfl,?_,λ_ h=>h,λ_ h=>.inl h,?_,h1,C,I,by omega,?_,B,rfl⟩,u⟩
 .intro p d;obtain⟨q,i,e⟩:=c p d;rw[←e];exact g.qx q i
 .intro p d q i e;obtain⟨K,m,A⟩:=c p d;obtain⟨L,t,z⟩:=c q i;rw[←A,←z]at e;rw[←A,←z];exact g.inj K m L t e
 .intro p d;rcases Heap.vw g.nodup d with rfl|⟨d,l⟩
  .exact n u
  .exact(g.obj p d).mono (r _ λe=>l (g.inj p d _ f e)) u
 .intro p d;obtain⟨q,i,e⟩:=c p d;rw[←e];exact g.nz q i
 .exact λh=>⟨.inl,λh=>h.elim id λ⟨x,y⟩=>by omega⟩
 .intro p d;obtain⟨q,i,e⟩:=c p d;exact .inl ⟨q,i,by rw[e]⟩
 .intro x _ s;exact r x λe=>s _ f e.symm
theorem zRI{E:Env}{H:Heap}{w:World}(f:HR E H w){h a:Nat}{o:HO}(z:H.get h=some o)(C:¬E.D a):
  HR (E.add a (E.ρ h)) ((a,o)::H.del h) w/\Tr E H w (E.add a (E.ρ h)) ((a,o)::H.del h) w a (a+1)/\∀{v cv},VR E w v cv->VR (E.add a (E.ρ h)) w v cv:=by
 have d:=Heap.qi z;have g:∀{h},E.D h->h≠a:=λh e=>C (e▸h)
 have r:∀{v cv},VR E w v cv->VR (E.add a (E.ρ h)) w v cv:=λB=>
  B.mono (λx u=>⟨Or.inl u,Env.wj (g u)⟩) (λb y=>⟨y,rfl⟩) (.refl w)
 have i:∀p∈H.del h,(E.add a (E.ρ h)).ρ p.1=E.ρ p.1/\p∈H/\p.1≠h:=λp c=>
  let ⟨k,n⟩:=Heap.vh f.nodup c
  ⟨Env.wj (g (f.qx p k)),k,n⟩
 refine⟨⟨?_,?_,?_,?_,?_,f.we⟩,⟨by omega,λh A=>Env.wj (g A),?_,λ_ h=>h,λ_ h=>.inl h,?_,rfl,rfl,rfl,QA _,λ_ _ _=>rfl,.refl w,rfl⟩,r⟩
 .show(a::Heap.keys (H.del h)).Nodup
  refine Qx.2 ⟨λr=>?_,f.nodup.sublist ((Heap.wx H h).map _)⟩
  obtain⟨p,c,e⟩:=QL.1 r;exact g (f.qx p (i p c).2.1) e
 .intro p c;cases c with
  |head=>exact .inr rfl
  |tail _ c=>exact .inl (f.qx p (i p c).2.1)
 .intro p c q l e;cases c with
  |head=>
   cases l with
   |head=>rfl
   |tail _ l=>
    obtain⟨t,k,n⟩:=i q l;rw[t,Env.qw]at e;exact absurd (f.inj _ d q k e).symm n
  |tail _ c=>
   obtain⟨j,m,s⟩:=i p c;cases l with
   |head=>
    rw[j,Env.qw]at e;exact absurd (f.inj p m _ d e) s
   |tail _ l=>
    obtain⟨t,k,n⟩:=i q l;rw[j,t]at e;exact f.inj p m q k e
 .intro p c;cases c with
  |head=>rw[Env.qw];exact(f.obj _ d).mono rfl r
  |tail _ c=>
   obtain⟨j,m,s⟩:=i p c;rw[j];exact(f.obj p m).mono rfl r
 .intro p c;cases c with
  |head=>rw[Env.qw];exact f.nz _ d
  |tail _ c=>
   obtain⟨j,m,s⟩:=i p c;rw[j];exact f.nz p m
 .intro h;show E.D h\/h=a↔_
  constructor
  .rintro (h|h)
   .exact .inl h
   .exact .inr (by omega)
  .rintro (h|h)
   .exact .inl h
   .exact .inr (by omega)
 .intro p c;cases c with
  |head=>rw[Env.qw];exact .inl ⟨_,d,rfl⟩
  |tail _ c=>exact .inl ⟨p,(i p c).2.1,(i p c).1.symm⟩
inductive XV where
 |t (n:Nat)
 |c (v:AV)
 |g (n:Nat)
inductive Kd where
 |b
 |i
 |s
inductive XO where
 |bad
 |wH (x:XV)
 |pick (c a b:XV)
 |bin (op:BinOp) (x y:XV)
 |beq (neg:Bool) (x y:XV)
 |peq (neg:Bool) (x y:XV)
 |qW (neg:Bool) (ks:List Kd) (x y:XV)
 |vO (neg lit:Bool) (kt:Nat->Option Kd) (x y:XV)
 |seq (neg:Bool) (x y:XV)
 |v8 (neg:Bool) (x y:XV)
 |vZ (neg:Bool) (x y:XV)
 |un (op:UnOp) (x:XV)
 |conv (k:IntKind) (x:XV)
 |vJ (x:XV)
 |vB (x:XV)
 |uf (x:XV)
 |mark (x:XV)
 |vt (x c:XV)
 |vu (x c:XV)
 |uc (x:XV) (off sz:Nat) (ag:Bool)
 |ext (x:XV) (i:Nat)
 |wP (x i:XV)
 |wc (x i:XV) (len sz:Nat) (ag:Bool)
 |box (x:XV) (sz:Nat)
 |alloc (z:JE)
 |build (z:JE) (ps:List (Nat×Nat×XV))
 |qy (len sz:Nat) (z:JE) (ps:List (Nat×Nat×XV))
 |load (x:XV) (sz:Nat) (ag:Bool)
 |store (a x:XV) (sz:Nat)
 |qO (x:XV)
 |qC (x:XV) (off:Nat)
 |qB (x i:XV) (sz:Nat)
 |qz (x i:XV) (len sz:Nat)
 |wJ (x:XV) (lo hi:Option XV)
 |wy (x:XV) (lo hi mx:Option XV) (sz:Nat)
 |vN (x:XV) (lo hi:Option XV) (len sz:Nat)
 |wU (x:XV)
 |wb (x:XV)
 |vQ (x:XV)
 |wZ (n:Nat)
 |cap (x:XV)
 |append (x y:XV) (sz bytes:Nat)
 |copy (x y:XV) (sz:Nat)
 |vY (x:XV) (sz:Nat) (z:JE)
 |ua (x:XV)
 |min (x y:XV)
 |max (x y:XV)
 |qM (l c:XV) (sz bytes:Nat) (z:JE)
 |wu
 |lookup (ag:Bool) (ks:List Kd) (m k:XV) (z:AV) (ok:Bool)
 |wM (ag:Bool) (ks:List Kd) (m k v:XV)
 |del (ag:Bool) (ks:List Kd) (m k:XV)
 |wg (fn:Fn) (first caps:List XV)
 |w4 (t:Nat) (x:XV)
 |vT (x:XV) (t:Nat) (ok:Bool) (z:AV)
 |vP (x:XV)
 |vD (x:XV)
 |call (f:Nat) (args:List XV)
 |qN (f:XV) (args:List XV)
 |invoke (r:XV) (m:String) (args:List XV)
structure XOper where
 dst:Option Nat
 op:XO
 guard:Option (Nat×Bool)
structure XD where
 qd:Nat
 looks:JV
inductive XC where
 |skip
 |wA (ops:List XOper)
 |draw (ops:List XOper) (ds:List XD)
 |seq (a b:XC)
 |cond (c:XV) (a b:XC)
 |block (id:Nat) (b:XC)
 |loop (b:XC)
 |exit (id:Nat)
 |ret
 |wN (m:XV) (it:Nat) (D:JV) (en W id1:Nat) (rest:List XOper) (body:XC)
inductive XR where
 |t (n:Nat)
 |cell (n sz:Nat) (ag:Bool)
structure XF where
 np:Nat
 nt:Nat
 body:XC
 res:List XR
abbrev Fr:=List (Nat×AV)
def Fr.get:Fr->Nat->JF
 |[],_=>none
 |(k,v)::r,n=>match Nat.beq k n with
  |true=>some v
  |false=>Fr.get r n
def Fr.put:Fr->Nat->AV->Fr
 |[],n,v=>[(n,v)]
 |(k,u)::r,n,v=>match Nat.beq k n with
  |true=>(n,v)::r
  |false=>(k,u)::Fr.put r n v
abbrev Out:=AV×Heap×Nat
structure Cx where
 vz:Nat->JF
 uA:Nat->String->Option Nat
def XV.ev(G:Cx)(fr:Fr):XV->JF
 |.t n=>fr.get n
 |.c v=>some v
 |.g n=>G.vz n
def evs(G:Cx)(fr:Fr):List XV->Option JE
 |[]=>some []
 |x::r=>match x.ev G fr with
  |some v=>match evs G fr r with
   |some b=>some (v::b)
   |none=>none
  |none=>none
def evo(G:Cx)(fr:Fr):Option XV->Option JF
 |none=>some none
 |some x=>match x.ev G fr with
  |some v=>some (some v)
  |none=>none
def zC9:IntKind->IntKind->Bool
 |.i8,.i8=>true|.i16,.i16=>true|.i32,.i32=>true|.i64,.i64=>true
 |.u8,.u8=>true|.u16,.u16=>true|.u32,.u32=>true|.u64,.u64=>true
 |_,_=>false
def wrapx(k:IntKind):Int->Int
 |.ofNat m=>match k with
  |.i64=>cond (Nat.ble m 9223372036854775807) (.ofNat m) (IntKind.i64.wrap (.ofNat m))
  |.u64=>cond (Nat.ble m 18446744073709551615) (.ofNat m) (IntKind.u64.wrap (.ofNat m))
  |.u8=>cond (Nat.ble m 255) (.ofNat m) (IntKind.u8.wrap (.ofNat m))
  |.u32=>cond (Nat.ble m 4294967295) (.ofNat m) (IntKind.u32.wrap (.ofNat m))
  |.i32=>cond (Nat.ble m 2147483647) (.ofNat m) (IntKind.i32.wrap (.ofNat m))
  |.i8=>IntKind.i8.wrap (.ofNat m)
  |.i16=>IntKind.i16.wrap (.ofNat m)
  |.u16=>IntKind.u16.wrap (.ofNat m)
 |.negSucc m=>match k with
  |.i64=>cond (Nat.ble m 9223372036854775807) (.negSucc m) (IntKind.i64.wrap (.negSucc m))
  |k=>k.wrap (.negSucc m)
def slt:JV->JV->Bool
 |_,[]=>false
 |[],_::_=>true
 |a::x,b::y=>match Nat.blt a b with
  |true=>true
  |false=>match Nat.beq a b with
   |true=>slt x y
   |false=>false
def seqb:JV->JV->Bool
 |[],[]=>true
 |a::x,b::y=>match Nat.beq a b with
  |true=>seqb x y
  |false=>false
 |_,_=>false
def zWb(op:BinOp)(a b:Int):JF:=
 match op with
 |.eql=>some (.bool (a==b))
 |.neq=>some (.bool (a != b))
 |.lss=>some (.bool (decide (a<b)))
 |.leq=>some (.bool (decide (a<=b)))
 |.gtr=>some (.bool (decide (a > b)))
 |.geq=>some (.bool (decide (a>=b)))
 |_=>none
def zPR(op:BinOp)(k:IntKind)(x y:Int):JF:=
 match op with
 |.and=>some (.int k (k.wrap (BitVec.ofInt k.bits x &&& BitVec.ofInt k.bits y).toNat))
 |.or=>some (.int k (k.wrap (BitVec.ofInt k.bits x ||| BitVec.ofInt k.bits y).toNat))
 |.xor=>some (.int k (k.wrap (BitVec.ofInt k.bits x ^^^ BitVec.ofInt k.bits y).toNat))
 |.andNot=>some (.int k (k.wrap (BitVec.ofInt k.bits x &&& ~~~(BitVec.ofInt k.bits y)).toNat))
 |_=>none
def zDo(op:BinOp):AV->AV->JF
 |.int k a,.int c b=>
  match op with
  |.shl=>match decide (b<0)with
   |true=>none
   |false=>some (.int k (wrapx k (a*2 ^ (Min.min b.toNat k.bits))))
  |.shr=>match decide (b<0)with
   |true=>none
   |false=>some (.int k (a.fdiv (2 ^ (Min.min b.toNat k.bits))))
  |op=>match zC9 k c with
   |false=>none
   |true=>match op with
    |.add=>some (.int k (wrapx k (a+b)))
    |.sub=>some (.int k (wrapx k (a-b)))
    |.mul=>some (.int k (wrapx k (a*b)))
    |.quo=>match b==0 with
     |true=>none
     |false=>some (.int k (wrapx k (a.tdiv b)))
    |.rem=>match b==0 with
     |true=>none
     |false=>some (.int k (a.tmod b))
    |.and|.or|.xor|.andNot=>zPR op k a b
    |op=>zWb op a b
 |.str a,.str b=>
  match op with
  |.add=>match Nat.ble (a.length+b.length) zf with
   |true=>some (.str (a++b))
   |false=>none
  |.eql=>some (.bool (seqb a b))
  |.neq=>some (.bool (!seqb a b))
  |.lss=>some (.bool (slt a b))
  |.leq=>some (.bool (slt a b||seqb a b))
  |.gtr=>some (.bool (!(slt a b||seqb a b)))
  |.geq=>some (.bool (!slt a b))
  |_=>none
 |_,_=>none
def zBu(neg b:Bool):AV:=.bool (match neg with|true=>!b|false=>b)
def zLw:Option HO->Bool
 |some (.cells false _)=>true
 |_=>false
def zJT(H:Heap):AV->AV->Option Bool
 |.qj,.qj=>some true
 |.qj,.ptr _ _=>some false
 |.ptr _ _,.qj=>some false
 |.qj,.qc _ _=>some false
 |.qc _ _,.qj=>some false
 |.ptr h o,.ptr b c=>match zLw (H.get h)with
  |true=>match zLw (H.get b)with
   |true=>some (Nat.beq h b&&Nat.beq o c)
   |false=>none
  |false=>none
 |_,_=>none
def eqb:Kd->AV->AV->Option Bool
 |.b,.bool a,.bool b=>some (a==b)
 |.i,.int k a,.int d b=>match zC9 k d with
  |true=>some (a==b)
  |false=>none
 |.s,.str a,.str b=>some (seqb a b)
 |_,_,_=>none
def zBv:List Kd->JE->JE->Option Bool
 |[],[],[]=>some true
 |k::ks,a::x,b::y=>match eqb k a b with
  |some true=>zBv ks x y
  |some false=>some false
  |none=>none
 |_,_,_=>none
def eqs(d:List Kd)(a b:JE):Option Bool:=
 match Nat.beq a.length d.length,Nat.beq b.length d.length with
 |true,true=>zBv d a b
 |_,_=>none
def eqk(e:Bool)(d:List Kd):AV->AV->Option Bool
 |.agg a,.agg b=>match e with
  |true=>eqs d a b
  |false=>none
 |a,b=>match e with
  |true=>none
  |false=>match d with
   |[k]=>eqb k a b
   |_=>none
def zH2(lit:Bool)(d:Nat->Option Kd):AV->AV->Option Bool
 |.qe,.qe=>match lit with|true=>some true|false=>none
 |.qe,.iface _ _=>some false
 |.iface _ _,.qe=>some false
 |.iface t a,.iface u b=>match Nat.beq t u with
  |false=>some false
  |true=>match d t with
   |some k=>eqb k a b
   |none=>none
 |_,_=>none
def zH3:AV->AV->Option Bool
 |.qa,.qa=>some true
 |.qa,.row _ _ _ _ _ _=>some false
 |.row _ _ _ _ _ _,.qa=>some false
 |.qa,.qo _ (_::_)=>some false
 |.qo _ (_::_),.qa=>some false
 |_,_=>none
def zJU:AV->AV->Option Bool
 |.qm,.qm=>some true
 |.qm,.map _=>some false
 |.map _,.qm=>some false
 |_,_=>none
def zJV:AV->AV->Option Bool
 |.ql,.ql=>some true
 |.ql,.func _ _ _=>some false
 |.func _ _ _,.ql=>some false
 |_,_=>none
def xun(op:UnOp):AV->JF
 |.int k n=>match op with
  |.neg=>some (.int k (wrapx k (0-n)))
  |.xor=>zPR .xor k n (if k.signed then -1 else k.max)
  |_=>none
 |.bool b=>match op with
  |.not=>some (.bool !b)
  |_=>none
 |_=>none
def part(cs:JE)(off sz:Nat)(b:Bool):JF:=
 match b with
 |true=>match Nat.ble (off+sz) cs.length with
  |true=>some (.agg ((cs.drop off).take sz))
  |false=>none
 |false=>cs[off]?
def qp(cs:JE)(off:Nat)(new:JE):JE:=cs.take off++new++cs.drop (off+new.length)
def cellsOf(v:AV)(sz:Nat):Option JE:=
 match v.flat with
 |true=>match Nat.beq v.cells.length sz with
  |true=>some v.cells
  |false=>none
 |false=>none
def zAC(G:Cx)(fr:Fr)(cs:JE):List (Nat×Nat×XV)->Option JE
 |[]=>some cs
 |(off,b,x)::r=>match x.ev G fr with
  |some v=>match cellsOf v b with
   |some new=>match Nat.ble (off+b) cs.length with
    |true=>zAC G fr (qp cs off new) r
    |false=>none
   |none=>none
  |none=>none
def flatten(sz:Nat):JE->Option JE
 |[]=>some []
 |e::r=>match cellsOf e sz with
  |some c=>match flatten sz r with
   |some b=>some (c++b)
   |none=>none
  |none=>none
def content(H:Heap)(sz:Nat):AV->Option (Nat×JE)
 |.qa=>some (0,[])
 |.qo c e=>match Nat.beq sz c with
  |true=>match flatten sz e with
   |some d=>some (e.length,d)
   |none=>none
  |false=>none
 |.row h off len c _ _=>match Nat.beq sz c with
  |true=>match H.get h with
   |some (.cells _ d)=>match Nat.ble (off+len*sz) d.length with
    |true=>some (len,(d.drop off).take (len*sz))
    |false=>none
   |_=>none
  |false=>none
 |.str s=>match Nat.beq sz 1 with
  |true=>some (s.length,s.map λb=>.int .u8 (.ofNat b))
  |false=>none
 |_=>none
def zc:Nat:=70368744177664
def zAK(H:Heap)(nx:Nat)(s y:AV)(sz bytes:Nat):Option Out:=
 match content H sz y with
 |none=>none
 |some (n,c)=>
  match s with
  |.qa=>match n with
   |0=>some (.qa,H,nx)
   |n+1=>match Nat.ble ((n+1)*bytes) zc with
    |true=>some (.row nx 0 (n+1) sz (n+1) false,(nx,.cells false c)::H,nx+1)
    |false=>none
  |.row h off len d f e=>match Nat.beq sz d with
   |false=>none
   |true=>match H.get h with
    |some (.cells str b)=>match Nat.ble (off+len*sz) b.length with
     |false=>none
     |true=>match Nat.ble ((len+n)*bytes) zc&&Nat.ble (len+n) zc with
      |false=>none
      |true=>match Nat.ble (len+n) f with
       |true=>some (.row h off (len+n) sz f e,H.put h (.cells str (qp b (off+len*sz) c)),nx)
       |false=>match e with
        |true=>some (.row nx 0 (len+n) sz (len+n) false,(nx,.cells false ((b.drop off).take (len*sz)++c))::H,nx+1)
        |false=>match n with
         |0=>some (s,H,nx)
         |_=>match off with
          |0=>some (.row nx 0 (len+n) sz (len+n) false,(nx,.cells str (b.take (len*sz)++c))::H.del h,nx+1)
          |_=>none
    |_=>none
  |.qo z g=>match n with
   |0=>some (.qo z g,H,nx)
   |_=>none
  |_=>none
def zCP(d:Bool)(e:List Kd):AV->Bool
 |.agg a=>d&&Nat.beq a.length e.length
 |.bool _|.int _ _|.str _=>!d&&Nat.beq e.length 1
 |_=>false
def zCV(e:Bool)(d:List Kd)(k:AV):List (AV×AV)->Option JF
 |[]=>some none
 |(j,v)::r=>match eqk e d k j with
  |some true=>some (some v)
  |some false=>zCV e d k r
  |none=>none
def zFT(e:Bool)(d:List Kd)(k v:AV):List (AV×AV)->Option (List (AV×AV))
 |[]=>some [(k,v)]
 |(j,u)::r=>match eqk e d k j with
  |some true=>some ((k,v)::r)
  |some false=>match zFT e d k v r with
   |some g=>some ((j,u)::g)
   |none=>none
  |none=>none
def zME(e:Bool)(d:List Kd)(k:AV):List (AV×AV)->Option (List (AV×AV))
 |[]=>some []
 |(j,u)::r=>match eqk e d k j with
  |some true=>some r
  |some false=>match zME e d k r with
   |some g=>some ((j,u)::g)
   |none=>none
  |none=>none
def bnd(v:JF)(b top:Nat):Option Nat:=
 match v with
 |none=>some b
 |some (.int _ (.ofNat n))=>match Nat.ble n top with
  |true=>some n
  |false=>none
 |_=>none
def zFU(sz:Nat)(lo c d:JF):AV->JF
 |.qa=>match bnd d 0 0 with
  |some m=>match bnd c 0 m with
   |some h=>match bnd lo 0 h with
    |some _=>some .qa
    |none=>none
   |none=>none
  |none=>none
 |.qo b e=>match Nat.beq sz b with
  |false=>none
  |true=>match d with
   |some _=>none
   |none=>match bnd c e.length e.length with
    |some h=>match bnd lo 0 h with
     |some l=>some (.qo sz ((e.take h).drop l))
     |none=>none
    |none=>none
 |.row h off len b f g=>match Nat.beq sz b with
  |false=>none
  |true=>match d with
   |some m=>match bnd (some m) 0 f with
    |some m=>match bnd c len m with
     |some t=>match bnd lo 0 t with
      |some l=>some (.row h (off+l*sz) (t-l) sz (m-l) true)
      |none=>none
     |none=>none
    |none=>none
   |none=>match bnd c len (Nat.max len f)with
    |some t=>match bnd lo 0 t with
     |some l=>some (.row h (off+l*sz) (t-l) sz (Nat.max len f-l) g)
     |none=>none
    |none=>none
 |_=>none
def zDa(H:Heap)(sz:Nat)(b:Bool):AV->JF
 |.ptr h off=>match H.get h with
  |some (.cells _ c)=>part c off sz b
  |_=>none
 |.qc e off=>part e.cells off sz b
 |_=>none
def idx(es:JE):AV->JF
 |.int _ (.ofNat n)=>es[n]?
 |_=>none
def zEg(n:Nat):AV->Option Nat
 |.int _ (.ofNat i)=>match Nat.blt i n with
  |true=>some i
  |false=>none
 |_=>none
def zLM(H:Heap)(nx:Nat)(d y:AV)(sz:Nat):Option Out:=
 match content H sz y with
 |none=>none
 |some (n,e)=>match d with
  |.qa=>some (.int .i64 0,H,nx)
  |.row h off len b _ _=>match Nat.beq sz b with
   |false=>none
   |true=>match H.get h with
    |some (.cells str c)=>match Nat.ble (off+len*sz) c.length with
     |true=>some (.int .i64 (.ofNat (Nat.min n len)),H.put h (.cells str (qp c off (e.take (Nat.min n len*sz)))),nx)
     |false=>none
    |_=>none
  |_=>none
def rep(n:Nat)(z:JE):JE:=match n with
 |0=>[]
 |n+1=>z++rep n z
def zAZ:JE->Option JV
 |[]=>some []
 |.int .u8 (.ofNat b)::r=>match zAZ r with
  |some s=>some (b::s)
  |none=>none
 |_=>none
def rune(s:JV)(pos:Nat):Option Nat:=
 match s[pos]? with
 |some b=>match Nat.blt b 128 with
  |true=>some b
  |false=>none
 |none=>none
abbrev Call:=Nat->JE->Heap->Nat->Option Out
def zEZ(call:Call)(H:Heap)(nx:Nat)(args:JE):AV->Option Out
 |.func (.func f) first b=>call f (first++args++b) H nx
 |_=>none
def zMF(b:Nat):Nat->JV->Int
 |_,[]=>-1
 |i,a::r=>match Nat.beq a b with
  |true=>.ofNat i
  |false=>zMF b (i+1) r
def zOw(b:Nat):JV->Nat
 |[]=>0
 |a::r=>match Nat.beq a b with
  |true=>zOw b r+1
  |false=>zOw b r
def xoS(G:Cx)(call:Call)(fr:Fr)(H:Heap)(nx:Nat):XO->Option Out
 |.bad=>none
 |.wH x=>match x.ev G fr with
  |some v=>some (v,H,nx)
  |none=>none
 |.pick c a b=>match c.ev G fr with
  |some (.bool true)=>match a.ev G fr with
   |some v=>some (v,H,nx)
   |none=>none
  |some (.bool false)=>match b.ev G fr with
   |some v=>some (v,H,nx)
   |none=>none
  |_=>none
 |.bin op x y=>match x.ev G fr,y.ev G fr with
  |some a,some b=>match zDo op a b with
   |some v=>some (v,H,nx)
   |none=>none
  |_,_=>none
 |.beq neg x y=>match x.ev G fr,y.ev G fr with
  |some (.bool a),some (.bool b)=>some (zBu neg (a==b),H,nx)
  |_,_=>none
 |.peq neg x y=>match x.ev G fr,y.ev G fr with
  |some a,some b=>match zJT H a b with
   |some v=>some (zBu neg v,H,nx)
   |none=>none
  |_,_=>none
 |.qW neg D x y=>match x.ev G fr,y.ev G fr with
  |some (.agg a),some (.agg b)=>match eqs D a b with
   |some v=>some (zBu neg v,H,nx)
   |none=>none
  |_,_=>none
 |.vO neg lit O x y=>match x.ev G fr,y.ev G fr with
  |some a,some b=>match zH2 lit O a b with
   |some v=>some (zBu neg v,H,nx)
   |none=>none
  |_,_=>none
 |.seq neg x y=>match x.ev G fr,y.ev G fr with
  |some a,some b=>match zH3 a b with
   |some v=>some (zBu neg v,H,nx)
   |none=>none
  |_,_=>none
 |.v8 neg x y=>match x.ev G fr,y.ev G fr with
  |some a,some b=>match zJU a b with
   |some v=>some (zBu neg v,H,nx)
   |none=>none
  |_,_=>none
 |.vZ neg x y=>match x.ev G fr,y.ev G fr with
  |some a,some b=>match zJV a b with
   |some v=>some (zBu neg v,H,nx)
   |none=>none
  |_,_=>none
 |.un op x=>match x.ev G fr with
  |some a=>match xun op a with
   |some v=>some (v,H,nx)
   |none=>none
  |none=>none
 |.conv k x=>match x.ev G fr with
  |some (.int _ n)=>some (.int k (wrapx k n),H,nx)
  |_=>none
 |.vJ x=>match x.ev G fr with
  |some (.str s)=>some (.row nx 0 s.length 1 s.length false,(nx,.cells true (s.map λb=>.int .u8 (.ofNat b)))::H,nx+1)
  |_=>none
 |.vB x=>match x.ev G fr with
  |some (.str _)=>none
  |some v=>match content H 1 v with
   |some (_,j)=>match zAZ j with
    |some s=>some (.str s,H,nx)
    |none=>none
   |none=>none
  |none=>none
 |.uf x=>match x.ev G fr with
  |some (.str s)=>some (.str s,H,nx)
  |_=>none
 |.mark x=>match x.ev G fr with
  |some (.row h off len g M N)=>match Nat.blt 0 len with
   |true=>match H.get h with
    |some (.cells _ j)=>some (.row h off len g M N,H.put h (.cells true j),nx)
    |_=>none
   |false=>none
  |_=>none
 |.vt x c=>match x.ev G fr,c.ev G fr with
  |some (.str s),some (.int .u8 (.ofNat b))=>some (.int .i64 (zMF b 0 s),H,nx)
  |_,_=>none
 |.vu x c=>match x.ev G fr,c.ev G fr with
  |some (.str s),some (.int .u8 (.ofNat b))=>some (.int .i64 (.ofNat (zOw b s)),H,nx)
  |_,_=>none
 |.uc x off g q=>match x.ev G fr with
  |some (.agg j)=>match part j off g q with
   |some v=>some (v,H,nx)
   |none=>none
  |_=>none
 |.ext x i=>match x.ev G fr with
  |some (.qg F)=>match F[i]? with
   |some v=>some (v,H,nx)
   |none=>none
  |_=>none
 |.wP x i=>match x.ev G fr,i.ev G fr with
  |some (.str s),some (.int _ (.ofNat n))=>match s[n]? with
   |some b=>some (.int .u8 (.ofNat b),H,nx)
   |none=>none
  |_,_=>none
 |.wc x i len g q=>match x.ev G fr,i.ev G fr with
  |some (.agg j),some i=>match zEg len i with
   |some n=>match part j (n*g) g q with
    |some v=>some (v,H,nx)
    |none=>none
   |none=>none
  |_,_=>none
 |.box x g=>match x.ev G fr with
  |some v=>match cellsOf v g with
   |some j=>some (.ptr nx 0,(nx,.cells false j)::H,nx+1)
   |none=>none
  |none=>none
 |.alloc z=>some (.ptr nx 0,(nx,.cells false z)::H,nx+1)
 |.build z J=>match zAC G fr z J with
  |some j=>some (.agg j,H,nx)
  |none=>none
 |.qy len g z J=>match zAC G fr z J with
  |some j=>some (.row nx 0 len g len true,(nx,.cells false j)::H,nx+1)
  |none=>none
 |.load x g q=>match x.ev G fr with
  |some a=>match zDa H g q a with
   |some v=>some (v,H,nx)
   |none=>none
  |none=>none
 |.store a x g=>match a.ev G fr,x.ev G fr with
  |some (.ptr h off),some v=>match H.get h with
   |some (.cells str j)=>match cellsOf v g with
    |some new=>match Nat.ble (off+g) j.length with
     |true=>some (.qg [],H.put h (.cells str (qp j off new)),nx)
     |false=>none
    |none=>none
   |_=>none
  |_,_=>none
 |.qO x=>match x.ev G fr with
  |some (.ptr h o)=>some (.ptr h o,H,nx)
  |some (.qc e o)=>some (.qc e o,H,nx)
  |some (.iface t v)=>some (.iface t v,H,nx)
  |some (.func (.func f) a b)=>some (.func (.func f) a b,H,nx)
  |_=>none
 |.qC x off=>match x.ev G fr with
  |some (.ptr h o)=>some (.ptr h (o+off),H,nx)
  |some (.qc e o)=>some (.qc e (o+off),H,nx)
  |_=>none
 |.qB x i g=>match x.ev G fr,i.ev G fr with
  |some (.qo A p),some i=>match Nat.beq g A with
   |true=>match idx p i with
    |some e=>some (.qc e 0,H,nx)
    |none=>none
   |false=>none
  |some (.row h off len A _ _),some i=>match Nat.beq g A with
   |true=>match zEg len i with
    |some n=>some (.ptr h (off+n*g),H,nx)
    |none=>none
   |false=>none
  |_,_=>none
 |.qz x i len g=>match x.ev G fr,i.ev G fr with
  |some (.ptr h o),some i=>match zEg len i with
   |some n=>some (.ptr h (o+n*g),H,nx)
   |none=>none
  |some (.qc e o),some i=>match zEg len i with
   |some n=>some (.qc e (o+n*g),H,nx)
   |none=>none
  |_,_=>none
 |.wJ x C B=>match x.ev G fr,evo G fr C,evo G fr B with
  |some (.str s),some C,some B=>match bnd B s.length s.length with
   |some h=>match bnd C 0 h with
    |some l=>some (.str ((s.take h).drop l),H,nx)
    |none=>none
   |none=>none
  |_,_,_=>none
 |.wy x C B K g=>match x.ev G fr,evo G fr C,evo G fr B,evo G fr K with
  |some v,some C,some B,some K=>match zFU g C B K v with
   |some v=>some (v,H,nx)
   |none=>none
  |_,_,_,_=>none
 |.vN x C B len g=>match x.ev G fr,evo G fr C,evo G fr B with
  |some (.ptr h off),some C,some B=>match H.get h with
   |some (.cells _ j)=>match Nat.ble (off+len*g) j.length with
    |true=>match bnd B len len with
     |some t=>match bnd C 0 t with
      |some l=>some (.row h (off+l*g) (t-l) g (len-l) true,H,nx)
      |none=>none
     |none=>none
    |false=>none
   |_=>none
  |_,_,_=>none
 |.wU x=>match x.ev G fr with
  |some (.str s)=>some (.int .i64 (.ofNat s.length),H,nx)
  |_=>none
 |.wb x=>match x.ev G fr with
  |some .qa=>some (.int .i64 (.ofNat 0),H,nx)
  |some (.qo _ p)=>some (.int .i64 (.ofNat p.length),H,nx)
  |some (.row _ _ len _ _ _)=>some (.int .i64 (.ofNat len),H,nx)
  |_=>none
 |.vQ x=>match x.ev G fr with
  |some .qm=>some (.int .i64 (.ofNat 0),H,nx)
  |some (.map h)=>match H.get h with
   |some (.map p)=>match Nat.ble p.length zf with
    |true=>some (.int .i64 (.ofNat p.length),H,nx)
    |false=>none
   |_=>none
  |_=>none
 |.wZ n=>some (.int .i64 (.ofNat n),H,nx)
 |.cap x=>match x.ev G fr with
  |some .qa=>some (.int .i64 (.ofNat 0),H,nx)
  |some (.row _ _ _ _ M true)=>some (.int .i64 (.ofNat M),H,nx)
  |_=>none
 |.append x y g bytes=>match x.ev G fr,y.ev G fr with
  |some s,some y=>zAK H nx s y g bytes
  |_,_=>none
 |.copy x y g=>match x.ev G fr,y.ev G fr with
  |some d,some y=>zLM H nx d y g
  |_,_=>none
 |.vY x g z=>match x.ev G fr with
  |some .qa=>some (.qg [],H,nx)
  |some (.row h off len A _ _)=>match Nat.beq g A with
   |false=>none
   |true=>match H.get h with
    |some (.cells str j)=>match Nat.ble (off+len*g) j.length with
     |true=>some (.qg [],H.put h (.cells str (qp j off (rep len z))),nx)
     |false=>none
    |_=>none
  |_=>none
 |.ua x=>match x.ev G fr with
  |some .qm=>some (.qg [],H,nx)
  |some (.map h)=>match H.get h with
   |some (.map _)=>some (.qg [],H.put h (.map []),nx)
   |_=>none
  |_=>none
 |.min x y=>match x.ev G fr,y.ev G fr with
  |some (.int k a),some (.int L b)=>match zC9 k L with
   |true=>some (.int k (if b<a then b else a),H,nx)
   |false=>none
  |_,_=>none
 |.max x y=>match x.ev G fr,y.ev G fr with
  |some (.int k a),some (.int L b)=>match zC9 k L with
   |true=>some (.int k (if b > a then b else a),H,nx)
   |false=>none
  |_,_=>none
 |.qM l c g bytes z=>match l.ev G fr,c.ev G fr with
  |some (.int _ (.ofNat l)),some (.int _ (.ofNat c))=>match Nat.ble l c with
   |true=>match Nat.ble (c*bytes) zc with
    |true=>match Nat.ble c zc with
     |true=>some (.row nx 0 l g c true,(nx,.cells false (rep c z))::H,nx+1)
     |false=>none
    |false=>none
   |false=>none
  |_,_=>none
 |.wu=>some (.map nx,(nx,.map [])::H,nx+1)
 |.lookup q D m k z ok=>match m.ev G fr,k.ev G fr with
  |some m,some k=>match zCP q D k with
   |false=>none
   |true=>match m with
    |.qm=>some (match ok with|true=>.qg [z,.bool false]|false=>z,H,nx)
    |.map h=>match H.get h with
     |some (.map p)=>match zCV q D k p with
      |some (some v)=>some (match ok with|true=>.qg [v,.bool true]|false=>v,H,nx)
      |some none=>some (match ok with|true=>.qg [z,.bool false]|false=>z,H,nx)
      |none=>none
     |_=>none
    |_=>none
  |_,_=>none
 |.wM q D m k v=>match m.ev G fr,k.ev G fr,v.ev G fr with
  |some (.map h),some k,some v=>match zCP q D k with
   |false=>none
   |true=>match H.get h with
    |some (.map p)=>match zFT q D k v p with
     |some p=>some (.qg [],H.put h (.map p),nx)
     |none=>none
    |_=>none
  |_,_,_=>none
 |.del q D m k=>match m.ev G fr,k.ev G fr with
  |some m,some k=>match zCP q D k with
   |false=>none
   |true=>match m with
    |.qm=>some (.qg [],H,nx)
    |.map h=>match H.get h with
     |some (.map p)=>match zME q D k p with
      |some p=>some (.qg [],H.put h (.map p),nx)
      |none=>none
     |_=>none
    |_=>none
  |_,_=>none
 |.wg fn first I=>match evs G fr first,evs G fr I with
  |some a,some b=>some (.func fn a b,H,nx)
  |_,_=>none
 |.w4 t x=>match x.ev G fr with
  |some v=>some (.iface t v,H,nx)
  |none=>none
 |.vT x t ok z=>match x.ev G fr with
  |some (.iface u v)=>match Nat.beq u t with
   |true=>some (match ok with|true=>.qg [v,.bool true]|false=>v,H,nx)
   |false=>match ok with
    |true=>some (.qg [z,.bool false],H,nx)
    |false=>none
  |some .qe=>match ok with
   |true=>some (.qg [z,.bool false],H,nx)
   |false=>none
  |_=>none
 |.vP x=>match x.ev G fr with
  |some (.str s)=>some (.ptr nx 0,(nx,.wa s 0)::H,nx+1)
  |_=>none
 |.vD x=>match x.ev G fr with
  |some (.ptr h 0)=>match H.get h with
   |some (.wa s pos)=>match Nat.ble s.length zf with
    |true=>match Nat.blt pos s.length with
     |true=>match rune s pos with
      |some b=>some (.qg [.bool true,.int .i64 (.ofNat pos),.int .i32 (.ofNat b)],H.put h (.wa s (pos+1)),nx)
      |none=>none
     |false=>some (.qg [.bool false],H,nx)
    |false=>none
   |_=>none
  |_=>none
 |.call f args=>match evs G fr args with
  |some F=>call f F H nx
  |none=>none
 |.qN f args=>match f.ev G fr,evs G fr args with
  |some Q,some F=>zEZ call H nx F Q
  |_,_=>none
 |.invoke r m args=>match r.ev G fr,evs G fr args with
  |some (.iface t v),some F=>match G.uA t m with
   |some f=>call f (v::F) H nx
   |none=>none
  |_,_=>none
def zNb  :Option Out:=
 none
def zYz(G:Cx)(fr:Fr)(H:Heap)(nx:Nat)(x:XV):Option Out:=
 match x.ev G fr with
 |some v=>some (v,H,nx)
 |none=>none
def zXe(G:Cx)(fr:Fr)(H:Heap)(nx:Nat)(c:XV)(a:XV)(b:XV):Option Out:=
 match c.ev G fr with
 |some (.bool true)=>match a.ev G fr with
  |some v=>some (v,H,nx)
  |none=>none
 |some (.bool false)=>match b.ev G fr with
  |some v=>some (v,H,nx)
  |none=>none
 |_=>none
def zYA(G:Cx)(fr:Fr)(H:Heap)(nx:Nat)(op:BinOp)(x:XV)(y:XV):Option Out:=
 match x.ev G fr,y.ev G fr with
 |some a,some b=>match zDo op a b with
  |some v=>some (v,H,nx)
  |none=>none
 |_,_=>none
def zYB(G:Cx)(fr:Fr)(H:Heap)(nx:Nat)(neg:Bool)(x:XV)(y:XV):Option Out:=
 match x.ev G fr,y.ev G fr with
 |some (.bool a),some (.bool b)=>some (zBu neg (a==b),H,nx)
 |_,_=>none
def zYC(G:Cx)(fr:Fr)(H:Heap)(nx:Nat)(neg:Bool)(x:XV)(y:XV):Option Out:=
 match x.ev G fr,y.ev G fr with
 |some a,some b=>match zJT H a b with
  |some v=>some (zBu neg v,H,nx)
  |none=>none
 |_,_=>none
def zYD(G:Cx)(fr:Fr)(H:Heap)(nx:Nat)(neg:Bool)(d:List Kd)(x:XV)(y:XV):Option Out:=
 match x.ev G fr,y.ev G fr with
 |some (.agg a),some (.agg b)=>match eqs d a b with
  |some v=>some (zBu neg v,H,nx)
  |none=>none
 |_,_=>none
def zYE(G:Cx)(fr:Fr)(H:Heap)(nx:Nat)(neg:Bool)(lit:Bool)(d:Nat->Option Kd)(x:XV)(y:XV):Option Out:=
 match x.ev G fr,y.ev G fr with
 |some a,some b=>match zH2 lit d a b with
  |some v=>some (zBu neg v,H,nx)
  |none=>none
 |_,_=>none
def zYF(G:Cx)(fr:Fr)(H:Heap)(nx:Nat)(neg:Bool)(x:XV)(y:XV):Option Out:=
 match x.ev G fr,y.ev G fr with
 |some a,some b=>match zH3 a b with
  |some v=>some (zBu neg v,H,nx)
  |none=>none
 |_,_=>none
def zYG(G:Cx)(fr:Fr)(H:Heap)(nx:Nat)(neg:Bool)(x:XV)(y:XV):Option Out:=
 match x.ev G fr,y.ev G fr with
 |some a,some b=>match zJU a b with
  |some v=>some (zBu neg v,H,nx)
  |none=>none
 |_,_=>none
def zYH(G:Cx)(fr:Fr)(H:Heap)(nx:Nat)(neg:Bool)(x:XV)(y:XV):Option Out:=
 match x.ev G fr,y.ev G fr with
 |some a,some b=>match zJV a b with
  |some v=>some (zBu neg v,H,nx)
  |none=>none
 |_,_=>none
def zZ6(G:Cx)(fr:Fr)(H:Heap)(nx:Nat)(op:UnOp)(x:XV):Option Out:=
 match x.ev G fr with
 |some a=>match xun op a with
  |some v=>some (v,H,nx)
  |none=>none
 |none=>none
def zXf(G:Cx)(fr:Fr)(H:Heap)(nx:Nat)(k:IntKind)(x:XV):Option Out:=
 match x.ev G fr with
 |some (.int _ n)=>some (.int k (wrapx k n),H,nx)
 |_=>none
def zYI(G:Cx)(fr:Fr)(H:Heap)(nx:Nat)(x:XV):Option Out:=
 match x.ev G fr with
 |some (.str s)=>some (.row nx 0 s.length 1 s.length false,(nx,.cells true (s.map λb=>.int .u8 (.ofNat b)))::H,nx+1)
 |_=>none
def zYJ(G:Cx)(fr:Fr)(H:Heap)(nx:Nat)(x:XV):Option Out:=
 match x.ev G fr with
 |some (.str _)=>none
 |some v=>match content H 1 v with
  |some (_,b)=>match zAZ b with
   |some s=>some (.str s,H,nx)
   |none=>none
  |none=>none
 |none=>none
def zYK(G:Cx)(fr:Fr)(H:Heap)(nx:Nat)(x:XV):Option Out:=
 match x.ev G fr with
 |some (.str s)=>some (.str s,H,nx)
 |_=>none
def zXg(G:Cx)(fr:Fr)(H:Heap)(nx:Nat)(x:XV):Option Out:=
 match x.ev G fr with
 |some (.row h off len c e b)=>match Nat.blt 0 len with
  |true=>match H.get h with
   |some (.cells _ d)=>some (.row h off len c e b,H.put h (.cells true d),nx)
   |_=>none
  |false=>none
 |_=>none
def zXh(G:Cx)(fr:Fr)(H:Heap)(nx:Nat)(x:XV)(c:XV):Option Out:=
 match x.ev G fr,c.ev G fr with
 |some (.str s),some (.int .u8 (.ofNat b))=>some (.int .i64 (zMF b 0 s),H,nx)
 |_,_=>none
def zXi(G:Cx)(fr:Fr)(H:Heap)(nx:Nat)(x:XV)(c:XV):Option Out:=
 match x.ev G fr,c.ev G fr with
 |some (.str s),some (.int .u8 (.ofNat b))=>some (.int .i64 (.ofNat (zOw b s)),H,nx)
 |_,_=>none
def zYL(G:Cx)(fr:Fr)(H:Heap)(nx:Nat)(x:XV)(off:Nat)(sz:Nat)(c:Bool):Option Out:=
 match x.ev G fr with
 |some (.agg b)=>match part b off sz c with
  |some v=>some (v,H,nx)
  |none=>none
 |_=>none
def zYM(G:Cx)(fr:Fr)(H:Heap)(nx:Nat)(x:XV)(i:Nat):Option Out:=
 match x.ev G fr with
 |some (.qg b)=>match b[i]? with
  |some v=>some (v,H,nx)
  |none=>none
 |_=>none
def zXj(G:Cx)(fr:Fr)(H:Heap)(nx:Nat)(x:XV)(i:XV):Option Out:=
 match x.ev G fr,i.ev G fr with
 |some (.str s),some (.int _ (.ofNat n))=>match s[n]? with
  |some b=>some (.int .u8 (.ofNat b),H,nx)
  |none=>none
 |_,_=>none
def zXk(G:Cx)(fr:Fr)(H:Heap)(nx:Nat)(x:XV)(i:XV)(len:Nat)(sz:Nat)(c:Bool):Option Out:=
 match x.ev G fr,i.ev G fr with
 |some (.agg b),some i=>match zEg len i with
  |some n=>match part b (n*sz) sz c with
   |some v=>some (v,H,nx)
   |none=>none
  |none=>none
 |_,_=>none
def zYN(G:Cx)(fr:Fr)(H:Heap)(nx:Nat)(x:XV)(sz:Nat):Option Out:=
 match x.ev G fr with
 |some v=>match cellsOf v sz with
  |some b=>some (.ptr nx 0,(nx,.cells false b)::H,nx+1)
  |none=>none
 |none=>none
def zVy(H:Heap)(nx:Nat)(z:JE):Option Out:=
 some (.ptr nx 0,(nx,.cells false z)::H,nx+1)
def zVz(G:Cx)(fr:Fr)(H:Heap)(nx:Nat)(z:JE)(b:List (Nat×Nat×XV)):Option Out:=
 match zAC G fr z b with
 |some c=>some (.agg c,H,nx)
 |none=>none
def zUe(G:Cx)(fr:Fr)(H:Heap)(nx:Nat)(len:Nat)(sz:Nat)(z:JE)(b:List (Nat×Nat×XV)):Option Out:=
 match zAC G fr z b with
 |some c=>some (.row nx 0 len sz len true,(nx,.cells false c)::H,nx+1)
 |none=>none
def zXl(G:Cx)(fr:Fr)(H:Heap)(nx:Nat)(x:XV)(sz:Nat)(b:Bool):Option Out:=
 match x.ev G fr with
 |some a=>match zDa H sz b a with
  |some v=>some (v,H,nx)
  |none=>none
 |none=>none
def zVA(G:Cx)(fr:Fr)(H:Heap)(nx:Nat)(a:XV)(x:XV)(sz:Nat):Option Out:=
 match a.ev G fr,x.ev G fr with
 |some (.ptr h off),some v=>match H.get h with
  |some (.cells str b)=>match cellsOf v sz with
   |some new=>match Nat.ble (off+sz) b.length with
    |true=>some (.qg [],H.put h (.cells str (qp b off new)),nx)
    |false=>none
   |none=>none
  |_=>none
 |_,_=>none
def zUf(G:Cx)(fr:Fr)(H:Heap)(nx:Nat)(x:XV):Option Out:=
 match x.ev G fr with
 |some (.ptr h o)=>some (.ptr h o,H,nx)
 |some (.qc e o)=>some (.qc e o,H,nx)
 |some (.iface t v)=>some (.iface t v,H,nx)
 |some (.func (.func f) a b)=>some (.func (.func f) a b,H,nx)
 |_=>none
def zVB(G:Cx)(fr:Fr)(H:Heap)(nx:Nat)(x:XV)(off:Nat):Option Out:=
 match x.ev G fr with
 |some (.ptr h o)=>some (.ptr h (o+off),H,nx)
 |some (.qc e o)=>some (.qc e (o+off),H,nx)
 |_=>none
def zUg(G:Cx)(fr:Fr)(H:Heap)(nx:Nat)(x:XV)(i:XV)(sz:Nat):Option Out:=
 match x.ev G fr,i.ev G fr with
 |some (.qo b c),some i=>match Nat.beq sz b with
  |true=>match idx c i with
   |some e=>some (.qc e 0,H,nx)
   |none=>none
  |false=>none
 |some (.row h off len b _ _),some i=>match Nat.beq sz b with
  |true=>match zEg len i with
   |some n=>some (.ptr h (off+n*sz),H,nx)
   |none=>none
  |false=>none
 |_,_=>none
def zUh(G:Cx)(fr:Fr)(H:Heap)(nx:Nat)(x:XV)(i:XV)(len:Nat)(sz:Nat):Option Out:=
 match x.ev G fr,i.ev G fr with
 |some (.ptr h o),some i=>match zEg len i with
  |some n=>some (.ptr h (o+n*sz),H,nx)
  |none=>none
 |some (.qc e o),some i=>match zEg len i with
  |some n=>some (.qc e (o+n*sz),H,nx)
  |none=>none
 |_,_=>none
def zXm(G:Cx)(fr:Fr)(H:Heap)(nx:Nat)(x:XV)(lo:Option XV)(b:Option XV):Option Out:=
 match x.ev G fr,evo G fr lo,evo G fr b with
 |some (.str s),some lo,some b=>match bnd b s.length s.length with
  |some h=>match bnd lo 0 h with
   |some l=>some (.str ((s.take h).drop l),H,nx)
   |none=>none
  |none=>none
 |_,_,_=>none
def zXn(G:Cx)(fr:Fr)(H:Heap)(nx:Nat)(x:XV)(lo:Option XV)(c:Option XV)(b:Option XV)(sz:Nat):Option Out:=
 match x.ev G fr,evo G fr lo,evo G fr c,evo G fr b with
 |some v,some lo,some c,some b=>match zFU sz lo c b v with
  |some v=>some (v,H,nx)
  |none=>none
 |_,_,_,_=>none
def zXo(G:Cx)(fr:Fr)(H:Heap)(nx:Nat)(x:XV)(lo:Option XV)(b:Option XV)(len:Nat)(sz:Nat):Option Out:=
 match x.ev G fr,evo G fr lo,evo G fr b with
 |some (.ptr h off),some lo,some b=>match H.get h with
  |some (.cells _ c)=>match Nat.ble (off+len*sz) c.length with
   |true=>match bnd b len len with
    |some t=>match bnd lo 0 t with
     |some l=>some (.row h (off+l*sz) (t-l) sz (len-l) true,H,nx)
     |none=>none
    |none=>none
   |false=>none
  |_=>none
 |_,_,_=>none
def zXp(G:Cx)(fr:Fr)(H:Heap)(nx:Nat)(x:XV):Option Out:=
 match x.ev G fr with
 |some (.str s)=>some (.int .i64 (.ofNat s.length),H,nx)
 |_=>none
def zXq(G:Cx)(fr:Fr)(H:Heap)(nx:Nat)(x:XV):Option Out:=
 match x.ev G fr with
 |some .qa=>some (.int .i64 (.ofNat 0),H,nx)
 |some (.qo _ b)=>some (.int .i64 (.ofNat b.length),H,nx)
 |some (.row _ _ len _ _ _)=>some (.int .i64 (.ofNat len),H,nx)
 |_=>none
def zXr(G:Cx)(fr:Fr)(H:Heap)(nx:Nat)(x:XV):Option Out:=
 match x.ev G fr with
 |some .qm=>some (.int .i64 (.ofNat 0),H,nx)
 |some (.map h)=>match H.get h with
  |some (.map b)=>match Nat.ble b.length zf with
   |true=>some (.int .i64 (.ofNat b.length),H,nx)
   |false=>none
  |_=>none
 |_=>none
def zXs(H:Heap)(nx:Nat)(n:Nat):Option Out:=
 some (.int .i64 (.ofNat n),H,nx)
def zYO(G:Cx)(fr:Fr)(H:Heap)(nx:Nat)(x:XV):Option Out:=
 match x.ev G fr with
 |some .qa=>some (.int .i64 (.ofNat 0),H,nx)
 |some (.row _ _ _ _ b true)=>some (.int .i64 (.ofNat b),H,nx)
 |_=>none
def zUi(G:Cx)(fr:Fr)(H:Heap)(nx:Nat)(x:XV)(y:XV)(sz:Nat)(bytes:Nat):Option Out:=
 match x.ev G fr,y.ev G fr with
 |some s,some y=>zAK H nx s y sz bytes
 |_,_=>none
def zXt(G:Cx)(fr:Fr)(H:Heap)(nx:Nat)(x:XV)(y:XV)(sz:Nat):Option Out:=
 match x.ev G fr,y.ev G fr with
 |some d,some y=>zLM H nx d y sz
 |_,_=>none
def zXu(G:Cx)(fr:Fr)(H:Heap)(nx:Nat)(x:XV)(sz:Nat)(z:JE):Option Out:=
 match x.ev G fr with
 |some .qa=>some (.qg [],H,nx)
 |some (.row h off len b _ _)=>match Nat.beq sz b with
  |false=>none
  |true=>match H.get h with
   |some (.cells str c)=>match Nat.ble (off+len*sz) c.length with
    |true=>some (.qg [],H.put h (.cells str (qp c off (rep len z))),nx)
    |false=>none
   |_=>none
 |_=>none
def zXv(G:Cx)(fr:Fr)(H:Heap)(nx:Nat)(x:XV):Option Out:=
 match x.ev G fr with
 |some .qm=>some (.qg [],H,nx)
 |some (.map h)=>match H.get h with
  |some (.map _)=>some (.qg [],H.put h (.map []),nx)
  |_=>none
 |_=>none
def zYP(G:Cx)(fr:Fr)(H:Heap)(nx:Nat)(x:XV)(y:XV):Option Out:=
 match x.ev G fr,y.ev G fr with
 |some (.int k a),some (.int c b)=>match zC9 k c with
  |true=>some (.int k (if b<a then b else a),H,nx)
  |false=>none
 |_,_=>none
def zYQ(G:Cx)(fr:Fr)(H:Heap)(nx:Nat)(x:XV)(y:XV):Option Out:=
 match x.ev G fr,y.ev G fr with
 |some (.int k a),some (.int c b)=>match zC9 k c with
  |true=>some (.int k (if b > a then b else a),H,nx)
  |false=>none
 |_,_=>none
def zS4(G:Cx)(fr:Fr)(H:Heap)(nx:Nat)(l:XV)(c:XV)(sz:Nat)(bytes:Nat)(z:JE):Option Out:=
 match l.ev G fr,c.ev G fr with
 |some (.int _ (.ofNat l)),some (.int _ (.ofNat c))=>match Nat.ble l c with
  |true=>match Nat.ble (c*bytes) zc with
   |true=>match Nat.ble c zc with
    |true=>some (.row nx 0 l sz c true,(nx,.cells false (rep c z))::H,nx+1)
    |false=>none
   |false=>none
  |false=>none
 |_,_=>none
def zVC(H:Heap)(nx:Nat) :Option Out:=
 some (.map nx,(nx,.map [])::H,nx+1)
def zUj(G:Cx)(fr:Fr)(H:Heap)(nx:Nat)(e:Bool)(d:List Kd)(m:XV)(k:XV)(z:AV)(ok:Bool):Option Out:=
 match m.ev G fr,k.ev G fr with
 |some m,some k=>match zCP e d k with
  |false=>none
  |true=>match m with
   |.qm=>some (match ok with|true=>.qg [z,.bool false]|false=>z,H,nx)
   |.map h=>match H.get h with
    |some (.map g)=>match zCV e d k g with
     |some (some v)=>some (match ok with|true=>.qg [v,.bool true]|false=>v,H,nx)
     |some none=>some (match ok with|true=>.qg [z,.bool false]|false=>z,H,nx)
     |none=>none
    |_=>none
   |_=>none
 |_,_=>none
def zXw(G:Cx)(fr:Fr)(H:Heap)(nx:Nat)(g:Bool)(e:List Kd)(m:XV)(k:XV)(v:XV):Option Out:=
 match m.ev G fr,k.ev G fr,v.ev G fr with
 |some (.map h),some k,some v=>match zCP g e k with
  |false=>none
  |true=>match H.get h with
   |some (.map d)=>match zFT g e k v d with
    |some d=>some (.qg [],H.put h (.map d),nx)
    |none=>none
   |_=>none
 |_,_,_=>none
def zYR(G:Cx)(fr:Fr)(H:Heap)(nx:Nat)(g:Bool)(e:List Kd)(m:XV)(k:XV):Option Out:=
 match m.ev G fr,k.ev G fr with
 |some m,some k=>match zCP g e k with
  |false=>none
  |true=>match m with
   |.qm=>some (.qg [],H,nx)
   |.map h=>match H.get h with
    |some (.map d)=>match zME g e k d with
     |some d=>some (.qg [],H.put h (.map d),nx)
     |none=>none
    |_=>none
   |_=>none
 |_,_=>none
def zUk(G:Cx)(fr:Fr)(H:Heap)(nx:Nat)(fn:Fn)(first:List XV)(c:List XV):Option Out:=
 match evs G fr first,evs G fr c with
 |some a,some b=>some (.func fn a b,H,nx)
 |_,_=>none
def zXx(G:Cx)(fr:Fr)(H:Heap)(nx:Nat)(t:Nat)(x:XV):Option Out:=
 match x.ev G fr with
 |some v=>some (.iface t v,H,nx)
 |none=>none
def zYS(G:Cx)(fr:Fr)(H:Heap)(nx:Nat)(x:XV)(t:Nat)(ok:Bool)(z:AV):Option Out:=
 match x.ev G fr with
 |some (.iface u v)=>match Nat.beq u t with
  |true=>some (match ok with|true=>.qg [v,.bool true]|false=>v,H,nx)
  |false=>match ok with
   |true=>some (.qg [z,.bool false],H,nx)
   |false=>none
 |some .qe=>match ok with
  |true=>some (.qg [z,.bool false],H,nx)
  |false=>none
 |_=>none
def zXy(G:Cx)(fr:Fr)(H:Heap)(nx:Nat)(x:XV):Option Out:=
 match x.ev G fr with
 |some (.str s)=>some (.ptr nx 0,(nx,.wa s 0)::H,nx+1)
 |_=>none
def zVD(G:Cx)(fr:Fr)(H:Heap)(nx:Nat)(x:XV):Option Out:=
 match x.ev G fr with
 |some (.ptr h 0)=>match H.get h with
  |some (.wa s pos)=>match Nat.ble s.length zf with
   |true=>match Nat.blt pos s.length with
    |true=>match rune s pos with
     |some b=>some (.qg [.bool true,.int .i64 (.ofNat pos),.int .i32 (.ofNat b)],H.put h (.wa s (pos+1)),nx)
     |none=>none
    |false=>some (.qg [.bool false],H,nx)
   |false=>none
  |_=>none
 |_=>none
def zXz(G:Cx)(call:Call)(fr:Fr)(H:Heap)(nx:Nat)(f:Nat)(args:List XV):Option Out:=
 match evs G fr args with
 |some b=>call f b H nx
 |none=>none
def zVE(G:Cx)(call:Call)(fr:Fr)(H:Heap)(nx:Nat)(f:XV)(args:List XV):Option Out:=
 match f.ev G fr,evs G fr args with
 |some c,some b=>zEZ call H nx b c
 |_,_=>none
def zUl(G:Cx)(call:Call)(fr:Fr)(H:Heap)(nx:Nat)(r:XV)(m:String)(args:List XV):Option Out:=
 match r.ev G fr,evs G fr args with
 |some (.iface t v),some b=>match G.uA t m with
  |some f=>call f (v::b) H nx
  |none=>none
 |_,_=>none
def xo(G:Cx)(call:Call)(fr:Fr)(H:Heap)(nx:Nat):XO->Option Out
 |.bad=>zNb
 |.wH x=>zYz G fr H nx x
 |.pick c a b=>zXe G fr H nx c a b
 |.bin op x y=>zYA G fr H nx op x y
 |.beq neg x y=>zYB G fr H nx neg x y
 |.peq neg x y=>zYC G fr H nx neg x y
 |.qW neg g x y=>zYD G fr H nx neg g x y
 |.vO neg lit q x y=>zYE G fr H nx neg lit q x y
 |.seq neg x y=>zYF G fr H nx neg x y
 |.v8 neg x y=>zYG G fr H nx neg x y
 |.vZ neg x y=>zYH G fr H nx neg x y
 |.un op x=>zZ6 G fr H nx op x
 |.conv k x=>zXf G fr H nx k x
 |.vJ x=>zYI G fr H nx x
 |.vB x=>zYJ G fr H nx x
 |.uf x=>zYK G fr H nx x
 |.mark x=>zXg G fr H nx x
 |.vt x c=>zXh G fr H nx x c
 |.vu x c=>zXi G fr H nx x c
 |.uc x off d e=>zYL G fr H nx x off d e
 |.ext x i=>zYM G fr H nx x i
 |.wP x i=>zXj G fr H nx x i
 |.wc x i len d e=>zXk G fr H nx x i len d e
 |.box x d=>zYN G fr H nx x d
 |.alloc z=>zVy H nx z
 |.build z p=>zVz G fr H nx z p
 |.qy len d z p=>zUe G fr H nx len d z p
 |.load x d e=>zXl G fr H nx x d e
 |.store a x d=>zVA G fr H nx a x d
 |.qO x=>zUf G fr H nx x
 |.qC x off=>zVB G fr H nx x off
 |.qB x i d=>zUg G fr H nx x i d
 |.qz x i len d=>zUh G fr H nx x i len d
 |.wJ x o h=>zXm G fr H nx x o h
 |.wy x o h s d=>zXn G fr H nx x o h s d
 |.vN x o h len d=>zXo G fr H nx x o h len d
 |.wU x=>zXp G fr H nx x
 |.wb x=>zXq G fr H nx x
 |.vQ x=>zXr G fr H nx x
 |.wZ n=>zXs H nx n
 |.cap x=>zYO G fr H nx x
 |.append x y d bytes=>zUi G fr H nx x y d bytes
 |.copy x y d=>zXt G fr H nx x y d
 |.vY x d z=>zXu G fr H nx x d z
 |.ua x=>zXv G fr H nx x
 |.min x y=>zYP G fr H nx x y
 |.max x y=>zYQ G fr H nx x y
 |.qM l c d bytes z=>zS4 G fr H nx l c d bytes z
 |.wu=>zVC H nx
 |.lookup e g m k z ok=>zUj G fr H nx e g m k z ok
 |.wM e g m k v=>zXw G fr H nx e g m k v
 |.del e g m k=>zYR G fr H nx e g m k
 |.wg fn first j=>zUk G fr H nx fn first j
 |.w4 t x=>zXx G fr H nx t x
 |.vT x t ok z=>zYS G fr H nx x t ok z
 |.vP x=>zXy G fr H nx x
 |.vD x=>zVD G fr H nx x
 |.call f args=>zXz G call fr H nx f args
 |.qN f args=>zVE G call fr H nx f args
 |.invoke r m args=>zUl G call fr H nx r m args
theorem zFI{G:Cx}{call:Call}{fr:Fr}{H:Heap}{nx:Nat}{o:XO}:xo G call fr H nx o=xoS G call fr H nx o:=by cases o<;>rfl
def qv(fr:Fr)(d:Option Nat)(v:AV):Fr:=
 match d with
 |some n=>fr.put n v
 |none=>fr
def zBm(fr:Fr):Option (Nat×Bool)->Option Bool
 |none=>some true
 |some (s,b)=>match fr.get s with
  |some (.bool c)=>some (match c,b with|true,true=>true|false,false=>true|_,_=>false)
  |some (.qg [])=>some false
  |_=>none
def zNc(G:Cx)(call:Call):List XOper->Fr->Heap->Nat->Option (Fr×Heap×Nat)
 |[],fr,H,nx=>some (fr,H,nx)
 |o::r,fr,H,nx=>match zBm fr o.guard with
  |some true=>match xo G call fr H nx o.op with
   |some (v,H',nx')=>zNc G call r (qv fr o.dst v) H' nx'
   |none=>none
  |some false=>zNc G call r (qv fr o.dst (.qg [])) H nx
  |none=>none
inductive Ext where
 |normal
 |exit (id:Nat)
 |ret
abbrev St:=Fr×Heap×Nat
def iter(b:St->Option (Ext×St)):Nat->St->Option (Ext×St)
 |0,_=>none
 |n+1,s=>match b s with
  |some (.normal,c)=>iter b n c
  |r=>r
def zDp(f:AV->AV->Bool):JE->JE->Bool
 |[],[]=>true
 |a::x,b::y=>match f a b with
  |true=>zDp f x y
  |false=>false
 |_,_=>false
def qW:Nat->AV->AV->Bool
 |0,_,_=>false
 |d+1,a,b=>match a,b with
  |.bool a,.bool b=>a==b
  |.int k a,.int B b=>match zC9 k B with|true=>a==b|false=>false
  |.str a,.str b=>seqb a b
  |.qj,.qj=>true
  |.ptr h o,.ptr p u=>Nat.beq h p&&Nat.beq o u
  |.qc e o,.qc r u=>qW d e r&&Nat.beq o u
  |.qa,.qa=>true
  |.qo n a,.qo m b=>Nat.beq n m&&zDp (qW d) a b
  |.row a b c e f g,.row q l y r s A=>Nat.beq a q&&Nat.beq b l&&Nat.beq c y&&Nat.beq e r&&Nat.beq f s&&g==A
  |.qm,.qm=>true
  |.map h,.map p=>Nat.beq h p
  |.ql,.ql=>true
  |.func (.func f) a b,.func (.func s) q l=>Nat.beq f s&&zDp (qW d) a q&&zDp (qW d) b l
  |.qe,.qe=>true
  |.iface t v,.iface z x=>Nat.beq t z&&qW d v x
  |.agg a,.agg b=>zDp (qW d) a b
  |.qg a,.qg b=>zDp (qW d) a b
  |.sym i,.sym j=>Nat.beq i j
  |_,_=>false
def zP:XO->Nat
 |.wH _|.pick _ _ _|.bin _ _ _|.beq _ _ _|.qW _ _ _ _|.vO _ _ _ _ _|.vt _ _|.vu _ _|.seq _ _ _|.v8 _ _ _|.vZ _ _ _|.un _ _|.conv _ _|.uf _|.uc _ _ _ _|.ext _ _|.wP _ _|.wc _ _ _ _ _|.build _ _|.qO _
 |.qC _ _|.qB _ _ _|.qz _ _ _ _|.wJ _ _ _|.wy _ _ _ _ _|.wU _|.wb _|.wZ _|.cap _|.min _ _|.max _ _|.wg _ _ _|.w4 _ _|.vT _ _ _ _=>0
 |.peq _ _ _|.vB _|.load _ _ _|.vN _ _ _ _ _|.vQ _|.lookup _ _ _ _ _ _=>1
 |.vJ _|.box _ _|.alloc _|.qy _ _ _ _|.qM _ _ _ _ _|.wu|.vP _=>2
 |_=>3
structure DRead where
 i:Nat
 op:XO
 fr:Fr
 qd:Nat
 v:AV
structure DS where
 fr:Fr
 nx:Nat
 ms:List (Heap×Nat)
 ch:JN
 al:List (Nat×Nat×HO)
 rd:List DRead
 tr:List (Nat×Option Nat×AV)
def within(f:Nat->Bool):List (Nat×Nat×HO)->Heap
 |[]=>[]
 |(i,h,o)::r=>match f i with
  |true=>(h,o)::within f r
  |false=>within f r
def zA0(mask:Nat):List (Nat×Nat×HO)->Nat
 |[]=>0
 |(i,_,_)::r=>match mask.testBit i with
  |true=>2 ^ i ||| zA0 mask r
  |false=>zA0 mask r
def but(mask inc:Nat)(i:Nat):Bool:=mask.testBit i&&!inc.testBit i
def zd:Call:=λ_ _ _ _=>none
def only:JV->Fr->Fr
 |[],_=>[]
 |t::ts,fr=>match fr.get t with
  |some v=>(t,v)::only ts fr
  |none=>only ts fr
def zCr(G:Cx)(call:Call)(i:Nat)(o:XOper)(d:XD)(s:DS):Option DS:=
 let fr:=only d.looks s.fr
 match zBm fr o.guard with
 |some false=>some { s with fr:=qv s.fr o.dst (.qg []),tr:=(i,o.dst,.qg [])::s.tr }
 |some true=>match zP o.op with
  |0=>match xo G zd fr [] s.nx o.op with
   |some (v,[],n)=>match Nat.beq n s.nx with
    |true=>some { s with fr:=qv s.fr o.dst v,tr:=(i,o.dst,v)::s.tr }
    |false=>none
   |_=>none
  |1=>match s.ms with
   |(m,inc)::_=>match xo G zd fr (within (but d.qd inc) s.al++m) s.nx o.op with
    |some (v,_,_)=>some { s with fr:=qv s.fr o.dst v,rd:=⟨i,o.op,fr,d.qd,v⟩::s.rd,tr:=(i,o.dst,v)::s.tr }
    |none=>none
   |[]=>none
  |2=>match xo G zd fr [] s.nx o.op with
   |some (v,[(h,b)],n)=>match Nat.beq n (h+1)with
    |true=>match Nat.beq h s.nx with
     |true=>some { s with fr:=qv s.fr o.dst v,nx:=n,al:=(i,h,b)::s.al,tr:=(i,o.dst,v)::s.tr }
     |false=>none
    |false=>none
   |some (v,[],n)=>match Nat.beq n s.nx with
    |true=>some { s with fr:=qv s.fr o.dst v,tr:=(i,o.dst,v)::s.tr }
    |false=>none
   |_=>none
  |_=>match s.ms with
   |(m,inc)::_=>match s.ch.all λc=>d.qd.testBit c.1 with
    |true=>match xo G call fr (within (but d.qd inc) s.al++m) s.nx o.op with
     |some (v,e,n)=>some { s with fr:=qv s.fr o.dst v,nx:=n,ms:=(e,inc ||| zA0 d.qd s.al)::s.ms,ch:=(i,d.qd)::s.ch,tr:=(i,o.dst,v)::s.tr }
     |none=>none
    |false=>none
   |[]=>none
 |none=>none
def zA1(G:Cx)(call:Call):Nat->List XOper->List XD->DS->Option DS
 |_,[],_,s=>some s
 |i,o::r,d::ds,s=>match zCr G call i o d s with
  |some b=>zA1 G call (i+1) r ds b
  |none=>none
 |_,_::_,[],_=>none
open Classical in
noncomputable def eqC(a b:AV):Bool:=decide (a=b)
open Classical in
theorem zQE(a:AV):eqC a a=true:=Qq rfl
open Classical in
theorem zYT{a b:AV}(h:eqC a b=true):a=b:=Qc h
noncomputable section
def zDm(G:Cx)(al:List (Nat×Nat×HO))(nx:Nat)(r:DRead)(m:Heap)(inc:Nat):Bool:=
 match xo G zd r.fr (within (but r.qd inc) al++m) nx r.op with
 |some (v,_,_)=>eqC v r.v
 |none=>false
def zBJ(G:Cx)(al:List (Nat×Nat×HO))(nx:Nat)(r:DRead):JN->List (Heap×Nat)->Bool
 |(c,p)::ch,(m,inc)::ms=>
  match r.qd.testBit c with
  |true=>zDm G al nx r m inc
  |false=>match p.testBit r.i with
   |true=>zBJ G al nx r ch ms
   |false=>match zDm G al nx r m inc with
    |true=>zBJ G al nx r ch ms
    |false=>false
 |[],(m,inc)::_=>zDm G al nx r m inc
 |_,[]=>false
def zI7(G:Cx)(call:Call)(ops:List XOper)(ds:List XD)(st:St):Option St:=
 match zA1 G call 0 ops ds ⟨st.1,st.2.2,[(st.2.1,0)],[],[],[],[]⟩with
 |some s=>match s.rd.all λr=>zBJ G s.al s.nx r s.ch s.ms with
  |true=>match s.ms with
   |(m,inc)::_=>some (s.fr,within (λi=>!inc.testBit i) s.al++m,s.nx)
   |[]=>none
  |false=>none
 |none=>none
def zWv(nx:Nat):Heap->Heap
 |[]=>[]
 |(h,o)::r=>match Nat.blt h nx with
  |true=>(h,o)::r
  |false=>zWv nx r
def inN(n:Nat):JV->Bool
 |[]=>false
 |a::r=>match Nat.beq n a with
  |true=>true
  |false=>inN n r
def wo(D:JV):Fr->Fr
 |[]=>[]
 |(t,v)::r=>match inN t D with
  |true=>wo D r
  |false=>(t,v)::wo D r
def zYU(b:Nat):Ext->Bool
 |.normal=>true
 |.exit i=>Nat.beq i b
 |.ret=>false
def zaj(b:Nat):JF->Bool
 |some (.ptr h 0)=>Nat.beq h b
 |_=>false
def zWE(f:St->Option (Ext×St))(d:Nat)(D:JV)(g W c b:Nat)(e:AV×AV)(s:St):Option St:=
 match f (s.1.put g (.qg [e.1,e.2]),s.2.1,s.2.2)with
 |some (x,fr,H,n)=>match zYU c x&&Nat.ble n (s.2.2+W)&&zaj b ((wo D fr).get d)with
  |true=>some (wo D fr,zWv s.2.2 H,s.2.2+W)
  |false=>none
 |none=>none
def zZn(f:St->Option St):List St->Option (List St)
 |[]=>some []
 |s::r=>match f s with
  |some t=>match zZn f r with
   |some b=>some (t::b)
   |none=>none
  |none=>none
def zWF(f:AV×AV->St->Option St):List (AV×AV)->List St->Option (List St)
 |[],T=>some T
 |e::r,T=>match zZn (f e) T with
  |some b=>zWF f r (T++b)
  |none=>none
def zZo(f g:AV->AV->Bool):List (AV×AV)->List (AV×AV)->Bool
 |[],[]=>true
 |(a,b)::x,(c,d)::y=>match f a c&&g b d with
  |true=>zZo f g x y
  |false=>false
 |_,_=>false
def zak:HO->HO->Bool
 |.cells s a,.cells t b=>s==t&&zDp (qW 40) a b
 |.map a,.map b=>zZo (qW 40) (qW 40) a b
 |.wa s i,.wa t j=>seqb s t&&Nat.beq i j
 |_,_=>false
def zZp:Fr->Fr->Bool
 |[],[]=>true
 |(n,a)::x,(m,b)::y=>match Nat.beq n m&&qW 40 a b with
  |true=>zZp x y
  |false=>false
 |_,_=>false
def hEq:Heap->Heap->Bool
 |[],[]=>true
 |(n,a)::x,(m,b)::y=>match Nat.beq n m&&zak a b with
  |true=>hEq x y
  |false=>false
 |_,_=>false
def zal(a b:St):Bool:=zZp a.1 b.1&&hEq a.2.1 b.2.1&&Nat.beq a.2.2 b.2.2
def zWw(f:AV×AV->St->Option St)(T:List St)(top M:Nat):Nat->List (AV×AV)->Bool
 |_,[]=>true
 |i,e::r=>(match M.testBit i with
  |true=>true
  |false=>match T[M]?,T[M ||| 2 ^ i]? with
   |some a,some b=>match f e a with
    |some c=>zal c b&&Nat.ble b.2.2 top
    |none=>false
   |_,_=>false)&&zWw f T top M (i+1) r
def zZq(f:AV×AV->St->Option St)(es:List (AV×AV))(T:List St)(top:Nat):Nat->Bool
 |0=>true
 |M+1=>zWw f T top M 0 es&&zZq f es T top M
def runM(G:Cx)(e:St->Option (Ext×St))(m:XV)(d:Nat)(D:JV)(g W c:Nat)(s:St):Option St:=
 match m.ev G s.1 with
 |some .qm=>some (wo D (wo [d] s.1),s.2.1,s.2.2+1)
 |some (.map h)=>match s.2.1.get h with
  |some (.map b)=>match zWF (zWE e d D g W c s.2.2) b [((wo D s.1).put d (.ptr s.2.2 0),s.2.1.del h,s.2.2+1)]with
   |some T=>match T[2 ^ b.length-1]? with
    |some f=>match zZq (zWE e d D g W c s.2.2) b T f.2.2 (2 ^ b.length-1)with
     |true=>some (f.1,f.2.1++[(h,.map b)],f.2.2)
     |false=>none
    |none=>none
   |none=>none
  |_=>none
 |_=>none
def run(G:Cx)(call:Call)(e:Nat):XC->St->Option (Ext×St)
 |.skip,s=>some (.normal,s)
 |.wA f,s=>match zNc G call f s.1 s.2.1 s.2.2 with
  |some d=>some (.normal,d)
  |none=>none
 |.draw f k,s=>match zI7 G call f k s with
  |some d=>some (.normal,d)
  |none=>none
 |.seq a b,s=>match run G call e a s with
  |some (.normal,d)=>run G call e b d
  |r=>r
 |.cond c a b,s=>match c.ev G s.1 with
  |some (.bool true)=>run G call e a s
  |some (.bool false)=>run G call e b s
  |_=>none
 |.block id b,s=>match run G call e b s with
  |some (.exit i,d)=>match Nat.beq i id with
   |true=>some (.normal,d)
   |false=>some (.exit i,d)
  |r=>r
 |.loop b,s=>iter (run G call e b) e s
 |.exit id,s=>some (.exit id,s)
 |.ret,s=>some (.ret,s)
 |.wN m n D l W j h g,s=>match runM G (λs=>match zNc G call h s.1 s.2.1 s.2.2 with
   |some d=>run G call e g d
   |none=>none) m n D l W j s with
  |some d=>some (.normal,d)
  |none=>none
def zPC(H:Heap)(fr:Fr):XR->JF
 |.t n=>fr.get n
 |.cell n b c=>match fr.get n with
  |some a=>zDa H b c a
  |none=>none
def zES(H:Heap)(fr:Fr):List XR->Option JE
 |[]=>some []
 |r::rs=>match zPC H fr r with
  |some v=>match zES H fr rs with
   |some b=>some (v::b)
   |none=>none
  |none=>none
def zA4:JE->AV
 |[v]=>v
 |b=>.qg b
def qG(n:Nat):JE->Fr
 |[]=>[]
 |v::r=>(n,v)::qG (n+1) r
def chunks(sz:Nat):Nat->JE->JE
 |0,_=>[]
 |n+1,b=>(match sz with
  |1=>match b with
   |c::_=>c
   |[]=>.qg []
  |_=>.agg (b.take sz))::chunks sz n (b.drop sz)
end
def zRq(f:Value->JF):JC->Option JE
 |[]=>some []
 |v::r=>match f v with
  |some a=>match zRq f r with
   |some as=>some (a::as)
   |none=>none
  |none=>none
def inr:IntKind->Int->Bool
 |.i64,.ofNat m=>Nat.ble m 9223372036854775807
 |.i64,.negSucc m=>Nat.ble m 9223372036854775807
 |.i32,.ofNat m=>Nat.ble m 2147483647
 |.i32,.negSucc m=>Nat.ble m 2147483647
 |.i16,.ofNat m=>Nat.ble m 32767
 |.i16,.negSucc m=>Nat.ble m 32767
 |.i8,.ofNat m=>Nat.ble m 127
 |.i8,.negSucc m=>Nat.ble m 127
 |.u64,.ofNat m=>Nat.ble m 18446744073709551615
 |.u32,.ofNat m=>Nat.ble m 4294967295
 |.u16,.ofNat m=>Nat.ble m 65535
 |.u8,.ofNat m=>Nat.ble m 255
 |_,.negSucc _=>false
def cav:Nat->Value->JF
 |0,_=>none
 |d+1,v=>match v with
  |.bool b=>some (.bool b)
  |.int k n=>match inr k n with
   |true=>some (.int k n)
   |false=>none
  |.string s=>match Nat.ble s.data.toList.length zf with
   |true=>some (.str (s.data.toList.map UInt8.toNat))
   |false=>none
  |.pointer none=>some .qj
  |.slice none 0 0=>some .qa
  |.map none=>some .qm
  |.nilFunc=>some .ql
  |.nilIface=>some .qe
  |.func (.func f) a b=>match a.toList,b.toList with
   |[],[]=>some (.func (.func f) [] [])
   |_,_=>none
  |.agg c=>match zRq (cav d) c.toList with
   |some l=>match l.all AV.one with
    |true=>some (.agg l)
    |false=>none
   |none=>none
  |_=>none
def zw:Operand->Option XV
 |.tmp t=>some (.t t)
 |.const v=>match cav 3 v with
  |some a=>some (.c a)
  |none=>none
 |.global g=>some (.g g)
 |.func f=>some (.c (.func (.func f) [] []))
def zDK:List Operand->Option (List XV)
 |[]=>some []
 |x::r=>match zw x,zDK r with
  |some y,some s=>some (y::s)
  |_,_=>none
def zHf:Option Operand->Option (Option XV)
 |none=>some none
 |some x=>match zw x with
  |some y=>some (some y)
  |none=>none
def zH(P:Program)(t:TypeId):Option Nat:=(P.info? t).map (·.size)
def zGH(P:Program)(t:TypeId):Option Nat:=(P.info? t).map (·.bytes)
def agT(P:Program)(t:TypeId):Option Bool:=match P.underlying t with
 |some (.struct _)|some (.array _ _)=>some true
 |some _=>some false
 |none=>none
def zJy(P:Program)(t:TypeId):JF:=match P.info? t with
 |some i=>match i.zero with
  |some v=>cav 3 v
  |none=>none
 |none=>none
def zCQ(P:Program)(t:TypeId):Option JE:=match zJy P t with
 |some v=>match v.flat,zH P t with
  |true,some n=>match Nat.beq v.cells.length n with
   |true=>some v.cells
   |false=>none
  |_,_=>none
 |none=>none
def zHK(P:Program)(f:TypeId->Option (List Kd)):Nat->List Field->Option (List Kd)
 |_,[]=>some []
 |n,x::r=>match x.name == "_",Nat.beq x.offset n,f x.type,zH P x.type with
  |false,true,some d,some s=>match Nat.beq d.length s with
   |true=>match zHK P f (n+s) r with
    |some rs=>some (d++rs)
    |none=>none
   |false=>none
  |_,_,_,_=>none
def zA8(P:Program):Nat->TypeId->Option (List Kd)
 |0,_=>none
 |d+1,t=>match P.underlying t with
  |some .bool=>some [.b]
  |some (.int _)=>some [.i]
  |some .string=>some [.s]
  |some (.struct e)=>match P.stoodInHeld t with
   |true=>none
   |false=>zHK P (zA8 P d) 0 e.toList
  |_=>none
def zLx(P:Program)(t:TypeId):Option Kd:=match P.info? t with
 |some i=>match i.comparable with
  |true=>match P.underlying t with
   |some .bool=>some .b
   |some (.int _)=>some .i
   |some .string=>some .s
   |_=>none
  |false=>none
 |none=>none
def zWc(fn:Func)(as:List XV):Option XO:=match fn.origin == "",as with
 |true,[x,y]=>match fn.name == "internal/bytealg.IndexByteString" with
  |true=>some (.vt x y)
  |false=>match fn.name == "internal/bytealg.CountString" with
   |true=>some (.vu x y)
   |false=>none
 |_,_=>none
def zAE:Operand->Bool
 |.const _=>true
 |_=>false
def zCW(place:Nat->Option (Nat×Nat)):List (Nat×Operand)->Option (List (Nat×Nat×XV))
 |[]=>some []
 |(i,x)::r=>match place i,zw x,zCW place r with
  |some (off,b),some y,some s=>some ((off,b,y)::s)
  |_,_,_=>none
def zLN(P:Program)(t:TypeId):Option (Array Field):=match P.underlying t with
 |some (.struct b)=>some b
 |_=>none
def ze{α β:Type}(x:Option α)(f:α->Option β):Option β:=match x with
 |some a=>f a
 |none=>none
def zSt(P:Program)(op:BinOp)(t:TypeId)(x y:Operand):Option XO:=
 ze (zw x) λa=>ze (zw y) λb=>
 match P.underlying t with
 |some (.int _)|some .string=>some (.bin op a b)
 |some .bool=>match op with
  |.eql=>some (.beq false a b)
  |.neq=>some (.beq true a b)
  |_=>none
 |some (.pointer e)=>match op with
  |.eql=>match zH P e with|some 0=>none|some _=>some (.peq false a b)|none=>none
  |.neq=>match zH P e with|some 0=>none|some _=>some (.peq true a b)|none=>none
  |_=>none
 |some (.struct _)=>match zA8 P 6 t,P.eqGuardType P.depth t with
  |some c,false=>match op with
   |.eql=>some (.qW false c a b)
   |.neq=>some (.qW true c a b)
   |_=>none
  |_,_=>none
 |some (.interface _)=>match op with
  |.eql=>some (.vO false (zAE x||zAE y) (zLx P) a b)
  |.neq=>some (.vO true (zAE x||zAE y) (zLx P) a b)
  |_=>none
 |some (.slice _)=>match op with
  |.eql=>some (.seq false a b)
  |.neq=>some (.seq true a b)
  |_=>none
 |some (.map _ _)=>match op with
  |.eql=>some (.v8 false a b)
  |.neq=>some (.v8 true a b)
  |_=>none
 |some (.func _ _ _)=>match op with
  |.eql=>some (.vZ false a b)
  |.neq=>some (.vZ true a b)
  |_=>none
 |_=>none
def zQF(P:Program)(s d:TypeId)(x:Operand):Option XO:=
 ze (zw x) λa=>
 match P.underlying s,P.underlying d with
 |some (.int _),some (.int k)=>some (.conv k a)
 |some .string,some .string=>some (.uf a)
 |some .string,some (.slice e)=>match P.underlying e with
  |some (.int .u8)=>some (.vJ a)
  |_=>none
 |some (.slice e),some .string=>match P.underlying e with
  |some (.int .u8)=>some (.vB a)
  |_=>none
 |some (.slice _),some (.slice e)=>match Nat.beq s d with
  |true=>match P.underlying e with
   |some (.int .u8)=>some (.mark a)
   |_=>none
  |false=>none
 |_,_=>none
def zMG(P:Program)(t:TypeId):Option (Bool×List Kd):=ze (zA8 P 6 t) λd=>ze (agT P t) λg=>some (g,d)
def zIL(P:Program)(b:Builtin)(args:List Operand)(ts:List TypeId):Option XO:=
 match b,args,ts with
 |.len,[x],[t]=>ze (zw x) λa=>match P.underlying t with
  |some .string=>some (.wU a)
  |some (.slice _)=>some (.wb a)
  |some (.map _ _)=>some (.vQ a)
  |some (.array n _)=>match Nat.ble n zf with
   |true=>some (.wZ n)
   |false=>none
  |some (.pointer e)=>match P.underlying e with
   |some (.array n _)=>match Nat.ble n zf with
    |true=>some (.wZ n)
    |false=>none
   |_=>none
  |_=>none
 |.cap,[x],[t]=>ze (zw x) λa=>match P.underlying t with
  |some (.slice _)=>some (.cap a)
  |_=>none
 |.append,[x,y],[t,u]=>ze (zw x) λa=>ze (zw y) λb=>match P.underlying t,P.underlying u with
  |some (.slice e),some (.slice _)=>ze (zH P e) λs=>ze (zGH P e) λn=>ze (zCQ P e) λ_=>match s with|0=>none|s+1=>some (.append a b (s+1) n)
  |some (.slice e),some .string=>ze (zH P e) λs=>ze (zGH P e) λn=>ze (zCQ P e) λ_=>match s with|1=>some (.append a b 1 n)|_=>none
  |_,_=>none
 |.copy,[x,y],[t,_]=>ze (zw x) λa=>ze (zw y) λb=>match P.underlying t with
  |some (.slice e)=>ze (zH P e) λs=>match s with|0=>none|s+1=>some (.copy a b (s+1))
  |_=>none
 |.clear,[x],[t]=>ze (zw x) λa=>match P.underlying t with
  |some (.slice e)=>ze (zH P e) λs=>ze (zCQ P e) λz=>match s with|0=>none|s+1=>some (.vY a (s+1) z)
  |some (.map _ _)=>some (.ua a)
  |_=>none
 |.min,[x,y],[t,_]=>ze (zw x) λa=>ze (zw y) λb=>match P.underlying t with
  |some (.int _)=>some (.min a b)
  |_=>none
 |.max,[x,y],[t,_]=>ze (zw x) λa=>ze (zw y) λb=>match P.underlying t with
  |some (.int _)=>some (.max a b)
  |_=>none
 |.delete,[m,k],[t,_]=>ze (zw m) λa=>ze (zw k) λb=>match P.underlying t with
  |some (.map c _)=>ze (zMG P c) λk=>some (.del k.1 k.2 a b)
  |_=>none
 |_,_,_=>none
def zAN(P:Program):Op->Option XO
 |.move x|.assign x=>ze (zw x) λa=>some (.wH a)
 |.pick c a b=>ze (zw c) λc=>ze (zw a) λa=>ze (zw b) λb=>some (.pick c a b)
 |.alloc e=>ze (zCQ P e) λz=>some (.alloc z)
 |.box e v=>ze (zw v) λa=>ze (zH P e) λs=>some (.box a s)
 |.build t h=>ze (zCQ P t) λz=>match P.underlying t with
  |some (.struct o)=>match o.toList.all λf=>(zH P f.type).isSome with
   |true=>ze (zCW (λi=>ze (o[i]?) λf=>ze (zH P f.type) λs=>some (f.offset,s)) h.toList) λh=>some (.build z h)
   |false=>none
  |some (.array _ e)=>ze (zH P e) λs=>ze (zCW (λi=>some (i*s,s)) h.toList) λh=>some (.build z h)
  |_=>none
 |.buildSlice t n h=>match P.underlying t with
  |some (.slice e)=>ze (zH P e) λs=>ze (zCQ P e) λz=>match s with
   |0=>none
   |s+1=>match Nat.ble (n*(s+1)) 16777216 with
    |true=>ze (zCW (λi=>some (i*(s+1),s+1)) h.toList) λh=>some (.qy n (s+1) (rep n z) h)
    |false=>none
  |_=>none
 |.load t a=>ze (zw a) λa=>ze (zH P t) λs=>ze (agT P t) λg=>some (.load a s g)
 |.store t a v=>ze (zw a) λa=>ze (zw v) λv=>ze (zH P t) λs=>some (.store a v s)
 |.nilCheck x=>ze (zw x) λa=>some (.qO a)
 |.binOp op t x y _=>zSt P op t x y
 |.unOp op _ x=>ze (zw x) λa=>some (.un op a)
 |.convert s d x=>zQF P s d x
 |.makeInterface t x=>ze (zw x) λa=>match P.underlying t with
  |some (.interface _)=>none
  |some _=>some (.w4 t a)
  |none=>none
 |.makeFunc fn a b=>ze (zDK a.toList) λa=>ze (zDK b.toList) λb=>some (.wg fn a b)
 |.makeMap t r=>match P.underlying t,r with
  |some (.map _ _),none=>some .wu
  |_,_=>none
 |.makeSlice t l c=>match P.underlying t with
  |some (.slice e)=>ze (zw l) λl=>ze (zw c) λc=>ze (zH P e) λs=>ze (zGH P e) λn=>ze (zCQ P e) λz=>match s with
   |0=>none
   |s+1=>some (.qM l c (s+1) n z)
  |_=>none
 |.slice t x u p j=>ze (zw x) λx=>ze (zHf u) λu=>ze (zHf p) λp=>ze (zHf j) λj=>match P.underlying t with
  |some .string=>match j with
   |none=>some (.wJ x u p)
   |some _=>none
  |some (.slice e)=>ze (zH P e) λs=>match s with|0=>none|s+1=>match j,p with
   |some _,none=>none
   |_,_=>some (.wy x u p j (s+1))
  |some (.array n e)=>ze (zH P e) λs=>match s with|0=>none|s+1=>match j with
   |none=>match Nat.ble n zf with
    |true=>some (.vN x u p n (s+1))
    |false=>none
   |some _=>none
  |_=>none
 |.fieldAddr t x f=>ze (zw x) λa=>ze (zLN P t) λo=>ze (o[f]?) λf=>ze (zH P f.type) λs=>match s with
  |0=>none
  |_+1=>some (.qC a f.offset)
 |.field t x f=>ze (zw x) λa=>ze (zLN P t) λo=>ze (o[f]?) λf=>ze (zH P f.type) λs=>ze (agT P f.type) λg=>some (.uc a f.offset s g)
 |.indexAddr t x i=>ze (zw x) λa=>ze (zw i) λi=>match P.underlying t with
  |some (.slice e)=>ze (zH P e) λs=>match s with|0=>none|s+1=>some (.qB a i (s+1))
  |some (.array n e)=>ze (zH P e) λs=>match s with|0=>none|s+1=>some (.qz a i n (s+1))
  |_=>none
 |.index t x i=>ze (zw x) λa=>ze (zw i) λi=>match P.underlying t with
  |some .string=>some (.wP a i)
  |some (.array n e)=>ze (zH P e) λs=>ze (agT P e) λg=>some (.wc a i n s g)
  |_=>none
 |.lookup t x i ok=>ze (zw x) λa=>ze (zw i) λk=>match P.underlying t with
  |some (.map A e)=>ze (zMG P A) λq=>ze (zJy P e) λz=>some (.lookup q.1 q.2 a k z ok)
  |_=>none
 |.mapUpdate t m k v|.insert t m k v=>ze (zw m) λm=>ze (zw k) λk=>ze (zw v) λv=>match P.underlying t with
  |some (.map A _)=>ze (zMG P A) λq=>some (.wM q.1 q.2 m k v)
  |_=>none
 |.range t x=>ze (zw x) λa=>match P.underlying t with
  |some .string=>some (.vP a)
  |_=>none
 |.next B true=>ze (zw B) λa=>some (.vD a)
 |.typeAssert x _ t ok=>ze (zw x) λa=>ze (zJy P t) λz=>match P.underlying t with
  |some (.interface _)=>none
  |some _=>some (.vT a t ok z)
  |none=>none
 |.extract t i=>ze (zw t) λa=>some (.ext a i)
 |.call c=>match c.callee with
  |.builtin b=>zIL P b c.args.toList c.argTypes.toList
  |.value (.func f)=>match P.funcs[f]? with
   |some fn=>match fn.body with
    |some _=>ze (zDK c.args.toList) λas=>some (.call f as)
    |none=>ze (zDK c.args.toList) λas=>zWc fn as
   |none=>none
  |.value x=>ze (zw x) λx=>ze (zDK c.args.toList) λas=>some (.qN x as)
  |.invoke r m=>ze (zw r) λr=>ze (zDK c.args.toList) λas=>some (.invoke r m as)
 |_=>none
def zm(P:Program)(ops:Array Oper)(o:Oper):XOper:=
 match o.guard with
 |none=>⟨o.dst,(zAN P o.op).getD .bad,none⟩
 |some (j,b)=>match(ops[j]?).bind (·.dst)with
  |some s=>⟨o.dst,(zAN P o.op).getD .bad,some (s,b)⟩
  |none=>⟨o.dst,.bad,none⟩
def zNd:List Operand->JV
 |[]=>[]
 |.tmp t::r=>t::zNd r
 |_::r=>zNd r
def zXA(x:XOper)(o:Oper):JV:=match x.guard with
 |some (s,_)=>s::zNd o.op.operands.toList
 |none=>zNd o.op.operands.toList
def zCB(n:Nat):JV->Bool
 |[]=>false
 |a::r=>match Nat.beq n a with
  |true=>true
  |false=>zCB n r
def zFJ(x:Option Nat)(c:XD)(y:Option Nat)(b:XD):Bool:=
 (match x with|some d=>!zCB d b.looks|none=>true)&&(match y with|some d=>!zCB d c.looks|none=>true) &&
 (match x,y with|some d,some e=>!Nat.beq d e|_,_=>true)
def zI8:Nat->List (Nat×Option Nat×XD)->List XOper->List XD->Bool
 |_,_,[],_=>true
 |_,_,_::_,[]=>false
 |i,b,x::r,d::ds=>(b.all λe=>d.qd.testBit e.1||zFJ e.2.1 e.2.2 x.dst d)&&zI8 (i+1) ((i,x.dst,d)::b) r ds
def zLy:Nat->List Oper->Bool
 |_,[]=>true
 |i,o::r=>(o.after.toList.all λe=>!Region.binds .any e||Nat.blt e.on i)&&zLy (i+1) r
def zCC(ops:Array Oper)(P:Program):List Oper->JV->List XD
 |o::r,m::ms=>⟨m,zXA (zm P ops o) o⟩::zCC ops P r ms
 |_,_=>[]
def zD(P:Program):Code->Option XC
 |.skip=>some .skip
 |.region _ d draw=>match draw with
  |false=>some (.wA (d.toList.map (zm P d)))
  |true=>
   let f:=d.toList.map (zm P d)
   let e:=zCC d P d.toList (Region.before d).toList
   match zLy 0 d.toList with
   |true=>match zI8 0 [] f e with
    |true=>some (.draw f e)
    |false=>none
   |false=>none
 |.seq a b=>ze (zD P a) λa=>ze (zD P b) λb=>some (.seq a b)
 |.cond c a b=>ze (zw c) λc=>ze (zD P a) λa=>ze (zD P b) λb=>some (.cond c a b)
 |.block i b=>ze (zD P b) λb=>some (.block i b)
 |.loop b=>ze (zD P b) λb=>some (.loop b)
 |.exit i=>some (.exit i)
 |.ret=>some .ret
 |.scope b=>zD P b
 |.label _=>some .skip
 |.refuse _=>some (.cond (.c .qj) .skip .skip)
 |_=>none
def zLz:List Oper->JV
 |[]=>[]
 |o::r=>match o.dst,o.op with
  |some _,.assign _=>zLz r
  |some d,_=>d::zLz r
  |none,_=>zLz r
def zQG:List Oper->JV
 |[]=>[]
 |o::r=>match o.dst with
  |some d=>d::zQG r
  |none=>zQG r
def zNe:Code->JV
 |.region _ c _=>zLz c.toList
 |.seq a b|.cond _ a b=>zNe a++zNe b
 |.block _ b|.loop b|.scope b=>zNe b
 |_=>[]
def zOO:List Oper->Option (List Oper×Oper)
 |[]=>none
 |[o]=>some ([],o)
 |o::r=>match zOO r with
  |some (a,l)=>some (o::a,l)
  |none=>none
def zWd(P:Program):Code->Code->Option XC
 |.region _ c false,.block f (.loop (.seq (.region _ o false) (.seq (.cond (.tmp ok) .skip (.exit idx)) (.block g (.seq (.region _ n false) b)))))=>
  match zOO c.toList,o.toList,n.toList with
  |some (pre,⟨some e,.range t m,_,_,_,none⟩),[⟨some nx,.next (.tmp h) false,_,_,_,none⟩,⟨some j,.extract (.tmp l) 0,_,_,_,none⟩],⟨some k,.entry (.tmp i),_,_,_,none⟩::rest=>
   match Nat.beq e h&&Nat.beq e i&&Nat.beq nx l&&Nat.beq ok j&&Nat.beq f idx&&!Nat.beq f g&&!Nat.beq nx e&&!Nat.beq ok e&&!Nat.beq k e&&!Nat.beq ok nx,P.underlying t with
   |true,some (.map _ _)=>ze (zw m) λm=>ze (zD P b) λd=>
    some (.seq (.wA (pre.map (zm P c))) (.wN m e (nx::ok::k::zQG rest++zNe b) k 100000 g (rest.map (zm P n)) d))
   |_,_=>none
  |_,_,_=>none
 |_,_=>none
def zHj(P:Program):Code->Option XC
 |.seq a b=>match zWd P a b with
  |some x=>some x
  |none=>ze (zHj P a) λa=>ze (zHj P b) λb=>some (.seq a b)
 |c=>zD P c
def zC6(nt:Nat):XC->Bool
 |.wN _ g D h _ _ f e=>Nat.blt g nt&&Nat.blt h nt&&(D.all λd=>Nat.blt d nt)&&(f.all λo=>match o.dst with|some d=>Nat.blt d nt|none=>true)&&zC6 nt e
 |.wA c|.draw c _=>c.all λo=>match o.dst with|some d=>Nat.blt d nt|none=>true
 |.seq a b|.cond _ a b=>zC6 nt a&&zC6 nt b
 |.block _ b|.loop b=>zC6 nt b
 |_=>true
def zOd(P:Program):ResultVar->Option XR
 |.tmp t=>some (.t t)
 |.cell a t=>ze (zH P t) λs=>ze (agT P t) λg=>some (.cell a s g)
def zF9(P:Program):List ResultVar->Option (List XR)
 |[]=>some []
 |r::rs=>match zOd P r,zF9 P rs with
  |some x,some b=>some (x::b)
  |_,_=>none
def compF(P:Program)(fn:Func):Option XF:=
 ze fn.body λb=>ze (zHj P b) λb=>ze (zF9 P fn.results.toList) λrs=>
 match zC6 fn.ntmps b&&Nat.ble (fn.params.size+fn.nfree) fn.ntmps with
 |true=>some ⟨fn.params.size+fn.nfree,fn.ntmps,b,rs⟩
 |false=>none
theorem zFb{a b:IntKind}(h:zC9 a b=true):a=b:=by cases a<;>cases b<;>first|rfl|(simp[zC9]at h)
theorem zXB(k:IntKind)(n:Int)(h:has k n):k.wrap n=n:=by
 obtain⟨h1,b⟩:=h;cases k<;>simp[IntKind.min,IntKind.max,IntKind.signed,IntKind.bits]at h1 b<;>simp[IntKind.wrap,IntKind.bits,IntKind.signed]<;>omega
theorem zFc(k:IntKind)(n:Int):has k (k.wrap n):=by
 cases k<;>simp[has,IntKind.min,IntKind.max,IntKind.wrap,IntKind.bits,IntKind.signed]<;>omega
theorem zSu{k:IntKind}{n:Int}(h:inr k n=true):has k n:=by
 cases k<;>cases n<;>simp[inr,has,IntKind.min,IntKind.max,IntKind.signed,IntKind.bits]at h⊢<;>omega
theorem zQH(k:IntKind)(n:Int)(b:Bool)(h:b=true->inr k n=true):cond b n (k.wrap n)=k.wrap n:=by
 cases b with
 |false=>rfl
 |true=>exact(zXB _ _ (zSu (h rfl))).symm
theorem zQI(k:IntKind)(n:Int):wrapx k n=k.wrap n:=by
 cases n with
 |ofNat m=>cases k<;>simp only[wrapx]<;>exact zQH _ _ _ λh=>h
 |negSucc m=>cases k<;>simp only[wrapx]<;>exact zQH _ _ _ λh=>h
theorem zNf{E:Env}{w:World}{f:Value->JF}(c:∀v a,f v=some a->VR E w a v):∀{l:JC}{as:JE},zRq f l=some as->VRs E w as l
 |[],as,h=>by simp[zRq]at h;subst h;exact VRs.nil
 |v::r,as,h=>by
  simp only[zRq]at h;split at h
  .rename_i a d;split at h
   .rename_i e b;cases h;exact VRs.cons (c _ _ d) (zNf c b)
   .cases h
  .cases h
theorem zIl{E:Env}{w:World}:∀{d:Nat}{v:Value}{a:AV},cav d v=some a->VR E w a v
 |0,_,_,h=>by simp[cav]at h
 |d+1,v,a,h=>by
  unfold cav at h;split at h
  .cases h;exact .bool _
  .split at h
   .rename_i f;cases h;exact .int _ _ (zSu f)
   .cases h
  .split at h
   .rename_i f;cases h;exact .str _ _ rfl (by simpa using f)
   .cases h
  .cases h;exact .qj
  .cases h;exact .qa
  .cases h;exact .qm
  .cases h;exact .ql
  .cases h;exact .qe
  .split at h
   .rename_i o k;cases h;exact .func _ _ _ _ _ (by rw[←Array.length_toList,o];rfl) (by rw[←Array.length_toList,k];rfl) (λi x v e=>by simp at e) (λi x v e=>by simp at e)
   .cases h
  .split at h
   .rename_i l m;split at h
    .rename_i c;cases h;have g:VRs E w l _:=zNf (λv a=>zIl (d:=d)) m
     refine VR.qT g λv n=>?_
     obtain⟨i,j⟩:=List.getElem?_of_mem n;have b:i<l.length:=by
      rw[g.1];exact(QC.1 j).1
     have e:l[i]?=some l[i]:=QE b;exact(g.2 i _ v e j).wW (QD.1 c _ (Qi b))
    .cases h
   .cases h
  .cases h
structure FrR(E:Env)(w:World)(fr:Fr)(a:Act)(nt:Nat):Prop where
 size:a.tmps.size=nt
 get:∀t v,fr.get t=some v->VR E w v (a.tmps.getD t undef)
def zEn(w:World)(g:Nat)(v:AV):Prop:=∀b n,v=.qc (.agg b) n->∃c t e,w.heap[g]?=some (.cells c t e)/\c.size=b.length
theorem zEn.mono{w w':World}{g:Nat}{v:AV}(h:z7 w w')(k:zEn w g v):zEn w' g v:=λb n e=>
 let ⟨c,t,f,h1,h2⟩:=k b n e
 let ⟨c',f',k1,k2⟩:=h g c t f h1
 ⟨c',t,f',k1,k2.trans h2⟩
def GR(G:Cx)(E:Env)(w:World):Prop:=∀g v,G.vz g=some v->VR E w v (.pointer (some ⟨g,0,none⟩))/\zEn w g v
def zAn(P:Program)(E:Env)(H:Heap)(w:World)(nx:Nat)(s:Sem Next)(v:AV)(H':Heap)(nx':Nat):Prop:=
 ∃d c b,HR c H' b/\Tr E H w c H' b nx nx'/\VR c b v d/\(s.run P w=.ok (.value d) b\/(s.run P w=.ok .skip b/\d=undef))
theorem zAn.pure{P:Program}{E:Env}{H:Heap}{w:World}{nx:Nat}{s:Sem Next}{v:AV}{cv:Value}(c:HR E H w)
  (h:s.run P w=.ok (.value cv) w) (b:VR E w v cv):zAn P E H w nx s v H nx:=
 ⟨cv,E,w,c,.refl nx,b,.inl h⟩
section
variable{P:Program}{G:Cx}{E:Env}{w:World}{fr:Fr}{a:Act}{nt:Nat}
theorem zC(k:FrR E w fr a nt)(j:GR G E w){x:Operand}{y:XV}{v:AV}(hc:zw x=some y)(d:y.ev G fr=some v):VR E w v (a.eval x):=by
 cases x with
 |tmp t=>simp[zw]at hc;subst hc;exact k.get t v d
 |const c=>
  simp only[zw]at hc;split at hc
  .rename_i b h;cases hc;simp only[XV.ev,QK]at d;subst d;exact zIl h
  .cases hc
 |global g=>simp[zw]at hc;subst hc;exact(j g v d).1
 |func f=>
  simp[zw]at hc;subst hc;simp only[XV.ev,QK]at d;subst d;exact .func _ _ _ _ _ rfl rfl (λi x v e=>by simp at e) (λi x v e=>by simp at e)
theorem zC0(e:FrR E w fr a nt)(f:GR G E w):∀{xs:List Operand}{c:List XV}{vs:JE},zDK xs=some c->evs G fr c=some vs->VRs E w vs (xs.map a.eval)
 |[],c,vs,hc,b=>by
  simp[zDK]at hc;subst hc;simp[evs]at b;subst b;exact VRs.nil
 |x::r,c,vs,hc,b=>by
  simp only[zDK]at hc;split at hc
  .rename_i y s h i;cases hc;simp only[evs]at b;split at b
   .rename_i v g;split at b
    .rename_i j d;cases b;exact VRs.cons (zC e f h g) (zC0 e f i d)
    .cases b
   .cases b
  .cases hc
theorem VR.of_bool{b:Bool}{cv:Value}(h:VR E w (.bool b) cv):cv=.bool b:=by cases h;rfl
theorem VR.of_int{k:IntKind}{n:Int}{cv:Value}(h:VR E w (.int k n) cv):cv=.int k n/\has k n:=by cases h;exact⟨rfl,by assumption⟩
theorem VR.q9{l:JV}{cv:Value}(h:VR E w (.str l) cv):∃s:ByteArray,cv=.string s/\s.data.toList.map UInt8.toNat=l/\l.length<=zf:=by
 cases h with|str _ s h b=>exact⟨s,rfl,h,b⟩
theorem VR.wz{x o:Nat}{cv:Value}(h:VR E w (.ptr x o) cv):cv=.pointer (some ⟨E.ρ x,o,none⟩)/\E.D x:=by cases h;exact⟨rfl,by assumption⟩
theorem VR.wV{e:AV}{o:Nat}{cv:Value}(h:VR E w (.qc e o) cv):∃b c u,cv=.pointer (some ⟨b,c+o,none⟩)/\e.flat=true/\E.Z b/\VR E w e u/\∀(j:Nat) x,u.cells[j]?=some x->w.cell? ⟨b,c+j,none⟩=some x:=by
 cases h with|qc _ _ b c u d g f hc=>exact⟨b,c,u,rfl,d,g,f,hc⟩
theorem zGa{s:ByteArray}{l:JV}(h:s.data.toList.map UInt8.toNat=l):s.size=l.length:=by
 subst h;rw[QP,Array.length_toList];rfl
theorem zQJ:∀(a b:List UInt8),seqb (a.map UInt8.toNat) (b.map UInt8.toNat)=(a==b)
 |[],[]=>rfl
 |[],b::y=>rfl
 |a::x,[]=>rfl
 |a::x,b::y=>by
  simp only[Qa,seqb];have c:=zQJ x y;split
  .rename_i h;have:a=b:=UInt8.toNat_inj.1 (zb h);subst this;rw[c];simp
  .rename_i h;have:a≠b:=λe=>zAq h (by rw[e])
   symm
   simp[this]
set_option maxRecDepth 2000 in
theorem zSv:∀(a b:List UInt8),slt (a.map UInt8.toNat) (b.map UInt8.toNat)=Op.bytesLess a b
 |_,[]=>by simp[slt,Op.bytesLess]
 |[],b::y=>by simp[slt,Op.bytesLess]
 |a::x,b::y=>by
  simp only[Qa,slt,Op.bytesLess];have f:=zSv x y;rcases Nat.lt_trichotomy a.toNat b.toNat with h|h|h
  .have h1:Nat.blt a.toNat b.toNat=true:=by rw[Qg];exact h
   have d:a<b:=UInt8.lt_iff_toNat_lt.2 h;simp[h1,d]
  .have e:a=b:=UInt8.toNat_inj.1 h;subst e;have h1:Nat.blt a.toNat a.toNat=false:=by rw[Bool.eq_false_iff];intro c;exact Nat.lt_irrefl _ (Qg▸c)
   simp[h1,f]
  .have h1:Nat.blt a.toNat b.toNat=false:=by rw[Bool.eq_false_iff];intro c;rw[Qg]at c;omega
   have d:¬a<b:=λc=>by have:=UInt8.lt_iff_toNat_lt.1 c;omega
   have i:a≠b:=λe=>by rw[e]at h;omega
   have g:Nat.beq a.toNat b.toNat=false:=by rw[Bool.eq_false_iff];intro c;have:=zb c;omega
   simp[h1,d,i,g]
theorem zUm{a b:ByteArray}{l m:JV}(c:a.data.toList.map UInt8.toNat=l)(d:b.data.toList.map UInt8.toNat=m):(a.toList==b.toList)=seqb l m:=by
 subst c;subst d;rw[zQJ,ByteArray.toList_eq,ByteArray.toList_eq]
theorem zYV{a b:ByteArray}{l m:JV}(c:a.data.toList.map UInt8.toNat=l)(d:b.data.toList.map UInt8.toNat=m):Op.bytesLess a.toList b.toList=slt l m:=by
 subst c;subst d;rw[zSv,ByteArray.toList_eq,ByteArray.toList_eq]
theorem zVF(k:IntKind)(a b:Int)(d:has k a):has k (a.tmod b):=by
 obtain⟨h1,f⟩:=d;have g:(a.tmod b).natAbs<=a.natAbs:=by rw[Int.natAbs_tmod];exact Nat.mod_le _ _
 rcases Int.le_total 0 a with c|c
 .have e:0<=a.tmod b:=Int.tmod_nonneg _ c
  constructor
  .have:k.min<=0:=by cases k<;>simp[IntKind.min,IntKind.signed,IntKind.bits]
   omega
  .omega
 .have e:a.tmod b<=0:=by
   have:=Int.tmod_nonneg (b:=b) (a:=-a) (by omega)
   rw[Int.neg_tmod]at this;omega
  constructor
  .omega
  .have:0<=k.max:=by cases k<;>simp[IntKind.max,IntKind.signed,IntKind.bits]
   omega
theorem zVG(k:IntKind)(a:Int)(n:Nat)(e:has k a):has k (a.fdiv (2 ^ n)):=by
 obtain⟨h1,g⟩:=e;have b:(0:Int)<2 ^ n:=by exact_mod_cast Nat.two_pow_pos n
 have d:k.min<=0:=by cases k<;>simp[IntKind.min,IntKind.signed,IntKind.bits]
 have f:0<=k.max:=by cases k<;>simp[IntKind.max,IntKind.signed,IntKind.bits]
 rw[Int.fdiv_eq_ediv_of_nonneg _ (Int.le_of_lt b)];rcases Int.le_total 0 a with c|c
 .have:=Int.ediv_nonneg c (Int.le_of_lt b);have:=Int.ediv_le_self (2 ^ n) c
  constructor<;>omega
 .have i:a / 2 ^ n<=0:=by
   have:=Int.ediv_le_ediv b c
   simpa using this
  have h:a<=a / 2 ^ n:=by
   apply(Int.le_ediv_iff_mul_le b).2;have:(1:Int)<=2 ^ n:=b;have:a*2 ^ n<=a*1:=Int.mul_le_mul_of_nonpos_left c this;omega
  constructor<;>omega
theorem zI9{s:Sem Value}{k:IntKind}{z:Int}(h:s.run P w=.ok (.int k z) w)(b:has k z):∃cv,s.run P w=.ok cv w/\VR E w (.int k z) cv:=⟨_,h,.int _ _ b⟩
theorem zHk{s:Sem Value}{k:IntKind}{z:Int}(h:s.run P w=.ok (.int k (k.wrap z)) w):∃cv,s.run P w=.ok cv w/\VR E w (.int k (wrapx k z)) cv:=
 ⟨_,h,by rw[zQI];exact .int _ _ (zFc _ _)⟩
theorem zFm{s:Sem Value}{b:Bool}(h:s.run P w=.ok (.bool b) w):∃cv,s.run P w=.ok cv w/\VR E w (.bool b) cv:=⟨_,h,.bool _⟩
theorem zUn{op:BinOp}{t:TypeId}{x y:AV}{q o:Value}{v:AV}(hx:VR E w x q)(r:VR E w y o)(h:zDo op x y=some v)
  :
  ∃cv,(binOp op t q o).run P w=.ok cv w/\VR E w v cv:=by
 unfold zDo at h;split at h
 ·
  rename_i k m I n;obtain⟨rfl,z⟩:=hx.of_int;obtain⟨rfl,J⟩:=r.of_int;split at h
  .split at h
   .cases h
   .rename_i d;cases h;have b:¬n<0:=by simpa using d
    exact⟨.int k (k.wrap (m*2 ^ (min n.toNat k.bits))),by simp[binOp,Op.shift,b],by rw[zQI];exact .int _ _ (zFc _ _)⟩
  .split at h
   .cases h
   .rename_i d;cases h;have b:¬n<0:=by simpa using d
    exact⟨.int k (m.fdiv (2 ^ (min n.toNat k.bits))),by simp[binOp,Op.shift,b],.int _ _ (zVG _ _ _ z)⟩
  .rename_i p A;split at h
   .cases h
   .rename_i hk;have:=zFb hk;subst this;split at h
    .cases h;exact zHk (by simp[binOp,Op.intArith])
    .cases h;exact zHk (by simp[binOp,Op.intArith])
    .cases h;exact zHk (by simp[binOp,Op.intArith])
    .split at h
     .cases h
     .rename_i d;cases h;have b:¬n=0:=by simpa using d
      exact zHk (by simp[binOp,Op.intDiv,b])
    .split at h
     .cases h
     .rename_i d;cases h;have b:¬n=0:=by simpa using d
      exact zI9 (by simp[binOp,Op.intDiv,b]) (zVF _ _ _ z)
    .cases h;exact zI9 (by simp[binOp,Op.intBits]) (zFc _ _)
    .cases h;exact zI9 (by simp[binOp,Op.intBits]) (zFc _ _)
    .cases h;exact zI9 (by simp[binOp,Op.intBits]) (zFc _ _)
    .cases h;exact zI9 (by simp[binOp,Op.intBits]) (zFc _ _)
    .cases op<;>simp_all[zWb]<;>(subst h;exact zFm (by simp[binOp,Op.intCmp]))
 ·
  rename_i l m;obtain⟨s,rfl,g,C⟩:=hx.q9;obtain⟨u,rfl,f,B⟩:=r.q9;have i:=zUm g f;have e:=zYV g f;have D:=zGa g;have F:=zGa f;cases op with
  |add=>
   simp only at h;split at h
   .rename_i j;cases h;have c:l.length+m.length<=zf:=QN j;refine⟨.string (s++u),?_,.str _ _ (by rw[←g,←f];simp) (by simpa using c)⟩
    have:¬(((s.size+u.size:Nat):Int) > IntKind.i64.max):=by
     rw[D,F];have:IntKind.i64.max=9223372036854775807:=rfl;unfold zf at c;omega
    simp only[binOp,Op.stringOp,this,if_false];rfl
   .cases h
  |eql=>cases h;exact zFm (by simp[binOp,Op.stringOp,i])
  |neq=>cases h;exact zFm (by simp[binOp,Op.stringOp,i])
  |lss=>cases h;exact zFm (by simp[binOp,Op.stringOp,e])
  |leq=>cases h;exact zFm (by simp[binOp,Op.stringOp,i,e])
  |gtr=>cases h;exact zFm (by simp[binOp,Op.stringOp,i,e])
  |geq=>cases h;exact zFm (by simp[binOp,Op.stringOp,e])
  |_=>cases h
 .cases h
end
section
variable{P:Program}{G:Cx}{E:Env}{w:World}
theorem za{α β:Type}{x:Option α}{f:α->Option β}{b:β}(h:ze x f=some b):∃a,x=some a/\f a=some b:=by
 cases x with
 |none=>cases h
 |some a=>exact⟨a,rfl,h⟩
theorem zPk{t:TypeId}{i:TypeInfo}(h:P.info? t=some i):(typeInfo t).run P w=.ok i w:=by simp[typeInfo,h]
theorem zAk{t:TypeId}{n:Nat}(h:zH P t=some n):(sizeOf t).run P w=.ok n w:=by
 unfold zH at h;cases hi:P.info? t with
 |none=>simp[hi]at h
 |some i=>simp[hi]at h;simp[sizeOf,typeInfo,hi,h]
theorem zFn{t:TypeId}{b:Bool}(h:agT P t=some b):(isAgg t).run P w=.ok b w:=by
 unfold agT at h;cases hu:P.underlying t with
 |none=>simp[hu]at h
 |some d=>
  simp only[hu]at h;cases d<;>simp at h<;>subst h<;>simp[isAgg,run_underlying hu]
theorem zJ3{α:Type}(c:Array α)(a n:Nat):(c.extract a (a+n)).toList=(c.toList.drop a).take n:=by
 rw[Array.toList_extract,List.extract_eq_take_drop];congr 1;omega
theorem zNg{cs:JE}{vs:JB}(g:VRs E w cs vs.toList)(h1:∀v∈vs.toList,v.oneCell'=true){t:TypeId}{off sz:Nat}{f:Bool}{v:AV}
  (c:zH P t=some sz) (b:agT P t=some f) (h:part cs off sz f=some v):∃cv,(Go.part t vs off).run P w=.ok cv w/\VR E w v cv:=by
 unfold part at h;cases f with
 |true=>
  simp only at h;split at h
  .cases h;refine⟨.agg (vs.extract off (off+sz)),by simp[Go.part,zFn b,zAk c],?_⟩
   have e:=zJ3 vs off sz;refine VR.qT ?_ ?_
   .rw[e];exact g.extract off sz
   .rw[e];intro u d;exact h1 u (QW (QM d))
  .cases h
 |false=>
  obtain⟨u,d,i⟩:=g.getElem? h;refine⟨u,?_,i⟩
  have:vs[off]?=some u:=by rw[←Array.getElem?_toList];exact d
  simp[Go.part,zFn b,this]
theorem zVH{op:UnOp}{x:AV}{b:Value}{v:AV}(hx:VR E w x b)(h:xun op x=some v):∃cv,(Op.unary op b).run P w=.ok cv w/\VR E w v cv:=by
 unfold xun at h;split at h
 .rename_i k n;obtain⟨rfl,c⟩:=hx.of_int;split at h
  .cases h;exact zHk (by simp[Op.unary,Op.intArith])
  .cases h;exact zI9 (by simp[Op.unary,Op.intBits,Nat.xor_comm]) (zFc _ _)
  .cases h
 .obtain rfl:=hx.of_bool;split at h
  .cases h;exact zFm (by simp[Op.unary])
  .cases h
 .cases h
theorem zUo{t:TypeId}{c d:Operand}{b e:Value}(h1:∀u,b≠.agg u)(f:b=.nilIface->e=.nilIface->(zAE c||zAE d)=true):
  (eqGuard .eql t c d b e).run P w=.ok () w:=by
 cases b<;>first
  |(exact absurd rfl (h1 _))
  |(simp only[eqGuard];rfl)
  |(cases e<;>first
    |(simp only[eqGuard];rfl)
    |(have:=f rfl rfl;cases c<;>cases d<;>first|(simp[zAE]at this;done)|(simp[eqGuard];done)))
theorem zUp{t:TypeId}{c d:Operand}{b e:Value}(h1:∀u,b≠.agg u)(f:b=.nilIface->e=.nilIface->(zAE c||zAE d)=true):
  (eqGuard .neq t c d b e).run P w=.ok () w:=by
 cases b<;>first
  |(exact absurd rfl (h1 _))
  |(simp only[eqGuard];rfl)
  |(cases e<;>first
    |(simp only[eqGuard];rfl)
    |(have:=f rfl rfl;cases c<;>cases d<;>first|(simp[zAE]at this;done)|(simp[eqGuard];done)))
theorem VR.wX{sz:Nat}{es:JE}{e:AV}{cv:Value}(h:VR E w (.qo sz (e::es)) cv):∃a n c,cv=.slice (some a) n c:=by
 cases h with|qo _ b o cap sz f=>exact⟨_,_,_,rfl⟩
theorem VR.vC{h o l s c:Nat}{x:Bool}{cv:Value}(h:VR E w (.row h o l s c x) cv):∃a n c,cv=.slice (some a) n c:=by
 cases h<;>exact⟨_,_,_,rfl⟩
theorem VR.wO{f:Fn}{a b:JE}{cv:Value}(h:VR E w (.func f a b) cv):∃u v,cv=.func f u v:=by
 cases h;exact⟨_,_,rfl⟩
theorem zPl{d:Nat}{x y:AV}{g i:Value}{b:Bool}{t e:TypeId}(hx:VR E w x g)(c:VR E w y i)(h:zH3 x y=some b)
  (f:P.underlying t=some (.slice e)):(Op.equalIn (d+1) t g i).run P w=.ok b w:=by
 unfold zH3 at h;split at h
 .cases h;cases hx;cases c;simp[Op.equalIn,run_underlying f]
 .cases h;cases hx;obtain⟨_,_,_,rfl⟩:=c.vC;simp[Op.equalIn,run_underlying f]
 .cases h;cases c;obtain⟨_,_,_,rfl⟩:=hx.vC;simp[Op.equalIn,run_underlying f]
 .cases h;cases hx;obtain⟨_,_,_,rfl⟩:=c.wX;simp[Op.equalIn,run_underlying f]
 .cases h;cases c;obtain⟨_,_,_,rfl⟩:=hx.wX;simp[Op.equalIn,run_underlying f]
 .cases h
theorem zRJ{d:Nat}{x y:AV}{g i:Value}{b:Bool}{t k e:TypeId}(hx:VR E w x g)(c:VR E w y i)(h:zJU x y=some b)
  (f:P.underlying t=some (.map k e)):(Op.equalIn (d+1) t g i).run P w=.ok b w:=by
 unfold zJU at h;split at h
 .cases h;cases hx;cases c;simp[Op.equalIn,run_underlying f]
 .cases h;cases hx;cases c;simp[Op.equalIn,run_underlying f]
 .cases h;cases hx;cases c;simp[Op.equalIn,run_underlying f]
 .cases h
theorem zQK{d:Nat}{x y:AV}{f g:Value}{b:Bool}{t:TypeId}{p r:Array TypeId}{i:Bool}(hx:VR E w x f)(c:VR E w y g)(h:zJV x y=some b)
  (e:P.underlying t=some (.func p r i)):(Op.equalIn (d+1) t f g).run P w=.ok b w:=by
 unfold zJV at h;split at h
 .cases h;cases hx;cases c;simp[Op.equalIn,run_underlying e]
 .cases h;cases hx;obtain⟨_,_,rfl⟩:=c.wO;simp[Op.equalIn,run_underlying e]
 .cases h;cases c;obtain⟨_,_,rfl⟩:=hx.wO;simp[Op.equalIn,run_underlying e]
 .cases h
end
section
variable{P:Program}{E:Env}{w:World}
def zS5(P:Program)(t:TypeId):Kd->Prop
 |.b=>P.underlying t=some .bool
 |.i=>∃q,P.underlying t=some (.int q)
 |.s=>P.underlying t=some .string
theorem zOP{d:Nat}{k:Kd}{x y:AV}{l j:Value}{b:Bool}{t:TypeId}(hx:VR E w x l)(g:VR E w y j)(h:eqb k x y=some b)(e:zS5 P t k):(Op.equalIn (d+1) t l j).run P w=.ok b w:=by
 unfold eqb at h;split at h
 .cases h;obtain rfl:=hx.of_bool;obtain rfl:=g.of_bool;exact run_equalIn_bool w d t _ _ e
 .split at h
  .rename_i hk;cases h;have:=zFb hk;subst this;obtain⟨rfl,_⟩:=hx.of_int;obtain⟨rfl,_⟩:=g.of_int;obtain⟨q,m⟩:=e;exact run_equalIn_int w d t _ q _ _ m
  .cases h
 .cases h;obtain⟨s,rfl,o,_⟩:=hx.q9;obtain⟨u,rfl,n,_⟩:=g.q9;rw[run_equalIn_string w d t _ _ e,zUm o n]
 .cases h
theorem zS6{t:TypeId}{k:Kd}(h:zLx P t=some k):∃i,P.info? t=some i/\i.comparable=true/\zS5 P t k:=by
 unfold zLx at h;split at h
 .rename_i i e;split at h
  .rename_i hc;refine⟨i,e,hc,?_⟩
   split at h
   .rename_i d;cases h;exact d
   .rename_i q d;cases h;exact⟨q,d⟩
   .rename_i d;cases h;exact d
   .cases h
  .cases h
 .cases h
theorem zPm{d:Nat}{lit:Bool}{x y:AV}{l j:Value}{b:Bool}{t:TypeId}{ms:Array (String×TypeId)}(hx:VR E w x l)(f:VR E w y j)(h:zH2 lit (zLx P) x y=some b)
  (c:P.underlying t=some (.interface ms)):(Op.equalIn (d+2) t l j).run P w=.ok b w:=by
 unfold zH2 at h;split at h
 .split at h
  .cases h;cases hx;cases f;simp[Op.equalIn,run_underlying c]
  .cases h
 .cases h;cases hx;cases f;simp[Op.equalIn,run_underlying c]
 .cases h;cases hx;cases f;simp[Op.equalIn,run_underlying c]
 .rename_i t1 p z q;cases hx with
  |iface _ _ B r=>
   cases f with
   |iface _ _ A n=>
    split at h
    .rename_i g;cases h;have e:=zAq g;unfold Op.equalIn;simp[run_underlying c,e]
    .rename_i u;have:=zb u;subst this;split at h
     .rename_i k hk;obtain⟨i,h1,m,s⟩:=zS6 hk;have o:=zOP (d:=d) r n h s;unfold Op.equalIn;simp[run_underlying c,zPk h1,m,o]
     .cases h
 .cases h
theorem zLV:∀{d e:List Kd}{x y:JE}{b:Bool},zBv (d++e) x y=some b →
  ∃c,zBv d (x.take d.length) (y.take d.length)=some c/\(c=false->b=false)/\(c=true->zBv e (x.drop d.length) (y.drop d.length)=some b)
 |[],e,x,y,b,h=>⟨true,by simp[zBv],(λh=>by cases h),λ_=>by simpa using h⟩
 |k::d,e,x,y,b,h=>by
  cases x with
  |nil=>simp[zBv]at h
  |cons a x=>
   cases y with
   |nil=>simp[zBv]at h
   |cons c y=>
    simp only[List.cons_append,zBv]at h;simp only[QZ,List.take_succ_cons,List.drop_succ_cons,zBv];cases he:eqb k a c with
    |none=>simp[he]at h
    |some r=>
     cases r with
     |true=>simp only[he]at h;exact zLV h
     |false=>
      simp only[he]at h;cases h;exact⟨false,rfl,λ_=>rfl,(λh=>by cases h)⟩
def shaped(P:Program)(t:TypeId)(vs:JC)(v:Value):Prop:=
 (agT P t=some true/\v=.agg vs.toArray)\/(agT P t=some false/\vs=[v])
theorem zIM{xs:JB}{t:TypeId}{off sz:Nat}{g:Bool}(d:agT P t=some g)(f:zH P t=some sz)(c:g=false->sz=1)(h:off+sz<=xs.size):
  ∃v,(Go.part t xs off).run P w=.ok v w/\shaped P t ((xs.toList.drop off).take sz) v:=by
 cases g with
 |true=>
  refine⟨.agg (xs.extract off (off+sz)),by simp[Go.part,zFn d,zAk f],.inl ⟨d,?_⟩⟩
  rw[←zJ3]
 |false=>
  have:=c rfl;subst this;have b:off<xs.size:=by omega
  refine⟨xs[off],by simp[Go.part,zFn d,b],.inr ⟨d,?_⟩⟩
  have e:off<xs.toList.length:=by simpa using b
  rw[Qd e];simp
theorem zQL{d:Nat}{t:TypeId}{j:List Kd}(h:zA8 P d t=some j):∃g,agT P t=some g/\(g=false->j.length=1):=by
 cases d with
 |zero=>simp[zA8]at h
 |succ d=>
  unfold zA8 at h;unfold agT;split at h<;>first
   |(rename_i e;simp only[e];cases h;exact⟨false,rfl,λ_=>rfl⟩)
   |(rename_i e;simp only[e];exact⟨true,rfl,λh=>by cases h⟩)
   |cases h
theorem zGr:∀{d:Nat}{t:TypeId}{A:List Kd},zA8 P d t=some A->∀(D:Nat)(vs I:JC)(cs ds:JE)(cv T:Value)(b:Bool),VRs E w cs vs->VRs E w ds I →
  shaped P t vs cv->shaped P t I T->vs.length=A.length->I.length=A.length->zBv A cs ds=some b->(Op.equalIn (D+d) t cv T).run P w=.ok b w
 |0,t,A,h=>by simp[zA8]at h
 |d+1,t,A,h=>by
  intro D vs I cs ds cv T b C B sv su lv lu z;have base:∀k:Kd,zS5 P t k->A=[k]->agT P t=some false →
    (Op.equalIn (D+(d+1)) t cv T).run P w=.ok b w:=by
   intro k hk e o;subst e;rcases sv with⟨h1,_⟩|⟨_,rfl⟩
   .rw[o]at h1;cases h1
   rcases su with⟨h1,_⟩|⟨_,rfl⟩
   .rw[o]at h1;cases h1
   match cs,ds,C,B,z with
   |[x],[y],C,B,z=>
    obtain⟨_,_,e,hx,_⟩:=C.of_cons;cases e;obtain⟨_,_,e,hy,_⟩:=B.of_cons;cases e;have:eqb k x y=some b:=by
     simp only[zBv]at z;split at z<;>simp_all
    exact zOP hx hy this hk
   |[],_,C,_,_=>have:=C.1;simp at this
   |_::_::_,_,C,_,_=>have:=C.1;simp at this
   |[_],[],_,B,_=>have:=B.1;simp at this
   |[_],_::_::_,_,B,_=>have:=B.1;simp at this
  unfold zA8 at h;split at h
  .rename_i j;cases h;exact base .b j rfl (by simp[agT,j])
  .rename_i j;cases h;exact base .i ⟨_,j⟩ rfl (by simp[agT,j])
  .rename_i j;cases h;exact base .s j rfl (by simp[agT,j])
  .rename_i fs j;split at h
   .cases h
   .rename_i V;have o:agT P t=some true:=by simp[agT,j]
    rcases sv with⟨_,rfl⟩|⟨h1,_⟩
    rotate_left
    .rw[o]at h1;cases h1
    rcases su with⟨_,rfl⟩|⟨h1,_⟩
    rotate_left
    .rw[o]at h1;cases h1
    have K:P.fieldsOf t=fs:=by simp[Program.fieldsOf,j]
    rw[←Nat.add_assoc,run_equalIn_struct w (D+d) t _ _ (by rw[K];exact j) V,K]
    have key:∀(l:List Field)(n:Nat)(J:List Kd),zHK P (zA8 P d) n l=some J->n+J.length=vs.length->n+J.length=I.length->zBv J (cs.drop n) (ds.drop n)=some b →
      (Op.eqFields (D+d) vs.toArray I.toArray l).run P w=.ok b w:=by
     intro l
     induction l with
     |nil=>
      intro n J q n1 n2 z;simp only[zHK]at q;cases q;have:b=true:=by
       unfold zBv at z;split at z<;>simp_all
      subst this;rfl
     |cons f r ih=>
      intro n J q n1 n2 z;simp only[zHK]at q;split at q
      .rename_i kf s ab S N O;split at q
       .rename_i L;split at q
        .rename_i rs W;cases q;have m:kf.length=s:=zb L;have F:f.offset=n:=zb S;obtain⟨c,h1,h2,h3⟩:=zLV z;obtain⟨g,hg,M⟩:=zQL N;have ac:(kf++rs).length=s+rs.length:=by rw[QJ,m]
         obtain⟨pv,Y,X⟩:=zIM (P:=P) (w:=w) (xs:=vs.toArray) (t:=f.type) (off:=n) (sz:=s) hg O (λh=>by rw[←m];exact M h) (by simp;omega)
         obtain⟨pu,aa,U⟩:=zIM (P:=P) (w:=w) (xs:=I.toArray) (t:=f.type) (off:=n) (sz:=s) hg O (λh=>by rw[←m];exact M h) (by simp;omega)
         rw[m]at h1 h3;have e1:=zGr N D _ _ _ _ _ _ _ (C.extract n s) (B.extract n s) X U (by simp;omega) (by simp;omega) h1
         have Q:f.name ≠ "_":=by simpa using ab
         simp only[Op.eqFields,Q,ne_eq,not_false_eq_true,if_true,F,Sem.run_bind,Y,aa,Result.andThen_ok,e1];cases c with
         |false=>rw[h2 rfl];simp
         |true=>
          have R:=h3 rfl;rw[List.drop_drop,List.drop_drop]at R;simp only[Bool.not_true,Bool.false_eq_true,if_false];exact ih (n+s) rs W (by omega) (by omega) R
        .cases q
       .cases q
      .cases q
    exact key fs.toList 0 A h (by omega) (by omega) (by simpa using z)
  .cases h
end
def CR(E:Env)(w:World)(cs:JE)(c:JC):Prop:=
 cs.length<=c.length/\∀(i:Nat) x,cs[i]?=some x->∃v,c[i]?=some v/\v.oneCell'=true/\VR E w x v
theorem CR.va{E:Env}{w:World}{b:Nat}{s:Bool}{cs:JE}(h:OR E w b (.cells s cs)):
  ∃(c:JB) (e:TypeId) (f:Nat×Nat),w.heap[b]?=some (Obj.cells c e f)/\(f.2=f.1\/(s=true/\c.size<=f.1))/\CR E w cs c.toList:=by
 obtain⟨c,e,f,h1,g,k,j⟩:=h;exact⟨c,e,f,h1,k,by simpa using g,λi x l=>let ⟨v,a,b,d⟩:=j i x l;⟨v,by simpa using a,b,d⟩⟩
theorem CR.or{E:Env}{w:World}{b:Nat}{s:Bool}{cs:JE}{c:JB}{e:TypeId}{f:Nat×Nat}(h:CR E w cs c.toList)(j:w.heap[b]?=some (Obj.cells c e f))
  (g:f.2=f.1\/(s=true/\c.size<=f.1)):OR E w b (.cells s cs):=
 ⟨c,e,f,j,by simpa using h.1,g,λi x k=>let ⟨v,a,b,d⟩:=h.2 i x k;⟨v,by simpa using a,b,d⟩⟩
section
variable{P:Program}{E:Env}{w:World}
theorem CR.mono{E':Env}{w':World}(hm:∀{v cv},VR E w v cv->VR E' w' v cv){cs:JE}{c:JC}(h:CR E w cs c):CR E' w' cs c:=
 ⟨h.1,λi x e=>let ⟨v,a,b,d⟩:=h.2 i x e;⟨v,a,b,hm d⟩⟩
theorem CR.w7{cs:JE}{c:JC}(h:VRs E w cs c)(h1:∀v∈c,v.oneCell'=true):CR E w cs c:=
 ⟨Nat.le_of_eq h.1,λi x d=>let ⟨v,a,b⟩:=h.getElem? d;⟨v,a,h1 v (QF a),b⟩⟩
theorem CR.part{cs:JE}{c:JC}(h:CR E w cs c){a n:Nat}(s:a+n<=cs.length):
  VRs E w ((cs.drop a).take n) ((c.drop a).take n)/\∀v∈(c.drop a).take n,v.oneCell'=true:=by
 have r:=h.1;have key:∀(i:Nat),i<n->∃x v,cs[a+i]?=some x/\c[a+i]?=some v/\v.oneCell'=true/\VR E w x v:=λi b=>by
  have d:cs[a+i]?=some (cs[a+i]'(by omega)):=QE _
  obtain⟨v,h1,m,p⟩:=h.2 _ _ d;exact⟨_,v,d,h1,m,p⟩
 refine⟨⟨by simp;omega,λi x v d e=>?_⟩,λv e=>?_⟩
 .rw[List.getElem?_take]at d e;split at d
  .rename_i b;simp only[b,if_true,List.getElem?_drop]at d e;obtain⟨o,l,j,g,_,k⟩:=key i b;rw[j]at d;cases d;rw[g]at e;cases e;exact k
  .cases d
 .obtain⟨i,b⟩:=List.getElem?_of_mem e;rw[List.getElem?_take]at b;split at b
  .rename_i f;rw[List.getElem?_drop]at b;obtain⟨o,l,j,g,q,k⟩:=key i f;rw[g]at b;cases b;exact q
  .cases b
theorem zBU{α:Type}(c:List α)(off:Nat)(new:List α)(h:off<=c.length)(i:Nat):
  (c.take off++new++c.drop (off+new.length))[i]? = if i<off then c[i]? else if i<off+new.length then new[i-off]? else c[i]?:=by
 rw[Ql,List.getElem?_append,Qm,Nat.min_eq_left h];split
 .rw[List.getElem?_take];simp[*]
 .rw[List.getElem?_append];by_cases b:i<off+new.length
  .rw[if_pos (by omega),if_pos b]
  .rw[if_neg (by omega),if_neg b,List.getElem?_drop]
   congr 1;omega
theorem CR.qp{cs:JE}{c:JC}(h:CR E w cs c){off:Nat}{new:JE}{nv:JC}(g:VRs E w new nv)(h1:∀v∈nv,v.oneCell'=true)
  (k:off<=cs.length) (hc:off+nv.length<=c.length):CR E w (qp cs off new) (c.take off++nv++c.drop (off+nv.length)):=by
 have l:=h.1;have j:=g.1;refine⟨by simp[Sy.qp];omega,λi x d=>?_⟩
 unfold Sy.qp at d;rw[zBU _ _ _ k]at d;rw[zBU _ _ _ (by omega)]
 split at d
 .rename_i f;rw[if_pos f];exact h.2 i x d
 .rename_i f;rw[if_neg f];split at d
  .rename_i e;rw[if_pos (by omega)]
   obtain⟨v,a,b⟩:=g.getElem? d;exact⟨v,a,h1 v (QF a),b⟩
  .rename_i e;rw[if_neg (by omega)]
   exact h.2 i x d
theorem zAF(b o j:Nat):(⟨b,o,none⟩:Addr).add j=⟨b,o+j,none⟩:=by
 unfold Addr.add;split
 .rename_i h;subst h;rfl
 .rfl
theorem zOe{b o:Nat}{c:JB}{e:TypeId}{f:Nat×Nat}(h:w.heap[b]?=some (.cells c e f)):w.cell? ⟨b,o,none⟩=c[o]?:=by
 simp[World.cell?,h]
theorem zUq{b o:Nat}{c:JB}{e:TypeId}{f:Nat×Nat}{s:Prop}(h:w.heap[b]?=some (.cells c e f))(d:f.2=f.1\/(s/\c.size<=f.1))(ho:o<c.size):w.frozen? ⟨b,o,none⟩=false:=by
 obtain⟨g,i⟩:=f;simp[World.frozen?,h];intro h1;rcases d with d|⟨_,d⟩<;>simp at d<;>omega
theorem zUr{b o:Nat}{vs:JC}(h:∀(j:Nat) v,vs[j]?=some v->w.cell? ⟨b,o+j,none⟩=some v):(loadCells ⟨b,o,none⟩ vs.length).run P w=.ok vs.toArray w:=
 run_loadCells_list w ⟨b,o,none⟩ vs λj v c=>by rw[zAF];exact h j v c
theorem zHL{b o off sz:Nat}{t:TypeId}{l:Bool}{cs:JE}{v:AV}{c:JC}(e:CR E w cs c)(d:∀(j:Nat) v,c[j]?=some v->w.cell? ⟨b,o+j,none⟩=some v)
  (r:zH P t=some sz) (n:agT P t=some l) (h:part cs off sz l=some v):∃cv,(loadVar t ⟨b,o+off,none⟩).run P w=.ok cv w/\VR E w v cv:=by
 unfold Sy.part at h;cases l with
 |true=>
  simp only at h;split at h
  .rename_i k;cases h;have g:off+sz<=cs.length:=QN k;obtain⟨h1,m⟩:=e.part g;have s:=e.1;have f:((c.drop off).take sz).length=sz:=by simp;omega
   refine⟨.agg ((c.drop off).take sz).toArray,?_,VR.qT (by simpa using h1) (by simpa using m)⟩
   have p:=zUr (P:=P) (w:=w) (b:=b) (o:=o+off) (vs:=(c.drop off).take sz) λj v i=>by
    rw[List.getElem?_take]at i;split at i
    .rw[List.getElem?_drop]at i;rw[Nat.add_assoc];exact d _ _ i
    .cases i
   rw[f]at p;simp[loadVar,zFn n,zAk r,p]
  .cases h
 |false=>
  obtain⟨u,h1,m,q⟩:=e.2 _ _ h;refine⟨u,?_,q⟩
  simp[loadVar,zFn n,d _ _ h1]
theorem zNh{H:Heap}{t:TypeId}{sz:Nat}{q:Bool}{x v:AV}{n:Value}(z:HR E H w)(hx:VR E w x n)(p:zH P t=some sz)(m:agT P t=some q)
  (h:zDa H sz q x=some v):∃a cv,n=.pointer (some a)/\(loadVar t a).run P w=.ok cv w/\VR E w v cv:=by
 unfold zDa at h;split at h
 .rename_i r off;obtain⟨rfl,C⟩:=hx.wz;split at h
  .rename_i J D d;obtain⟨c,e,f,s,I,k⟩:=CR.va (z.obj _ (Heap.qi d));obtain⟨cv,h1,g⟩:=zHL (P:=P) (b:=E.ρ r) (o:=0) k (λj v l=>by rw[zOe s,QS,←Array.getElem?_toList];exact l) p m h
   rw[QS]at h1;exact⟨_,cv,rfl,h1,g⟩
  .cases h
 .rename_i e off;obtain⟨b,c,u,rfl,i,F,B,hc⟩:=hx.wV;obtain⟨h1,g⟩:=B.cells i;obtain⟨cv,A,y⟩:=zHL (P:=P) (b:=b) (o:=c) (CR.w7 h1 g) (λj v l=>hc j v (by rw[←Array.getElem?_toList];exact l)) p m h
  exact⟨_,cv,rfl,A,y⟩
 .cases h
theorem zNi{b:Nat}{e:TypeId}{f:Nat×Nat}{s:Prop}:∀(vs:JC)(off i:Nat)(w:World)(c:JB),w.heap[b]?=some (.cells c e f)->(f.2=f.1\/(s/\c.size<=f.1)) →
  (∀v∈vs,v.oneCell'=true)->off+i+vs.length<=c.size →
  ∃w',(storeCells ⟨b,off,none⟩ vs i).run P w=.ok () w'/\w'.tape=w.tape/\w'.os=w.os/\w'.output=w.output/\w'.heap.size=w.heap.size/\(∀x,x≠b->w'.heap[x]? = w.heap[x]?) ∧
   w'.heap[b]?=some (.cells (c.toList.take (off+i)++vs++c.toList.drop (off+i+vs.length)).toArray e f)
 |[],off,i,w,c,h,_,_,_=>⟨w,by simp[storeCells],rfl,rfl,rfl,rfl,λ_ _=>rfl,by rw[h];simp⟩
 |v::vs,off,i,w,c,h,o,h1,n=>by
  have d:off+i<c.size:=by simp at n;omega
  have g:w.cell? ⟨b,off+i,none⟩=some c[off+i]:=by rw[zOe h];simp[d]
  have m:=zUq h o d;have J:=h1 v (.head _);have C:(w.setCell ⟨b,off+i,none⟩ v).heap[b]?=some (.cells (c.setIfInBounds (off+i) v) e f):=by
   simp[World.setCell,Array.getElem?_modify,h]
  obtain⟨w',t,I,q,z,B,y,A⟩:=zNi (s:=s) vs off (i+1) (w.setCell ⟨b,off+i,none⟩ v) (c.setIfInBounds (off+i) v) C (by simpa using o) (λu F=>h1 u (.tail _ F)) (by simp at n⊢;omega)
  refine⟨w',?_,I,q,z,by rw[B];simp[World.setCell],λx p=>by rw[y x p];simp only[World.setCell,Array.getElem?_modify];rw[if_neg (Ne.symm p)],?_⟩
  .simp only[storeCells,Sem.run_bind,zAF,run_store P w _ v _ J,g,m,Bool.false_eq_true,if_false,Result.andThen_ok];exact t
  .rw[A];congr 3;apply List.ext_getElem?;intro j;have D:off+i+1+vs.length<=c.toList.length:=by simp at n⊢;omega
   rw[zBU _ _ _ (by simp;omega)]
   have:=zBU c.toList (off+i) (v::vs) (by simp;omega) j
   rw[this];have k:(v::vs).length=vs.length+1:=rfl;rw[k];have l:(c.setIfInBounds (off+i) v).toList=c.toList.set (off+i) v:=by simp
   rw[l];by_cases h1:j<off+i
   .rw[if_pos (by omega),if_pos h1,List.getElem?_set,if_neg (by omega)]
   .by_cases r:j=off+i
    .subst r;rw[if_pos (by omega),if_neg (by omega),if_pos (by omega),List.getElem?_set]
     simp[d]
    .rw[if_neg (by omega),if_neg h1]
     by_cases K:j<off+i+1+vs.length
     .rw[if_pos (by omega),if_pos (by omega)]
      have:j-(off+i)=(j-(off+(i+1)))+1:=by omega
      rw[this,List.getElem?_cons_succ]
     .rw[if_neg (by omega),if_neg (by omega),List.getElem?_set,if_neg (by omega)]
theorem z7.vV{w w':World}{b:Nat}{c g:JB}{e:TypeId}{f i:Nat×Nat}(k:w.heap[b]?=some (.cells c e f))(d:w'.heap[b]?=some (.cells g e i))(l:g.size=c.size)
  (ho:∀x,x≠b->w'.heap[x]? = w.heap[x]?):z7 w w':=λx c0 m f0 h=>by
 by_cases j:x=b
 .subst j;rw[k]at h;cases h;exact⟨g,i,d,l⟩
 .exact⟨c0,f0,by rw[ho x j];exact h,rfl⟩
theorem zEW{H:Heap}(p:HR E H w){h:Nat}{st:Bool}{cs:JE}(m:H.get h=some (.cells st cs)){off:Nat}{new:JE}{nv:JC}
  (q:VRs E w new nv) (h1:∀v∈nv,v.oneCell'=true) (l:off+new.length<=cs.length\/(off<=cs.length/\∃(c:JB) (e:TypeId) (f:Nat×Nat),w.heap[E.ρ h]?=some (Obj.cells c e f)/\off+new.length<=c.size)) (a:Nat):
  ∃w',(storeCells ⟨E.ρ h,off,none⟩ nv).run P w=.ok () w'/\HR E (H.put h (.cells st (qp cs off new))) w'/\Tr E H w E (H.put h (.cells st (qp cs off new))) w' a a:=by
 obtain⟨c,e,f,j,o,g⟩:=CR.va (p.obj _ (Heap.qi m));have A:=q.1;have J:cs.length<=c.size:=by have:=g.1;simpa using this
 have b:off<=cs.length/\off+nv.length<=c.size:=by
  rcases l with l|⟨l,I,K,L,i,B⟩
  .omega
  .rw[j]at i;cases i;omega
 obtain⟨w',t,C,r,u,z,n,k⟩:=zNi (P:=P) (s:=st=true) nv off 0 w c j o h1 (by omega)
 rw[Nat.add_zero]at k;have d:(c.toList.take off++nv++c.toList.drop (off+nv.length)).toArray.size=c.size:=by simp;omega
 have F:=z7.vV j k d n;obtain⟨m1,m2,_⟩:=zIK p m C r u z n F (o':=.cells st (qp cs off new)) (λD=>by
  refine CR.or (c:=(c.toList.take off++nv++c.toList.drop (off+nv.length)).toArray) ?_ k (o.imp id λ⟨x,y⟩=>⟨x,by rw[d];exact y⟩)
  exact(g.qp q h1 b.1 (by simpa using b.2)).mono D) a
 exact⟨w',t,m1,m2⟩
theorem zE4{v:AV}{cv:Value}{sz:Nat}{cs:JE}(d:VR E w v cv)(h:cellsOf v sz=some cs):v.flat=true/\cs=v.cells/\cs.length=sz/\VRs E w cs cv.cells.toList/\(∀u∈cv.cells.toList,u.oneCell'=true)/\cv.cells.size=sz:=by
 unfold cellsOf at h;split at h
 .rename_i c;split at h
  .rename_i e;cases h;obtain⟨h1,f⟩:=d.cells c;have b:=zb e;exact⟨c,rfl,b,h1,f,by rw[←Array.length_toList,←h1.1];exact b⟩
  .cases h
 .cases h
theorem zRK{H:Heap}{t:TypeId}{sz:Nat}{h off:Nat}{v:AV}{cv:Value}{st:Bool}{cs new:JE}(g:HR E H w)(l:VR E w v cv)(j:zH P t=some sz)
  (d:H.get h=some (.cells st cs)) (hc:cellsOf v sz=some new) (n:off+sz<=cs.length) (a:Nat):
  ∃w',(storeVar t ⟨E.ρ h,off,none⟩ cv).run P w=.ok () w'/\HR E (H.put h (.cells st (qp cs off new))) w'/\Tr E H w E (H.put h (.cells st (qp cs off new))) w' a a:=by
 obtain⟨_,rfl,m,i,e,f⟩:=zE4 l hc;obtain⟨w',c,k,b⟩:=zEW (P:=P) g d i e (off:=off) (.inl (by omega)) a
 refine⟨w',?_,k,b⟩
 simp only[storeVar,Sem.run_bind,zAk j,Result.andThen_ok];simp[f,c]
end
section
variable{P:Program}{E:Env}{w:World}
theorem zJ4{sz:Nat}:∀{es:JE}{cs:JE},flatten sz es=some cs->∀(f:Nat->Value),(∀i e,es[i]?=some e->VR E w e (f i))->(∀i,i<es.length->(f i).cells.size=sz) →
  ∃vs:JC,VRs E w cs vs/\(∀v∈vs,v.oneCell'=true)/\vs.length=es.length*sz/\∀(k:Nat) v,vs[k]?=some v->∃i j,i<es.length/\k=i*sz+j/\(f i).cells[j]?=some v
 |[],cs,h,f,_,_=>by
  simp[flatten]at h;subst h;exact⟨[],VRs.nil,λv b=>by simp at b,by simp,λk v b=>by simp at b⟩
 |e::r,cs,h,f,g,y=>by
  simp only[flatten]at h;split at h
  .rename_i c hc;split at h
   .rename_i t d;cases h;obtain⟨_,_,D,u,p,q⟩:=zE4 (g 0 e rfl) hc;obtain⟨vs,n,A,o,C⟩:=zJ4 d (λi=>f (i+1)) (λi x z=>g (i+1) x (by simpa using z)) (λi m=>y (i+1) (by simpa using m))
    have l:(f 0).cells.toList.length=sz:=by rw[Array.length_toList];exact q
    refine⟨(f 0).cells.toList++vs,u.append n,?_,?_,?_⟩
    .intro v b;rcases QH.1 b with b|b
     .exact p v b
     .exact A v b
    .rw[QJ,l,o,QZ,Nat.add_mul,Nat.one_mul,Nat.add_comm]
    .intro k v b;rw[List.getElem?_append]at b;split at b
     .rename_i hk;exact⟨0,k,by simp,by omega,by rw[←Array.getElem?_toList];exact b⟩
     .rename_i hk;obtain⟨i,j,m,B,s⟩:=C _ _ b;refine⟨i+1,j,by simp;omega,?_,s⟩
      rw[l]at B hk;rw[Nat.add_mul,Nat.one_mul];omega
   .cases h
  .cases h
theorem zDP{H:Heap}{sz n:Nat}{y:AV}{t:Value}{X:JE}(hr:HR E H w)(l:VR E w y t)(h:content H sz y=some (n,X)):
  ∃vs:JC,VRs E w X vs/\(∀v∈vs,v.oneCell'=true)/\vs.length=n*sz/\n<=zf/\(Builtin.lenOf t).run P w=.ok n w ∧
   (∀w':World,w'.heap=w.heap->(Builtin.firstCells sz n t).run P w'=.ok vs.toArray w') ∧
   ((∃a c,t=.slice a n c/\(n*sz≠0->∃B,a=some B/\∀(j:Nat) v,vs[j]?=some v->w.cell? (B.add j)=some v))\/∃s:ByteArray,t=.string s/\s.size=n):=by
 unfold content at h;have zero:∀(a:Option Addr)(c:Nat),∃vs:JC,VRs E w [] vs/\(∀v∈vs,v.oneCell'=true)/\vs.length=0*sz/\0<=zf/\(Builtin.lenOf (.slice a 0 c)).run P w=.ok 0 w ∧
   (∀w':World,w'.heap=w.heap->(Builtin.firstCells sz 0 (.slice a 0 c)).run P w'=.ok vs.toArray w') ∧
   ((∃U c',Value.slice a 0 c=.slice U 0 c'/\(0*sz≠0->∃B,U=some B/\∀(j:Nat) v,vs[j]?=some v->w.cell? (B.add j)=some v))\/∃s:ByteArray,Value.slice a 0 c=.string s/\s.size=0):=λa c=>
  ⟨[],VRs.nil,λv l=>by simp at l,by simp,QV _,by simp[Builtin.lenOf],λw' _=>by cases a<;>simp[Builtin.firstCells,loadCells,loadCellsFrom],.inl ⟨a,c,rfl,λh=>by simp at h⟩⟩
 split at h
 .cases h;cases l;exact zero _ _
 .rename_i J es;split at h
  rotate_left
  .cases h
  rename_i Q;have:=zb Q;subst this;split at h
  .rename_i V r;cases h;cases l with
   |wq _ a c _=>simp[flatten]at r;subst r;exact zero _ _
   |qo _ b o cap _ f hz m N aa S hc=>
    obtain⟨vs,k1,k2,T,k4⟩:=zJ4 r f S (λi O=>(hc i O).1)
    have d:∀(j:Nat) v,vs[j]?=some v->w.cell? ((⟨b,o,none⟩:Addr).add j)=some v:=λj v p=>by
     obtain⟨i,k,O,e1,e2⟩:=k4 j v p;rw[zAF,e1,←Nat.add_assoc];exact(hc i O).2 k v e2
    refine⟨vs,k1,k2,T,QI m N,by simp[Builtin.lenOf],λw' q=>?_,.inl ⟨_,_,rfl,λ_=>⟨_,rfl,d⟩⟩⟩
    exact run_firstCells_some w' sz _ _ _ _ vs T λj v p=>by
     have:=d j v p;rw[zAF]at this⊢;simp only[World.cell?,q]at this⊢;exact this
  .cases h
 .rename_i hd off len J cp ex;split at h
  .rename_i g;have:=zb g;subst this;split at h
   .rename_i st V A;split at h
    .rename_i M;simp only[QK,Prod.mk.injEq]at h;obtain⟨rfl,rfl⟩:=h;have z:off+len*sz<=V.length:=QN M;obtain⟨c,e,f,F,S,D⟩:=CR.va (hr.obj _ (Heap.qi A));obtain⟨p1,p2⟩:=D.part z;cases l with
     |wm _ _ _ _ a=>simpa using zero (some a) 0
     |row _ _ _ _ _ cap _ hD u m W Y ac ab=>
      have R:=D.1;have C:((c.toList.drop off).take (len*sz)).length=len*sz:=by simp at R⊢;omega
      have d:∀(j:Nat) v,((c.toList.drop off).take (len*sz))[j]?=some v->w.cell? ((⟨E.ρ hd,off,none⟩:Addr).add j)=some v:=λj v p=>by
       rw[zAF,zOe F,←Array.getElem?_toList];rw[List.getElem?_take]at p;split at p
       .rw[List.getElem?_drop]at p;exact p
       .cases p
      refine⟨_,p1,p2,C,QI u m,by simp[Builtin.lenOf],λw' q=>?_,.inl ⟨_,_,rfl,λ_=>⟨_,rfl,d⟩⟩⟩
      exact run_firstCells_some w' sz _ _ _ _ _ C λj v p=>by
       have:=d j v p;rw[zAF]at this⊢;simp only[World.cell?,q]at this⊢;exact this
    .cases h
   .cases h
  .cases h
 .rename_i s;split at h
  .rename_i g;have:=zb g;subst this;cases h;obtain⟨K,rfl,L,hl⟩:=l.q9;have g:=zGa L;refine⟨K.data.toList.map λb=>.int .u8 b.toNat,?_,?_,?_,hl,?_,?_,.inr ⟨K,rfl,g⟩⟩
   .subst L;refine⟨by simp,λi x v I l=>?_⟩
    simp only[Qb,Option.map_map]at I l;cases F:K.data.toList[i]? with
    |none=>simp[F]at I
    |some b=>
     simp[F]at I l;subst I;subst l;refine .int _ _ ?_
     have:=b.toNat_lt
     constructor<;>simp[IntKind.min,IntKind.max,IntKind.signed,IntKind.bits]<;>omega
   .intro v l;obtain⟨b,_,rfl⟩:=QL.1 l;rfl
   .subst L;simp
   .simp[Builtin.lenOf,g]
   .intro w' _;simp only[Builtin.firstCells,Sem.run_pure];congr 1;rw[←g,ByteArray.extract_zero_size];apply Array.ext';rw[Array.toList_map]
  .cases h
 .cases h
end
section
variable{P:Program}{E:Env}{w:World}
theorem zKC{H:Heap}(i:HR E H w){nx:Nat}(g:¬E.D nx){st:Bool}{cs:JE}{c:JB}{e:TypeId}(d:CR E w cs c.toList):
  HR (E.add nx w.heap.size) ((nx,.cells st cs)::H) { w with heap:=w.heap.push (.cells c e) } ∧
  Tr E H w (E.add nx w.heap.size) ((nx,.cells st cs)::H) { w with heap:=w.heap.push (.cells c e) } nx (nx+1):=
 have h:=zG0 i g (o:=.cells c e) (ho:=.cells st cs) λj b _ f=>(d.mono f).or (by rw[b];exact zBg) (.inl rfl)
 ⟨h.1,h.2.1⟩
theorem zFd{α:Type}{P:α->Prop}{a b:α}{l:List α}(h1:P b)(d:∀x∈a::l,P x):∀x∈b::l,P x:=λx c=>by
 cases c with
 |head=>exact h1
 |tail _ c=>exact d x (.tail _ c)
theorem HR.qZ{H:Heap}{h:Nat}{o o':HO}(b:HR E ((h,o)::H) w)(ho:OR E w (E.ρ h) o->OR E w (E.ρ h) o'):HR E ((h,o')::H) w:=
 ⟨b.nodup,zFd (P:=λ(p:Nat×HO)=>E.D p.1) (b.qx (h,o) (.head _)) b.qx,
  zFd (P:=λ(p:Nat×HO)=>∀q∈(h,o')::H,E.ρ p.1=E.ρ q.1->p.1=q.1)
   (zFd (P:=λ(q:Nat×HO)=>E.ρ h=E.ρ q.1->h=q.1) (λ_=>rfl) (b.inj (h,o) (.head _)))
   (λp c=>zFd (P:=λ(q:Nat×HO)=>E.ρ p.1=E.ρ q.1->p.1=q.1) (b.inj p c (h,o) (.head _)) (b.inj p c)),
  zFd (P:=λ(p:Nat×HO)=>OR E w (E.ρ p.1) p.2) (ho (b.obj (h,o) (.head _))) b.obj,
  zFd (P:=λ(p:Nat×HO)=>¬E.Z (E.ρ p.1)) (b.nz (h,o) (.head _)) b.nz,b.we⟩
theorem Tr.qZ{c:Heap}{w0:World}{E0:Env}{H:Heap}{h:Nat}{o o':HO}{a b:Nat}(d:Tr E0 c w0 E ((h,o)::H) w a b):Tr E0 c w0 E ((h,o')::H) w a b:=
 { d with own:=zFd (P:=λ(p:Nat×HO)=>(∃q∈c,E0.ρ q.1=E.ρ p.1)\/w0.heap.size<=E.ρ p.1) (d.own (h,o) (.head _)) d.own }
theorem CR.take{cs:JE}{c:JC}(h:CR E w cs c)(k:Nat):CR E w (cs.take k) c:=
 ⟨by have:=h.1;simp;omega,λi x b=>by
  rw[List.getElem?_take]at b;split at b
  .exact h.2 i x b
  .cases b⟩
theorem VR.zero{z:AV}{v:Value}{n:Nat}{P:Program}{t:TypeId}{cs:JE}(h:zCQ P t=some cs):∃i z,P.info? t=some i/\i.zero=some z/\z.cells.size=i.size/\zH P t=some i.size/\cs.length=i.size/\VRs E w cs z.cells.toList/\∀v∈z.cells.toList,v.oneCell'=true:=by
 unfold zCQ at h;split at h
 .rename_i v b;split at h
  .rename_i n k d;split at h
   .rename_i l;cases h;unfold zJy at b;split at b
    .rename_i i f;split at b
     .rename_i z j;have e:VR E w v z:=zIl b;obtain⟨h1,g⟩:=e.cells k;have m:n=i.size:=by unfold zH at d;rw[f]at d;simpa using d.symm
      have c:=zb l;subst m;exact⟨i,z,f,j,by rw[←Array.length_toList,←h1.1,c],d,c,h1,g⟩
     .cases b
    .cases b
   .cases h
  .cases h
 .cases h
theorem zS7(z:JB)(n:Nat):(Builtin.zeroCells z n).size=n*z.size:=by simp[Builtin.zeroCells]
set_option maxRecDepth 20000 in
theorem zOf{t u ty e:TypeId}{i:TypeInfo}{z:Value}(B:P.underlying t=some (.slice e))(l:(∃q,P.underlying u=some (.slice q))\/P.underlying u=some .string)(F:P.info? e=some i)(D:i.zero=some z)
  {b:Option Addr} {sLen sCap n:Nat} {o:Value} {c d:JC} (f:∀w':World,w'.heap=w.heap->(Builtin.firstCells i.size sLen (.slice b sLen sCap)).run P w'=.ok c.toArray w')
  (g:(Builtin.lenOf o).run P w=.ok n w) (h:∀w':World,w'.heap=w.heap->(Builtin.firstCells i.size n o).run P w'=.ok d.toArray w')
  (C:sCap<sLen+n) (j:sLen+n<=zf) (k:(sLen+n)*i.bytes<=140737488355328):
  ∃cap w',sLen+n<=cap/\cap<=zf/\w'.heap=w.heap.push (.cells (c.toArray++d.toArray++Builtin.zeroCells z.cells (cap-(sLen+n))) e)/\w'.tape=w.tape/\w'.os=w.os/\w'.output=w.output ∧
   (Builtin.append_ #[t,u] ty #[.slice b sLen sCap,o]).run P w=.ok (.slice (some ⟨w.heap.size,0,none⟩) (sLen+n) cap) w':=by
 have I:¬(sLen+n<=sCap):=by omega
 have s:¬(9223372036854775807<((sLen:Int)+(n:Int))):=by unfold zf at j;omega
 have x:=growslice_fits C k;have A:¬(281474976710656<Builtin.nextslicecap (sLen+n) sCap*i.bytes):=by omega
 refine⟨grownCap w (sLen+n) sCap e,w.drew.alloc (.cells (c.toArray++d.toArray++Builtin.zeroCells z.cells (grownCap w (sLen+n) sCap e-(sLen+n))) e),grownCap_ge w _ _ _,?_,?_,?_,?_,?_,?_⟩
 rotate_left 5
 .have y:=f w.drew rfl;have r:=h w.drew rfl;have p:¬(((sLen+n:Nat):Int) > IntKind.i64.max):=by
   have:IntKind.i64.max=9223372036854775807:=rfl;rw[this];omega
  have m:¬(Builtin.nextslicecap (sLen+n) sCap*i.bytes > 2 ^ 48):=by
   have:(2:Nat) ^ 48=281474976710656:=rfl;omega
  rcases l with⟨q,l⟩|l
  all_goals
   simp only[Builtin.append_,Sem.run_bind,run_underlying B,run_underlying l,sizeOf,typeInfo,run_program,zeroValue,F,D,g,I,p,m,y,r,newRow,grownCap,
    Result.andThen_ok,Sem.run_pure,Sem.run_ite,run_choose,run_askRoom,run_newObj,List.getElem?_toArray,List.getElem?_cons_zero,List.getElem?_cons_succ,Bool.false_eq_true,if_false,false_and,Bool.not_false,if_true]
   rw[show(Question.appendCap (sLen+n) sCap e).forced=false from rfl]
   simp only[Bool.false_eq_true,if_false,Result.andThen_ok];rw[show({ heap:=w.heap,tape:=w.tape,drawn:=w.drawn+1,os:=w.os,output:=w.output }:World)=w.drew from rfl,y,Result.andThen_ok,r,Result.andThen_ok]
   rfl
 .exact grownCap_le_maxLen w _ _ _ (by unfold zf at j;simp only[maxLen];omega)
 .rfl
 .rfl
 .rfl
 .rfl
def zFK(P:Program)(s:Sem Value)(E:Env)(H:Heap)(w:World)(nx:Nat)(v:AV)(H':Heap)(nx':Nat):Prop:=
 ∃d c b,s.run P w=.ok d b/\HR c H' b/\Tr E H w c H' b nx nx'/\VR c b v d
theorem zDQ{t u ty e:TypeId}{i:TypeInfo}(k:P.underlying t=some (.slice e))(f:(∃j,P.underlying u=some (.slice j))\/P.underlying u=some .string)(m:P.info? e=some i)
  {a:Addr} {sLen sCap n:Nat} {g:Value} {b:JC} (c:(Builtin.lenOf g).run P w=.ok n w) (d:(Builtin.firstCells i.size n g).run P w=.ok b.toArray w) (l:sLen+n<=sCap)
  {w':World} (h:(storeCells (a.add (sLen*i.size)) b).run P w=.ok () w'):
  (Builtin.append_ #[t,u] ty #[.slice (some a) sLen sCap,g]).run P w=.ok (.slice (some a) (sLen+n) sCap) w':=by
 rcases f with⟨j,f⟩|f
 all_goals
  simp only[Builtin.append_,Sem.run_bind,run_underlying k,run_underlying f,sizeOf,typeInfo,run_program,m,c,l,d,h,
   Result.andThen_ok,Sem.run_pure,Sem.run_ite,List.getElem?_toArray,List.getElem?_cons_zero,List.getElem?_cons_succ,Bool.false_eq_true,if_false,Bool.not_false,if_true]
theorem zG1(cs:JE)(k:Nat):qp cs k []=cs:=by simp[qp]
theorem Heap.qt:∀{H:Heap}{h:Nat}{o:HO},H.get h=some o->H.put h o=H
 |(k,b)::r,h,o,e=>by
  simp only[Heap.get]at e;simp only[Heap.put];split at e
  .cases e;rfl
  .rw[Heap.qt e]
theorem zQM{H:Heap}{nx nx':Nat}{s y v:AV}{a6:JE}{cs' cy:Value}{sz bytes:Nat}{H':Heap}{t u ty e:TypeId}(R:HR E H w)(hs:VR E w s cs')(hy:VR E w y cy)
  (S:P.underlying t=some (.slice e)) (F:(∃M,P.underlying u=some (.slice M))\/P.underlying u=some .string) (hz:zCQ P e=some a6) (az:zH P e=some sz) (ad:zGH P e=some bytes) (aa:0<sz)
  (d:∀h,nx<=h->h<nx'->¬E.D h) (h:zAK H nx s y sz bytes=some (v,H',nx')):zFK P (Builtin.append_ #[t,u] ty #[cs',cy]) E H w nx v H' nx':=by
 obtain⟨i,z,Q,bj,a8,ak,_,_,_⟩:=VR.zero (P:=P) (E:=E) (w:=w) (z:=.bool true) (v:=.bool true) (n:=0) hz;have:i.size=sz:=by rw[az]at ak;simpa using ak.symm
 subst this;have hb:i.bytes=bytes:=by unfold zGH at ad;rw[Q]at ad;simpa using ad
 subst hb;unfold zAK at h;split at h
 .cases h
 .rename_i n J af;obtain⟨vs,k1,k2,k3,k4,T,k6,_⟩:=zDP (P:=P) R hy af;have W:=k6 w rfl;have room:∀{m:Nat},m*i.bytes<=zc->m*i.bytes<=140737488355328:=λh=>by unfold zc at h;omega
  have grow:∀{a:Option Addr}{sLen sCap:Nat}{r:JE}{B:JC},VRs E w r B->(∀v∈B,v.oneCell'=true)->B.length=sLen*i.size →
    (∀w':World,w'.heap=w.heap->(Builtin.firstCells i.size sLen (.slice a sLen sCap)).run P w'=.ok B.toArray w')->sCap<sLen+n->sLen+n<=zf->(sLen+n)*i.bytes<=140737488355328->¬E.D nx →
    ∃cap w',(Builtin.append_ #[t,u] ty #[.slice a sLen sCap,cy]).run P w=.ok (.slice (some ⟨w.heap.size,0,none⟩) (sLen+n) cap) w' ∧
     HR (E.add nx w.heap.size) ((nx,.cells false (r++J))::H) w'/\Tr E H w (E.add nx w.heap.size) ((nx,.cells false (r++J))::H) w' nx (nx+1) ∧
     VR (E.add nx w.heap.size) w' (.row nx 0 (sLen+n) i.size (sLen+n) false) (.slice (some ⟨w.heap.size,0,none⟩) (sLen+n) cap):=by
   intro a sLen sCap r B ho bf ba bg ac U au A;obtain⟨cap,w',c1,c2,c3,c4,c5,c6,c7⟩:=zOf (P:=P) (ty:=ty) S F Q bj bg T k6 ac U au;have bk:CR E w (r++J) (B.toArray++vs.toArray++Builtin.zeroCells z.cells (cap-(sLen+n))).toList:=by
    have h1:=CR.w7 (ho.append k1) (λv hv=>(QH.1 hv).elim (bf v) (k2 v))
    refine⟨by have:=h1.1;simp at this⊢;omega,λi x hx=>?_⟩
    obtain⟨u,Y,a2,a3⟩:=h1.2 i x hx;refine⟨u,?_,a2,a3⟩
    have ay:i<(B++vs).length:=(QC.1 Y).1;simp only[Array.toList_append];rw[Qp (by simpa using ay)]
    exact Y
   obtain⟨n1,n2⟩:=zKC (st:=false) (e:=e) R A bk;obtain⟨d1,d2⟩:=zFl (w':=w') n1 ⟨by rw[c3],c4,c5,c6⟩ (nx+1)
   refine⟨cap,w',c7,d1,n2.trans n1 d2,?_⟩
   have:=VR.row (E:=E.add nx w.heap.size) (w:=w') nx 0 (sLen+n) i.size (sLen+n) cap false (.inr rfl) c1 c2 aa c1 (λh=>by cases h)
    ⟨_,e,(0,0),by rw[Env.qw,c3];exact zBg,by simp[zS7,ba,k3,a8];rw[←Nat.add_mul,←Nat.add_mul];exact Nat.mul_le_mul_right _ (by omega)⟩
   rw[Env.qw]at this;exact this
  split at h
  ·
   cases hs;split at h
   .cases h;have I:vs=[]:=List.eq_nil_of_length_eq_zero (by simpa using k3)
    refine⟨.slice none 0 0,E,w,?_,R,.refl _,.qa⟩
    rcases F with⟨M,F⟩|F
    .simp[Builtin.append_,run_underlying S,run_underlying F,sizeOf,typeInfo,Q,T,W]
    .simp[Builtin.append_,run_underlying S,run_underlying F,sizeOf,typeInfo,Q,T,W]
   .split at h
    .rename_i m _ g;cases h;obtain⟨cap,w',g1,g2,g3,g4⟩:=grow (a:=none) (sLen:=0) (sCap:=0) VRs.nil (λv hv=>by simp at hv) (by simp) (λw' _=>by simp[Builtin.firstCells]) (by omega) (by omega)
      (by have:=room (QN g);simpa using this) (d nx (QA _) (by omega))
     simp only[QS,List.nil_append]at g1 g2 g3 g4;exact⟨_,_,w',g1,g2,g3,g4⟩
    .cases h
  ·
   rename_i q off len a7 cp ex;split at h
   .cases h
   .rename_i bi;have:=zb bi;subst this;split at h
    rotate_left
    .cases h
    rename_i st C K;split at h
    .cases h
    rename_i aw;have X:off+len*i.size<=C.length:=QN aw;split at h
    .cases h
    rename_i g;simp only[qr]at g;have L:=room (QN g.1);have U:len+n<=zf:=by
     have:=QN g.2;unfold zc at this;unfold zf;omega
    have ah:content H i.size (.row q off len i.size cp ex)=some (len,(C.drop off).take (len*i.size)):=by
     simp only[content,Nat.beq_refl,K,aw]
    obtain⟨os,o1,o2,o3,o4,o5,o6,o7⟩:=zDP (P:=P) R hs ah;have ao:∀{a:Option Addr}{cap:Nat},cs'=.slice a len cap->∀w':World,w'.heap=w.heap->(Builtin.firstCells i.size len (.slice a len cap)).run P w'=.ok os.toArray w':=λe w' h=>e▸o6 w' h
    cases hs with
    |wm _ _ _ _ a=>
     split at h
     .rename_i k;have ar:n=0:=by have:=QN k;omega
      subst ar;have I:vs=[]:=List.eq_nil_of_length_eq_zero (by simpa using k3)
      have bh:J=[]:=List.eq_nil_of_length_eq_zero (by rw[k1.1,I];rfl)
      subst I;subst bh;cases h;rw[zG1,Heap.qt K];refine⟨_,E,w,zDQ (P:=P) S F Q T W (by omega) (by simp[storeCells]),R,.refl _,?_⟩
      exact .wm q off _ _ a
     .rename_i k;have ar:0<n:=by
       rcases Nat.eq_zero_or_pos n with h0|h0
       .subst h0;simp at k
       .exact h0
      have j:=λA=>grow (a:=some a) (sCap:=0) o1 o2 o3 (ao rfl) (by omega) U L A
      split at h
      .cases h;obtain⟨cap,w',g1,g2,g3,g4⟩:=j (d nx (QA _) (by omega))
       exact⟨_,_,w',g1,g2,g3,g4⟩
      .split at h
       .omega
       .split at h
        .cases h;obtain⟨cap,w',g1,g2,g3,g4⟩:=j (d nx (QA _) (by omega))
         have p:((nx,HO.cells false ((C.drop 0).take (0*i.size)++J))::H.del q).Sublist ((nx,HO.cells false ((C.drop 0).take (0*i.size)++J))::H):=(Heap.wx H q).cons_cons _;refine⟨_,_,w',g1,(g2.sub p).qZ ?_,(g3.sub p).qZ,g4⟩
         rintro ⟨c,M,f,Y,a2,a3,a4⟩
         exact⟨c,M,f,Y,by simpa using a2,a3.imp id (λ⟨x,_⟩=>by cases x),λi' x hx=>a4 i' x (by simpa using hx)⟩
        .cases h
    |row _ _ _ _ _ cap _ hD aj l N ai ag V=>
     have O:n+len<=cap->∃w',(storeCells ((⟨E.ρ q,off,none⟩:Addr).add (len*i.size)) vs).run P w=.ok () w'/\HR E (H.put q (.cells st (qp C (off+len*i.size) J))) w' ∧
       Tr E H w E (H.put q (.cells st (qp C (off+len*i.size) J))) w' nx nx:=λk=>by
      rw[zAF];obtain⟨c,M,f,b1,b2⟩:=V;refine zEW R K k1 k2 (.inr ⟨X,c,M,f,b1,?_⟩) nx
      rw[k1.1,k3];have:len*i.size+n*i.size<=cap*i.size:=by rw[←Nat.add_mul];exact Nat.mul_le_mul_right _ (by omega)
      omega
     have j:=λac A=>grow (a:=some ⟨E.ρ q,off,none⟩) (sCap:=cap) o1 o2 o3 (ao rfl) ac U L A
     split at h
     .rename_i k;have al:len+n<=cp:=QN k;cases h;obtain⟨w',r1,r2,r3⟩:=O (by omega)
      obtain⟨c,M,f,b1,b2⟩:=V;obtain⟨c',f',s1,s2⟩:=r3.qn _ _ _ _ b1;exact⟨_,E,w',zDQ (P:=P) S F Q T W (by omega) r1,r2,r3,.row q off (len+n) _ cp cap ex hD (by omega) l N ai ag ⟨c',M,f',s1,by omega⟩⟩
     .rename_i k;have al:¬len+n<=cp:=λh=>by rw[Nat.ble_eq_true_of_le h]at k;cases k
      split at h
      .cases h;have:=ag rfl;obtain⟨aq,w',g1,g2,g3,g4⟩:=j (by omega) (d nx (QA _) (by omega))
       exact⟨_,_,w',g1,g2,g3,g4⟩
      .split at h
       .cases h;have I:vs=[]:=List.eq_nil_of_length_eq_zero (by simpa using k3)
        subst I;refine⟨_,E,w,zDQ (P:=P) S F Q T W (by omega) (by simp[storeCells]),R,.refl _,?_⟩
        exact .row q off len _ cp cap false hD aj l N ai ag V
       .split at h
        .cases h;have A:=d nx (QA _) (by omega)
         by_cases hc:len+n<=cap
         .obtain⟨q1,q2,q3⟩:=zRI R K A;obtain⟨c,M,f,b1,b2⟩:=V;have bb:Heap.get ((nx,HO.cells st C)::H.del q) nx=some (.cells st C):=by simp[Heap.get,Nat.beq_refl]
          have hρ:=Env.qw E nx (E.ρ q);obtain⟨w',r1,r2,r3⟩:=zEW (P:=P) q1 bb (off:=0+len*i.size) (k1.mono q3) k2 (.inr ⟨X,c,M,f,by rw[hρ];exact b1,by
           rw[k1.1,k3];have:len*i.size+n*i.size<=cap*i.size:=by rw[←Nat.add_mul];exact Nat.mul_le_mul_right _ (by omega)
           omega⟩) (nx+1)
          rw[hρ,←zAF]at r1;have ax:Heap.put ((nx,HO.cells st C)::H.del q) nx (.cells st (qp C (0+len*i.size) J))=(nx,HO.cells st (qp C (0+len*i.size) J))::H.del q:=by simp[Heap.put,Nat.beq_refl]
          rw[ax]at r2 r3;obtain⟨c',f',s1,s2⟩:=(q2.trans q1 r3).qn _ _ _ _ b1;have ab:C.take (len*i.size)++J=(qp C (0+len*i.size) J).take (len*i.size+J.length):=by
           unfold qp;rw[QS];exact(List.take_left' (by simp;omega)).symm
          refine⟨_,_,w',zDQ (P:=P) S F Q T W hc r1,r2.qZ ?_,(q2.trans q1 r3).qZ,?_⟩
          .intro ho;obtain⟨cc,ee,ff,Y,a2,a3⟩:=CR.va ho;rw[ab];exact(a3.take _).or Y a2
          .have:=VR.row (E:=E.add nx (E.ρ q)) (w:=w') nx 0 (len+n) i.size (len+n) cap false (.inr rfl) hc l aa hc (λh=>by cases h) ⟨c',M,f',by rw[hρ];exact s1,by omega⟩
           rw[hρ]at this;exact this
         .obtain⟨aq,w',g1,g2,g3,g4⟩:=j (by omega) A
          have p:((nx,HO.cells false ((C.drop 0).take (len*i.size)++J))::H.del q).Sublist ((nx,HO.cells false ((C.drop 0).take (len*i.size)++J))::H):=(Heap.wx H q).cons_cons _;refine⟨_,_,w',g1,(g2.sub p).qZ ?_,(g3.sub p).qZ,g4⟩
          rintro ⟨c,M,f,Y,a2,a3,a4⟩
          exact⟨c,M,f,Y,by simpa using a2,a3.imp id (λ⟨x,_⟩=>by cases x),λi' x hx=>a4 i' x (by simpa using hx)⟩
        .cases h
  ·
   rename_i zz es;split at h
   .cases h;have I:vs=[]:=List.eq_nil_of_length_eq_zero (by simpa using k3)
    subst I;cases hs with
    |wq _ a c ae=>
     refine⟨.slice a 0 c,E,w,?_,R,.refl _,.wq _ a c ae⟩
     rcases F with⟨M,F⟩|F<;>cases a<;>
      simp[Builtin.append_,run_underlying S,run_underlying F,sizeOf,typeInfo,Q,T,W,storeCells]
    |qo _ b o cap a7 f be l ae bc hf hc=>
     refine⟨_,E,w,zDQ (P:=P) S F Q T W (by omega) (by simp[storeCells]),R,.refl _,?_⟩
     exact .qo es b o cap _ f be l ae bc hf hc
   .cases h
  .cases h
end
section
variable{P:Program}{E:Env}{w:World}
theorem zOg:∀{a b:JV},seqb a b=true->a=b
 |[],[],_=>rfl
 |a::x,b::y,h=>by
  simp only[seqb]at h;split at h
  .rename_i c;rw[zb c,zOg h]
  .cases h
 |[],_::_,h=>by simp[seqb]at h
 |_::_,[],h=>by simp[seqb]at h
theorem zUs{k:Kd}{x y:AV}(h:eqb k x y=some true):x=y:=by
 unfold eqb at h;split at h
 .simp at h;rw[h]
 .split at h
  .rename_i hk;rw[zFb hk];simp at h;rw[h]
  .cases h
 .simp only[QK]at h;rw[zOg h]
 .cases h
theorem zSw:∀{d:List Kd}{x y:JE},zBv d x y=some true->x=y
 |[],[],[],_=>rfl
 |k::d,a::x,b::y,h=>by
  simp only[zBv]at h;split at h
  .rename_i e;rw[zUs e,zSw h]
  .cases h
  .cases h
 |[],_::_,_,h=>by simp[zBv]at h
 |[],[],_::_,h=>by simp[zBv]at h
 |_::_,[],_,h=>by simp[zBv]at h
 |_::_,_::_,[],h=>by simp[zBv]at h
theorem zUt{e:Bool}{d:List Kd}{x y:AV}(h:eqk e d x y=some true):x=y:=by
 unfold eqk at h;split at h
 .split at h
  .unfold eqs at h;split at h
   .rw[zSw h]
   .cases h
  .cases h
 .split at h
  .cases h
  .split at h
   .exact zUs h
   .cases h
theorem zDs{q:Bool}{l:List Kd}{e:TypeId}{x y:AV}{n j:Value}{b:Bool}(hk:zA8 P 6 e=some l)(d:agT P e=some q)(hx:VR E w x n)(o:VR E w y j)
  (h:eqk q l x y=some b):(Op.equal e n j).run P w=.ok b w:=by
 unfold eqk at h;split at h
 .split at h
  .unfold eqs at h;split at h
   .rename_i t z;obtain⟨A,rfl,g,_⟩:=hx.qX;obtain⟨B,rfl,m,_⟩:=o.qX;exact zGr hk 9994 _ _ _ _ _ _ _ g m (.inl ⟨d,rfl⟩) (.inl ⟨d,rfl⟩) (by rw[←g.1];exact zb t) (by rw[←m.1];exact zb z) h
   .cases h
  .cases h
 .split at h
  .cases h
  .split at h
   .rename_i k;have r:zBv [k] [x] [y]=some b:=by
     simp only[zBv,h];cases b<;>rfl
    exact zGr hk 9994 _ _ _ _ _ _ _ (VRs.cons hx VRs.nil) (VRs.cons o VRs.nil) (.inr ⟨d,rfl⟩) (.inr ⟨d,rfl⟩) rfl rfl r
   .cases h
theorem zGb:∀{d:Nat}{t:TypeId}{q:List Kd},zA8 P d t=some q->∀(em:Bool)(D:Nat)(vs:JC)(cv:Value),shaped P t vs cv->vs.length=q.length →
  (Instr.checkKey em (D+d) t cv).run P w=.ok () w
 |0,t,q,h=>by simp[zA8]at h
 |d+1,t,q,h=>by
  intro em D vs cv S lv;unfold zA8 at h;have base:(∃k,P.underlying t=some (.int k))\/P.underlying t=some .bool\/P.underlying t=some .string->(Instr.checkKey em (D+(d+1)) t cv).run P w=.ok () w:=by
   rw[←Nat.add_assoc]
   rintro (⟨k,hu⟩|hu|hu)<;>simp[Instr.checkKey,run_underlying hu]
  split at h
  .rename_i e;exact base (.inr (.inl e))
  .rename_i e;exact base (.inl ⟨_,e⟩)
  .rename_i e;exact base (.inr (.inr e))
  .rename_i T e;split at h
   .cases h
   .have C:agT P t=some true:=by simp[agT,e]
    rcases S with⟨_,rfl⟩|⟨h1,_⟩
    rotate_left
    .rw[C]at h1;cases h1
    rw[←Nat.add_assoc];simp only[Instr.checkKey,Sem.run_bind,run_underlying e,Result.andThen_ok];rw[←Array.forIn_toList];have key:∀(l:List Field)(n:Nat)(B:List Kd),zHK P (zA8 P d) n l=some B->n+B.length=vs.length →
      ((forIn l PUnit.unit λf r=>do
       if f.name ≠ "_" then do
         let r ←Go.part f.type vs.toArray f.offset
         let r ←Instr.checkKey em (D+d) f.type r
         pure (ForInStep.yield PUnit.unit)
        else do
         pure (ForInStep.yield PUnit.unit):Sem PUnit)).run P w=.ok PUnit.unit w:=by
     intro l
     induction l with
     |nil=>intro n B _ _;simp
     |cons f r V=>
      intro n B m Y;simp only[zHK]at m;split at m
      .rename_i O s N z A K;split at m
       .rename_i x;split at m
        .rename_i rs F;cases m;have j:O.length=s:=zb x;have o:f.offset=n:=zb z;obtain⟨g,Q,J⟩:=zQL A;have W:(O++rs).length=s+rs.length:=by rw[QJ,j]
         obtain⟨X,M,L⟩:=zIM (P:=P) (w:=w) (xs:=vs.toArray) (t:=f.type) (off:=n) (sz:=s) Q K (λh=>by rw[←j];exact J h) (by simp;omega)
         have U:=zGb A em D _ _ L (by simp;omega)
         have y:f.name ≠ "_":=by simpa using N
         have I:=V (n+s) rs F (by omega)
         simp only[List.forIn_cons,y,ne_eq,not_false_eq_true,if_true,o,Sem.run_bind,M,Result.andThen_ok,U,Sem.run_pure];exact I
        .cases m
       .cases m
      .cases m
    have R:=key T.toList 0 q h (by omega)
    rw[R];rfl
  .cases h
theorem zDn{m:Bool}{j:List Kd}{g:TypeId}{k:AV}{d:Value}{em:Bool}(hk:zA8 P 6 g=some j)(n:agT P g=some m)(q:VR E w k d)(h:zCP m j k=true):
  (Instr.checkKey em 10000 g d).run P w=.ok () w:=by
 have one:m=false->j.length=1->(Instr.checkKey em 10000 g d).run P w=.ok () w:=λe l=>
  zGb hk em 9994 [d] d (.inr ⟨e▸n,rfl⟩) (by rw[l];rfl)
 unfold zCP at h;split at h
 .simp only[qr]at h;obtain⟨o,rfl,r,_⟩:=q.qX;exact zGb hk em 9994 o.toList _ (.inl ⟨h.1▸n,by simp⟩) (by rw[←r.1];exact zb h.2)
 .simp only[qr,Bool.not_eq_true']at h;exact one h.1 (zb h.2)
 .simp only[qr,Bool.not_eq_true']at h;exact one h.1 (zb h.2)
 .simp only[qr,Bool.not_eq_true']at h;exact one h.1 (zb h.2)
 .cases h
theorem zJ5{c:TypeId}{kind:TypeDesc}(hk:P.underlying c=some kind){x y:Value}{b:Bool}(h:Instr.sameNow kind x y=some b):(Op.equal c x y).run P w=.ok b w:=by
 unfold Instr.sameNow at h;split at h
 .split at h
  .rename_i e;subst e;cases h;exact run_equalIn_int w 9999 c _ _ _ _ hk
  .cases h
 .cases h;exact(run_equalIn_string w 9999 c _ _ hk).trans (by rw[beq_toListBytes])
 .cases h;exact run_equalIn_bool w 9999 c _ _ hk
 .cases h
theorem zJa{c:TypeId}{kind:TypeDesc}(hk:P.underlying c=some kind){k:Value}:∀{es:List MapEntry}{i:Nat}{r:Option (Nat×Value)},Instr.findNow kind k es i=some r->(Instr.findAsking c k es i).run P w=.ok r w
 |[],i,r,h=>by simp[Instr.findNow]at h;subst h;simp[Instr.findAsking]
 |e::es,i,r,h=>by
  simp only[Instr.findNow]at h;split at h
  .rename_i b;cases h;simp[Instr.findAsking,zJ5 (P:=P) (w:=w) hk b]
  .rename_i b;have:=zJa hk h;simp[Instr.findAsking,zJ5 (P:=P) (w:=w) hk b,this]
  .cases h
theorem zDX{b:TypeId}{k:Value}{es:List MapEntry}{r:Option (Nat×Value)}(hk:∃kind,P.underlying b=some kind)(h:(Instr.findAsking b k es).run P w=.ok r w):(Instr.findKey b k es).run P w=.ok r w:=by
 obtain⟨kind,hk⟩:=hk;simp only[Instr.findKey,Sem.run_bind,run_underlying hk,Result.andThen_ok];split
 .rename_i d c;have:=zJa (w:=w) hk c;rw[h]at this;cases this;rfl
 .exact h
def ER(E:Env)(w:World)(es:List (AV×AV))(c:List MapEntry):Prop:=
 es.length=c.length/\∀(i:Nat) k x,es[i]?=some (k,x)->∃m,c[i]?=some m/\VR E w k m.key/\VR E w x m.val
theorem ER.of_cons{k x:AV}{es:List (AV×AV)}{c:List MapEntry}(h:ER E w ((k,x)::es) c):∃m b,c=m::b/\VR E w k m.key/\VR E w x m.val/\ER E w es b:=by
 cases c with
 |nil=>have:=h.1;simp at this
 |cons m c=>
  obtain⟨g,h1,d,e⟩:=h.2 0 k x rfl;simp at h1;subst h1;exact⟨m,c,rfl,d,e,by have:=h.1;simpa using this,λi k x f=>by have:=h.2 (i+1) k x (by simpa using f);simpa using this⟩
theorem zNj{z:Bool}{t:List Kd}{n:TypeId}{k:AV}{x:Value}(hk:zA8 P 6 n=some t)(l:agT P n=some z)(q:VR E w k x):∀{es:List (AV×AV)}{c:List MapEntry}{i:Nat}{r:JF},
  ER E w es c->zCV z t k es=some r->∃d:Option (Nat×Value),(Instr.findAsking n x c i).run P w=.ok d w ∧
   (match r with|none=>d=none|some v=>∃j cv,d=some (i+j,cv)/\VR E w v cv/\∃g,es[j]?=some (g,v)/\g=k)
 |[],c,i,r,o,h=>by
  have:c=[]:=by have:=o.1;cases c<;>simp_all
  subst this;simp[zCV]at h;subst h;exact⟨none,by simp[Instr.findAsking],rfl⟩
 |(j,v)::es,c,i,r,o,h=>by
  obtain⟨m,L,rfl,h1,B,F⟩:=o.of_cons;simp only[zCV]at h;split at h
  .rename_i e;cases h;refine⟨some (i,m.val),by simp[Instr.findAsking,zDs hk l q h1 e],0,m.val,rfl,B,j,rfl,(zUt e).symm⟩
  .rename_i e;obtain⟨d,C,y⟩:=zNj hk l q (i:=i+1) F h;refine⟨d,by simp[Instr.findAsking,zDs hk l q h1 e,C],?_⟩
   cases r with
   |none=>exact y
   |some v=>
    obtain⟨A,cv,I,D,g,J,K⟩:=y;exact⟨A+1,cv,by rw[I];congr 2;omega,D,g,by simpa using J,K⟩
  .cases h
theorem zLW{t:TypeId}{z:AV}(h:zJy P t=some z):∃b,(zeroValue t).run P w=.ok b w/\∀{E:Env}{w':World},VR E w' z b:=by
 unfold zJy at h;split at h
 .rename_i i d;split at h
  .rename_i v c;exact⟨v,by simp[zeroValue,typeInfo,d,c],λ{E w'}=>zIl h⟩
  .cases h
 .cases h
theorem VR.of_map{h:Nat}{cv:Value}(b:VR E w (.map h) cv):cv=.map (some (E.ρ h))/\E.D h:=by cases b;exact⟨rfl,by assumption⟩
theorem zHl{v:AV}{cv:Value}{b:Bool}(h:VR E w v cv):VR E w (.qg [v,.bool b]) (.tuple #[cv,.bool b]):=
 VR.qI (VRs.cons h (VRs.cons (.bool b) VRs.nil))
theorem zQN{H:Heap}{M ok:Bool}{K:List Kd}{t D Q:TypeId}{m k z v:AV}{N J:Value}(Y:HR E H w)(o:P.underlying t=some (.map D Q))(hk:zA8 P 6 D=some K)(q:agT P D=some M)
  (V:zJy P Q=some z) (hm:VR E w m N) (L:VR E w k J) (A:zCP M K k=true)
  (h:(m=.qm/\v=(match ok with|true=>.qg [z,.bool false]|false=>z))\/∃C es r,m=.map C/\H.get C=some (.map es)/\zCV M K k es=some r ∧
   v=(match r with|some v=>(match ok with|true=>.qg [v,.bool true]|false=>v)|none=>(match ok with|true=>.qg [z,.bool false]|false=>z))):
  ∃cv,(Instr.lookup t N J ok).run P w=.ok cv w/\VR E w v cv:=by
 obtain⟨F,I,z2⟩:=zLW (w:=w) V;have l:∃kind,P.underlying D=some kind:=by
  unfold agT at q;split at q<;>first|exact⟨_,by assumption⟩|cases q
 rcases h with⟨rfl,rfl⟩|⟨C,es,r,rfl,B,W,rfl⟩
 .cases hm;have g:=zDn (P:=P) (em:=true) hk q L A;have e:=zDX (P:=P) (w:=w) (k:=J) (es:=[]) (r:=none) l (by simp[Instr.findAsking])
  cases ok
  .exact⟨F,by simp[Instr.lookup,run_underlying o,g,e,I],z2⟩
  .exact⟨.tuple #[F,.bool false],by simp[Instr.lookup,run_underlying o,g,e,I],zHl z2⟩
 .obtain⟨rfl,hD⟩:=hm.of_map;obtain⟨c,clock,U,X,y,_⟩:=Y.obj _ (Heap.qi B);have he:ER E w es c.toList:=⟨by simpa using X,λi k x hx=>let ⟨m,a,b,d,_⟩:=y i k x hx;⟨m,by simpa using a,b,d⟩⟩
  obtain⟨S,T,R⟩:=zNj (P:=P) (i:=0) hk q L he W;have g:=zDn (P:=P) (em:=c.isEmpty) hk q L A;have e:=zDX (P:=P) (w:=w) (k:=J) (es:=c.toList) (r:=S) l T;have n:(getObj (E.ρ C)).run P w=.ok (.map c clock) w:=by simp[getObj,Sem.run,U]
  cases r with
  |none=>
   subst R;cases ok
   .exact⟨F,by simp[Instr.lookup,run_underlying o,n,g,e,I],z2⟩
   .exact⟨.tuple #[F,.bool false],by simp[Instr.lookup,run_underlying o,n,g,e,I],zHl z2⟩
  |some v=>
   obtain⟨j,cv,rfl,O,_⟩:=R;cases ok
   .exact⟨cv,by simp[Instr.lookup,run_underlying o,n,g,e],O⟩
   .exact⟨.tuple #[cv,.bool true],by simp[Instr.lookup,run_underlying o,n,g,e],zHl O⟩
theorem zDY{H:Heap}(p:HR E H w){h:Nat}{o o':HO}(n:H.get h=some o){l ob':Obj}(j:w.heap[E.ρ h]?=some l)(m:∀c e f,l≠.cells c e f)
  (k:∀w':World,w'.heap[E.ρ h]?=some ob'->(∀{v cv},VR E w v cv->VR E w' v cv)->OR E w' (E.ρ h) o') (a:Nat):
  ∃w',(setObj (E.ρ h) ob').run P w=.ok () w'/\HR E (H.put h o') w'/\Tr E H w E (H.put h o') w' a a/\∀{v cv},VR E w v cv->VR E w' v cv:=by
 have g:=(Array.getElem?_eq_some_iff.1 j).1;refine⟨{ w with heap:=w.heap.setIfInBounds (E.ρ h) ob' },?_,?_⟩
 .cases l<;>first|exact absurd rfl (m _ _ _)|simp only[setObj,Sem.run,j]
 .refine zIK (w':={ w with heap:=w.heap.setIfInBounds (E.ρ h) ob' }) p n rfl rfl rfl (by simp) (λb i=>?_) (λb c e f d=>?_) (λq=>k _ ?_ q) a
  .show(w.heap.setIfInBounds (E.ρ h) ob')[b]? = _
   rw[Array.getElem?_setIfInBounds,if_neg (Ne.symm i)]
  .refine⟨c,f,?_,rfl⟩
   show(w.heap.setIfInBounds (E.ρ h) ob')[b]? = _
   rw[Array.getElem?_setIfInBounds];split
   .rename_i e;subst e;rw[j]at d;cases d;exact absurd rfl (m _ _ _)
   .exact d
  .show(w.heap.setIfInBounds (E.ρ h) ob')[E.ρ h]? = _
   rw[Array.getElem?_setIfInBounds,if_pos rfl,if_pos g]
theorem zNk{B:Bool}{A:List Kd}{l:TypeId}{k x:AV}{t:Value}(hk:zA8 P 6 l=some A)(g:agT P l=some B)(n:VR E w k t):∀{es d:List (AV×AV)}{c:List MapEntry}{i:Nat},
  ER E w es c->zFT B A k x es=some d →
  ((Instr.findAsking l t c i).run P w=.ok none w/\d=es++[(k,x)])\/∃j cv r,(Instr.findAsking l t c i).run P w=.ok (some (i+j,cv)) w/\es[j]?=some (k,r)/\d=es.set j (k,x)
 |[],d,c,i,z,h=>by
  have:c=[]:=by have:=z.1;cases c<;>simp_all
  subst this;simp[zFT]at h;subst h;exact .inl ⟨by simp[Instr.findAsking],rfl⟩
 |(j,v)::es,d,c,i,z,h=>by
  obtain⟨m,J,rfl,h1,I,D⟩:=z.of_cons;simp only[zFT]at h;split at h
  .rename_i e;cases h;exact .inr ⟨0,m.val,v,by simp[Instr.findAsking,zDs hk g n h1 e],by rw[zUt e];rfl,rfl⟩
  .rename_i e;split at h
   .rename_i F q;cases h;rcases zNk hk g n (i:=i+1) D q with⟨y,rfl⟩|⟨o,cv,r,y,C,rfl⟩
    .exact .inl ⟨by simp[Instr.findAsking,zDs hk g n h1 e,y],rfl⟩
    .refine .inr ⟨o+1,cv,r,?_,by simpa using C,rfl⟩
     have:i+(o+1)=i+1+o:=by omega
     rw[this];simp[Instr.findAsking,zDs hk g n h1 e,y]
   .cases h
  .cases h
theorem zNl{z:Bool}{y:List Kd}{g:TypeId}{k:AV}{r:Value}(hk:zA8 P 6 g=some y)(e:agT P g=some z)(n:VR E w k r):∀{es d:List (AV×AV)}{c:List MapEntry}{i:Nat},
  ER E w es c->zME z y k es=some d →
  ((Instr.findAsking g r c i).run P w=.ok none w/\d=es)\/∃j cv,(Instr.findAsking g r c i).run P w=.ok (some (i+j,cv)) w/\j<es.length/\d=es.eraseIdx j
 |[],d,c,i,x,h=>by
  have:c=[]:=by have:=x.1;cases c<;>simp_all
  subst this;simp[zME]at h;subst h;exact .inl ⟨by simp[Instr.findAsking],rfl⟩
 |(j,v)::es,d,c,i,x,h=>by
  obtain⟨m,D,rfl,h1,C,A⟩:=x.of_cons;simp only[zME]at h;split at h
  .rename_i l;cases h;exact .inr ⟨0,m.val,by simp[Instr.findAsking,zDs hk e n h1 l],by simp,rfl⟩
  .rename_i l;split at h
   .rename_i B q;cases h;rcases zNl hk e n (i:=i+1) A q with⟨t,rfl⟩|⟨o,cv,t,F,rfl⟩
    .exact .inl ⟨by simp[Instr.findAsking,zDs hk e n h1 l,t],rfl⟩
    .refine .inr ⟨o+1,cv,?_,by simp;omega,rfl⟩
     have:i+(o+1)=i+1+o:=by omega
     rw[this];simp[Instr.findAsking,zDs hk e n h1 l,t]
   .cases h
  .cases h
theorem zMp{k:AV}{c1 c2:Value}(h1:VR E w k c1)(b:VR E w k c2):∃c w',(Instr.keyThatStays c1 c2).run P w=.ok c w'/\World.vH w w'/\VR E w k c:=by
 unfold Instr.keyThatStays;split
 .exact⟨c2,w,rfl,.refl w,b⟩
 .simp only[Sem.run_bind,run_choose];have pick:∀(n:Nat),VR E w k (if n=0 then c2 else c1):=λn=>by split<;>assumption
  split
  .exact⟨_,w,rfl,.refl w,pick 0⟩
  .exact⟨_,_,rfl,.mk w _,pick _⟩
theorem zLA{w':World}(c:World.vH w w'){v:AV}{cv:Value}(h:VR E w v cv):VR E w' v cv:=
 h.mono (λ_ h=>⟨h,rfl⟩) (λb h=>⟨h,by rw[c.1]⟩) (.of_heap c.1)
theorem zS8{H:Heap}{nx:Nat}{ag:Bool}{ks:List Kd}{t X et:TypeId}{K:Nat}{k x:AV}{cm Q C:Value}{es F:List (AV×AV)}(hr:HR E H w)(ht:P.underlying t=some (.map X et))(hk:zA8 P 6 X=some ks)(O:agT P X=some ag)
  (hm:VR E w (.map K) cm) (Y:VR E w k Q) (hx:VR E w x C) (aa:zCP ag ks k=true) (q:H.get K=some (.map es)) (h:zFT ag ks k x es=some F):
  ∃w',(Instr.mapUpdate t cm Q C).run P w=.ok () w'/\HR E (H.put K (.map F)) w'/\Tr E H w E (H.put K (.map F)) w' nx nx:=by
 obtain⟨rfl,hD⟩:=hm.of_map;obtain⟨c,clock,hb,T,l,r⟩:=hr.obj _ (Heap.qi q);have o:∃kind,P.underlying X=some kind:=by
  unfold agT at O;split at O<;>first|exact⟨_,by assumption⟩|cases O
 have he:ER E w es c.toList:=⟨by simpa using T,λi k x hx=>let ⟨m,a,b,d,_⟩:=l i k x hx;⟨m,by simpa using a,b,d⟩⟩
 have M:=zDn (P:=P) (em:=false) hk O Y aa;have U:(getObj (E.ρ K)).run P w=.ok (.map c clock) w:=by simp[getObj,Sem.run,hb]
 rcases zNk (P:=P) (i:=0) hk O Y he h with⟨e1,rfl⟩|⟨j,cv,x',e1,e2,rfl⟩
 .have A:=zDX o e1;obtain⟨w',s1,s2,s3,_⟩:=zDY (P:=P) hr q hb (λ_ _ _ h=>by cases h) (ob':=.map (c.push { key:=Q,val:=C,born:=clock }) (clock+1)) (o':=.map (es++[(k,x)])) (λw' I hm=>by
   refine⟨_,_,I,by simp[T],λi k' v' g=>?_,λi j m n g D z=>?_⟩
   .rw[List.getElem?_append]at g;split at g
    .rename_i N;obtain⟨m,R,a2,a3,a4⟩:=l i k' v' g;exact⟨m,by rw[Array.getElem?_push,if_neg (by omega)];exact R,hm a2,hm a3,by omega⟩
    .rename_i ae;have ab:i=es.length:=by
      have:=(QC.1 g).1;simp at this;omega
     subst ab;simp at g;obtain⟨rfl,rfl⟩:=g;exact⟨{ key:=Q,val:=C,born:=clock },by rw[Array.getElem?_push,if_pos T],hm Y,hm hx,QR _⟩
   .have L:∀{i:Nat}{m:MapEntry},c[i]?=some m->m.born<clock:=λ{i m} g=>by
     have N:i<es.length:=by rw[T];exact(Array.getElem?_eq_some_iff.1 g).1
     obtain⟨V,W,_,_,b4⟩:=l i (es[i]).1 (es[i]).2 (by simp[N])
     rw[g]at W;cases W;exact b4
    rw[Array.getElem?_push]at g D;split at g<;>split at D
    .omega
    .cases g;have:=L D;simp at z;omega
    .cases D;have:=L g;simp at z;omega
    .exact r i j m n g D z) nx
  exact⟨w',by simp[Instr.mapUpdate,run_underlying ht,U,M,A,s1],s2,s3⟩
 .have A:=zDX o e1;rw[QS]at A;obtain⟨m,R,a2,a3,a4⟩:=l j k x' e2;obtain⟨kk,w1,q1,J,q3⟩:=zMp (P:=P) a2 Y;obtain⟨d1,d2⟩:=zFl hr J nx;have ac:w1.heap[E.ρ K]?=some (.map c clock):=by rw[J.1];exact hb
  have ad:j<c.size:=(Array.getElem?_eq_some_iff.1 R).1;obtain⟨w',s1,s2,s3,_⟩:=zDY (P:=P) d1 q ac (λ_ _ _ h=>by cases h) (ob':=.map (c.modify j λe=>{ e with key:=kk,val:=C }) clock) (o':=.map (es.set j (k,x))) (λw' I hm=>by
   refine⟨_,_,I,by simp[T],λi k' v' g=>?_,λi i' m1 n1 g D z=>?_⟩
   .rw[List.getElem?_set]at g;rw[Array.getElem?_modify];split at g
    .rename_i e;subst e;split at g
     .cases g;exact⟨{ m with key:=kk,val:=C },by simp[R],hm (zLA J q3),hm (zLA J hx),a4⟩
     .cases g
    .rename_i e;obtain⟨V,W,b2,b3,b4⟩:=l i k' v' g;exact⟨V,by rw[if_neg e];exact W,hm (zLA J b2),hm (zLA J b3),b4⟩
   .have B:∀{i:Nat}{m:MapEntry},(c.modify j λe=>{ e with key:=kk,val:=C })[i]?=some m->∃V,c[i]?=some V/\V.born=m.born:=λ{i m} g=>by
     rw[Array.getElem?_modify]at g;split at g
     .cases hc:c[i]? with
      |none=>simp[hc]at g
      |some y=>simp[hc]at g;exact⟨y,rfl,by rw[←g]⟩
     .exact⟨m,g,rfl⟩
    obtain⟨p1,p2,p3⟩:=B g;obtain⟨r1,r2,r3⟩:=B D;exact r i i' p1 r1 p2 r2 (by omega)) nx
  refine⟨w',?_,s2,d2.trans d1 s3⟩
  have S:((c[j]?).map (·.key)).getD Q=m.key:=by simp[R]
  simp[Instr.mapUpdate,run_underlying ht,U,M,A,S,q1,s1]
theorem zUu{H:Heap}{nx:Nat}{X:Bool}{N:List Kd}{t L et ty:TypeId}{ts:Array TypeId}{C:Nat}{k:AV}{cm ck:Value}{es y:List (AV×AV)}(R:HR E H w)(Y:P.underlying t=some (.map L et))(hk:zA8 P 6 L=some N)(D:agT P L=some X)
  (J:ts[0]?=some t) (hm:VR E w (.map C) cm) (hv:VR E w k ck) (U:zCP X N k=true) (o:H.get C=some (.map es)) (h:zME X N k es=some y):
  ∃w',(Builtin.delete_ ts ty #[cm,ck]).run P w=.ok (.tuple #[]) w'/\HR E (H.put C (.map y)) w'/\Tr E H w E (H.put C (.map y)) w' nx nx:=by
 obtain⟨rfl,hD⟩:=hm.of_map;obtain⟨c,clock,M,Q,l,g⟩:=R.obj _ (Heap.qi o);have n:∃kind,P.underlying L=some kind:=by
  unfold agT at D;split at D<;>first|exact⟨_,by assumption⟩|cases D
 have he:ER E w es c.toList:=⟨by simpa using Q,λi k x T=>let ⟨m,a,b,d,_⟩:=l i k x T;⟨m,by simpa using a,b,d⟩⟩
 have K:=zDn (P:=P) (em:=c.isEmpty) hk D hv U;have I:(getObj (E.ρ C)).run P w=.ok (.map c clock) w:=by simp[getObj,Sem.run,M]
 rcases zNl (P:=P) (i:=0) hk D hv he h with⟨W,rfl⟩|⟨j,cv,W,e2,rfl⟩
 .have z:=zDX n W;obtain⟨w',S,O,V,_⟩:=zDY (P:=P) R o M (λ_ _ _ h=>by cases h) (ob':=.map c clock) (o':=.map y) (λw' A hm=>
   ⟨c,clock,A,Q,λi k x T=>let ⟨m,a,b,d,e⟩:=l i k x T;⟨m,a,hm b,hm d,e⟩,g⟩) nx
  exact⟨w',by simp[Builtin.delete_,J,run_underlying Y,I,K,z,S],O,V⟩
 .have z:=zDX n W;rw[QS]at z;have F:∀(i:Nat),(c.eraseIdxIfInBounds j)[i]? = if i<j then c[i]? else c[i+1]?:=λi=>by
   rw[←Array.getElem?_toList,Array.toList_eraseIdxIfInBounds,List.getElem?_eraseIdx];split<;>simp
  obtain⟨w',S,O,V,_⟩:=zDY (P:=P) R o M (λ_ _ _ h=>by cases h) (ob':=.map (c.eraseIdxIfInBounds j) clock) (o':=.map (es.eraseIdx j)) (λw' A hm=>by
   refine⟨_,_,A,?_,λi k' v' q=>?_,λi i' m1 n1 q B r=>?_⟩
   .have e3:(c.eraseIdxIfInBounds j).size=(c.toList.eraseIdx j).length:=by rw[←Array.length_toList,Array.toList_eraseIdxIfInBounds]
    have e4:c.toList.length=es.length:=by rw[Q];rfl
    rw[e3,List.length_eraseIdx,List.length_eraseIdx,e4]
   .rw[List.getElem?_eraseIdx]at q;rw[F];split at q
    .obtain⟨m,a,b,d,e⟩:=l _ _ _ q;exact⟨m,by rw[if_pos (by assumption)];exact a,hm b,hm d,e⟩
    .obtain⟨m,a,b,d,e⟩:=l _ _ _ q;exact⟨m,by rw[if_neg (by assumption)];exact a,hm b,hm d,e⟩
   .rw[F]at q B;split at q<;>split at B
    .exact g _ _ _ _ q B r
    .have:=g _ _ _ _ q B r;omega
    .have:=g _ _ _ _ q B r;omega
    .have:=g _ _ _ _ q B r;omega) nx
  exact⟨w',by simp[Builtin.delete_,J,run_underlying Y,I,K,z,S],O,V⟩
end
section
variable{P:Program}{E:Env}{w:World}
theorem zKD{b:Nat}{c:JB}{e:TypeId}{f:Nat×Nat}(h:w.heap[b]?=some (.cells c e f)):(viewAt b).run P w=.ok none w:=by
 simp[viewAt,World.shape?,h]
theorem zIm{b o:Nat}{c:JB}{e:TypeId}{f:Nat×Nat}(h:w.heap[b]?=some (.cells c e f))(d:f.2=f.1):w.frozen? ⟨b,o,none⟩=false:=by
 obtain⟨g,i⟩:=f;simp[World.frozen?,h];simp at d;omega
theorem zKE{b o:Nat}{c:JB}{e:TypeId}{f:Nat×Nat}(h:w.heap[b]?=some (.cells c e f))(d:f.2=f.1):(stringish ⟨b,o,none⟩).run P w=.ok false w:=by
 have h1:w.frozen? ⟨b,o,none⟩=false:=zIm h d;have g:w.frozen? { block:=b,off:=c.size }=false:=zIm h d;simp[stringish,h1,World.shape?,h,g]
theorem zLX{H:Heap}(g:HR E H w){h:Nat}(b:zLw (H.get h)=true):∃(c:JB) (e:TypeId) (f:Nat×Nat),w.heap[E.ρ h]?=some (Obj.cells c e f)/\f.2=f.1/\∃o,(h,o)∈H:=by
 unfold zLw at b;split at b
 .rename_i l i;have d:=Heap.qi i;obtain⟨c,e,f,h1,k,j,_⟩:=g.obj _ d;exact⟨c,e,f,h1,j.elim id (λ⟨x,_⟩=>by cases x),_,d⟩
 .cases b
theorem zUv{H:Heap}{x y:AV}{A z:Value}{b:Bool}{t e:TypeId}{n d:Nat}(u:HR E H w)(hx:VR E w x A)(f:VR E w y z)(h:zJT H x y=some b)(c:P.underlying t=some (.pointer e))
  (K:zH P e=some (n+1)):(Op.equalIn (d+1) t A z).run P w=.ok b w:=by
 unfold zJT at h;split at h
 .cases h;cases hx;cases f;simp[Op.equalIn,run_underlying c]
 .cases h;cases hx;cases f;simp[Op.equalIn,run_underlying c]
 .cases h;cases hx;cases f;simp[Op.equalIn,run_underlying c]
 .cases h;cases hx;cases f;simp[Op.equalIn,run_underlying c]
 .cases h;cases hx;cases f;simp[Op.equalIn,run_underlying c]
 .rename_i h1 k i j;split at h
  .rename_i i1;split at h
   .rename_i i2;obtain⟨rfl,_⟩:=hx.wz;obtain⟨rfl,_⟩:=f.wz;obtain⟨c1,L,f1,l,a2,N,m1⟩:=zLX u i1;obtain⟨c2,I,f2,g,B,M,m2⟩:=zLX u i2;simp only[QK]at h;have p:(n+1≠0):=by omega
    simp only[Op.equalIn,Sem.run_bind,run_underlying c,Result.andThen_ok,zAk K,p,ne_eq,not_false_eq_true,if_true];unfold sameAddr;by_cases q:h1=i
    .subst q;simp only[BEq.rfl,if_true,Sem.run_pure];subst h;congr 1;rw[Nat.beq_refl,Bool.true_and];by_cases r:k=j
     .subst r;simp
     .have:Nat.beq k j=false:=by rw[Bool.eq_false_iff];exact λs=>r (zb s)
      rw[this];simp[r]
    .have m:E.ρ h1≠E.ρ i:=λe=>q (u.inj _ m1 _ m2 e)
     have C:Nat.beq h1 i=false:=by rw[Bool.eq_false_iff];exact λs=>q (zb s)
     rw[C,Bool.false_and]at h;subst h;have g1:=zIm (o:=k) l a2;have v1:=zKD (P:=P) l;have v2:=zKD (P:=P) g;have J:=zKE (P:=P) (o:=k) l a2;have D:=zKE (P:=P) (o:=j) g B;have F:w.shape? (E.ρ h1)=some (L,c1.size):=by simp[World.shape?,l]
     have z2:w.shape? (E.ρ i)=some (I,c2.size):=by simp[World.shape?,g]
     have g2:=zIm (o:=j) g B;simp[m,g1,g2,noView,v1,v2,mayBeOne,J,D,F,z2]
   .cases h
  .cases h
 .cases h
theorem zUw{t:TypeId}{c d:Value}{b:Bool}(h:(Op.equalIn 10000 t c d).run P w=.ok b w)(h1:∀j a k b,¬(c=.int j a/\d=.int k b))(e:∀j a k b,¬(c=.float j a/\d=.float k b))
  (m:∀j a f k b l,¬(c=.complex j a f/\d=.complex k b l)) (g:∀a b,¬(c=.string a/\d=.string b)):
  (binOp .eql t c d).run P w=.ok (.bool b) w/\(binOp .neq t c d).run P w=.ok (.bool (!b)) w:=by
 have i:(Op.equal t c d).run P w=.ok b w:=h;cases c<;>cases d<;>first
  |(exact absurd ⟨rfl,rfl⟩ (h1 _ _ _ _))
  |(exact absurd ⟨rfl,rfl⟩ (e _ _ _ _))
  |(exact absurd ⟨rfl,rfl⟩ (m _ _ _ _ _ _))
  |(exact absurd ⟨rfl,rfl⟩ (g _ _))
  |(constructor<;>simp[binOp,i])
theorem zVI{neg:Bool}{t:TypeId}{op:BinOp}{c d:Value}{b:Bool}(h:(binOp .eql t c d).run P w=.ok (.bool b) w/\(binOp .neq t c d).run P w=.ok (.bool (!b)) w)
  (e:(neg=false/\op=.eql)\/(neg=true/\op=.neq)):∃cv,(binOp op t c d).run P w=.ok cv w/\VR E w (zBu neg b) cv:=by
 rcases e with⟨rfl,rfl⟩|⟨rfl,rfl⟩
 .exact⟨_,h.1,.bool _⟩
 .exact⟨_,h.2,.bool _⟩
end
section
variable{P:Program}{E:Env}{w:World}
theorem zIN{n i:Nat}{x:AV}{c:Value}(hx:VR E w x c)(h:zEg n x=some i):∃k,c=.int k (i:Int)/\i<n:=by
 unfold zEg at h;split at h
 .rename_i k m;split at h
  .rename_i b;cases h;obtain⟨rfl,_⟩:=hx.of_int;exact⟨k,rfl,by rw[Qg]at b;exact b⟩
  .cases h
 .cases h
theorem zUx{es:JE}{e x:AV}{b:Value}(hx:VR E w x b)(h:idx es x=some e):∃k i,b=.int k ((i:Nat):Int)/\es[i]?=some e:=by
 unfold idx at h;split at h
 .rename_i k m;obtain⟨rfl,_⟩:=hx.of_int;exact⟨k,m,rfl,h⟩
 .cases h
theorem zOQ{d top n:Nat}{x:AV}{c:Value}(hx:VR E w x c)(h:bnd (some x) d top=some n):∃k,c=.int k (n:Int)/\n<=top:=by
 unfold bnd at h;split at h
 .rename_i e;cases e
 .rename_i k m e;cases e;split at h
  .rename_i b;cases h;obtain⟨rfl,_⟩:=hx.of_int;exact⟨k,rfl,QN b⟩
  .cases h
 .cases h
theorem zKF{k:IntKind}{n top:Nat}(h:n<=top)(code:BoundsCode):(Instr.sliceBound (.int k (n:Int)) top code).run P w=.ok n w:=by
 simp[Instr.sliceBound,asIntOf,h]
def OV(E:Env)(w:World):JF->Option Value->Prop
 |none,none=>True
 |some x,some v=>VR E w x v
 |_,_=>False
theorem zBd{d top n:Nat}{x:JF}{b:Option Value}(hx:OV E w x b)(h:bnd x d top=some n):(b=none/\n=d)\/∃k,b=some (.int k (n:Int))/\n<=top:=by
 cases x with
 |none=>
  cases b with
  |none=>simp[bnd]at h;exact .inl ⟨rfl,h.symm⟩
  |some v=>exact hx.elim
 |some x=>
  cases b with
  |none=>exact hx.elim
  |some v=>
   obtain⟨k,rfl,c⟩:=zOQ hx h;exact .inr ⟨k,rfl,c⟩
theorem zDZ{sl:Bool}{len cap t l top:Nat}{lo j:JF}{c b:Option Value}(h1:OV E w j b)(d:OV E w lo c)(m:bnd j len top=some t)(f:bnd lo 0 t=some l)(g:len<=cap)(n:top<=cap):
  (Instr.sliceBounds sl len cap c b none).run P w=.ok (l,t,cap) w/\l<=t/\t<=cap:=by
 have e:t<=cap:=by
  rcases zBd h1 m with⟨_,rfl⟩|⟨k,_,h⟩<;>omega
 have i:l<=t:=by
  rcases zBd d f with⟨_,rfl⟩|⟨k,_,h⟩<;>omega
 refine⟨?_,i,e⟩
 rcases zBd h1 m with⟨rfl,rfl⟩|⟨k,rfl,_⟩<;>rcases zBd d f with⟨rfl,rfl⟩|⟨o,rfl,_⟩<;>
  simp[Instr.sliceBounds,zKF,i,e]
theorem zRL{len cap m t l top:Nat}{lo p:JF}{j:AV}{c b:Option Value}{e:Value}(h1:OV E w p b)(g:OV E w lo c)(s:VR E w j e)(r:bnd (some j) 0 top=some m)(u:bnd p len m=some t)
  (n:bnd lo 0 t=some l) (f:b≠none) (q:top<=cap):(Instr.sliceBounds true len cap c b (some e)).run P w=.ok (l,t,m) w/\l<=t/\t<=m/\m<=cap:=by
 obtain⟨k,rfl,z⟩:=zOQ s r;have d:m<=cap:=by omega
 rcases zBd h1 u with⟨rfl,_⟩|⟨x,rfl,i⟩
 .exact absurd rfl f
 .have o:l<=t:=by
   rcases zBd g n with⟨_,rfl⟩|⟨k,_,h⟩<;>omega
  refine⟨?_,o,i,d⟩
  rcases zBd g n with⟨rfl,rfl⟩|⟨y,rfl,_⟩<;>simp[Instr.sliceBounds,zKF,o,i,d]
theorem zRM{sz:Nat}{t e:TypeId}{lo D mx:JF}{x v:AV}{s q p:Option Value}{O:Value}(ht:P.underlying t=some (.slice e))(hs:zH P e=some sz)(ae:0<sz)
  (hx:VR E w x O) (h1:OV E w D q) (J:OV E w lo s) (Q:OV E w mx p) (T:p≠none->q≠none) (h:zFU sz lo D mx x=some v):
  ∃cv,(Instr.sliceAt t O s q p).run P w=.ok cv w/\VR E w v cv:=by
 have r:∀{a:Option Addr}{len cap l g m:Nat},O=.slice a len cap->(Instr.sliceBounds true len cap s q p).run P w=.ok (l,g,m) w →
   (Instr.sliceAt t O s q p).run P w=.ok (.slice (if m=l then a else a.map (·.add (l*sz))) (g-l) (m-l)) w:=by
  intro a len cap l g m e1 C;subst e1;simp[Instr.sliceAt,Instr.slice,run_underlying ht,C,zAk hs]
 unfold zFU at h;split at h
 ·
  cases hx;split at h
  .rename_i m Y;split at h
   .rename_i g n;split at h
    .rename_i l A;cases h;have ab:m=0:=by rcases zBd Q Y with⟨_,rfl⟩|⟨_,_,h⟩<;>omega
     subst ab;have M:g=0:=by rcases zBd h1 n with⟨_,rfl⟩|⟨_,_,h⟩<;>omega
     subst M;have K:l=0:=by rcases zBd J A with⟨_,rfl⟩|⟨_,_,h⟩<;>omega
     subst K;have C:(Instr.sliceBounds true 0 0 s q p).run P w=.ok (0,0,0) w:=by
      rcases zBd Q Y with⟨rfl,_⟩|⟨k,rfl,_⟩
      .exact(zDZ (P:=P) h1 J n A (QA _) (QA _)).1
      .rcases zBd h1 n with⟨rfl,_⟩|⟨k1,rfl,_⟩
       .exact absurd rfl (T (by simp))
       .rcases zBd J A with⟨rfl,_⟩|⟨k2,rfl,_⟩<;>simp[Instr.sliceBounds,zKF,Instr.sliceBound,asIntOf]
     refine⟨_,r rfl C,?_⟩
     simp;exact .qa
    .cases h
   .cases h
  .cases h
 ·
  rename_i aa R;split at h
  .cases h
  rename_i N;have:=zb N;subst this;split at h
  .cases h
  cases p with
  |some _=>exact Q.elim
  |none=>
   split at h
   .rename_i g n;split at h
    .rename_i l A;cases h;cases hx with
     |wq _ a c hc=>
      have M:g=0:=by rcases zBd h1 n with⟨_,h⟩|⟨_,_,h⟩<;>simpa using h
      subst M;have K:l=0:=by rcases zBd J A with⟨_,h⟩|⟨_,_,h⟩<;>omega
      subst K;obtain⟨C,_,_⟩:=zDZ (P:=P) (sl:=true) (cap:=c) h1 J n A (by simp) (by simp)
      refine⟨_,r rfl C,?_⟩
      simp only[List.take_zero,List.drop_nil,Nat.sub_self];exact .wq _ _ _ (by omega)
     |qo _ b o cap _ f hz z ah ac hf hc=>
      obtain⟨C,ag,af⟩:=zDZ (P:=P) (sl:=true) h1 J n A z z;have aj:g<=R.length:=by rcases zBd h1 n with⟨_,rfl⟩|⟨_,_,h⟩<;>omega
      refine⟨_,r rfl C,?_⟩
      have d:((R.take g).drop l).length=g-l:=by simp;omega
      by_cases X:cap=l
      .have:(R.take g).drop l=[]:=List.eq_nil_of_length_eq_zero (by omega)
       rw[this,if_pos X];have:g-l=0:=by omega
       rw[this];exact .wq _ _ _ (by omega)
      .rw[if_neg X];simp only[Option.map_some,zAF];have get:∀(i:Nat),i<g-l->((R.take g).drop l)[i]? = R[l+i]?:=λi D=>by
        rw[List.getElem?_drop,List.getElem?_take,if_pos (by omega)]
       have:=VR.qo (E:=E) (w:=w) ((R.take g).drop l) b (o+l*sz) (cap-l) sz (λi=>f (l+i)) hz (by omega) (by omega)
        (λi e F=>by
         have D:i<g-l:=by rw[←d];exact(QC.1 F).1
         rw[get i D]at F;exact ac _ _ F)
        (λi e F=>by
         have D:i<g-l:=by rw[←d];exact(QC.1 F).1
         rw[get i D]at F;exact hf _ _ F)
        (λi D=>by
         rw[d]at D;obtain⟨q1,q2⟩:=hc (l+i) (by omega)
         refine⟨q1,λj c hj=>?_⟩
         have:=q2 j c hj;rw[Nat.add_mul]at this;have e3:o+l*sz+i*sz+j=o+(l*sz+i*sz)+j:=by omega
         rw[e3];exact this)
       rw[d]at this;exact this
    .cases h
   .cases h
 ·
  rename_i hd off len aa cp ex;split at h
  .cases h
  rename_i N;have:=zb N;subst this;have S:∀{m g l:Nat}{L:Bool}{u:Nat},(∀{a:Option Addr}{cap:Nat},O=.slice a len cap->cp<=cap->(ex=true->cap=cp)->len<=cap →
    ∃B,(Instr.sliceBounds true len cap s q p).run P w=.ok (l,g,B) w/\l<=g/\g<=B/\B<=cap/\u<=B-l/\(L=true->B-l=u)) →
    ∃cv,(Instr.sliceAt t O s q p).run P w=.ok cv w/\VR E w (.row hd (off+l*sz) (g-l) sz u L) cv:=by
   intro m g l L u C;cases hx with
   |wm _ _ _ _ a=>
    obtain⟨B,b1,b2,b3,b4,b5,b6⟩:=C rfl (QA _) (λ_=>rfl) (QA _)
    refine⟨_,r rfl b1,?_⟩
    have:B=0:=by omega
    subst this;have:l=0:=by omega
    subst this;have:g=0:=by omega
    subst this;have:u=0:=by omega
    subst this;simp;exact .wm _ _ _ _ _
   |row _ _ _ _ _ cap _ hD d z V y I ad=>
    obtain⟨B,b1,b2,b3,b4,b5,b6⟩:=C rfl y I d;refine⟨_,r rfl b1,?_⟩
    by_cases U:B=l
    .subst U;have:g-B=0:=by omega
     rw[this,if_pos rfl];have:u=0:=by omega
     subst this;rw[Nat.sub_self];exact .wm _ _ _ _ _
    .rw[if_neg U];simp only[Option.map_some,zAF];obtain⟨c,e',f,a1,a2⟩:=ad;refine .row _ _ _ _ _ _ _ hD (by omega) (by omega) V b5 b6 ⟨c,e',f,a1,?_⟩
     have:l*sz+(B-l)*sz<=cap*sz:=by rw[←Nat.add_mul];exact Nat.mul_le_mul_right _ (by omega)
     omega
  split at h
  .rename_i mv;cases p with
   |none=>exact Q.elim
   |some ai=>
    split at h
    .rename_i m Y;split at h
     .rename_i g n;split at h
      .rename_i l A;cases h;refine S (m:=m) λ{a cap} e1 y I d=>?_
       obtain⟨c1,c2,c3,c4⟩:=zRL (P:=P) (cap:=cap) h1 J Q Y n A (T (by simp)) y
       exact⟨m,c1,c2,c3,c4,QA _,λ_=>rfl⟩
      .cases h
     .cases h
    .cases h
  .cases p with
   |some _=>exact Q.elim
   |none=>
    split at h
    .rename_i g n;split at h
     .rename_i l A;cases h;refine S (m:=0) λ{a cap} e1 y I d=>?_
      have W:Nat.max len cp<=cap:=Nat.max_le.2 ⟨d,y⟩;obtain⟨c1,c2,c3⟩:=zDZ (P:=P) (sl:=true) (cap:=cap) h1 J n A d W;refine⟨cap,c1,c2,c3,QA _,by omega,λF=>?_⟩
      have:=I F;have:Nat.max len cp=cap:=by rw[this];exact Nat.max_eq_right (by omega)
      omega
     .cases h
    .cases h
 .cases h
theorem zS9{t:TypeId}{s:JV}{lo h:JF}{c b:Option Value}{f:Value}{h' l:Nat}(k:P.underlying t=some .string)(hx:VR E w (.str s) f)(h1:OV E w h b)(j:OV E w lo c)
  (o:bnd h s.length s.length=some h') (n:bnd lo 0 h'=some l):∃cv,(Instr.sliceAt t f c b none).run P w=.ok cv w/\VR E w (.str ((s.take h').drop l)) cv:=by
 obtain⟨e,rfl,g,q⟩:=hx.q9;have d:=zGa g;obtain⟨m,p,r⟩:=zDZ (P:=P) (sl:=false) (cap:=e.size) (w:=w) h1 j (d▸o) n (QA _) (QA _)
 refine⟨.string (e.extract l h'),by simp[Instr.sliceAt,Instr.slice,run_underlying k,m],.str _ _ ?_ ?_⟩
 .rw[←g,ByteArray.data_extract,Array.toList_extract,List.extract_eq_take_drop,←List.map_take,←List.map_drop,List.drop_take]
 .have:=Qv (i:=l) (l:=s.take h');simp;omega
theorem zTa{t:TypeId}{s:JV}{b n:Nat}{g:Value}{k:IntKind}(i:P.underlying t=some .string)(hx:VR E w (.str s) g)(h:s[n]?=some b):
  ∃cv,(Instr.index t g (.int k (n:Int))).run P w=.ok cv w/\VR E w (.int .u8 (b:Int)) cv:=by
 obtain⟨d,rfl,l,m⟩:=hx.q9;subst l;rw[Qb]at h;cases hb:d.data.toList[n]? with
 |none=>simp[hb]at h
 |some c=>
  simp only[hb,Option.map_some,QK]at h;subst h;have j:d[n]?=some c:=by
   have f:n<d.data.toList.length:=(QC.1 hb).1;have e:n<d.size:=f;rw[getElem?_pos d n e];have:=(QC.1 hb).2;simp at this;rw[←this];rfl
  refine⟨.int .u8 c.toNat,by simp[Instr.index,run_underlying i,asIntOf,j],.int _ _ ?_⟩
  have:=c.toNat_lt
  constructor<;>simp[IntKind.min,IntKind.max,IntKind.signed,IntKind.bits]<;>omega
theorem zTb{t e:TypeId}{n sz i:Nat}{f:Bool}{cs:JE}{x v:AV}{c ci:Value}(j:P.underlying t=some (.array n e))(d:zH P e=some sz)(l:agT P e=some f)(hx:VR E w (.agg cs) c)
  (m:VR E w x ci) (h1:zEg n x=some i) (h:part cs (i*sz) sz f=some v):∃cv,(Instr.index t c ci).run P w=.ok cv w/\VR E w v cv:=by
 obtain⟨k,rfl,b⟩:=zIN m h1;obtain⟨q,rfl,q1,p⟩:=hx.qX;obtain⟨cv,g,o⟩:=zNg q1 p d l h;exact⟨cv,by simp[Instr.index,run_underlying j,asIntOf,zAk d,b,g],o⟩
theorem zKG{t e:TypeId}{n sz i:Nat}{x:AV}{ci:Value}{a:Addr}(c:P.underlying t=some (.array n e))(d:zH P e=some sz)(f:VR E w x ci)(h1:zEg n x=some i):
  (Instr.indexAt t (.pointer (some a)) ci).run P w=.ok (.pointer (some (a.add (i*sz)))) w:=by
 obtain⟨k,rfl,b⟩:=zIN f h1;simp[Instr.indexAt,run_underlying c,asIntOf,zAk d,b,Instr.sureAddr]
theorem zKH{t e:TypeId}{sz:Nat}{x i v:AV}{r ci:Value}(q:P.underlying t=some (.slice e))(z:zH P e=some sz)(hx:VR E w x r)(A:VR E w i ci)
  (h:(∃c es y,x=.qo c es/\Nat.beq sz c=true/\idx es i=some y/\v=.qc y 0)\/∃l off len c cp ex n,x=.row l off len c cp ex/\Nat.beq sz c=true/\zEg len i=some n/\v=.ptr l (off+n*sz)):
  ∃cv,(Instr.indexAt t r ci).run P w=.ok cv w/\VR E w v cv:=by
 rcases h with⟨c,es,y,rfl,g,h1,rfl⟩|⟨l,off,len,c,cp,ex,n,rfl,g,h1,rfl⟩
 .have:=zb g;subst this;obtain⟨k,n,rfl,p⟩:=zUx A h1;have d:n<es.length:=(QC.1 p).1;cases hx with
  |wq=>simp at d
  |qo _ b o cap _ f F j C m I hc=>
   refine⟨.pointer (some ⟨b,o+n*sz,none⟩),by simp[Instr.indexAt,run_underlying q,asIntOf,zAk z,d,zAF],?_⟩
   exact .qc y 0 b (o+n*sz) (f n) (m n y p) F (I n y p) (hc n d).2
 .have:=zb g;subst this;obtain⟨k,rfl,d⟩:=zIN A h1;cases hx with
  |wm=>omega
  |row _ _ _ _ _ cap _ D s j u B K J=>
   exact⟨.pointer (some ⟨E.ρ l,off+n*sz,none⟩),by simp[Instr.indexAt,run_underlying q,asIntOf,zAk z,d,zAF],.ptr _ _ D⟩
theorem zLY{s:TypeId}{c:Array Field}{f:Field}{i n:Nat}{b o:Nat}(e:P.underlying s=some (.struct c))(d:c[i]?=some f)(g:zH P f.type=some (n+1)):
  (Instr.fieldAt s (.pointer (some ⟨b,o,none⟩)) i).run P w=.ok (.pointer (some ⟨b,o+f.offset,none⟩)) w:=by
 simp[Instr.fieldAt,run_underlying e,d,Instr.sureAddr,fieldPlace,zAk g,zAF]
theorem zLZ(off:Nat):∀(vs:JC)(j:Nat)(cells:JB),off+j+vs.length<=cells.size →
  ((vs.zipIdx j).foldl (λcs x=>cs.setIfInBounds (off+x.2) x.1) cells).toList=cells.toList.take (off+j)++vs++cells.toList.drop (off+j+vs.length)
 |[],j,cells,_=>by simp
 |v::vs,j,cells,h=>by
  simp only[List.zipIdx_cons,List.foldl_cons];rw[zLZ off vs (j+1) _ (by simp at h⊢;omega)]
  have d:off+j<cells.toList.length:=by simp at h⊢;omega
  have f:off+j+(vs.length+1)<=cells.toList.length:=by simpa using h
  apply List.ext_getElem?;intro i;rw[zBU _ _ _ (by simp at h⊢;omega),zBU _ _ _ (by omega)]
  have c:(cells.setIfInBounds (off+j) v).toList=cells.toList.set (off+j) v:=by simp
  have b:(v::vs).length=vs.length+1:=rfl;rw[c,b];by_cases h1:i<off+j
  .rw[if_pos (by omega),if_pos h1,List.getElem?_set,if_neg (by omega)]
  .by_cases e:i=off+j
   .subst e;rw[if_pos (by omega),if_neg (by omega),if_pos (by omega),List.getElem?_set]
    simp
    simpa using d
   .rw[if_neg (by omega),if_neg h1]
    by_cases g:i<off+j+1+vs.length
    .rw[if_pos (by omega),if_pos (by omega)]
     have:i-(off+j)=(i-(off+(j+1)))+1:=by omega
     rw[this,List.getElem?_cons_succ]
    .rw[if_neg (by omega),if_neg (by omega),List.getElem?_set,if_neg (by omega)]
theorem zJz{G:Cx}{fr:Fr}{a:Act}{nt:Nat}(B:FrR E w fr a nt)(t:GR G E w){place:Nat->Option (Nat×Nat)}:∀{u:List (Nat×Operand)}{l:List (Nat×Nat×XV)}{cs out:JE}{cells:JB},
  zCW place u=some l->zAC G fr cs l=some out->VRs E w cs cells.toList->(∀v∈cells.toList,v.oneCell'=true) →
  ∃b,Instr.fill place cells (u.map λ(i,x)=>(i,a.eval x))=some b/\VRs E w out b.toList/\(∀v∈b.toList,v.oneCell'=true)/\b.size=cells.size
 |[],l,cs,out,cells,h1,e,m,g=>by
  simp[zCW]at h1;subst h1;simp[zAC]at e;subst e;exact⟨cells,rfl,m,g,rfl⟩
 |(i,x)::r,l,cs,out,cells,h1,e,m,g=>by
  simp only[zCW]at h1;split at h1
  .rename_i off U y s O L Q;cases h1;simp only[zAC]at e;split at e
   .rename_i v d;split at e
    .rename_i new h;split at e
     .rename_i p;have C:=QN p;have n:=zC B t L d;obtain⟨_,_,R,S,A,k⟩:=zE4 n h;have q:=m.1;have z:cs.length=cells.size:=by simpa using q
      have c:=zLZ off (a.eval x).cells.toList 0 cells (by simp[k];omega)
      have j:(a.eval x).cells.zipIdx.foldl (λcs (x:Value×Nat)=>cs.setIfInBounds (off+x.2) x.1) cells=(((a.eval x).cells.toList.zipIdx 0).foldl (λcs x=>cs.setIfInBounds (off+x.2) x.1) cells):=by
       rw[←Array.foldl_toList,Array.toList_zipIdx]
      rw[Nat.add_zero]at c;have o:=CR.qp (CR.w7 m g) S A (off:=off) (by omega) (by simp[k];omega)
      have f:(cells.toList.take off++(a.eval x).cells.toList++cells.toList.drop (off+(a.eval x).cells.toList.length)).length=cells.size:=by simp[k];omega
      obtain⟨b,I,N,D,K⟩:=zJz B t (cells:=((a.eval x).cells.toList.zipIdx 0).foldl (λcs x=>cs.setIfInBounds (off+x.2) x.1) cells) Q e
       (by
        rw[c];refine⟨by rw[f];simp[qp,R];omega,λi x v M d=>?_⟩
        obtain⟨T,F,V,J⟩:=o.2 i x M;rw[F]at d;cases d;exact J)
       (by
        rw[c];intro v d;rcases QH.1 d with d|d
        .rcases QH.1 d with d|d
         .exact g v (QM d)
         .exact A v d
        .exact g v (QW d))
      refine⟨b,?_,N,D,?_⟩
      .simp only[Qa,Instr.fill,O,k];rw[if_neg (by simp;omega),j]
       exact I
      .rw[K,←Array.length_toList,c,f]
     .cases e
    .cases e
   .cases e
  .cases h1
end
section
variable{P:Program}{E:Env}{w:World}
theorem zNm(n:Nat)(z:JE):(rep n z).length=n*z.length:=by
 induction n with
 |zero=>simp[rep]
 |succ n b=>simp[rep,b,Nat.add_mul,Nat.add_comm]
theorem zKI(z:JE):∀(n i:Nat),i<n*z.length->(rep n z)[i]? = z[i % z.length]?
 |0,i,h=>by simp at h
 |n+1,i,h=>by
  simp only[rep];rw[List.getElem?_append];split
  .rename_i b;rw[Nat.mod_eq_of_lt b]
  .rename_i b;have c:i-z.length<n*z.length:=by rw[Nat.add_mul]at h;omega
   rw[zKI z n _ c];have:i=(i-z.length)+z.length:=by omega
   conv=>rhs;rw[this,Nat.add_mod_right]
theorem zMq{z:JE}{b:JB}(k:VRs E w z b.toList)(h1:∀v∈b.toList,v.oneCell'=true)(n:Nat):
  VRs E w (rep n z) (madeCells b (n*b.size)).toList/\∀v∈(madeCells b (n*b.size)).toList,v.oneCell'=true:=by
 have j:z.length=b.size:=by have:=k.1;simpa using this
 have key:∀(i:Nat),i<n*b.size->(madeCells b (n*b.size)).toList[i]? = b.toList[i % b.size]?:=λi d=>by
  have e:0<b.size:=Nat.pos_of_ne_zero λh=>by rw[h]at d;simp at d
  have m:i % b.size<b.size:=Nat.mod_lt _ e;simp[madeCells,d,m]
 have c:(madeCells b (n*b.size)).toList.length=n*b.size:=by rw[Array.length_toList,size_madeCells]
 refine⟨⟨by rw[zNm,j,c],λi x v l f=>?_⟩,λv f=>?_⟩
 .have d:i<n*b.size:=by rw[←c];exact(QC.1 f).1
  rw[zKI _ _ _ (by rw[j];exact d),j]at l
  rw[key i d]at f;exact k.2 _ x v l f
 .obtain⟨i,d⟩:=List.getElem?_of_mem f;have g:i<n*b.size:=by rw[←c];exact(QC.1 d).1
  rw[key i g]at d;exact h1 v (QF d)
theorem zOh{H:Heap}(g:HR E H w){nx:Nat}(b:¬E.D nx){cs:JE}{vs:JC}{e:TypeId}(d:VRs E w cs vs)(h1:∀v∈vs,v.oneCell'=true):
  ∃w',(newRow e vs.toArray).run P w=.ok ⟨w.heap.size,0,none⟩ w'/\w'.heap[w.heap.size]?=some (.cells vs.toArray e (0,0))/\HR (E.add nx w.heap.size) ((nx,.cells false cs)::H) w' ∧
   Tr E H w (E.add nx w.heap.size) ((nx,.cells false cs)::H) w' nx (nx+1):=by
 obtain⟨f,h⟩:=zKC (st:=false) (e:=e) (c:=vs.toArray) g b (by simpa using CR.w7 d h1)
 exact⟨_,by simp[newRow],zBg,f,h⟩
theorem zRr{nx b off:Nat}{w':World}:VR (E.add nx b) w' (.ptr nx off) (.pointer (some ⟨b,off,none⟩)):=by
 have:=VR.ptr (E:=E.add nx b) (w:=w') nx off (.inr rfl);rw[Env.qw]at this;exact this
theorem zRs{nx b len sz:Nat}{w':World}{c:JB}{e:TypeId}{f:Nat×Nat}(h:w'.heap[b]?=some (.cells c e f)){cp cap:Nat}{ex:Bool}(i:0<sz)(h1:len<=cap)(d:cap<=zf)(k:cap*sz<=c.size)(g:cp<=cap)(j:ex=true->cap=cp):
  VR (E.add nx b) w' (.row nx 0 len sz cp ex) (.slice (some ⟨b,0,none⟩) len cap):=by
 have:=VR.row (E:=E.add nx b) (w:=w') nx 0 len sz cp cap ex (.inr rfl) h1 d i g j ⟨c,e,f,by rw[Env.qw];exact h,by omega⟩
 rw[Env.qw]at this;exact this
theorem zUy{H:Heap}{nx sz:Nat}{e:TypeId}{v:AV}{cv:Value}{cs:JE}(i:HR E H w)(l:¬E.D nx)(k:VR E w v cv)(h:cellsOf v sz=some cs):
  zFK P (Instr.box e cv) E H w nx (.ptr nx 0) ((nx,.cells false cs)::H) (nx+1):=by
 obtain⟨_,_,_,d,j,_⟩:=zE4 k h;obtain⟨c,f,m,b,g⟩:=zOh (P:=P) (e:=e) i l d j;exact⟨_,_,c,by simp only[Instr.box,newVar,Sem.run_bind];rw[show newRow e cv.cells=newRow e cv.cells.toList.toArray by simp,f];rfl,b,g,zRr⟩
theorem zRN{H:Heap}{nx:Nat}{e:TypeId}{cs:JE}(l:HR E H w)(p:¬E.D nx)(h:zCQ P e=some cs):
  zFK P (Instr.alloc e true (.tuple #[])) E H w nx (.ptr nx 0) ((nx,.cells false cs)::H) (nx+1):=by
 obtain⟨i,z,o,k,_,_,_,f,m⟩:=VR.zero (P:=P) (E:=E) (w:=w) (z:=.bool true) (v:=.bool true) (n:=0) h;obtain⟨d,g,q,c,j⟩:=zOh (P:=P) (e:=e) l p f m;refine⟨_,_,d,?_,c,j,zRr⟩
 have b:(zeroValue e).run P w=.ok z w:=by simp[zeroValue,typeInfo,o,k]
 simp only[Instr.alloc,newVar,Sem.run_bind,b,Result.andThen_ok];rw[show newRow e z.cells=newRow e z.cells.toList.toArray by simp,g]
 rfl
theorem zPn{H:Heap}{nx l c sz bytes:Nat}{t e:TypeId}{kl kc:IntKind}{z:JE}(B:HR E H w)(I:¬E.D nx)(x:P.underlying t=some (.slice e))(F:zH P e=some sz)(o:zGH P e=some bytes)(A:zCQ P e=some z)
  (y:0<sz) (q:l<=c) (h:c*bytes<=zc) (b:c<=zc):
  zFK P (Instr.makeSlice t (.int kl (l:Int)) (.int kc (c:Int))) E H w nx (.row nx 0 l sz c true) ((nx,.cells false (rep c z))::H) (nx+1):=by
 obtain⟨i,j,s,r,m,k,_,u,C⟩:=VR.zero (P:=P) (E:=E) (w:=w) (z:=.bool true) (v:=.bool true) (n:=0) A;have:i.size=sz:=by rw[F]at k;simpa using k.symm
 subst this;have p:i.bytes=bytes:=by unfold zGH at o;rw[s]at o;simpa using o
 subst p;obtain⟨m1,m2⟩:=zMq u C c;have g:=run_make (P:=P) w t e i j x s r kl kc (l:Int) (c:Int) (by omega) (by omega) (by
  have:(i.bytes:Int)*(c:Int)=((c*i.bytes:Nat):Int):=by rw[Nat.mul_comm];simp
  rw[this];unfold zc at h;omega) (by unfold zc at b;omega)
 rw[Int.toNat_natCast,Int.toNat_natCast]at g;have d:=zKC (st:=false) (e:=e) (c:=madeCells j.cells (c*j.cells.size)) B I (CR.w7 m1 m2);rw[←m]at g;refine⟨_,_,_,g,d.1,d.2,?_⟩
 exact zRs (c:=madeCells j.cells (c*j.cells.size)) (e:=e) (f:=(0,0)) zBg y q (by unfold zc at b;unfold zf;omega) (by rw[size_madeCells,m];exact QA _) (QA _) (λ_=>rfl)
theorem zQO{G:Cx}{fr:Fr}{a:Act}{nt:Nat}(N:FrR E w fr a nt)(I:GR G E w){H:Heap}{nx len sz:Nat}{t e:TypeId}{z cs:JE}{m:List (Nat×Operand)}{u:List (Nat×Nat×XV)}(Q:HR E H w)(W:¬E.D nx)
  (F:P.underlying t=some (.slice e)) (y:zH P e=some sz) (L:zCQ P e=some z) (r:0<sz) (s:len*sz<=16777216)
  (M:zCW (λi=>some (i*sz,sz)) m=some u) (h:zAC G fr (rep len z) u=some cs):
  zFK P (Instr.buildSlice t len (m.map λ(i,x)=>(i,a.eval x)).toArray) E H w nx (.row nx 0 len sz len true) ((nx,.cells false cs)::H) (nx+1):=by
 obtain⟨i,g,T,p,l,k,_,C,S⟩:=VR.zero (P:=P) (E:=E) (w:=w) (z:=.bool true) (v:=.bool true) (n:=0) L;have:i.size=sz:=by rw[y]at k;simpa using k.symm
 subst this;obtain⟨m1,m2⟩:=zMq C S len;obtain⟨b,q,U,A,J⟩:=zJz N I M h m1 m2;obtain⟨B,q1,X,K,O⟩:=zOh (P:=P) (e:=e) Q W U A;have f:¬(len*i.size > 2 ^ 24):=by omega
 have o:(zeroValue e).run P w=.ok g w:=by simp[zeroValue,typeInfo,T,p]
 have R:len<=len*i.size:=Nat.le_mul_of_pos_right _ r;refine⟨_,_,B,?_,K,O,zRs X r (QA _) (by unfold zf;omega) (by simp[J,size_madeCells,l]) (QA _) (λ_=>rfl)⟩
 have c:Instr.fill (λj=>some (j*i.size,i.size)) (madeCells g.cells (len*i.size)) (m.map λ(i,x)=>(i,a.eval x))=some b:=by rw[←l]at q⊢;exact q
 simp only[Instr.buildSlice,Sem.run_bind,run_underlying F,Result.andThen_ok,zAk y,if_neg f,Sem.run_ite];by_cases d:len*i.size=0
 .have V:madeCells g.cells (len*i.size)=(Array.range (len*i.size)).map ((#[]:JB)[· % (#[]:JB).size]!):=by
   rw[d];simp[madeCells,Array.range_zero']
  rw[if_pos d];simp only[Sem.run_pure,Result.andThen_ok];rw[←V,c];simp only[Sem.run_bind];rw[show newRow e b=newRow e b.toList.toArray by simp,q1]
  rfl
 .rw[if_neg d];simp only[Sem.run_bind,o,Result.andThen_ok,Sem.run_pure];rw[show(Array.range (len*i.size)).map (λx=>g.cells[x % g.cells.size]!)=madeCells g.cells (len*i.size)from rfl,c]
  simp only[Sem.run_bind];rw[show newRow e b=newRow e b.toList.toArray by simp,q1]
  rfl
theorem zUz{H:Heap}{nx:Nat}{s d e:TypeId}{l:JV}{t:Value}(u:HR E H w)(I:¬E.D nx)(hx:VR E w (.str l) t)(B:P.underlying s=some .string)(y:P.underlying d=some (.slice e))(J:P.underlying e=some (.int .u8)):
  zFK P (convert s d t) E H w nx (.row nx 0 l.length 1 l.length false) ((nx,.cells true (l.map λb=>.int .u8 (.ofNat b)))::H) (nx+1):=by
 obtain⟨K,Q,M,R,N,O,L⟩:=zDP (P:=P) (sz:=1) u hx (show content H 1 (.str l)=some (l.length,_)from rfl)
 obtain⟨c,rfl,q,A⟩:=hx.q9;have m:=zGa q;have f:=run_bytes_of_string (P:=P) w s d e c B y J;have g:=grownCap_ge w c.size 0 e;have n:=grownCap_le_maxLen w c.size 0 e (by rw[m];unfold zf at A;simp only[maxLen];omega)
 have k:(bytesRow c (grownCap w c.size 0 e)).size=grownCap w c.size 0 e:=by
  simp[bytesRow];have:c.data.size=c.size:=rfl;omega
 have r:CR E w (l.map λb=>AV.int .u8 (.ofNat b)) (bytesRow c (grownCap w c.size 0 e)).toList:=by
  refine⟨by simp[bytesRow,←q],λi x hx=>?_⟩
  subst q;simp only[Qb,Option.map_map]at hx;cases hc:c.data.toList[i]? with
  |none=>simp[hc]at hx
  |some b=>
   simp[hc]at hx;subst hx;have C:i<c.data.toList.length:=(QC.1 hc).1;have z:=b.toNat_lt;refine⟨.int .u8 b.toNat,?_,rfl,.int _ _ (by constructor<;>simp[IntKind.min,IntKind.max,IntKind.signed,IntKind.bits]<;>omega)⟩
   simp only[bytesRow,Array.toList_append,Array.toList_map];rw[Qp (by simpa using C),Qb,hc]
   rfl
 have j:=zG0 u I (o:=.cells (bytesRow c (grownCap w c.size 0 e)) e ((bytesRow c (grownCap w c.size 0 e)).size,(bytesRow c (grownCap w c.size 0 e)).size+1))
  (ho:=.cells true (l.map λb=>.int .u8 (.ofNat b))) λw' p _ F=>(r.mono F).or (by rw[p];exact zBg) (.inr ⟨rfl,QA _⟩)
 obtain⟨d1,d2⟩:=zFl (w':=w.drew.alloc (.cells (bytesRow c (grownCap w c.size 0 e)) e ((bytesRow c (grownCap w c.size 0 e)).size,(bytesRow c (grownCap w c.size 0 e)).size+1))) j.1 ⟨rfl,rfl,rfl,rfl⟩ (nx+1);refine⟨_,_,_,f,d1,j.2.1.trans j.1 d2,?_⟩
 rw[m]at g n k f⊢;exact zRs zBg (by omega) g (by unfold zf;simp only[maxLen]at n;omega) (by rw[Nat.mul_one];exact Nat.le_of_eq k.symm) g (λh=>by cases h)
theorem zRO{H:Heap}{nx:Nat}{t:TypeId}(f:HR E H w)(e:¬E.D nx):zFK P (Instr.makeMap t none) E H w nx (.map nx) ((nx,.map [])::H) (nx+1):=by
 have b:=zG0 f e (o:=.map #[] 0) (ho:=.map []) λh c _ g=>⟨#[],0,by rw[c];exact zBg,rfl,λi k x d=>by simp at d,λi j m n d=>by simp at d⟩
 refine⟨.map (some w.heap.size),_,_,by simp[Instr.makeMap],b.1,b.2.1,?_⟩
 have:=VR.map (E:=E.add nx w.heap.size) (w:={ w with heap:=w.heap.push (.map #[] 0) }) nx (.inr rfl)
 rw[Env.qw]at this;exact this
theorem zTc{H:Heap}{nx:Nat}{t:TypeId}{s:JV}{d:Value}(g:HR E H w)(f:¬E.D nx)(hx:VR E w (.str s) d)(h:P.underlying t=some .string):
  zFK P (Instr.range t d) E H w nx (.ptr nx 0) ((nx,.wa s 0)::H) (nx+1):=by
 obtain⟨e,rfl,i,l⟩:=hx.q9;have b:=zG0 g f (o:=.stringIter e 0) (ho:=.wa s 0) λk c _ j=>⟨e,by rw[c];exact zBg,i⟩
 exact⟨_,_,_,by simp[Instr.range,run_underlying h],b.1,b.2.1,zRr⟩
theorem zL0{H:Heap}{nx:Nat}{ty:TypeId}{s:JV}{j pos:Nat}{v:AV}{H':Heap}(q:HR E H w)(I:E.D j)(i:H.get j=some (.wa s pos))(l:s.length<=zf)
  (h:(pos<s.length/\∃b,rune s pos=some b/\v=.qg [.bool true,.int .i64 (.ofNat pos),.int .i32 (.ofNat b)]/\H'=H.put j (.wa s (pos+1)))\/(¬pos<s.length/\v=.qg [.bool false]/\H'=H)):
  zFK P (Instr.next (.pointer (some ⟨E.ρ j,0,none⟩)) true ty) E H w nx v H' nx:=by
 obtain⟨f,x,r⟩:=q.obj _ (Heap.qi i);have B:=zGa r;have m:(getObj (E.ρ j)).run P w=.ok (.stringIter f pos) w:=by simp[getObj,Sem.run,x]
 rcases h with⟨z,b,d,rfl,rfl⟩|⟨y,rfl,rfl⟩
 .have e:pos<f.size:=by omega
  obtain⟨u,C,A,F,_⟩:=zDY (P:=P) q i x (λ_ _ _ h=>by cases h) (ob':=.stringIter f (pos+1)) (o':=.wa s (pos+1)) (λu t J=>⟨f,t,r⟩) nx
  unfold rune at d;cases hc:s[pos]? with
  |none=>simp[hc]at d
  |some c=>
   simp only[hc]at d;split at d
   .rename_i g;cases d;rw[Qg]at g;have k:(f[pos]'e).toNat=b:=by
     subst r;rw[Qb]at hc;have p:pos<f.data.toList.length:=e;rw[QE p]at hc;simp at hc;rw[←hc];rfl
    have n:=decode_ascii f pos e (by rw[k];exact g)
    refine⟨.tuple #[.bool true,.int .i64 pos,.int .i32 b],E,u,?_,A,F,?_⟩
    .simp[Instr.next,m,e,n,C,k,goInt]
    .refine VR.qI (VRs.cons (.bool _) (VRs.cons (.int _ _ ?_) (VRs.cons (.int _ _ ?_) VRs.nil)))
     .unfold zf at l
      constructor<;>simp[IntKind.min,IntKind.max,IntKind.signed,IntKind.bits]<;>omega
     .constructor<;>simp[IntKind.min,IntKind.max,IntKind.signed,IntKind.bits]<;>omega
   .cases d
 .have o:¬pos<f.size:=by omega
  exact⟨.tuple #[.bool false],E,w,by simp[Instr.next,m,o],q,.refl _,VR.qI (VRs.cons (.bool _) VRs.nil)⟩
theorem zTd{H:Heap}{nx nx' sz:Nat}{d y v:AV}{X B:Value}{H':Heap}{t u ty e:TypeId}(z:HR E H w)(W:VR E w d X)(S:VR E w y B)(A:P.underlying t=some (.slice e))(I:zH P e=some sz)(h0:0<sz)
  (h:zLM H nx d y sz=some (v,H',nx')):zFK P (Builtin.copy_ #[t,u] ty #[X,B]) E H w nx v H' nx':=by
 unfold zLM at h;split at h
 .cases h
 .rename_i n ys b;obtain⟨C,V,k2,T,k4,K,k6,k7⟩:=zDP (P:=P) z S b;have first:∀m,m<=n->(Builtin.firstCells sz m B).run P w=.ok (C.take (m*sz)).toArray w:=λm hm=>by
   rcases k7 with⟨a,c,rfl,g⟩|⟨s,rfl,D⟩
   .by_cases hz:n*sz=0
    .have hn:n=0:=by
      rcases Nat.eq_zero_or_pos n with h|h
      .exact h
      .have:=Nat.mul_pos h h0;omega
     have F:m=0:=by omega
     subst F;cases a<;>simp[Builtin.firstCells,loadCells,loadCellsFrom]
    .obtain⟨ad,rfl,hc⟩:=g hz;refine run_firstCells_some w sz m ad _ _ (C.take (m*sz)) (by
      rw[Qm,T];exact Nat.min_eq_left (Nat.mul_le_mul_right _ hm)) λj v x=>?_
     rw[List.getElem?_take]at x;split at x
     .exact hc j v x
     .cases x
   .have R:=k6 w rfl;simp only[Builtin.firstCells,Sem.run_pure]at R⊢;congr 1;have o:=congrArg (λr=>match r with|Result.ok a _=>a.toList|_=>[]) R
    simp only at o;rw[←D,ByteArray.extract_zero_size]at o;rw[←o];apply Array.ext';have:sz=1:=by
     cases S with
     |str l _ _ _=>
      cases hq:Nat.beq sz 1 with
      |true=>exact zb hq
      |false=>
       rw[show content H sz (.str l)=none by simp[content,hq]]at b
       cases b
     |sym i _ _ _=>simp[content]at b
    subst this;rw[Array.toList_map,Array.toList_map,ByteArray.data_extract,Array.toList_extract,List.extract_eq_take_drop,←List.map_take];simp
  split at h
  .cases h;cases W;refine⟨.int .i64 0,E,w,?_,z,.refl _,.int _ _ (by constructor<;>simp[IntKind.min,IntKind.max,IntKind.signed,IntKind.bits])⟩
   have:=first 0 (QV _);simp[Builtin.copy_,run_underlying A,K,zAk I,this,goInt]
  .rename_i ac off len ab cp ex;split at h
   .cases h
   rename_i M;have:=zb M;subst this;split at h
   .rename_i st cs f;split at h
    .rename_i J;have Q:=QN J;cases h;have k:Nat.min n len<=n:=Nat.min_le_left _ _;have p:Nat.min n len<=len:=Nat.min_le_right _ _;have ae:Nat.min n len*sz<=n*sz:=Nat.mul_le_mul_right _ k;have Y:Nat.min n len*sz<=len*sz:=Nat.mul_le_mul_right _ p;have L:VRs E w (ys.take (Nat.min n len*sz)) (C.take (Nat.min n len*sz)):=by
      have:=V.extract 0 (Nat.min n len*sz)
      simpa using this
     have hint:has .i64 ((Nat.min n len:Nat):Int):=by
      unfold zf at k4
      constructor<;>simp only[IntKind.min,IntKind.max,IntKind.signed,IntKind.bits]<;>simp<;>omega
     cases W with
     |wm _ _ _ _ a=>
      refine⟨.int .i64 ((Nat.min n 0:Nat):Int),E,w,?_,?_,?_,.int _ _ hint⟩
      .have:=first 0 (QV _);have q:Nat.min n 0=0:=Nat.min_zero _;simp only[Builtin.copy_,List.getElem?_toArray,List.getElem?_cons_zero,List.getElem?_cons_succ,Sem.run_bind,run_underlying A,Result.andThen_ok,K,zAk I,q,this];simp[storeCells,goInt]
      .have q:Nat.min n 0=0:=Nat.min_zero _;rw[q];simp only[Nat.zero_mul,List.take_zero,Nat.add_zero,zG1];rw[Heap.qt f];exact z
      .have q:Nat.min n 0=0:=Nat.min_zero _;rw[q];simp only[Nat.zero_mul,List.take_zero,Nat.add_zero,zG1];rw[Heap.qt f];exact .refl _
     |row _ _ _ _ _ cap _ hD O N U aa ag af=>
      obtain⟨w',r1,r2,r3⟩:=zEW (P:=P) z f (off:=off) L (λv hv=>k2 v (QM hv)) (.inl (by
       have h9:ys.length=n*sz:=by rw[V.1,T]
       rw[Qm,h9];omega)) nx
      refine⟨.int .i64 ((Nat.min n len:Nat):Int),E,w',?_,r2,r3,.int _ _ hint⟩
      have:=first _ k;simp only[Builtin.copy_,List.getElem?_toArray,List.getElem?_cons_zero,List.getElem?_cons_succ,Sem.run_bind,run_underlying A,Result.andThen_ok,K,zAk I,this,r1];rfl
    .cases h
   .cases h
  .cases h
end
def zDL(E:Env)(a b:Nat):Prop:=∀h,a<=h->h<b->¬E.D h
section
variable{P:Program}{G:Cx}{E:Env}{w:World}{fr:Fr}{a:Act}{nt:Nat}{H:Heap}{nx nx':Nat}{v:AV}{H':Heap}
theorem zAn.qV{o:Oper}{s:Sem Value}(h:zFK P s E H w nx v H' nx')(e:∀r w',s.run P w=.ok r w'->(execOp a.eval o).run P w=.ok (.value r) w'):zAn P E H w nx (execOp a.eval o) v H' nx':=by
 obtain⟨g,b,w',h1,c,f,d⟩:=h;exact⟨g,b,w',c,f,d,.inl (e _ _ h1)⟩
theorem zAn.qq{o:Oper}{s:Sem Value}(d:HR E H w)(h:∃cv,s.run P w=.ok cv w/\VR E w v cv)(c:∀r w',s.run P w=.ok r w'->(execOp a.eval o).run P w=.ok (.value r) w'):zAn P E H w nx (execOp a.eval o) v H nx:=by
 obtain⟨cv,h1,b⟩:=h;exact .pure d (c _ _ h1) b
theorem zAn.vK{o:Oper}{s:Sem Unit}(h:∃w',s.run P w=.ok () w'/\HR E H' w'/\Tr E H w E H' w' nx nx)(c:∀w',s.run P w=.ok () w'->(execOp a.eval o).run P w=.ok .skip w'):zAn P E H w nx (execOp a.eval o) (.qg []) H' nx:=by
 obtain⟨w',h1,b,d⟩:=h;exact⟨undef,E,w',b,d,VR.qI VRs.nil,.inr ⟨c _ h1,rfl⟩⟩
theorem zEo(d:FrR E w fr a nt)(e:GR G E w){x:Option Operand}{y:Option XV}{u:JF}(hc:zHf x=some y)(b:evo G fr y=some u):OV E w u (x.map a.eval):=by
 cases x with
 |none=>
  simp[zHf]at hc;subst hc;simp[evo]at b;subst b
  trivial
 |some x=>
  simp only[zHf]at hc;split at hc
  .rename_i z f;cases hc;simp only[evo]at b;split at b
   .rename_i av c;cases b;exact zC d e f c
   .cases b
  .cases hc
theorem VR.uv{x:AV}{b:Value}(h:VR E w x b)(h1:∀k n,x≠.int k n)(c:∀l,x≠.str l)(d:∀i,x≠.sym i):(∀k n,b≠.int k n)/\(∀k n,b≠.float k n)/\(∀k n m,b≠.complex k n m)/\∀s,b≠.string s:=by
 cases h<;>first
  |(exact absurd rfl (h1 _ _))
  |(exact absurd rfl (c _))
  |(exact absurd rfl (d _))
  |(refine⟨?_,?_,?_,?_⟩<;>intros<;>intro h<;>cases h)
theorem zWx{t:TypeId}{x:AV}{c d:Value}{b:Bool}(hx:VR E w x c)(h1:∀k n,x≠.int k n)(e:∀l,x≠.str l)(m:∀i,x≠.sym i)(h:(Op.equalIn 10000 t c d).run P w=.ok b w):
  (binOp .eql t c d).run P w=.ok (.bool b) w/\(binOp .neq t c d).run P w=.ok (.bool (!b)) w:=by
 obtain⟨q1,o,f,g⟩:=hx.uv h1 e m;exact zUw h (λj a k b h=>q1 _ _ h.1) (λj a k b h=>o _ _ h.1) (λj a q k b p h=>f _ _ _ h.1) (λa b h=>g _ h.1)
theorem zQP{o:Oper}{op:BinOp}{t u:TypeId}{x y:Operand}(ho:o.op=.binOp op t x y u){r:Value}(b:(eqGuard op t x y (a.eval x) (a.eval y)).run P w=.ok () w)(h:(binOp op t (a.eval x) (a.eval y)).run P w=.ok r w):
  (execOp a.eval o).run P w=.ok (.value r) w:=by
 simp only[execOp,ho,Sem.run_bind,b,Result.andThen_ok,h,Sem.run_pure]
theorem zRP{op:BinOp}{t:TypeId}{x y:Operand}{c d:Value}(h1:op≠.eql)(b:op≠.neq):(eqGuard op t x y c d).run P w=.ok () w:=by
 cases op<;>first|exact absurd rfl h1|exact absurd rfl b|rfl
theorem zL1{op:BinOp}{t:TypeId}{d e:Operand}{b g:Value}(h1:∀u,b≠.agg u)(f:b=.nilIface->g=.nilIface->(zAE d||zAE e)=true):(eqGuard op t d e b g).run P w=.ok () w:=by
 by_cases c:op=.eql
 .subst c;exact zUo h1 f
 .by_cases h:op=.neq
  .subst h;exact zUp h1 f
  .exact zRP c h
theorem VR.vX{x:AV}{b:Value}(h:VR E w x b)(h1:∀c,x≠.agg c):∀u,b≠.agg u:=by
 intro u f;subst f;cases h with
 |agg e _ _ _ _=>exact h1 e rfl
 |sym i _ _ d=>simp[Value.oneCell']at d
theorem VR.vA{x:AV}{b:Value}(h:VR E w x b)(h1:x≠.qe)(d:∀i,x≠.sym i):b≠.nilIface:=by
 cases h<;>first|(exact absurd rfl h1)|(exact absurd rfl (d _))|(intro c;cases c)
theorem zOR{o:Oper}{op:BinOp}{t u:TypeId}{x y:Operand}{neg b:Bool}(d:HR E H w)(ho:o.op=.binOp op t x y u)
  (h1:(binOp .eql t (a.eval x) (a.eval y)).run P w=.ok (.bool b) w/\(binOp .neq t (a.eval x) (a.eval y)).run P w=.ok (.bool (!b)) w) (c:(neg=false/\op=.eql)\/(neg=true/\op=.neq))
  (e:(eqGuard op t x y (a.eval x) (a.eval y)).run P w=.ok () w):zAn P E H w nx (execOp a.eval o) (zBu neg b) H nx:=by
 have h:=zVI (P:=P) (E:=E) h1 c;exact h.elim λf r=>.pure d (zQP ho e r.1) r.2
theorem zTe{o:Oper}{op:BinOp}{t u:TypeId}{x y:Operand}{p q:AV}(f:HR E H w)(ho:o.op=.binOp op t x y u)(h1:VR E w p (a.eval x))(d:VR E w q (a.eval y))(b:zDo op p q=some v):
  zAn P E H w nx (execOp a.eval o) v H nx:=by
 obtain⟨j,e,h⟩:=zUn (P:=P) (t:=t) h1 d b;refine .pure f (zQP ho (zL1 ?_ ?_) e) h
 .refine h1.vX λc hc=>?_
  subst hc;simp[zDo]at b
 .intro g;refine absurd g (h1.vA (λhc=>?_) λi hc=>?_)
  .subst hc;simp[zDo]at b
  .subst hc;simp[zDo]at b
theorem zD0{o:Oper}{op:BinOp}{t u:TypeId}{x y:Operand}{p:AV}{neg b:Bool}(q:HR E H w)(ho:o.op=.binOp op t x y u)(h1:VR E w p (a.eval x))(g:∀k n,p≠.int k n)(r:∀l,p≠.str l)(h:∀c,p≠.agg c)(f:∀i,p≠.sym i)
  (m:p=.qe->a.eval y=.nilIface->(zAE x||zAE y)=true) (z:(Op.equalIn 10000 t (a.eval x) (a.eval y)).run P w=.ok b w) (j:(neg=false/\op=.eql)\/(neg=true/\op=.neq)):
  zAn P E H w nx (execOp a.eval o) (zBu neg b) H nx:=by
 refine zOR q ho (zWx h1 g r f z) j (zL1 (h1.vX h) λs d=>?_)
 by_cases e:p=.qe
 .exact m e d
 .exact absurd s (h1.vA e f)
theorem zVJ{o:Oper}{op:BinOp}{t u:TypeId}{x y:Operand}{p q:JE}{d:List Kd}{neg b:Bool}(B:HR E H w)(ho:o.op=.binOp op t x y u)(h1:VR E w (.agg p) (a.eval x))(r:VR E w (.agg q) (a.eval y))(hk:zA8 P 6 t=some d)
  (e:agT P t=some true) (z:P.eqGuardType P.depth t=false) (h:eqs d p q=some b) (A:(neg=false/\op=.eql)\/(neg=true/\op=.neq)):zAn P E H w nx (execOp a.eval o) (zBu neg b) H nx:=by
 obtain⟨j,m,q1,_⟩:=h1.qX;obtain⟨l,k,n,_⟩:=r.qX;have g:p.length=d.length/\q.length=d.length/\zBv d p q=some b:=by
  unfold eqs at h;split at h
  .rename_i D F;exact⟨zb D,zb F,h⟩
  .cases h
 have C:=zGr (P:=P) (E:=E) (w:=w) hk 9994 j.toList l.toList p q (a.eval x) (a.eval y) b q1 n (.inl ⟨e,by rw[m]⟩) (.inl ⟨e,by rw[k]⟩) (by rw[←q1.1];exact g.1) (by rw[←n.1];exact g.2.1) g.2.2
 refine zOR B ho (zWx h1 (λ_ _ h=>by cases h) (λ_ h=>by cases h) (λ_ h=>by cases h) C) A ?_
 rw[m,k];exact run_eqGuard_agg w op t x y j l z
theorem zVK(D:HR E H w)(S:FrR E w fr a nt)(R:GR G E w){o:Oper}{op:BinOp}{t u:TypeId}{x y:Operand}{i:XO}{call:Sy.Call}(ho:o.op=.binOp op t x y u)(hc:zSt P op t x y=some i)
  (h:xoS G call fr H nx i=some (v,H',nx')):zAn P E H w nx (execOp a.eval o) v H' nx':=by
 obtain⟨C,Q,hc⟩:=za hc;obtain⟨F,L,hc⟩:=za hc;have j:∀{p:AV},C.ev G fr=some p->VR E w p (a.eval x):=λh=>zC S R Q h
 have l:∀{p:AV},F.ev G fr=some p->VR E w p (a.eval y):=λh=>zC S R L h
 have B:i=.bin op C F->zAn P E H w nx (execOp a.eval o) v H' nx':=by
  intro e;rw[e]at h;simp only[xoS]at h;split at h
  .rename_i p q z s;split at h
   .rename_i r K;cases h;exact zTe D ho (j z) (l s) K
   .cases h
  .cases h
 split at hc
 .cases hc;exact B rfl
 .cases hc;exact B rfl
 .rename_i g;have key:∀{neg:Bool},i=.beq neg C F->((neg=false/\op=.eql)\/(neg=true/\op=.neq))->zAn P E H w nx (execOp a.eval o) v H' nx':=by
   intro neg e A;rw[e]at h;simp only[xoS]at h;split at h
   .rename_i p q z s;cases h;have h1:=j z;have J:=l s;have V:=h1.of_bool;have U:=J.of_bool;exact zD0 D ho h1 (λ_ _ h=>by cases h) (λ_ h=>by cases h) (λ_ h=>by cases h) (λ_ h=>by cases h) (λh=>by cases h) (by rw[V,U];exact run_equalIn_bool w 9999 t p q g) A
   .cases h
  split at hc
  .cases hc;exact key rfl (.inl ⟨rfl,rfl⟩)
  .cases hc;exact key rfl (.inr ⟨rfl,rfl⟩)
  .cases hc
 .rename_i e g;have key:∀{neg:Bool}{n:Nat},zH P e=some (n+1)->i=.peq neg C F->((neg=false/\op=.eql)\/(neg=true/\op=.neq))->zAn P E H w nx (execOp a.eval o) v H' nx':=by
   intro neg n M e A;rw[e]at h;simp only[xoS]at h;split at h
   .rename_i p q z s;split at h
    .rename_i b f;cases h;have h1:=j z;refine zD0 D ho h1 ?_ ?_ ?_ ?_ ?_ (zUv (d:=9999) D h1 (l s) f g M) A
     .intro _ _ c;subst c;simp[zJT]at f
     .intro _ c;subst c;simp[zJT]at f
     .intro _ c;subst c;simp[zJT]at f
     .intro _ c;subst c;simp[zJT]at f
     .intro c;subst c;simp[zJT]at f
    .cases h
   .cases h
  split at hc
  .split at hc
   .cases hc
   .rename_i m I N;cases m with
    |zero=>exact absurd rfl I
    |succ m=>cases hc;exact key N rfl (.inl ⟨rfl,rfl⟩)
   .cases hc
  .split at hc
   .cases hc
   .rename_i m I N;cases m with
    |zero=>exact absurd rfl I
    |succ m=>cases hc;exact key N rfl (.inr ⟨rfl,rfl⟩)
   .cases hc
  .cases hc
 .rename_i Y g;split at hc
  .rename_i T hk s;have key:∀{neg:Bool},i=.qW neg T C F->((neg=false/\op=.eql)\/(neg=true/\op=.neq))->zAn P E H w nx (execOp a.eval o) v H' nx':=by
    intro neg e A;rw[e]at h;simp only[xoS]at h;split at h
    .rename_i p q z O;split at h
     .rename_i b f;cases h;exact zVJ D ho (j z) (l O) hk (by simp[agT,g]) s f A
     .cases h
    .cases h
   split at hc
   .cases hc;exact key rfl (.inl ⟨rfl,rfl⟩)
   .cases hc;exact key rfl (.inr ⟨rfl,rfl⟩)
   .cases hc
  .cases hc
 .rename_i W g;have key:∀{neg:Bool},i=.vO neg (zAE x||zAE y) (zLx P) C F->((neg=false/\op=.eql)\/(neg=true/\op=.neq))->zAn P E H w nx (execOp a.eval o) v H' nx':=by
   intro neg e A;rw[e]at h;simp only[xoS]at h;split at h
   .rename_i p q z s;split at h
    .rename_i b f;cases h;have h1:=j z;have J:=l s;refine zD0 D ho h1 ?_ ?_ ?_ ?_ ?_ (zPm (d:=9998) h1 J f g) A
     .intro _ _ c;subst c;simp[zH2]at f
     .intro _ c;subst c;simp[zH2]at f
     .intro _ c;subst c;simp[zH2]at f
     .intro _ c;subst c;simp[zH2]at f
     .intro c M;subst c;rw[M]at J;cases J
      case qe=>
       simp only[zH2]at f;split at f
       .assumption
       .cases f
      case sym=>simp[zH2]at f
    .cases h
   .cases h
  split at hc
  .cases hc;exact key rfl (.inl ⟨rfl,rfl⟩)
  .cases hc;exact key rfl (.inr ⟨rfl,rfl⟩)
  .cases hc
 .rename_i e g;have key:∀{neg:Bool},i=.seq neg C F->((neg=false/\op=.eql)\/(neg=true/\op=.neq))->zAn P E H w nx (execOp a.eval o) v H' nx':=by
   intro neg e A;rw[e]at h;simp only[xoS]at h;split at h
   .rename_i p q z s;split at h
    .rename_i b f;cases h;have h1:=j z;refine zD0 D ho h1 ?_ ?_ ?_ ?_ ?_ (zPl (d:=9999) h1 (l s) f g) A
     .intro _ _ c;subst c;simp[zH3]at f
     .intro _ c;subst c;simp[zH3]at f
     .intro _ c;subst c;simp[zH3]at f
     .intro _ c;subst c;simp[zH3]at f
     .intro c;subst c;simp[zH3]at f
    .cases h
   .cases h
  split at hc
  .cases hc;exact key rfl (.inl ⟨rfl,rfl⟩)
  .cases hc;exact key rfl (.inr ⟨rfl,rfl⟩)
  .cases hc
 .rename_i k e g;have key:∀{neg:Bool},i=.v8 neg C F->((neg=false/\op=.eql)\/(neg=true/\op=.neq))->zAn P E H w nx (execOp a.eval o) v H' nx':=by
   intro neg e A;rw[e]at h;simp only[xoS]at h;split at h
   .rename_i p q z s;split at h
    .rename_i b f;cases h;have h1:=j z;refine zD0 D ho h1 ?_ ?_ ?_ ?_ ?_ (zRJ (d:=9999) h1 (l s) f g) A
     .intro _ _ c;subst c;simp[zJU]at f
     .intro _ c;subst c;simp[zJU]at f
     .intro _ c;subst c;simp[zJU]at f
     .intro _ c;subst c;simp[zJU]at f
     .intro c;subst c;simp[zJU]at f
    .cases h
   .cases h
  split at hc
  .cases hc;exact key rfl (.inl ⟨rfl,rfl⟩)
  .cases hc;exact key rfl (.inr ⟨rfl,rfl⟩)
  .cases hc
 .rename_i pp X vv g;have key:∀{neg:Bool},i=.vZ neg C F->((neg=false/\op=.eql)\/(neg=true/\op=.neq))->zAn P E H w nx (execOp a.eval o) v H' nx':=by
   intro neg e A;rw[e]at h;simp only[xoS]at h;split at h
   .rename_i p q z s;split at h
    .rename_i b f;cases h;have h1:=j z;refine zD0 D ho h1 ?_ ?_ ?_ ?_ ?_ (zQK (d:=9999) h1 (l s) f g) A
     .intro _ _ c;subst c;simp[zJV]at f
     .intro _ c;subst c;simp[zJV]at f
     .intro _ c;subst c;simp[zJV]at f
     .intro _ c;subst c;simp[zJV]at f
     .intro c;subst c;simp[zJV]at f
    .cases h
   .cases h
  split at hc
  .cases hc;exact key rfl (.inl ⟨rfl,rfl⟩)
  .cases hc;exact key rfl (.inr ⟨rfl,rfl⟩)
  .cases hc
 .cases hc
end
section
variable{P:Program}{G:Cx}{E:Env}{w:World}{fr:Fr}{a:Act}{nt:Nat}{H:Heap}{nx:Nat}
theorem zUA{h:Nat}{st:Bool}{cs:JE}(u:HR E H w)(r:H.get h=some (.cells st cs))(off a:Nat):
  ∃w',(markStringish ⟨E.ρ h,off,none⟩).run P w=.ok () w'/\HR E (H.put h (.cells true cs)) w'/\Tr E H w E (H.put h (.cells true cs)) w' a a:=by
 obtain⟨c,e,f,g,z,o⟩:=CR.va (u.obj _ (Heap.qi r));obtain⟨j,m,l⟩:∃j:Nat×Nat,(w.freeze ⟨E.ρ h,c.size,none⟩ 1).heap=w.heap.setIfInBounds (E.ρ h) (.cells c e j)/\c.size<=j.1:=by
  obtain⟨q,n⟩:=f;refine⟨if q==n then(c.size,c.size+1)else(min q c.size,max n (c.size+1)),?_,?_⟩
  .apply Array.ext_getElem?;intro i;simp only[World.freeze,Nat.one_ne_zero,if_false,Array.getElem?_modify,Array.getElem?_setIfInBounds];have p:w.heap[E.ρ h]?=some (Obj.cells c e (q,n)):=g;obtain⟨b,d⟩:=Array.getElem?_eq_some_iff.1 p;by_cases y:E.ρ h=i
   .subst y;simp[d,b]
   .simp[y]
  .split
   .exact QA _
   .rename_i k;rcases z with h1|⟨_,h1⟩
    .simp only at h1;subst h1;simp at k
    .simp only at h1⊢;omega
 have b:=(Array.getElem?_eq_some_iff.1 g).1;have t:(w.freeze ⟨E.ρ h,c.size,none⟩ 1).heap[E.ρ h]?=some (.cells c e j):=by rw[m,Array.getElem?_setIfInBounds,if_pos rfl,if_pos b]
 have s:∀x,x≠E.ρ h->(w.freeze ⟨E.ρ h,c.size,none⟩ 1).heap[x]? = w.heap[x]?:=λx A=>by rw[m,Array.getElem?_setIfInBounds,if_neg (Ne.symm A)]
 have C:=z7.vV g t rfl s;obtain⟨m1,m2,_⟩:=zIK u r (w':=w.freeze ⟨E.ρ h,c.size,none⟩ 1) rfl rfl rfl (by rw[m,Array.size_setIfInBounds]) s C (o':=.cells true cs) (λB=>CR.or (o.mono B) t (.inr ⟨rfl,l⟩)) a
 refine⟨_,?_,m1,m2⟩
 simp[markStringish,World.shape?,g]
theorem zUB(D:HR E H w)(hf:FrR E w fr a nt)(hg:GR G E w){v:AV}{H':Heap}{nx':Nat}{o:Oper}{s d:TypeId}{x:Operand}{U:XO}{call:Sy.Call}(ho:o.op=.convert s d x)(hc:zQF P s d x=some U)
  (aj:zDL E nx nx') (h:xoS G call fr H nx U=some (v,H',nx')):zAn P E H w nx (execOp a.eval o) v H' nx':=by
 obtain⟨ax,ah,hc⟩:=za hc;have F:∀{p:AV},ax.ev G fr=some p->VR E w p (a.eval x):=λh=>zC hf hg ah h
 have S:∀r T,(convert s d (a.eval x)).run P w=.ok r T->(execOp a.eval o).run P w=.ok (.value r) T:=λr T h=>by simp only[execOp,ho,Sem.run_bind,h,Result.andThen_ok,Sem.run_pure]
 split at hc
 .rename_i X k2 h1 t;cases hc;simp only[xoS]at h;split at h
  .rename_i k n hn;cases h;obtain⟨z,_⟩:=(F hn).of_int;refine .qq (s:=convert s d (a.eval x)) D ?_ S
   rw[z];exact zHk (by simp[convert,run_underlying h1,run_underlying t,Conv.intToInt])
  .cases h
 .rename_i h1 t;cases hc;simp only[xoS]at h;split at h
  .rename_i l f;cases h;obtain⟨j,z,hs,J⟩:=(F f).q9;refine .qq (s:=convert s d (a.eval x)) D ⟨.string j,?_,.str _ _ hs J⟩ S
   rw[z];simp[convert,run_underlying h1,run_underlying t]
  .cases h
 .rename_i e h1 t;split at hc
  .rename_i M;cases hc;simp only[xoS]at h;split at h
   .rename_i l f;cases h;exact .qV (zUz (P:=P) D (aj nx (QA _) (by omega)) (F f) h1 t M) S
   .cases h
  .cases hc
 .rename_i e h1 t;split at hc
  .rename_i M;cases hc;simp only[xoS]at h;split at h
   .cases h
   .rename_i y ak hy;split at h
    .rename_i m C ag;split at h
     .rename_i l f;cases h;obtain⟨K,X,k2,W,k4,k5,k6,k7⟩:=zDP (P:=P) D (F hy) ag;have bytes:∀{C:JE}{l:JV}{K:JC},zAZ C=some l->VRs E w C K->∃j:List UInt8,K=j.map (λb=>Value.int .u8 b.toNat)/\j.map UInt8.toNat=l:=by
       intro C
       induction C with
       |nil=>
        intro l K f I;simp[zAZ]at f;subst f;rw[I.of_nil];exact⟨[],rfl,rfl⟩
       |cons c C ih=>
        intro l K f I;obtain⟨v,ar,rfl,ac,ai⟩:=I.of_cons;unfold zAZ at f;split at f
        .rename_i V;cases V
        rotate_left
        .cases f
        rename_i b r V;cases V;split at f
        .rename_i l' al;cases f;obtain⟨j,rfl,rfl⟩:=ih al ai;obtain⟨rfl,J⟩:=ac.of_int;have au:b<=255:=by
          have:=J.2;simp[IntKind.max,IntKind.signed,IntKind.bits]at this;omega
         have Q:(UInt8.ofNat b).toNat=b:=by simp;omega
         exact⟨UInt8.ofNat b::j,by simp[Q],by simp[Q]⟩
        .cases f
      obtain⟨j,rfl,rfl⟩:=bytes f X;refine .qq (s:=convert s d (a.eval x)) D ?_ S
      have g:j.length<=zf:=by simp at W;omega
      rcases k7 with⟨R,c,z,ae⟩|⟨bb,z,_⟩
      .rw[z]at k6⊢;have u:=run_convert_bytes_string (P:=P) w s d e R m c h1 M t;rw[u];cases R with
       |none=>
        have q:=k6 w rfl;have af:j=[]:=by
         simp only[Builtin.firstCells,Sem.run_pure,Result.ok.injEq,and_true]at q;have:=congrArg Array.size q;simp at this;exact List.eq_nil_of_length_eq_zero (by simpa using this.symm)
        subst af;exact⟨.string .empty,by simp[Conv.bytesToString],.str _ _ rfl (by simp)⟩
       |some R=>
        have q:=k6 w rfl;simp only[Builtin.firstCells,Nat.mul_one]at q;have:=run_bytesToString (P:=P) w R m c (j.map λb=>(b.toNat:Int)) (by rw[q];simp[Function.comp_def])
        rw[foldl_push_byteCells]at this;refine⟨_,this,.str _ _ ?_ (by simpa using g)⟩
        show((#[]:Array UInt8)++j.toArray).toList.map UInt8.toNat=_
        simp
      .have hx:=F hy;rw[z]at hx;cases hx with
       |str l _ _ _=>exact absurd rfl (ak l)
       |sym i _ _ _=>simp[content]at *
     .cases h
    .cases h
   .cases h
  .cases hc
 .rename_i V e h1 t;split at hc
  .rename_i B;have B:=zb B;split at hc
   .rename_i M;cases hc;simp only[xoS]at h;split at h
    .rename_i hd off len sz cp ex f;split at h
     .rename_i O;have A:0<len:=by simpa[Qg]using O
      split at h
      .rename_i st C N;cases h;have I:=F f;obtain⟨T,X,k2,W⟩:=zUA (P:=P) D N off nx;generalize aa:a.eval x=cx at I;cases I with
       |wm _ _ _ _ R=>exact absurd A (Nat.lt_irrefl _)
       |row _ _ _ _ _ cap _ hD g L ab Y ao J=>
        refine .qV (s:=convert s d (a.eval x)) ⟨.slice (some ⟨E.ρ hd,off,none⟩) len cap,E,T,?_,k2,W,?_⟩ S
        .rw[aa];have aq:(s==d)=true:=by rw[B];simp
         simp[convert,run_underlying h1,run_underlying t,run_underlying M,aq,X]
        .exact W.vr D (.row _ _ _ _ _ cap _ hD g L ab Y ao J)
      .cases h
     .cases h
    .cases h
   .cases hc
  .cases hc
 .cases hc
end
section
variable{P:Program}{G:Cx}{E:Env}{w:World}{fr:Fr}{a:Act}{nt:Nat}{H:Heap}{nx:Nat}
theorem zBK{o:Oper}{b:Builtin}{args:Array Operand}{ts:Array TypeId}(ho:o.op=.call { callee:=.builtin b,args:=args,argTypes:=ts }):
  (execOp a.eval o)=(builtin b ts o.type (args.map λ|.const _=>true|_=>false) (args.map a.eval)):=by
 simp only[execOp,ho,resolve,invoke];rfl
theorem zFo{α:Type}{l:Array α}{x:α}(h:l.toList=[x]):l=#[x]:=by cases l;simp_all
theorem zCe{α:Type}{l:Array α}{x y:α}(h:l.toList=[x,y]):l=#[x,y]:=by cases l;simp_all
theorem zHm{n:Nat}(h:n<=zf):has .i64 (n:Int):=by
 unfold zf at h
 constructor<;>simp[IntKind.min,IntKind.max,IntKind.signed,IntKind.bits]<;>omega
theorem zKJ(M:HR E H w)(U:FrR E w fr a nt)(T:GR G E w){v:AV}{H':Heap}{nx':Nat}{o:Oper}{b:Builtin}{args:Array Operand}{ts:Array TypeId}{aa:XO}{call:Sy.Call}
  (ho:o.op=.call { callee:=.builtin b,args:=args,argTypes:=ts }) (hc:zIL P b args.toList ts.toList=some aa)
  (bc:zDL E nx nx') (h:xoS G call fr H nx aa=some (v,H',nx')):zAn P E H w nx (execOp a.eval o) v H' nx':=by
 unfold zIL at hc;split at hc
 ·
  rename_i x t C B;have C:=zFo C;have B:=zFo B;subst C;subst B;obtain⟨X,I,hc⟩:=za hc;have V:∀{p:AV},X.ev G fr=some p->VR E w p (a.eval x):=λh=>zC U T I h
  have K:∀r A,(Builtin.len_ #[t] o.type #[a.eval x]).run P w=.ok r A->(execOp a.eval o).run P w=.ok (.value r) A:=λr A h=>by rw[zBK ho];simp[builtin,h]
  have fixed:∀{n:Nat},n<=zf->aa=.wZ n->(Builtin.len_ #[t] o.type #[a.eval x]).run P w=.ok (.int .i64 n) w->zAn P E H w nx (execOp a.eval o) v H' nx':=by
   intro n hn e h1;rw[e]at h;cases h;exact .qq M ⟨_,h1,.int _ _ (zHm hn)⟩ K
  split at hc
  .rename_i d;cases hc;simp only[xoS]at h;split at h
   .rename_i l L;cases h;obtain⟨bs,O,hs,hb⟩:=(V L).q9;refine .qq (s:=Builtin.len_ #[t] o.type #[a.eval x]) M ⟨.int .i64 (l.length:Int),?_,.int _ _ (zHm hb)⟩ K
    rw[O];simp[Builtin.len_,run_underlying d,goInt,zGa hs]
   .cases h
  .rename_i e d;cases hc;simp only[xoS]at h;have J:∀{n c:Nat}{ad:Option Addr},a.eval x=.slice ad n c->n<=zf->v=.int .i64 (n:Int)->H'=H->nx'=nx->zAn P E H w nx (execOp a.eval o) v H' nx':=by
    intro n c ad O hn e2 e3 e4;rw[e2,e3,e4];refine .qq (s:=Builtin.len_ #[t] o.type #[a.eval x]) M ⟨.int .i64 (n:Int),?_,.int _ _ (zHm hn)⟩ K
    rw[O];simp[Builtin.len_,run_underlying d,goInt]
   split at h
   .rename_i L;cases h;have F:=V L;generalize a.eval x=Y at *;cases F;exact J rfl (QV _) rfl rfl rfl
   .rename_i z es L;cases h;have F:=V L;generalize g:a.eval x=Y at F;cases F with
    |wq _ ad c hc=>exact J g (QV _) rfl rfl rfl
    |qo _ b o' cap _ f hz S bn bm bi hc=>exact J g (by omega) rfl rfl rfl
   .rename_i hd off len sz cp ex L;cases h;have F:=V L;generalize g:a.eval x=Y at F;cases F with
    |wm _ _ _ _ ad=>exact J g (QV _) rfl rfl rfl
    |row _ _ _ _ _ cap _ hD N S ab af ae au=>exact J g (by omega) rfl rfl rfl
   .cases h
  .rename_i k e d;cases hc;simp only[xoS]at h;split at h
   .rename_i L;cases h;have F:=V L;generalize g:a.eval x=Y at F;cases F;refine .qq (s:=Builtin.len_ #[t] o.type #[a.eval x]) M ⟨.int .i64 0,?_,.int _ _ (zHm (n:=0) (QV _))⟩ K
    rw[g];simp[Builtin.len_,run_underlying d,goInt]
   .rename_i hd L;split at h
    .rename_i es D;split at h
     .rename_i Q;cases h;obtain⟨O,hD⟩:=(V L).of_map;obtain⟨c,clock,hb,N,_,_⟩:=M.obj _ (Heap.qi D);have ac:(getObj (E.ρ hd)).run P w=.ok (.map c clock) w:=by simp[getObj,Sem.run,hb]
      refine .qq (s:=Builtin.len_ #[t] o.type #[a.eval x]) M ⟨.int .i64 (es.length:Int),?_,.int _ _ (zHm (QN Q))⟩ K
      rw[O];simp[Builtin.len_,run_underlying d,goInt,ac,N]
     .cases h
    .cases h
   .cases h
  .rename_i n e d;split at hc
   .rename_i Q;cases hc;exact fixed (QN Q) rfl (by simp[Builtin.len_,run_underlying d,goInt])
   .cases hc
  .rename_i e d;split at hc
   .rename_i n e' bg;split at hc
    .rename_i Q;cases hc;exact fixed (QN Q) rfl (by simp[Builtin.len_,run_underlying d,run_underlying bg,goInt])
    .cases hc
   .cases hc
  .cases hc
 ·
  rename_i x t C B;have C:=zFo C;have B:=zFo B;subst C;subst B;obtain⟨X,I,hc⟩:=za hc;have V:∀{p:AV},X.ev G fr=some p->VR E w p (a.eval x):=λh=>zC U T I h
  have K:∀r A,(Builtin.cap_ #[t] o.type #[a.eval x]).run P w=.ok r A->(execOp a.eval o).run P w=.ok (.value r) A:=λr A h=>by rw[zBK ho];simp[builtin,h]
  split at hc
  .rename_i e d;cases hc;have J:∀{n c:Nat}{ad:Option Addr},a.eval x=.slice ad n c->c<=zf->zAn P E H w nx (execOp a.eval o) (.int .i64 (c:Int)) H nx:=by
    intro n c ad O hn;refine .qq (s:=Builtin.cap_ #[t] o.type #[a.eval x]) M ⟨.int .i64 (c:Int),?_,.int _ _ (zHm hn)⟩ K
    rw[O];simp[Builtin.cap_,run_underlying d,goInt]
   simp only[xoS]at h;split at h
   .rename_i L;cases h;have F:=V L;generalize g:a.eval x=Y at F;cases F;exact J g (QV _)
   .rename_i hd off len sz cp L;cases h;have F:=V L;generalize g:a.eval x=Y at F;cases F with
    |wm _ _ _ _ ad=>exact J g (QV _)
    |row _ _ _ _ _ cap _ hD N S ab af ae au=>
     have:=ae rfl;subst this;exact J g S
   .cases h
  .cases hc
 ·
  rename_i x y t u C B;have C:=zCe C;have B:=zCe B;subst C;subst B;obtain⟨X,I,hc⟩:=za hc;obtain⟨ay,R,hc⟩:=za hc;have K:∀r A,(Builtin.append_ #[t,u] o.type #[a.eval x,a.eval y]).run P w=.ok r A->(execOp a.eval o).run P w=.ok (.value r) A:=λr A h=>by rw[zBK ho];simp[builtin,h]
  have J:∀{e:TypeId}{s n:Nat}{ah:JE},P.underlying t=some (.slice e)->(∃e',P.underlying u=some (.slice e'))\/P.underlying u=some .string->zCQ P e=some ah->zH P e=some s->zGH P e=some n->0<s →
    aa=.append X ay s n->zAn P E H w nx (execOp a.eval o) v H' nx':=by
   intro e s n ah h1 h2 h3 h4 h5 h6 O;rw[O]at h;simp only[xoS]at h;split at h
   .rename_i p q hp W;exact .qV (zQM (P:=P) M (zC U T I hp) (zC U T R W) h1 h2 h3 h4 h5 h6 bc h) K
   .cases h
  split at hc
  .rename_i e e' h1 h2;obtain⟨s,hs,hc⟩:=za hc;obtain⟨n,hn,hc⟩:=za hc;obtain⟨z,hz,hc⟩:=za hc;split at hc
   .cases hc
   .cases hc;exact J h1 (.inl ⟨_,h2⟩) hz hs hn (Qw _) rfl
  .rename_i e h1 h2;obtain⟨s,hs,hc⟩:=za hc;obtain⟨n,hn,hc⟩:=za hc;obtain⟨z,hz,hc⟩:=za hc;split at hc
   .cases hc;exact J h1 (.inr h2) hz hs hn (Qw _) rfl
   .cases hc
  .cases hc
 ·
  rename_i x y t u C B;have C:=zCe C;have B:=zCe B;subst C;subst B;obtain⟨X,I,hc⟩:=za hc;obtain⟨ay,R,hc⟩:=za hc;have K:∀r A,(Builtin.copy_ #[t,u] o.type #[a.eval x,a.eval y]).run P w=.ok r A->(execOp a.eval o).run P w=.ok (.value r) A:=λr A h=>by rw[zBK ho];simp[builtin,h]
  split at hc
  .rename_i e h1;obtain⟨s,hs,hc⟩:=za hc;split at hc
   .cases hc
   .cases hc;simp only[xoS]at h;split at h
    .rename_i p q hp W;exact .qV (zTd (P:=P) M (zC U T I hp) (zC U T R W) h1 hs (Qw _) h) K
    .cases h
  .cases hc
 ·
  rename_i x t C B;have C:=zFo C;have B:=zFo B;subst C;subst B;obtain⟨X,I,hc⟩:=za hc;have V:∀{p:AV},X.ev G fr=some p->VR E w p (a.eval x):=λh=>zC U T I h
  have K:∀r A,(Builtin.clear_ #[t] o.type #[a.eval x]).run P w=.ok r A->(execOp a.eval o).run P w=.ok (.value r) A:=λr A h=>by rw[zBK ho];simp[builtin,h]
  split at hc
  .rename_i e d;obtain⟨s,hs,hc⟩:=za hc;obtain⟨z,hz,hc⟩:=za hc;cases s with
   |zero=>cases hc
   |succ s=>
    cases hc;simp only[xoS]at h;split at h
    .rename_i L;cases h;have F:=V L;generalize g:a.eval x=Y at F;cases F;refine .qq (s:=Builtin.clear_ #[t] o.type #[a.eval x]) M ⟨.tuple #[],?_,VR.qI VRs.nil⟩ K
     rw[g];simp[Builtin.clear_,run_underlying d]
    .rename_i hd off len bj cp ex L;split at h
     .cases h
     rename_i bf;have:=zb bf;subst this;split at h
     .rename_i st cs D;split at h
      .rename_i Q;cases h;have bh:=QN Q;obtain⟨i,cz,hi,a7,bk,ai,aw,h2,h3⟩:=VR.zero (P:=P) (E:=E) (w:=w) (z:=.bool true) (v:=.bool true) (n:=0) hz;have a1:i.size=s+1:=by rw[hs]at ai;simpa using ai.symm
       obtain⟨m1,m2⟩:=zMq h2 h3 len;have F:=V L;generalize g:a.eval x=Y at F;cases F with
       |wm _ _ _ _ ad=>
        simp only[rep,zG1];rw[Heap.qt D];refine .qq (s:=Builtin.clear_ #[t] o.type #[a.eval x]) M ⟨.tuple #[],?_,VR.qI VRs.nil⟩ K
        rw[g];simp[Builtin.clear_,run_underlying d]
       |row _ _ _ _ _ cap _ hD N S ab af ae au=>
        obtain⟨A,r1,r2,r3⟩:=zEW (P:=P) M D (off:=off) m1 m2 (.inl (by rw[zNm,aw,a1];omega)) nx
        refine .qV (s:=Builtin.clear_ #[t] o.type #[a.eval x]) ⟨.tuple #[],E,A,?_,r2,r3,VR.qI VRs.nil⟩ K
        rw[g];have az:(zeroValue e).run P w=.ok cz w:=by simp[zeroValue,typeInfo,hi,a7]
        have ba:(Builtin.zeroCells cz.cells len).toList=(madeCells cz.cells (len*cz.cells.size)).toList:=rfl;cases len with
        |zero=>
         have:(madeCells cz.cells (0*cz.cells.size)).toList=[]:=by simp[madeCells,Array.range_zero']
         rw[this]at r1;simp[storeCells]at r1;subst r1;simp[Builtin.clear_,run_underlying d]
        |succ len=>
         simp[Builtin.clear_,run_underlying d,az,ba,r1]
      .cases h
     .cases h
    .cases h
  .rename_i k e d;cases hc;simp only[xoS]at h;split at h
   .rename_i L;cases h;have F:=V L;generalize g:a.eval x=Y at F;cases F;refine .qq (s:=Builtin.clear_ #[t] o.type #[a.eval x]) M ⟨.tuple #[],?_,VR.qI VRs.nil⟩ K
    rw[g];simp[Builtin.clear_,run_underlying d]
   .rename_i hd L;split at h
    .rename_i es D;cases h;obtain⟨O,hD⟩:=(V L).of_map;obtain⟨c,clock,hb,N,_,_⟩:=M.obj _ (Heap.qi D);have ac:(getObj (E.ρ hd)).run P w=.ok (.map c clock) w:=by simp[getObj,Sem.run,hb]
     obtain⟨A,s1,s2,s3,_⟩:=zDY (P:=P) M D hb (λ_ _ _ h=>by cases h) (ob':=.map #[] clock) (o':=.map []) (λA a8 hm=>⟨#[],clock,a8,rfl,λi k x hi=>by simp at hi,λi j m n hi=>by simp at hi⟩) nx
     refine .qV (s:=Builtin.clear_ #[t] o.type #[a.eval x]) ⟨.tuple #[],E,A,?_,s2,s3,VR.qI VRs.nil⟩ K
     rw[O];simp[Builtin.clear_,run_underlying d,ac,s1]
    .cases h
   .cases h
  .cases hc
 ·
  rename_i x y t u C B;have C:=zCe C;have B:=zCe B;subst C;subst B;obtain⟨X,I,hc⟩:=za hc;obtain⟨ay,R,hc⟩:=za hc;have K:∀r A,(Builtin.min_ #[t,u] o.type #[a.eval x,a.eval y]).run P w=.ok r A->(execOp a.eval o).run P w=.ok (.value r) A:=λr A h=>by rw[zBK ho];simp[builtin,h]
  split at hc
  .cases hc;simp only[xoS]at h;split at h
   .rename_i k p k' q hp W;split at h
    .rename_i hk;cases h;have:=zFb hk;subst this;obtain⟨O,b1⟩:=(zC U T I hp).of_int;obtain⟨e2,b2⟩:=(zC U T R W).of_int;refine .qq (s:=Builtin.min_ #[t,u] o.type #[a.eval x,a.eval y]) M ⟨_,by rw[O,e2];exact run_min_int2 w _ _ _ _ _ _,.int _ _ (by split<;>assumption)⟩ K
    .cases h
   .cases h
  .cases hc
 ·
  rename_i x y t u C B;have C:=zCe C;have B:=zCe B;subst C;subst B;obtain⟨X,I,hc⟩:=za hc;obtain⟨ay,R,hc⟩:=za hc;have K:∀r A,(Builtin.max_ #[t,u] o.type #[a.eval x,a.eval y]).run P w=.ok r A->(execOp a.eval o).run P w=.ok (.value r) A:=λr A h=>by rw[zBK ho];simp[builtin,h]
  split at hc
  .cases hc;simp only[xoS]at h;split at h
   .rename_i k p k' q hp W;split at h
    .rename_i hk;cases h;have:=zFb hk;subst this;obtain⟨O,b1⟩:=(zC U T I hp).of_int;obtain⟨e2,b2⟩:=(zC U T R W).of_int;refine .qq (s:=Builtin.max_ #[t,u] o.type #[a.eval x,a.eval y]) M ⟨_,by rw[O,e2];exact run_max_int2 w _ _ _ _ _ _,.int _ _ (by split<;>assumption)⟩ K
    .cases h
   .cases h
  .cases hc
 ·
  rename_i m k t u C B;have C:=zCe C;have B:=zCe B;subst C;subst B;obtain⟨am,al,hc⟩:=za hc;obtain⟨ak,be,hc⟩:=za hc;have K:∀r A,(Builtin.delete_ #[t,u] o.type #[a.eval m,a.eval k]).run P w=.ok r A->(execOp a.eval o).run P w=.ok (.value r) A:=λr A h=>by rw[zBK ho];simp[builtin,h]
  split at hc
  .rename_i kt et d;obtain⟨q,W,hc⟩:=za hc;cases hc;unfold zMG at W;obtain⟨ks,ar,W⟩:=za W;obtain⟨ag,aq,W⟩:=za W;cases W;simp only[xoS]at h;split at h
   .rename_i vm vk hm hk;split at h
    .cases h
    rename_i aj;have ao:=zC U T be hk;split at h
    .cases h;have F:=zC U T al hm;generalize g:a.eval m=Y at F;cases F;have a6:=zDn (P:=P) (em:=true) ar aq ao aj;refine .qq (s:=Builtin.delete_ #[t,u] o.type #[a.eval m,a.eval k]) M ⟨.tuple #[],?_,VR.qI VRs.nil⟩ K
     rw[g];simp[Builtin.delete_,run_underlying d,a6]
    .split at h
     .rename_i es D;split at h
      .rename_i bl bb;cases h;obtain⟨A,r1,r2,r3⟩:=zUu (P:=P) (ts:=#[t,u]) (ty:=o.type) (nx:=nx) M d ar aq rfl (zC U T al hm) ao aj D bb;exact .qV (s:=Builtin.delete_ #[t,u] o.type #[a.eval m,a.eval k]) ⟨.tuple #[],E,A,r1,r2,r3,VR.qI VRs.nil⟩ K
      .cases h
     .cases h
    .cases h
   .cases h
  .cases hc
 .cases hc
end
end Go.Sy
