/- A LIBRARY: WHAT A FUNCTION'S CODE RECKONS, AS A LEAN FUNCTION, AND THAT ITS WORD IS THE MODEL'S: part 1 of 6. No condition. -/
import Derived.Calls
import Derived.Orders
import Derived.Laws.Sem
import Derived.Laws.Strings
import Derived.Laws.Small
import Derived.Laws.Entries
import Derived.Laws.StructEq
import Derived.Laws.Externs
import Derived.Laws.Cells
import Derived.Laws.Pointers
import Derived.Laws.AppendOwn
import Derived.Laws.MakeOwn
import Derived.Laws.IdiomStrings
import Derived.Laws.RangeString
import Derived.Laws.IdiomRangeMap
set_option linter.unusedVariables false
set_option linter.unusedSimpArgs false
theorem qr:type_of% @Int.ofNat_eq_natCast:=@Int.ofNat_eq_natCast
theorem QA:type_of% @Bool.and_eq_true:=@Bool.and_eq_true
theorem QB:type_of% @Nat.le_refl:=@Nat.le_refl
theorem QC:type_of% @List.getElem?_eq_some_iff:=@List.getElem?_eq_some_iff
theorem QD:type_of% @List.getElem?_eq_getElem:=@List.getElem?_eq_getElem
theorem QE:type_of% @List.length_append:=@List.length_append
theorem QF:type_of% @List.mem_of_getElem?:=@List.mem_of_getElem?
theorem QG:type_of% @List.length_map:=@List.length_map
theorem QH:type_of% @List.all_eq_true:=@List.all_eq_true
theorem QI:type_of% @List.mem_append:=@List.mem_append
theorem QJ:type_of% @List.mem_cons:=@List.mem_cons
theorem QK:type_of% @Option.some.injEq:=@Option.some.injEq
theorem QL:type_of% @List.length_cons:=@List.length_cons
theorem QM:type_of% @Nat.le_of_ble_eq_true:=@Nat.le_of_ble_eq_true
theorem QN:type_of% @Nat.zero_le:=@Nat.zero_le
theorem QO:type_of% @List.mem_of_mem_take:=@List.mem_of_mem_take
theorem QP:type_of% @List.append_assoc:=@List.append_assoc
theorem QR:type_of% @List.mem_map:=@List.mem_map
theorem QS:type_of% @Nat.lt_succ_self:=@Nat.lt_succ_self
theorem QT:type_of% @Bool.and_true:=@Bool.and_true
theorem QU:type_of% @List.mem_singleton:=@List.mem_singleton
theorem QV:type_of% @Nat.le_succ:=@Nat.le_succ
theorem QW:type_of% @Nat.lt_of_lt_of_le:=@Nat.lt_of_lt_of_le
theorem QX:type_of% @List.mem_of_mem_drop:=@List.mem_of_mem_drop
theorem QY:type_of% @List.all_cons:=@List.all_cons
theorem QZ:type_of% @List.map_cons:=@List.map_cons
theorem Qa:type_of% @Nat.zero_add:=@Nat.zero_add
theorem Qb:type_of% @List.getElem?_map:=@List.getElem?_map
theorem Qc:type_of% @decide_eq_true:=@decide_eq_true
theorem Qd:type_of% @decide_eq_false:=@decide_eq_false
theorem Qe:type_of% @Nat.le_of_lt:=@Nat.le_of_lt
theorem Qf:type_of% @Array.getElem?_eq_getElem:=@Array.getElem?_eq_getElem
theorem Qg:type_of% @List.getElem_mem:=@List.getElem_mem
theorem Qh:type_of% @Nat.le_trans:=@Nat.le_trans
theorem Qi:type_of% @Nat.blt_eq:=@Nat.blt_eq
theorem Qj:type_of% @List.length_take:=@List.length_take
theorem Qk:type_of% @List.append_nil:=@List.append_nil
theorem Ql:type_of% @Int.natCast_nonneg:=@Int.natCast_nonneg
theorem Qm:type_of% @of_decide_eq_true:=@of_decide_eq_true
theorem Qn:type_of% @List.length_drop:=@List.length_drop
theorem Qo:type_of% @List.drop_eq_getElem_cons:=@List.drop_eq_getElem_cons
theorem Qp:type_of% @List.length_nil:=@List.length_nil
theorem Qq:type_of% @Nat.le_add_right:=@Nat.le_add_right
theorem Qr:type_of% @Nat.ble_eq:=@Nat.ble_eq
theorem Qs:type_of% @List.mem_append_right:=@List.mem_append_right
theorem Qt:type_of% @Option.some.inj:=@Option.some.inj
theorem Qu:type_of% @List.map_append:=@List.map_append
theorem Qv:type_of% @Int.ofNat_le:=@Int.ofNat_le
theorem Qw:type_of% @List.mem_append_left:=@List.mem_append_left
theorem Qx:type_of% @List.nodup_cons:=@List.nodup_cons
theorem Qy:type_of% @List.getElem?_append_left:=@List.getElem?_append_left
theorem Qz:type_of% @Nat.succ_pos:=@Nat.succ_pos
namespace Go.Sy
abbrev JV:=List Nat
abbrev JN:=List (Nat×Nat)
abbrev JA:=Nat->Option Nat
abbrev JB:=Array Value
abbrev JC:=List Value
inductive AV where
 |bool (b:Bool)
 |int (k:IntKind) (n:Int)
 |str (s:JV)
 |qo
 |ptr (h off:Nat)
 |qc (e:AV) (off:Nat)
 |qa
 |qf (sz:Nat) (es:List AV)
 |row (h off len sz cp:Nat) (ex:Bool)
 |qn
 |map (h:Nat)
 |ql
 |func (fn:Fn) (first caps:List AV)
 |qe
 |iface (t:Nat) (v:AV)
 |agg (cs:List AV)
 |qd (vs:List AV)
 |sym (i:Nat)
abbrev JE:=List AV
abbrev JF:=Option AV
inductive HO where
 |cells (str:Bool) (cs:JE)
 |map (es:List (AV×AV))
 |wx (s:JV) (pos:Nat)
abbrev Heap:=List (Nat×HO)
def AV.cells:AV->JE
 |.agg b=>b
 |v=>[v]
structure Env where
 ρ:Nat->Nat
 D:Nat->Prop
 Z:Nat->Prop
 σ:Nat->Value
def zh:Nat:=9223372036854775807
def has(k:IntKind)(n:Int):Prop:=k.min<=n/\n<=k.max
inductive VR(E:Env)(w:World):AV->Value->Prop where
 |bool (b:Bool):VR E w (.bool b) (.bool b)
 |int (k:IntKind) (n:Int) (h:has k n):VR E w (.int k n) (.int k n)
 |str (l:JV) (s:ByteArray) (h:s.data.toList.map UInt8.toNat=l) (hl:l.length<=zh):VR E w (.str l) (.string s)
 |qo:VR E w .qo (.pointer none)
 |ptr (h off:Nat) (hd:E.D h):VR E w (.ptr h off) (.pointer (some ⟨E.ρ h,off,none⟩))
 |qc (e:AV) (off b o:Nat) (cv:Value) (uH:(match e with|.qd _=>false|_=>true)=true) (hz:E.Z b) (hv:VR E w e cv)
   (hc:∀j c,cv.cells[j]?=some c->w.cell? ⟨b,o+j,none⟩=some c):VR E w (.qc e off) (.pointer (some ⟨b,o+off,none⟩))
 |qa:VR E w .qa (.slice none 0 0)
 |wj (sz:Nat) (a:Option Addr) (c:Nat) (hc:c<=zh):VR E w (.qf sz []) (.slice a 0 c)
 |qf (es:JE) (b o cap sz:Nat) (f:Nat->Value) (hz:E.Z b) (hcap:es.length<=cap) (hcm:cap<=zh) (uH:∀(i:Nat) e,es[i]?=some e->(match e with|.qd _=>false|_=>true)=true)
   (hv:∀i e,es[i]?=some e->VR E w e (f i))
   (hc:∀i,i<es.length->(f i).cells.size=sz/\∀j c,(f i).cells[j]?=some c->w.cell? ⟨b,o+i*sz+j,none⟩=some c):
   VR E w (.qf sz es) (.slice (some ⟨b,o,none⟩) es.length cap)
 |row (h off len sz cp cap:Nat) (ex:Bool) (hd:E.D h) (hlen:len<=cap) (hcap:cap<=zh) (hsz:0<sz) (hcp:cp<=cap) (hex:ex=true->cap=cp)
   (hb:∃c e f,w.heap[E.ρ h]?=some (.cells c e f)/\off+cap*sz<=c.size):VR E w (.row h off len sz cp ex) (.slice (some ⟨E.ρ h,off,none⟩) len cap)
 |wm (h off sz:Nat) (ex:Bool) (a:Addr):VR E w (.row h off 0 sz 0 ex) (.slice (some a) 0 0)
 |qn:VR E w .qn (.map none)
 |map (h:Nat) (hd:E.D h):VR E w (.map h) (.map (some (E.ρ h)))
 |ql:VR E w .ql .nilFunc
 |func (fn:Fn) (f c:JE) (vf vc:JB) (hf:f.length=vf.size) (hc:c.length=vc.size)
   (rf:∀(i:Nat) x v,f[i]?=some x->vf[i]?=some v->VR E w x v) (rc:∀(i:Nat) x v,c[i]?=some x->vc[i]?=some v->VR E w x v):
   VR E w (.func fn f c) (.func fn vf vc)
 |qe:VR E w .qe .nilIface
 |iface (t:Nat) (v:AV) (cv:Value) (h:VR E w v cv):VR E w (.iface t v) (.iface t cv)
 |agg (cs:JE) (vs:JB) (hl:cs.length=vs.size) (h:∀(i:Nat) x v,cs[i]?=some x->vs[i]?=some v->VR E w x v)
   (h1:∀(i:Nat) v,vs[i]?=some v->v.oneCell'=true):VR E w (.agg cs) (.agg vs)
 |qd (cs:JE) (vs:JB) (hl:cs.length=vs.size) (h:∀(i:Nat) x v,cs[i]?=some x->vs[i]?=some v->VR E w x v):
   VR E w (.qd cs) (.tuple vs)
 |sym (i:Nat) (cv:Value) (he:cv=E.σ i) (h1:cv.oneCell'=true):VR E w (.sym i) cv
def zAw(w w':World):Prop:=
 ∀(b:Nat)(c:JB)(e:TypeId)(f:Nat×Nat),w.heap[b]?=some (Obj.cells c e f)->∃(d:JB) (g:Nat×Nat),w'.heap[b]?=some (Obj.cells d e g)/\d.size=c.size
theorem zAw.refl(w:World):zAw w w:=λ_ c _ f h=>⟨c,f,h,rfl⟩
theorem zAw.trans{a b c:World}(h:zAw a b)(k:zAw b c):zAw a c:=λx y e f d=>
 let ⟨_,f1,h1,h2⟩:=h x y e f d
 let ⟨c',f',k1,k2⟩:=k x _ e f1 h1
 ⟨c',f',k1,k2.trans h2⟩
theorem zDw{w w':World}{b o:Nat}(h:w'.heap[b]? = w.heap[b]?):w'.cell? ⟨b,o,none⟩=w.cell? ⟨b,o,none⟩:=by
 simp only[World.cell?,h]
theorem VR.mono{E E':Env}{w w':World}(m:∀h,E.D h->E'.D h/\E'.ρ h=E.ρ h)(y:∀b,E.Z b->E'.Z b/\w'.heap[b]? = w.heap[b]?)
  (Y:zAw w w') {v:AV} {cv:Value} (h:VR E w v cv) (R:E'.σ=E.σ:=by rfl):VR E' w' v cv:=by
 induction h with
 |bool b=>exact .bool b
 |int k n h=>exact .int k n h
 |str l s h x=>exact .str l s h x
 |qo=>exact .qo
 |ptr h off hd=>rw[←(m h hd).2];exact .ptr h off (m h hd).1
 |qc e off b o cv q u _ hc g=>exact .qc e off b o cv q (y b u).1 g λj c C=>by rw[zDw (y b u).2];exact hc j c C
 |qa=>exact .qa
 |wj p a c hc=>exact .wj p a c hc
 |qf N b o cap p f u d F q _ hc g=>
  exact .qf N b o cap p f (y b u).1 d F q g λi hi=>⟨(hc i hi).1,λj c C=>by rw[zDw (y b u).2];exact(hc i hi).2 j c C⟩
 |row h off len p T cap J hd r d B z K hb=>
  obtain⟨c,e,f,h1,h2⟩:=hb;obtain⟨V,Q,U,k2⟩:=Y _ c e f h1;rw[←(m h hd).2];exact .row h off len p T cap J (m h hd).1 r d B z K ⟨V,e,Q,by rw[(m h hd).2];exact U,by omega⟩
 |wm h off p J a=>exact .wm h off p J a
 |qn=>exact .qn
 |map h hd=>rw[←(m h hd).2];exact .map h (m h hd).1
 |ql=>exact .ql
 |func fn f c O X M hc _ _ W L=>exact .func fn f c O X M hc W L
 |qe=>exact .qe
 |iface t v cv _ g=>exact .iface t v cv g
 |agg I A x _ h1 g=>exact .agg I A x g h1
 |qd I A x _ g=>exact .qd I A x g
 |sym i cv S h1=>exact .sym i cv (S.trans (congrFun R i).symm) h1
def VRs(E:Env)(w:World)(xs:JE)(vs:JC):Prop:=xs.length=vs.length/\∀(i:Nat) x v,xs[i]?=some x->vs[i]?=some v->VR E w x v
theorem VRs.nil{E:Env}{w:World}:VRs E w [] []:=⟨rfl,λi x v h=>by simp at h⟩
theorem VRs.cons{E:Env}{w:World}{x:AV}{v:Value}{xs:JE}{vs:JC}(h:VR E w x v)(c:VRs E w xs vs):VRs E w (x::xs) (v::vs):=
 ⟨by simp[c.1],λi y u b hu=>by
  cases i with
  |zero=>simp at b hu;subst b;subst hu;exact h
  |succ i=>simp at b hu;exact c.2 i y u b hu⟩
theorem VRs.of_cons{E:Env}{w:World}{x:AV}{xs:JE}{vs:JC}(h:VRs E w (x::xs) vs):∃v b,vs=v::b/\VR E w x v/\VRs E w xs b:=by
 cases vs with
 |nil=>have:=h.1;simp at this
 |cons v vs=>exact⟨v,vs,rfl,h.2 0 x v rfl rfl,by have:=h.1;simpa using this,λi y u c hu=>h.2 (i+1) y u (by simpa using c) (by simpa using hu)⟩
theorem VRs.of_nil{E:Env}{w:World}{vs:JC}(h:VRs E w [] vs):vs=[]:=by
 have:=h.1;cases vs<;>simp_all
theorem VRs.mono{E E':Env}{w w':World}(hm:∀{v cv},VR E w v cv->VR E' w' v cv){xs:JE}{vs:JC}(h:VRs E w xs vs):VRs E' w' xs vs:=
 ⟨h.1,λi x v c b=>hm (h.2 i x v c b)⟩
theorem VRs.append{E:Env}{w:World}:∀{xs:JE}{vs:JC}{c:JE}{b:JC},VRs E w xs vs->VRs E w c b->VRs E w (xs++c) (vs++b)
 |[],vs,c,b,h,k=>by rw[h.of_nil];simpa using k
 |x::xs,vs,c,b,h,k=>by
  obtain⟨v,d,rfl,h1,h2⟩:=h.of_cons;exact .cons h1 (h2.append k)
theorem VRs.getElem?{E:Env}{w:World}{xs:JE}{vs:JC}(h:VRs E w xs vs){i:Nat}{x:AV}(hx:xs[i]?=some x):∃v,vs[i]?=some v/\VR E w x v:=by
 have hi:i<xs.length:=by
  rcases Nat.lt_or_ge i xs.length with b|b
  .exact b
  .rw[List.getElem?_eq_none b]at hx;cases hx
 have c:vs[i]?=some (vs[i]'(h.1▸hi)):=QD _
 exact⟨_,c,h.2 i x _ hx c⟩
theorem VRs.extract{E:Env}{w:World}{xs:JE}{vs:JC}(h:VRs E w xs vs)(a n:Nat):VRs E w ((xs.drop a).take n) ((vs.drop a).take n):=
 ⟨by simp[h.1],λi x v b c=>by
  rw[List.getElem?_take]at b c;split at b
  .rename_i hi;simp only[hi,if_true,List.getElem?_drop]at b c;exact h.2 _ x v b c
  .cases b⟩
theorem VR.qY{E:Env}{w:World}{cs:JE}{cv:Value}(h:VR E w (.agg cs) cv):∃vs:JB,cv=.agg vs/\VRs E w cs vs.toList/\∀v∈vs.toList,v.oneCell'=true:=by
 cases h with
 |agg _ vs c h h1=>
  refine⟨vs,rfl,⟨by simpa using c,λi x v d b=>h i x v d (by simpa using b)⟩,λv b=>?_⟩
  obtain⟨i,hi⟩:=List.getElem?_of_mem b;exact h1 i v (by simpa using hi)
theorem VR.qP{E:Env}{w:World}{cs:JE}{vs:JB}(h:VRs E w cs vs.toList)(h1:∀v∈vs.toList,v.oneCell'=true):VR E w (.agg cs) (.agg vs):=
 .agg cs vs (by simpa using h.1) (λi x v c b=>h.2 i x v c (by simpa using b)) λi v b=>h1 v (by
  have:=QF (l:=vs.toList) (i:=i) (a:=v) (by simpa using b)
  exact this)
theorem VR.va{E:Env}{w:World}{cs:JE}{cv:Value}(h:VR E w (.qd cs) cv):∃vs:JB,cv=.tuple vs/\VRs E w cs vs.toList:=by
 cases h with
 |qd _ vs c h=>exact⟨vs,rfl,⟨by simpa using c,λi x v d b=>h i x v d (by simpa using b)⟩⟩
theorem VR.qG{E:Env}{w:World}{cs:JE}{vs:JB}(h:VRs E w cs vs.toList):VR E w (.qd cs) (.tuple vs):=
 .qd cs vs (by simpa using h.1) λi x v c b=>h.2 i x v c (by simpa using b)
def AV.one:AV->Bool
 |.agg _|.qd _=>false
 |_=>true
theorem VR.wQ{E:Env}{w:World}{v:AV}{cv:Value}(h:VR E w v cv)(h1:v.one=true):cv.oneCell'=true:=by
 cases h<;>simp_all[AV.one,Value.oneCell']
theorem VR.uC{E:Env}{w:World}{v:AV}{cv:Value}(h:VR E w v cv)(h1:v.one=true):cv.cells=#[cv]:=by
 have h2:=h.wQ h1;cases cv<;>simp_all[Value.cells,Value.oneCell']
def AV.flat:AV->Bool
 |.qd _=>false
 |_=>true
theorem VR.cells{E:Env}{w:World}{v:AV}{cv:Value}(h:VR E w v cv)(b:v.flat=true):VRs E w v.cells cv.cells.toList/\∀u∈cv.cells.toList,u.oneCell'=true:=by
 cases v with
 |agg d=>
  obtain⟨c,rfl,h2,h3⟩:=h.qY;exact⟨h2,h3⟩
 |qd c=>simp[AV.flat]at b
 |_=>
  have h1:=h.uC rfl;have h2:=h.wQ rfl;rw[h1];exact⟨VRs.cons h VRs.nil,λu hu=>by
   have:u=cv:=by simpa using hu
   rw[this];exact h2⟩
def Heap.get:Heap->Nat->Option HO
 |[],_=>none
 |(k,o)::r,h=>match Nat.beq k h with
  |true=>some o
  |false=>Heap.get r h
def Heap.put:Heap->Nat->HO->Heap
 |[],_,_=>[]
 |(k,o)::r,h,n=>match Nat.beq k h with
  |true=>(k,n)::r
  |false=>(k,o)::Heap.put r h n
def Heap.del:Heap->Nat->Heap
 |[],_=>[]
 |(k,o)::r,h=>match Nat.beq k h with
  |true=>r
  |false=>(k,o)::Heap.del r h
def Heap.keys(H:Heap):JV:=H.map (·.1)
theorem zb{a b:Nat}(h:Nat.beq a b=true):a=b:=Nat.eq_of_beq_eq_true h
theorem zAU{a b:Nat}(h:Nat.beq a b=false):a≠b:=Nat.ne_of_beq_eq_false h
theorem Heap.qj:∀{H:Heap}{h:Nat}{o:HO},H.get h=some o->(h,o)∈H
 |(k,b)::r,h,o,e=>by
  simp only[Heap.get]at e;split at e
  .rename_i hb;cases e;rw[zb hb];exact .head _
  .exact .tail _ (Heap.qj e)
theorem Heap.wO:∀(H:Heap)(h:Nat)(o:HO),(H.put h o).keys=H.keys
 |[],_,_=>rfl
 |(k,b)::r,h,o=>by
  simp only[Heap.put];split
  .rfl
  .show k::(Heap.put r h o).keys=k::Heap.keys r
   rw[Heap.wO r h o]
theorem Heap.vC:∀{H:Heap}{h:Nat}{o:HO}{p:Nat×HO},H.keys.Nodup->p∈H.put h o->p=(h,o)\/(p∈H/\p.1≠h)
 |(k,g)::r,h,o,p,f,c=>by
  simp only[Heap.put]at c;have d:k ∉ Heap.keys r/\(Heap.keys r).Nodup:=Qx.1 f;split at c
  .rename_i hb;have:=zb hb;subst this;cases c with
   |head=>exact .inl rfl
   |tail _ c=>exact .inr ⟨.tail _ c,λe=>d.1 (e▸List.mem_map_of_mem c)⟩
  .rename_i hb;cases c with
   |head=>exact .inr ⟨.head _,zAU hb⟩
   |tail _ c=>exact(Heap.vC d.2 c).imp id λ⟨a,b⟩=>⟨.tail _ a,b⟩
theorem Heap.vu:∀{H:Heap}{h:Nat}{p:Nat×HO},H.keys.Nodup->p∈H.del h->p∈H/\p.1≠h
 |(k,g)::r,h,p,f,c=>by
  simp only[Heap.del]at c;have d:k ∉ Heap.keys r/\(Heap.keys r).Nodup:=Qx.1 f;split at c
  .rename_i hb;have:=zb hb;subst this;exact⟨.tail _ c,λe=>d.1 (e▸List.mem_map_of_mem c)⟩
  .rename_i hb;cases c with
   |head=>exact⟨.head _,zAU hb⟩
   |tail _ c=>exact let ⟨a,b⟩:=Heap.vu d.2 c;⟨.tail _ a,b⟩
theorem Heap.wz:∀(H:Heap)(h:Nat),(H.del h).Sublist H
 |[],_=>.slnil
 |(k,o)::r,h=>by
  simp only[Heap.del];split
  .exact List.sublist_cons_self _ _
  .exact(Heap.wz r h).cons_cons _
def OR(E:Env)(w:World)(b:Nat):HO->Prop
 |.cells str g=>∃(c:JB) (e:TypeId) (f:Nat×Nat),w.heap[b]?=some (Obj.cells c e f)/\g.length<=c.size/\(f.2=f.1\/(str=true/\c.size<=f.1)) ∧
   ∀(i:Nat) x,g[i]?=some x->∃v,c[i]?=some v/\v.oneCell'=true/\VR E w x v
 |.map h=>∃(c:Array MapEntry) (clock:Nat),w.heap[b]?=some (Obj.map c clock)/\h.length=c.size ∧
   (∀(i:Nat) k x,h[i]?=some (k,x)->∃m,c[i]?=some m/\VR E w k m.key/\VR E w x m.val/\m.born<clock) ∧
   ∀(i j:Nat) m n,c[i]?=some m->c[j]?=some n->m.born=n.born->i=j
 |.wx s pos=>∃d:ByteArray,w.heap[b]?=some (Obj.stringIter d pos)/\d.data.toList.map UInt8.toNat=s
theorem OR.lt{E:Env}{w:World}{b:Nat}{o:HO}(h:OR E w b o):b<w.heap.size:=by
 cases o with
 |cells _ d=>obtain⟨c,e,f,h,_⟩:=h;exact(Array.getElem?_eq_some_iff.1 h).1
 |map g=>obtain⟨c,e,h,_⟩:=h;exact(Array.getElem?_eq_some_iff.1 h).1
 |wx s pos=>obtain⟨c,h,_⟩:=h;exact(Array.getElem?_eq_some_iff.1 h).1
theorem OR.mono{E E':Env}{w w':World}{b:Nat}{o:HO}(hb:w'.heap[b]? = w.heap[b]?)(hm:∀{v cv},VR E w v cv->VR E' w' v cv)(h:OR E w b o):OR E' w' b o:=by
 cases o with
 |cells _ l=>
  obtain⟨c,e,f,h1,h2,h3,h4⟩:=h;exact⟨c,e,f,hb.trans h1,h2,h3,λi x g=>let ⟨v,a,b,d⟩:=h4 i x g;⟨v,a,b,hm d⟩⟩
 |map n=>
  obtain⟨c,clock,h1,h2,h3,h4⟩:=h;exact⟨c,clock,hb.trans h1,h2,λi k x g=>let ⟨m,a,b,d,e⟩:=h3 i k x g;⟨m,a,hm b,hm d,e⟩,h4⟩
 |wx s pos=>
  obtain⟨j,h1,h2⟩:=h;exact⟨j,hb.trans h1,h2⟩
structure HR(E:Env)(H:Heap)(w:World):Prop where
 nodup:H.keys.Nodup
 qy:∀p∈H,E.D p.1
 inj:∀p∈H,∀q∈H,E.ρ p.1=E.ρ q.1->p.1=q.1
 obj:∀p∈H,OR E w (E.ρ p.1) p.2
 nz:∀p∈H,¬E.Z (E.ρ p.1)
 wi:∀b,E.Z b->b<w.heap.size
theorem HR.lt{E:Env}{H:Heap}{w:World}(h:HR E H w){p:Nat×HO}(b:p∈H):E.ρ p.1<w.heap.size:=(h.obj p b).lt
theorem HR.sub{E:Env}{H H':Heap}{w:World}(h:HR E H w)(c:H'.Sublist H):HR E H' w:=
 ⟨h.nodup.sublist (c.map _),λp b=>h.qy p (c.subset b),λp b q d=>h.inj p (c.subset b) q (c.subset d),
  λp b=>h.obj p (c.subset b),λp b=>h.nz p (c.subset b),h.wi⟩
structure Tr(E:Env)(H:Heap)(w:World)(E':Env)(H':Heap)(w':World)(a b:Nat):Prop where
 le:a<=b
 agree:∀h,E.D h->E'.ρ h=E.ρ h
 qy:∀h,E'.D h↔E.D h\/(a<=h/\h<b)
 qJ:∀x,E.Z x->E'.Z x
 qS:∀x,E'.Z x->E.Z x\/(∃p∈H,E.ρ p.1=x)\/w.heap.size<=x
 own:∀p∈H',(∃q∈H,E.ρ q.1=E'.ρ p.1)\/w.heap.size<=E'.ρ p.1
 tape:w'.tape=w.tape
 os:w'.os=w.os
 output:w'.output=w.output
 size:w.heap.size<=w'.heap.size
 qM:∀x,x<w.heap.size->(∀p∈H,E.ρ p.1≠x)->w'.heap[x]? = w.heap[x]?
 qp:zAw w w'
 sig:E'.σ=E.σ:=by rfl
theorem Tr.refl{E:Env}{H:Heap}{w:World}(a:Nat):Tr E H w E H w a a:=
 ⟨QB _,λ_ _=>rfl,λh=>⟨.inl,λh=>h.elim id λ⟨x,y⟩=>by omega⟩,λ_ h=>h,λ_ h=>.inl h,λp b=>.inl ⟨p,b,rfl⟩,rfl,rfl,rfl,QB _,λ_ _ _=>rfl,.refl w,rfl⟩
theorem Tr.sub{E:Env}{H:Heap}{w:World}{E':Env}{H' H2:Heap}{w':World}{a b:Nat}(h:Tr E H w E' H' w' a b)(d:H2.Sublist H'):Tr E H w E' H2 w' a b:=
 { h with own:=λp c=>h.own p (d.subset c) }
theorem Tr.vr{E:Env}{H:Heap}{w:World}{E':Env}{H':Heap}{w':World}{a b:Nat}(d:HR E H w)(h:Tr E H w E' H' w' a b){v:AV}{cv:Value}(g:VR E w v cv):VR E' w' v cv:=
 g.mono (λx c=>⟨(h.qy x).2 (.inl c),h.agree x c⟩)
  (λx c=>⟨h.qJ x c,h.qM x (d.wi x c) λp f e=>d.nz p f (e▸c)⟩) h.qp h.sig
theorem Tr.trans{E:Env}{H:Heap}{w:World}{m:Env}{l:Heap}{g:World}{E2:Env}{H2:Heap}{n:World}{a b c:Nat}
  (_:HR m l g) (h:Tr E H w m l g a b) (k:Tr m l g E2 H2 n b c):Tr E H w E2 H2 n a c where
 le:=Qh h.le k.le
 agree x d:=(k.agree x ((h.qy x).2 (.inl d))).trans (h.agree x d)
 qy x:=by
  rw[k.qy,h.qy];have:=h.le;have:=k.le
  constructor
  .rintro ((h|h)|h)
   .exact .inl h
   .exact .inr ⟨by omega,by omega⟩
   .exact .inr ⟨by omega,by omega⟩
  .rintro (h|h)
   .exact .inl (.inl h)
   .by_cases d:x<b
    .exact .inl (.inr ⟨by omega,d⟩)
    .exact .inr ⟨by omega,by omega⟩
 qJ x d:=k.qJ x (h.qJ x d)
 qS x d:=by
  rcases k.qS x d with h1|⟨p,f,rfl⟩|h1
  .exact h.qS x h1
  .exact .inr (h.own p f)
  .exact .inr (.inr (Qh h.size h1))
 own p f:=by
  rcases k.own p f with⟨q,j,e⟩|h1
  .rw[←e];exact h.own q j
  .exact .inr (Qh h.size h1)
 tape:=k.tape.trans h.tape
 os:=k.os.trans h.os
 output:=k.output.trans h.output
 size:=Qh h.size k.size
 qM x d f:=by
  rw[k.qM x (QW d h.size) λp i e=>by
   rcases h.own p i with⟨q,j,o⟩|h1
   .exact f q j (o.trans e)
   .omega]
  exact h.qM x d f
 qp:=h.qp.trans k.qp
 sig:=k.sig.trans h.sig
theorem Tr.frame{E:Env}{H R:Heap}{w:World}{E':Env}{H':Heap}{w':World}{a b:Nat}
  (k:HR E (H++R) w) (g:HR E' H' w') (h:Tr E H w E' H' w' a b):HR E' (H'++R) w'/\Tr E (H++R) w E' (H'++R) w' a b:=by
 have z:HR E H w:=k.sub (List.sublist_append_left _ _);have o:(H.map (·.1)++R.map (·.1)).Nodup:=by have:=k.nodup;simpa[Heap.keys]using this
 have j:∀p∈H,∀q∈R,E.ρ p.1≠E.ρ q.1:=λp c q d e=>by
  have A:=k.inj p (Qw _ c) q (Qs _ d) e;exact(List.nodup_append.1 o).2.2 p.1 (List.mem_map_of_mem c) q.1 (List.mem_map_of_mem d) A
 have n:∀q∈R,E.D q.1:=λq d=>k.qy q (Qs _ d)
 have i:∀q∈R,E.ρ q.1<w.heap.size:=λq d=>k.lt (Qs _ d)
 have f:∀p∈H',∀q∈R,E'.ρ p.1≠E.ρ q.1:=λp c q d e=>by
  rcases h.own p c with⟨B,m,s⟩|C
  .exact j B m q d (s.trans e)
  .have:=i q d;omega
 have l:∀q∈R,E'.ρ q.1=E.ρ q.1:=λq d=>h.agree _ (n q d)
 refine⟨⟨?_,?_,?_,?_,?_,g.wi⟩,{ h with qS:=?_,own:=?_,qM:=?_ }⟩
 .show((H'++R).map (·.1)).Nodup
  rw[Qu,List.nodup_append];refine⟨g.nodup,(List.nodup_append.1 o).2.1,?_⟩
  intro x r y u e;obtain⟨p,c,rfl⟩:=QR.1 r;obtain⟨q,d,rfl⟩:=QR.1 u;exact f p c q d (by rw[e];exact l q d)
 .intro p c;rcases QI.1 c with c|c
  .exact g.qy p c
  .exact(h.qy _).2 (.inl (n p c))
 .intro p c q d e;rcases QI.1 c with c|c<;>rcases QI.1 d with d|d
  .exact g.inj p c q d e
  .exact absurd (e.trans (l q d)) (f p c q d)
  .exact absurd (e.symm.trans (l p c)) (f q d p c)
  .rw[l p c,l q d]at e;exact k.inj p (Qs _ c) q (Qs _ d) e
 .intro p c;rcases QI.1 c with c|c
  .exact g.obj p c
  .rw[l p c];exact(k.obj p (Qs _ c)).mono (h.qM _ (i p c) λq d=>j q d p c) (h.vr z)
 .intro p c;rcases QI.1 c with c|c
  .exact g.nz p c
  .rw[l p c];intro t;rcases h.qS _ t with h1|⟨q,d,e⟩|h1
   .exact k.nz p (Qs _ c) h1
   .exact j q d p c e
   .have:=i p c;omega
 .intro x r;rcases h.qS x r with h1|⟨q,d,e⟩|h1
  .exact .inl h1
  .exact .inr (.inl ⟨q,Qw _ d,e⟩)
  .exact .inr (.inr h1)
 .intro p c;rcases QI.1 c with c|c
  .exact(h.own p c).imp (λ⟨q,d,e⟩=>⟨q,Qw _ d,e⟩) id
  .exact .inl ⟨p,Qs _ c,(l p c).symm⟩
 .intro x r c;exact h.qM x r λp m=>c p (Qw _ m)
theorem HR.perm{E:Env}{H H':Heap}{w:World}(h:HR E H w)(b:H.Perm H'):HR E H' w:=
 ⟨(b.map _).nodup_iff.1 h.nodup,λp k=>h.qy p (b.mem_iff.2 k),λp k q l=>h.inj p (b.mem_iff.2 k) q (b.mem_iff.2 l),
  λp k=>h.obj p (b.mem_iff.2 k),λp k=>h.nz p (b.mem_iff.2 k),h.wi⟩
theorem Tr.perm{E:Env}{H H2:Heap}{w:World}{E':Env}{H' c:Heap}{w':World}{a b:Nat}(h:Tr E H w E' H' w' a b)(f:H.Perm H2)(d:H'.Perm c):Tr E H2 w E' c w' a b:=
 { h with
  qS:=λx g=>(h.qS x g).imp id (Or.imp (λ⟨p,k,e⟩=>⟨p,f.mem_iff.1 k,e⟩) id)
  own:=λp k=>(h.own p (d.mem_iff.2 k)).imp (λ⟨q,k,e⟩=>⟨q,f.mem_iff.1 k,e⟩) id
  qM:=λx g k=>h.qM x g λp i=>k p (f.mem_iff.1 i) }
theorem zHr{h:Array Obj}{o:Obj}{b:Nat}(hb:b<h.size):(h.push o)[b]? = h[b]?:=by
 rw[Array.getElem?_push,if_neg (by omega)]
theorem zBV{h:Array Obj}{o:Obj}:(h.push o)[h.size]?=some o:=by
 rw[Array.getElem?_push,if_pos rfl]
def Env.add(E:Env)(a b:Nat):Env:=⟨λh=>if h=a then b else E.ρ h,λh=>E.D h\/h=a,E.Z,E.σ⟩
theorem Env.qw(E:Env)(a b:Nat):(E.add a b).ρ a=b:=by simp[Env.add]
theorem Env.wu{E:Env}{a b h:Nat}(c:h≠a):(E.add a b).ρ h=E.ρ h:=by simp[Env.add,c]
def World.vR(w w':World):Prop:=w'.heap=w.heap/\w'.tape=w.tape/\w'.os=w.os/\w'.output=w.output
theorem World.vR.refl(w:World):World.vR w w:=⟨rfl,rfl,rfl,rfl⟩
theorem World.vR.mk(w:World)(n:Nat):World.vR w { w with drawn:=n }:=⟨rfl,rfl,rfl,rfl⟩
theorem zAw.of_heap{w w':World}(h:w'.heap=w.heap):zAw w w':=λb c e f hb=>⟨c,f,by rw[h];exact hb,rfl⟩
theorem zHT{E:Env}{H:Heap}{w w':World}(c:HR E H w)(hd:World.vR w w')(a:Nat):HR E H w'/\Tr E H w E H w' a a:=by
 obtain⟨h1,h2,h3,h4⟩:=hd;have f:∀{v d},VR E w v d->VR E w' v d:=λh=>h.mono (λ_ h=>⟨h,rfl⟩) (λb h=>⟨h,by rw[h1]⟩) (.of_heap h1)
 refine⟨⟨c.nodup,c.qy,c.inj,λp e=>(c.obj p e).mono (by rw[h1]) f,c.nz,λb hb=>by rw[h1];exact c.wi b hb⟩,
  { Tr.refl (E:=E) (H:=H) (w:=w) a with tape:=h2,os:=h3,output:=h4,size:=by rw[h1];exact QB _,qM:=λ_ _ _=>by rw[h1],qp:=.of_heap h1 }⟩
theorem zKf{E:Env}{H:Heap}{w:World}(g:HR E H w){a:Nat}(u:¬E.D a){o:Obj}{ho:HO}
  (n:∀w':World,w'.heap=w.heap.push o->zAw w w'->(∀{v cv},VR E w v cv->VR (E.add a w.heap.size) w' v cv)->OR (E.add a w.heap.size) w' w.heap.size ho):
  HR (E.add a w.heap.size) ((a,ho)::H) { w with heap:=w.heap.push o } ∧
  Tr E H w (E.add a w.heap.size) ((a,ho)::H) { w with heap:=w.heap.push o } a (a+1) ∧
  ∀{v cv},VR E w v cv->VR (E.add a w.heap.size) { w with heap:=w.heap.push o } v cv:=by
 have i:∀{h},E.D h->h≠a:=λh e=>u (e▸h)
 have r:zAw w { w with heap:=w.heap.push o }:=λb c e f hb=>⟨c,f,by
  have:=(Array.getElem?_eq_some_iff.1 hb).1;show(w.heap.push o)[b]? = _
  rw[zHr this];exact hb,rfl⟩
 have l:∀{v cv},VR E w v cv->VR (E.add a w.heap.size) { w with heap:=w.heap.push o } v cv:=λh=>
  h.mono (λx m=>⟨Or.inl m,Env.wu (i m)⟩) (λb hb=>⟨hb,zHr (g.wi b hb)⟩) r
 have k:∀p∈H,(E.add a w.heap.size).ρ p.1=E.ρ p.1:=λp d=>Env.wu (i (g.qy p d))
 refine⟨⟨?_,?_,?_,?_,?_,?_⟩,⟨by omega,λh t=>Env.wu (i t),?_,λ_ h=>h,λ_ h=>.inl h,?_,rfl,rfl,rfl,by simp,λx m _=>zHr m,r,rfl⟩,l⟩
 .show(a::Heap.keys H).Nodup
  refine Qx.2 ⟨λl=>?_,g.nodup⟩
  obtain⟨p,d,e⟩:=QR.1 l;exact i (g.qy p d) e
 .intro p d;cases d with
  |head=>exact .inr rfl
  |tail _ d=>exact .inl (g.qy p d)
 .intro p d q j e;cases d with
  |head=>
   cases j with
   |head=>rfl
   |tail _ j=>
    rw[k q j,Env.qw]at e;have:=g.lt j;omega
  |tail _ d=>
   cases j with
   |head=>
    rw[k p d,Env.qw]at e;have:=g.lt d;omega
   |tail _ j=>
    rw[k p d,k q j]at e;exact g.inj p d q j e
 .intro p d;cases d with
  |head=>rw[Env.qw];exact n _ rfl r l
  |tail _ d=>
   rw[k p d];exact(g.obj p d).mono (zHr (g.lt d)) l
 .intro p d;cases d with
  |head=>
   rw[Env.qw];intro s;have:=g.wi _ s;omega
  |tail _ d=>rw[k p d];exact g.nz p d
 .intro b hb;have:=g.wi b hb;simp;omega
 .intro h;show E.D h\/h=a↔_
  constructor
  .rintro (h|h)
   .exact .inl h
   .exact .inr (by omega)
  .rintro (h|h)
   .exact .inl h
   .exact .inr (by omega)
 .intro p d;cases d with
  |head=>rw[Env.qw];exact .inr (QB _)
  |tail _ d=>exact .inl ⟨p,d,(k p d).symm⟩
theorem zMs{E:Env}{H:Heap}{w w':World}(g:HR E H w){h:Nat}{o o':HO}(B:H.get h=some o)
  (h1:w'.tape=w.tape) (h2:w'.os=w.os) (h3:w'.output=w.output) (h4:w'.heap.size=w.heap.size) (n:∀b,b≠E.ρ h->w'.heap[b]? = w.heap[b]?)
  (A:zAw w w') (m:(∀{v cv},VR E w v cv->VR E w' v cv)->OR E w' (E.ρ h) o') (a:Nat):
  HR E (H.put h o') w'/\Tr E H w E (H.put h o') w' a a/\∀{v cv},VR E w v cv->VR E w' v cv:=by
 have f:=Heap.qj B;have j:∀b,E.Z b->b≠E.ρ h:=λb hb e=>g.nz _ f (e▸hb)
 have t:∀{v cv},VR E w v cv->VR E w' v cv:=λC=>C.mono (λ_ r=>⟨r,rfl⟩) (λb hb=>⟨hb,n b (j b hb)⟩) A
 have c:∀p∈H.put h o',∃q∈H,q.1=p.1:=λp d=>by
  rcases Heap.vC g.nodup d with rfl|⟨d,_⟩
  .exact⟨_,f,rfl⟩
  .exact⟨p,d,rfl⟩
 refine⟨⟨by rw[Heap.wO];exact g.nodup,?_,?_,?_,?_,λb hb=>by rw[h4];exact g.wi b hb⟩,⟨QB _,λ_ _=>rfl,?_,λ_ h=>h,λ_ h=>.inl h,?_,h1,h2,h3,by omega,?_,A,rfl⟩,t⟩
 .intro p d;obtain⟨q,i,e⟩:=c p d;rw[←e];exact g.qy q i
 .intro p d q i e;obtain⟨D,l,z⟩:=c p d;obtain⟨F,s,u⟩:=c q i;rw[←z,←u]at e;rw[←z,←u];exact g.inj D l F s e
 .intro p d;rcases Heap.vC g.nodup d with rfl|⟨d,k⟩
  .exact m t
  .exact(g.obj p d).mono (n _ λe=>k (g.inj p d _ f e)) t
 .intro p d;obtain⟨q,i,e⟩:=c p d;rw[←e];exact g.nz q i
 .exact λh=>⟨.inl,λh=>h.elim id λ⟨x,y⟩=>by omega⟩
 .intro p d;obtain⟨q,i,e⟩:=c p d;exact .inl ⟨q,i,by rw[e]⟩
 .intro x _ r;exact n x λe=>r _ f e.symm
theorem zV7{E:Env}{H:Heap}{w:World}(f:HR E H w){h a:Nat}{o:HO}(y:H.get h=some o)(B:¬E.D a):
  HR (E.add a (E.ρ h)) ((a,o)::H.del h) w/\Tr E H w (E.add a (E.ρ h)) ((a,o)::H.del h) w a (a+1)/\∀{v cv},VR E w v cv->VR (E.add a (E.ρ h)) w v cv:=by
 have d:=Heap.qj y;have g:∀{h},E.D h->h≠a:=λh e=>B (e▸h)
 have r:∀{v cv},VR E w v cv->VR (E.add a (E.ρ h)) w v cv:=λA=>
  A.mono (λx u=>⟨Or.inl u,Env.wu (g u)⟩) (λb hb=>⟨hb,rfl⟩) (.refl w)
 have i:∀p∈H.del h,(E.add a (E.ρ h)).ρ p.1=E.ρ p.1/\p∈H/\p.1≠h:=λp c=>
  let ⟨k,n⟩:=Heap.vu f.nodup c
  ⟨Env.wu (g (f.qy p k)),k,n⟩
 refine⟨⟨?_,?_,?_,?_,?_,f.wi⟩,⟨by omega,λh z=>Env.wu (g z),?_,λ_ h=>h,λ_ h=>.inl h,?_,rfl,rfl,rfl,QB _,λ_ _ _=>rfl,.refl w,rfl⟩,r⟩
 .show(a::Heap.keys (H.del h)).Nodup
  refine Qx.2 ⟨λr=>?_,f.nodup.sublist ((Heap.wz H h).map _)⟩
  obtain⟨p,c,e⟩:=QR.1 r;exact g (f.qy p (i p c).2.1) e
 .intro p c;cases c with
  |head=>exact .inr rfl
  |tail _ c=>exact .inl (f.qy p (i p c).2.1)
 .intro p c q l e;cases c with
  |head=>
   cases l with
   |head=>rfl
   |tail _ l=>
    obtain⟨t,k,n⟩:=i q l;rw[t,Env.qw]at e;exact absurd (f.inj _ d q k e).symm n
  |tail _ c=>
   obtain⟨j,m,s⟩:=i p c;cases l with
   |head=>
    rw[j,Env.qw]at e;exact absurd (f.inj p m _ d e) s
   |tail _ l=>
    obtain⟨t,k,n⟩:=i q l;rw[j,t]at e;exact f.inj p m q k e
 .intro p c;cases c with
  |head=>rw[Env.qw];exact(f.obj _ d).mono rfl r
  |tail _ c=>
   obtain⟨j,m,s⟩:=i p c;rw[j];exact(f.obj p m).mono rfl r
 .intro p c;cases c with
  |head=>rw[Env.qw];exact f.nz _ d
  |tail _ c=>
   obtain⟨j,m,s⟩:=i p c;rw[j];exact f.nz p m
 .intro h;show E.D h\/h=a↔_
  constructor
  .rintro (h|h)
   .exact .inl h
   .exact .inr (by omega)
  .rintro (h|h)
   .exact .inl h
   .exact .inr (by omega)
 .intro p c;cases c with
  |head=>rw[Env.qw];exact .inl ⟨_,d,rfl⟩
  |tail _ c=>exact .inl ⟨p,(i p c).2.1,(i p c).1.symm⟩
inductive XV where
 |t (n:Nat)
 |c (v:AV)
 |g (n:Nat)
inductive Kd where
 |b
 |i
 |s
inductive XO where
 |bad
 |wM (x:XV)
 |pick (c a b:XV)
 |bin (op:BinOp) (x y:XV)
 |beq (neg:Bool) (x y:XV)
 |ui (neg:Bool) (x y:XV)
 |wG (neg:Bool) (ks:List Kd) (x y:XV)
 |vZ (neg lit:Bool) (kt:Nat->Option Kd) (x y:XV)
 |seq (neg:Bool) (x y:XV)
 |ur (neg:Bool) (x y:XV)
 |uq (neg:Bool) (x y:XV)
 |un (op:UnOp) (x:XV)
 |conv (k:IntKind) (x:XV)
 |vU (x:XV)
 |vF (x:XV)
 |uB (x:XV)
 |mark (x:XV)
 |vA (x c:XV)
 |vB (x c:XV)
 |vS (x:XV) (off sz:Nat) (ag:Bool)
 |ext (x:XV) (i:Nat)
 |wW (x i:XV)
 |wg (x i:XV) (len sz:Nat) (ag:Bool)
 |box (x:XV) (sz:Nat)
 |alloc (z:JE)
 |build (z:JE) (ps:List (Nat×Nat×XV))
 |qx (len sz:Nat) (z:JE) (ps:List (Nat×Nat×XV))
 |load (x:XV) (sz:Nat) (ag:Bool)
 |store (a x:XV) (sz:Nat)
 |qQ (x:XV)
 |qD (x:XV) (off:Nat)
 |qB (x i:XV) (sz:Nat)
 |qz (x i:XV) (len sz:Nat)
 |wP (x:XV) (lo hi:Option XV)
 |wA (x:XV) (lo hi mx:Option XV) (sz:Nat)
 |vY (x:XV) (lo hi:Option XV) (len sz:Nat)
 |w4 (x:XV)
 |wq (x:XV)
 |ub (x:XV)
 |w7 (n:Nat)
 |cap (x:XV)
 |append (x y:XV) (sz bytes:Nat)
 |copy (x y:XV) (sz:Nat)
 |uo (x:XV) (sz:Nat) (z:JE)
 |ux (x:XV)
 |min (x y:XV)
 |max (x y:XV)
 |qN (l c:XV) (sz bytes:Nat) (z:JE)
 |wv
 |lookup (ag:Bool) (ks:List Kd) (m k:XV) (z:AV) (ok:Bool)
 |wR (ag:Bool) (ks:List Kd) (m k v:XV)
 |del (ag:Bool) (ks:List Kd) (m k:XV)
 |wh (fn:Fn) (first caps:List XV)
 |w8 (t:Nat) (x:XV)
 |ug (x:XV) (t:Nat) (ok:Bool) (z:AV)
 |v8 (x:XV)
 |vI (x:XV)
 |call (f:Nat) (args:List XV)
 |qO (f:XV) (args:List XV)
 |invoke (r:XV) (m:String) (args:List XV)
structure XOper where
 dst:Option Nat
 op:XO
 guard:Option (Nat×Bool)
structure XD where
 qg:Nat
 looks:JV
inductive XC where
 |skip
 |wC (ops:List XOper)
 |draw (ops:List XOper) (ds:List XD)
 |seq (a b:XC)
 |cond (c:XV) (a b:XC)
 |block (id:Nat) (b:XC)
 |loop (b:XC)
 |exit (id:Nat)
 |ret
 |w9 (m:XV) (it:Nat) (D:JV) (en W id1:Nat) (rest:List XOper) (body:XC)
inductive XR where
 |t (n:Nat)
 |cell (n sz:Nat) (ag:Bool)
structure XF where
 np:Nat
 nt:Nat
 body:XC
 res:List XR
abbrev Fr:=List (Nat×AV)
def Fr.get:Fr->Nat->JF
 |[],_=>none
 |(k,v)::r,n=>match Nat.beq k n with
  |true=>some v
  |false=>Fr.get r n
def Fr.put:Fr->Nat->AV->Fr
 |[],n,v=>[(n,v)]
 |(k,u)::r,n,v=>match Nat.beq k n with
  |true=>(n,v)::r
  |false=>(k,u)::Fr.put r n v
abbrev Out:=AV×Heap×Nat
structure Cx where
 wN:Nat->JF
 uP:Nat->String->Option Nat
def XV.ev(G:Cx)(fr:Fr):XV->JF
 |.t n=>fr.get n
 |.c v=>some v
 |.g n=>G.wN n
def evs(G:Cx)(fr:Fr):List XV->Option JE
 |[]=>some []
 |x::r=>match x.ev G fr with
  |some v=>match evs G fr r with
   |some b=>some (v::b)
   |none=>none
  |none=>none
def evo(G:Cx)(fr:Fr):Option XV->Option JF
 |none=>some none
 |some x=>match x.ev G fr with
  |some v=>some (some v)
  |none=>none
def zFO:IntKind->IntKind->Bool
 |.i8,.i8=>true|.i16,.i16=>true|.i32,.i32=>true|.i64,.i64=>true
 |.u8,.u8=>true|.u16,.u16=>true|.u32,.u32=>true|.u64,.u64=>true
 |_,_=>false
def wrapx(k:IntKind):Int->Int
 |.ofNat m=>match k with
  |.i64=>cond (Nat.ble m 9223372036854775807) (.ofNat m) (IntKind.i64.wrap (.ofNat m))
  |.u64=>cond (Nat.ble m 18446744073709551615) (.ofNat m) (IntKind.u64.wrap (.ofNat m))
  |.u8=>cond (Nat.ble m 255) (.ofNat m) (IntKind.u8.wrap (.ofNat m))
  |.u32=>cond (Nat.ble m 4294967295) (.ofNat m) (IntKind.u32.wrap (.ofNat m))
  |.i32=>cond (Nat.ble m 2147483647) (.ofNat m) (IntKind.i32.wrap (.ofNat m))
  |.i8=>IntKind.i8.wrap (.ofNat m)
  |.i16=>IntKind.i16.wrap (.ofNat m)
  |.u16=>IntKind.u16.wrap (.ofNat m)
 |.negSucc m=>match k with
  |.i64=>cond (Nat.ble m 9223372036854775807) (.negSucc m) (IntKind.i64.wrap (.negSucc m))
  |k=>k.wrap (.negSucc m)
def slt:JV->JV->Bool
 |_,[]=>false
 |[],_::_=>true
 |a::x,b::y=>match Nat.blt a b with
  |true=>true
  |false=>match Nat.beq a b with
   |true=>slt x y
   |false=>false
def zi:JV->JV->Bool
 |[],[]=>true
 |a::x,b::y=>match Nat.beq a b with
  |true=>zi x y
  |false=>false
 |_,_=>false
def zbq(op:BinOp)(a b:Int):JF:=
 match op with
 |.eql=>some (.bool (a==b))
 |.neq=>some (.bool (a != b))
 |.lss=>some (.bool (decide (a<b)))
 |.leq=>some (.bool (decide (a<=b)))
 |.gtr=>some (.bool (decide (a > b)))
 |.geq=>some (.bool (decide (a>=b)))
 |_=>none
def zUI(op:BinOp)(k:IntKind)(x y:Int):JF:=
 match op with
 |.and=>some (.int k (k.wrap (BitVec.ofInt k.bits x &&& BitVec.ofInt k.bits y).toNat))
 |.or=>some (.int k (k.wrap (BitVec.ofInt k.bits x ||| BitVec.ofInt k.bits y).toNat))
 |.xor=>some (.int k (k.wrap (BitVec.ofInt k.bits x ^^^ BitVec.ofInt k.bits y).toNat))
 |.andNot=>some (.int k (k.wrap (BitVec.ofInt k.bits x &&& ~~~(BitVec.ofInt k.bits y)).toNat))
 |_=>none
def zEo(op:BinOp):AV->AV->JF
 |.int k a,.int c b=>
  match op with
  |.shl=>match decide (b<0)with
   |true=>none
   |false=>some (.int k (wrapx k (a*2 ^ (Min.min b.toNat k.bits))))
  |.shr=>match decide (b<0)with
   |true=>none
   |false=>some (.int k (a.fdiv (2 ^ (Min.min b.toNat k.bits))))
  |op=>match zFO k c with
   |false=>none
   |true=>match op with
    |.add=>some (.int k (wrapx k (a+b)))
    |.sub=>some (.int k (wrapx k (a-b)))
    |.mul=>some (.int k (wrapx k (a*b)))
    |.quo=>match b==0 with
     |true=>none
     |false=>some (.int k (wrapx k (a.tdiv b)))
    |.rem=>match b==0 with
     |true=>none
     |false=>some (.int k (a.tmod b))
    |.and|.or|.xor|.andNot=>zUI op k a b
    |op=>zbq op a b
 |.str a,.str b=>
  match op with
  |.add=>match Nat.ble (a.length+b.length) zh with
   |true=>some (.str (a++b))
   |false=>none
  |.eql=>some (.bool (zi a b))
  |.neq=>some (.bool (!zi a b))
  |.lss=>some (.bool (slt a b))
  |.leq=>some (.bool (slt a b||zi a b))
  |.gtr=>some (.bool (!(slt a b||zi a b)))
  |.geq=>some (.bool (!slt a b))
  |_=>none
 |_,_=>none
def zCk(neg b:Bool):AV:=.bool (match neg with|true=>!b|false=>b)
def zQa:Option HO->Bool
 |some (.cells false _)=>true
 |_=>false
def zOh(H:Heap):AV->AV->Option Bool
 |.qo,.qo=>some true
 |.qo,.ptr _ _=>some false
 |.ptr _ _,.qo=>some false
 |.qo,.qc _ _=>some false
 |.qc _ _,.qo=>some false
 |.ptr h o,.ptr b c=>match zQa (H.get h)with
  |true=>match zQa (H.get b)with
   |true=>some (Nat.beq h b&&Nat.beq o c)
   |false=>none
  |false=>none
 |_,_=>none
def eqb:Kd->AV->AV->Option Bool
 |.b,.bool a,.bool b=>some (a==b)
 |.i,.int k a,.int d b=>match zFO k d with
  |true=>some (a==b)
  |false=>none
 |.s,.str a,.str b=>some (zi a b)
 |_,_,_=>none
def zCl:List Kd->JE->JE->Option Bool
 |[],[],[]=>some true
 |k::ks,a::x,b::y=>match eqb k a b with
  |some true=>zCl ks x y
  |some false=>some false
  |none=>none
 |_,_,_=>none
def eqs(d:List Kd)(a b:JE):Option Bool:=
 match Nat.beq a.length d.length,Nat.beq b.length d.length with
 |true,true=>zCl d a b
 |_,_=>none
def eqk(e:Bool)(d:List Kd):AV->AV->Option Bool
 |.agg a,.agg b=>match e with
  |true=>eqs d a b
  |false=>none
 |a,b=>match e with
  |true=>none
  |false=>match d with
   |[k]=>eqb k a b
   |_=>none
def zLz(lit:Bool)(d:Nat->Option Kd):AV->AV->Option Bool
 |.qe,.qe=>match lit with|true=>some true|false=>none
 |.qe,.iface _ _=>some false
 |.iface _ _,.qe=>some false
 |.iface t a,.iface u b=>match Nat.beq t u with
  |false=>some false
  |true=>match d t with
   |some k=>eqb k a b
   |none=>none
 |_,_=>none
def zLA:AV->AV->Option Bool
 |.qa,.qa=>some true
 |.qa,.row _ _ _ _ _ _=>some false
 |.row _ _ _ _ _ _,.qa=>some false
 |.qa,.qf _ (_::_)=>some false
 |.qf _ (_::_),.qa=>some false
 |_,_=>none
def zOi:AV->AV->Option Bool
 |.qn,.qn=>some true
 |.qn,.map _=>some false
 |.map _,.qn=>some false
 |_,_=>none
def zOj:AV->AV->Option Bool
 |.ql,.ql=>some true
 |.ql,.func _ _ _=>some false
 |.func _ _ _,.ql=>some false
 |_,_=>none
def xun(op:UnOp):AV->JF
 |.int k n=>match op with
  |.neg=>some (.int k (wrapx k (0-n)))
  |.xor=>zUI .xor k n (if k.signed then -1 else k.max)
  |_=>none
 |.bool b=>match op with
  |.not=>some (.bool !b)
  |_=>none
 |_=>none
def part(cs:JE)(off sz:Nat)(b:Bool):JF:=
 match b with
 |true=>match Nat.ble (off+sz) cs.length with
  |true=>some (.agg ((cs.drop off).take sz))
  |false=>none
 |false=>cs[off]?
def qm(cs:JE)(off:Nat)(new:JE):JE:=cs.take off++new++cs.drop (off+new.length)
def cellsOf(v:AV)(sz:Nat):Option JE:=
 match v.flat with
 |true=>match Nat.beq v.cells.length sz with
  |true=>some v.cells
  |false=>none
 |false=>none
def zBe(G:Cx)(fr:Fr)(cs:JE):List (Nat×Nat×XV)->Option JE
 |[]=>some cs
 |(off,b,x)::r=>match x.ev G fr with
  |some v=>match cellsOf v b with
   |some new=>match Nat.ble (off+b) cs.length with
    |true=>zBe G fr (qm cs off new) r
    |false=>none
   |none=>none
  |none=>none
def flatten(sz:Nat):JE->Option JE
 |[]=>some []
 |e::r=>match cellsOf e sz with
  |some c=>match flatten sz r with
   |some b=>some (c++b)
   |none=>none
  |none=>none
def content(H:Heap)(sz:Nat):AV->Option (Nat×JE)
 |.qa=>some (0,[])
 |.qf c e=>match Nat.beq sz c with
  |true=>match flatten sz e with
   |some d=>some (e.length,d)
   |none=>none
  |false=>none
 |.row h off len c _ _=>match Nat.beq sz c with
  |true=>match H.get h with
   |some (.cells _ d)=>match Nat.ble (off+len*sz) d.length with
    |true=>some (len,(d.drop off).take (len*sz))
    |false=>none
   |_=>none
  |false=>none
 |.str s=>match Nat.beq sz 1 with
  |true=>some (s.length,s.map λb=>.int .u8 (.ofNat b))
  |false=>none
 |_=>none
def zc:Nat:=70368744177664
def zDB(H:Heap)(nx:Nat)(s y:AV)(sz bytes:Nat):Option Out:=
 match content H sz y with
 |none=>none
 |some (n,c)=>
  match s with
  |.qa=>match n with
   |0=>some (.qa,H,nx)
   |n+1=>match Nat.ble ((n+1)*bytes) zc with
    |true=>some (.row nx 0 (n+1) sz (n+1) false,(nx,.cells false c)::H,nx+1)
    |false=>none
  |.row h off len d f e=>match Nat.beq sz d with
   |false=>none
   |true=>match H.get h with
    |some (.cells str b)=>match Nat.ble (off+len*sz) b.length with
     |false=>none
     |true=>match Nat.ble ((len+n)*bytes) zc&&Nat.ble (len+n) zc with
      |false=>none
      |true=>match Nat.ble (len+n) f with
       |true=>some (.row h off (len+n) sz f e,H.put h (.cells str (qm b (off+len*sz) c)),nx)
       |false=>match e with
        |true=>some (.row nx 0 (len+n) sz (len+n) false,(nx,.cells false ((b.drop off).take (len*sz)++c))::H,nx+1)
        |false=>match n with
         |0=>some (s,H,nx)
         |_=>match off with
          |0=>some (.row nx 0 (len+n) sz (len+n) false,(nx,.cells str (b.take (len*sz)++c))::H.del h,nx+1)
          |_=>none
    |_=>none
  |.qf z g=>match n with
   |0=>some (.qf z g,H,nx)
   |_=>none
  |_=>none
def zDC(d:Bool)(e:List Kd):AV->Bool
 |.agg a=>d&&Nat.beq a.length e.length
 |.bool _|.int _ _|.str _=>!d&&Nat.beq e.length 1
 |_=>false
def zAE(e:Bool)(d:List Kd)(k:AV):List (AV×AV)->Option JF
 |[]=>some none
 |(j,v)::r=>match eqk e d k j with
  |some true=>some (some v)
  |some false=>zAE e d k r
  |none=>none
def zCm(e:Bool)(d:List Kd)(k v:AV):List (AV×AV)->Option (List (AV×AV))
 |[]=>some [(k,v)]
 |(j,u)::r=>match eqk e d k j with
  |some true=>some ((k,v)::r)
  |some false=>match zCm e d k v r with
   |some g=>some ((j,u)::g)
   |none=>none
  |none=>none
def zRP(e:Bool)(d:List Kd)(k:AV):List (AV×AV)->Option (List (AV×AV))
 |[]=>some []
 |(j,u)::r=>match eqk e d k j with
  |some true=>some r
  |some false=>match zRP e d k r with
   |some g=>some ((j,u)::g)
   |none=>none
  |none=>none
def bnd(v:JF)(b top:Nat):Option Nat:=
 match v with
 |none=>some b
 |some (.int _ (.ofNat n))=>match Nat.ble n top with
  |true=>some n
  |false=>none
 |_=>none
def zIW(sz:Nat)(lo hi c:JF):AV->JF
 |.qa=>match bnd c 0 0 with
  |some m=>match bnd hi 0 m with
   |some h=>match bnd lo 0 h with
    |some _=>some .qa
    |none=>none
   |none=>none
  |none=>none
 |.qf b d=>match Nat.beq sz b with
  |false=>none
  |true=>match c with
   |some _=>none
   |none=>match bnd hi d.length d.length with
    |some h=>match bnd lo 0 h with
     |some l=>some (.qf sz ((d.take h).drop l))
     |none=>none
    |none=>none
 |.row h off len b e f=>match Nat.beq sz b with
  |false=>none
  |true=>match c with
   |some m=>match bnd (some m) 0 e with
    |some m=>match bnd hi len m with
     |some t=>match bnd lo 0 t with
      |some l=>some (.row h (off+l*sz) (t-l) sz (m-l) true)
      |none=>none
     |none=>none
    |none=>none
   |none=>match bnd hi len (Nat.max len e)with
    |some t=>match bnd lo 0 t with
     |some l=>some (.row h (off+l*sz) (t-l) sz (Nat.max len e-l) f)
     |none=>none
    |none=>none
 |_=>none
def zER(H:Heap)(sz:Nat)(b:Bool):AV->JF
 |.ptr h off=>match H.get h with
  |some (.cells _ c)=>part c off sz b
  |_=>none
 |.qc e off=>part e.cells off sz b
 |_=>none
def idx(es:JE):AV->JF
 |.int _ (.ofNat n)=>es[n]?
 |_=>none
def zFw(n:Nat):AV->Option Nat
 |.int _ (.ofNat i)=>match Nat.blt i n with
  |true=>some i
  |false=>none
 |_=>none
def zQz(H:Heap)(nx:Nat)(d y:AV)(sz:Nat):Option Out:=
 match content H sz y with
 |none=>none
 |some (n,e)=>match d with
  |.qa=>some (.int .i64 0,H,nx)
  |.row h off len b _ _=>match Nat.beq sz b with
   |false=>none
   |true=>match H.get h with
    |some (.cells str c)=>match Nat.ble (off+len*sz) c.length with
     |true=>some (.int .i64 (.ofNat (Nat.min n len)),H.put h (.cells str (qm c off (e.take (Nat.min n len*sz)))),nx)
     |false=>none
    |_=>none
  |_=>none
def rep(n:Nat)(z:JE):JE:=match n with
 |0=>[]
 |n+1=>z++rep n z
def zAr:JE->Option JV
 |[]=>some []
 |.int .u8 (.ofNat b)::r=>match zAr r with
  |some s=>some (b::s)
  |none=>none
 |_=>none
def rune(s:JV)(pos:Nat):Option Nat:=
 match s[pos]? with
 |some b=>match Nat.blt b 128 with
  |true=>some b
  |false=>none
 |none=>none
abbrev Call:=Nat->JE->Heap->Nat->Option Out
def zHq(call:Call)(H:Heap)(nx:Nat)(args:JE):AV->Option Out
 |.func (.func f) first b=>call f (first++args++b) H nx
 |_=>none
def zRQ(b:Nat):Nat->JV->Int
 |_,[]=>-1
 |i,a::r=>match Nat.beq a b with
  |true=>.ofNat i
  |false=>zRQ b (i+1) r
def zTq(b:Nat):JV->Nat
 |[]=>0
 |a::r=>match Nat.beq a b with
  |true=>zTq b r+1
  |false=>zTq b r
def xoS(G:Cx)(call:Call)(fr:Fr)(H:Heap)(nx:Nat):XO->Option Out
 |.bad=>none
 |.wM x=>match x.ev G fr with
  |some v=>some (v,H,nx)
  |none=>none
 |.pick c a b=>match c.ev G fr with
  |some (.bool true)=>match a.ev G fr with
   |some v=>some (v,H,nx)
   |none=>none
  |some (.bool false)=>match b.ev G fr with
   |some v=>some (v,H,nx)
   |none=>none
  |_=>none
 |.bin op x y=>match x.ev G fr,y.ev G fr with
  |some a,some b=>match zEo op a b with
   |some v=>some (v,H,nx)
   |none=>none
  |_,_=>none
 |.beq neg x y=>match x.ev G fr,y.ev G fr with
  |some (.bool a),some (.bool b)=>some (zCk neg (a==b),H,nx)
  |_,_=>none
 |.ui neg x y=>match x.ev G fr,y.ev G fr with
  |some a,some b=>match zOh H a b with
   |some v=>some (zCk neg v,H,nx)
   |none=>none
  |_,_=>none
 |.wG neg C x y=>match x.ev G fr,y.ev G fr with
  |some (.agg a),some (.agg b)=>match eqs C a b with
   |some v=>some (zCk neg v,H,nx)
   |none=>none
  |_,_=>none
 |.vZ neg lit N x y=>match x.ev G fr,y.ev G fr with
  |some a,some b=>match zLz lit N a b with
   |some v=>some (zCk neg v,H,nx)
   |none=>none
  |_,_=>none
 |.seq neg x y=>match x.ev G fr,y.ev G fr with
  |some a,some b=>match zLA a b with
   |some v=>some (zCk neg v,H,nx)
   |none=>none
  |_,_=>none
 |.ur neg x y=>match x.ev G fr,y.ev G fr with
  |some a,some b=>match zOi a b with
   |some v=>some (zCk neg v,H,nx)
   |none=>none
  |_,_=>none
 |.uq neg x y=>match x.ev G fr,y.ev G fr with
  |some a,some b=>match zOj a b with
   |some v=>some (zCk neg v,H,nx)
   |none=>none
  |_,_=>none
 |.un op x=>match x.ev G fr with
  |some a=>match xun op a with
   |some v=>some (v,H,nx)
   |none=>none
  |none=>none
 |.conv k x=>match x.ev G fr with
  |some (.int _ n)=>some (.int k (wrapx k n),H,nx)
  |_=>none
 |.vU x=>match x.ev G fr with
  |some (.str s)=>some (.row nx 0 s.length 1 s.length false,(nx,.cells true (s.map λb=>.int .u8 (.ofNat b)))::H,nx+1)
  |_=>none
 |.vF x=>match x.ev G fr with
  |some (.str _)=>none
  |some v=>match content H 1 v with
   |some (_,j)=>match zAr j with
    |some s=>some (.str s,H,nx)
    |none=>none
   |none=>none
  |none=>none
 |.uB x=>match x.ev G fr with
  |some (.str s)=>some (.str s,H,nx)
  |_=>none
 |.mark x=>match x.ev G fr with
  |some (.row h off len g L M)=>match Nat.blt 0 len with
   |true=>match H.get h with
    |some (.cells _ j)=>some (.row h off len g L M,H.put h (.cells true j),nx)
    |_=>none
   |false=>none
  |_=>none
 |.vA x c=>match x.ev G fr,c.ev G fr with
  |some (.str s),some (.int .u8 (.ofNat b))=>some (.int .i64 (zRQ b 0 s),H,nx)
  |_,_=>none
 |.vB x c=>match x.ev G fr,c.ev G fr with
  |some (.str s),some (.int .u8 (.ofNat b))=>some (.int .i64 (.ofNat (zTq b s)),H,nx)
  |_,_=>none
 |.vS x off g q=>match x.ev G fr with
  |some (.agg j)=>match part j off g q with
   |some v=>some (v,H,nx)
   |none=>none
  |_=>none
 |.ext x i=>match x.ev G fr with
  |some (.qd D)=>match D[i]? with
   |some v=>some (v,H,nx)
   |none=>none
  |_=>none
 |.wW x i=>match x.ev G fr,i.ev G fr with
  |some (.str s),some (.int _ (.ofNat n))=>match s[n]? with
   |some b=>some (.int .u8 (.ofNat b),H,nx)
   |none=>none
  |_,_=>none
 |.wg x i len g q=>match x.ev G fr,i.ev G fr with
  |some (.agg j),some i=>match zFw len i with
   |some n=>match part j (n*g) g q with
    |some v=>some (v,H,nx)
    |none=>none
   |none=>none
  |_,_=>none
 |.box x g=>match x.ev G fr with
  |some v=>match cellsOf v g with
   |some j=>some (.ptr nx 0,(nx,.cells false j)::H,nx+1)
   |none=>none
  |none=>none
 |.alloc z=>some (.ptr nx 0,(nx,.cells false z)::H,nx+1)
 |.build z I=>match zBe G fr z I with
  |some j=>some (.agg j,H,nx)
  |none=>none
 |.qx len g z I=>match zBe G fr z I with
  |some j=>some (.row nx 0 len g len true,(nx,.cells false j)::H,nx+1)
  |none=>none
 |.load x g q=>match x.ev G fr with
  |some a=>match zER H g q a with
   |some v=>some (v,H,nx)
   |none=>none
  |none=>none
 |.store a x g=>match a.ev G fr,x.ev G fr with
  |some (.ptr h off),some v=>match H.get h with
   |some (.cells str j)=>match cellsOf v g with
    |some new=>match Nat.ble (off+g) j.length with
     |true=>some (.qd [],H.put h (.cells str (qm j off new)),nx)
     |false=>none
    |none=>none
   |_=>none
  |_,_=>none
 |.qQ x=>match x.ev G fr with
  |some (.ptr h o)=>some (.ptr h o,H,nx)
  |some (.qc e o)=>some (.qc e o,H,nx)
  |some (.iface t v)=>some (.iface t v,H,nx)
  |some (.func (.func f) a b)=>some (.func (.func f) a b,H,nx)
  |_=>none
 |.qD x off=>match x.ev G fr with
  |some (.ptr h o)=>some (.ptr h (o+off),H,nx)
  |some (.qc e o)=>some (.qc e (o+off),H,nx)
  |_=>none
 |.qB x i g=>match x.ev G fr,i.ev G fr with
  |some (.qf A p),some i=>match Nat.beq g A with
   |true=>match idx p i with
    |some e=>some (.qc e 0,H,nx)
    |none=>none
   |false=>none
  |some (.row h off len A _ _),some i=>match Nat.beq g A with
   |true=>match zFw len i with
    |some n=>some (.ptr h (off+n*g),H,nx)
    |none=>none
   |false=>none
  |_,_=>none
 |.qz x i len g=>match x.ev G fr,i.ev G fr with
  |some (.ptr h o),some i=>match zFw len i with
   |some n=>some (.ptr h (o+n*g),H,nx)
   |none=>none
  |some (.qc e o),some i=>match zFw len i with
   |some n=>some (.qc e (o+n*g),H,nx)
   |none=>none
  |_,_=>none
 |.wP x B hi=>match x.ev G fr,evo G fr B,evo G fr hi with
  |some (.str s),some B,some hi=>match bnd hi s.length s.length with
   |some h=>match bnd B 0 h with
    |some l=>some (.str ((s.take h).drop l),H,nx)
    |none=>none
   |none=>none
  |_,_,_=>none
 |.wA x B hi J g=>match x.ev G fr,evo G fr B,evo G fr hi,evo G fr J with
  |some v,some B,some hi,some J=>match zIW g B hi J v with
   |some v=>some (v,H,nx)
   |none=>none
  |_,_,_,_=>none
 |.vY x B hi len g=>match x.ev G fr,evo G fr B,evo G fr hi with
  |some (.ptr h off),some B,some hi=>match H.get h with
   |some (.cells _ j)=>match Nat.ble (off+len*g) j.length with
    |true=>match bnd hi len len with
     |some t=>match bnd B 0 t with
      |some l=>some (.row h (off+l*g) (t-l) g (len-l) true,H,nx)
      |none=>none
     |none=>none
    |false=>none
   |_=>none
  |_,_,_=>none
 |.w4 x=>match x.ev G fr with
  |some (.str s)=>some (.int .i64 (.ofNat s.length),H,nx)
  |_=>none
 |.wq x=>match x.ev G fr with
  |some .qa=>some (.int .i64 (.ofNat 0),H,nx)
  |some (.qf _ p)=>some (.int .i64 (.ofNat p.length),H,nx)
  |some (.row _ _ len _ _ _)=>some (.int .i64 (.ofNat len),H,nx)
  |_=>none
 |.ub x=>match x.ev G fr with
  |some .qn=>some (.int .i64 (.ofNat 0),H,nx)
  |some (.map h)=>match H.get h with
   |some (.map p)=>match Nat.ble p.length zh with
    |true=>some (.int .i64 (.ofNat p.length),H,nx)
    |false=>none
   |_=>none
  |_=>none
 |.w7 n=>some (.int .i64 (.ofNat n),H,nx)
 |.cap x=>match x.ev G fr with
  |some .qa=>some (.int .i64 (.ofNat 0),H,nx)
  |some (.row _ _ _ _ L true)=>some (.int .i64 (.ofNat L),H,nx)
  |_=>none
 |.append x y g bytes=>match x.ev G fr,y.ev G fr with
  |some s,some y=>zDB H nx s y g bytes
  |_,_=>none
 |.copy x y g=>match x.ev G fr,y.ev G fr with
  |some d,some y=>zQz H nx d y g
  |_,_=>none
 |.uo x g z=>match x.ev G fr with
  |some .qa=>some (.qd [],H,nx)
  |some (.row h off len A _ _)=>match Nat.beq g A with
   |false=>none
   |true=>match H.get h with
    |some (.cells str j)=>match Nat.ble (off+len*g) j.length with
     |true=>some (.qd [],H.put h (.cells str (qm j off (rep len z))),nx)
     |false=>none
    |_=>none
  |_=>none
 |.ux x=>match x.ev G fr with
  |some .qn=>some (.qd [],H,nx)
  |some (.map h)=>match H.get h with
   |some (.map _)=>some (.qd [],H.put h (.map []),nx)
   |_=>none
  |_=>none
 |.min x y=>match x.ev G fr,y.ev G fr with
  |some (.int k a),some (.int K b)=>match zFO k K with
   |true=>some (.int k (if b<a then b else a),H,nx)
   |false=>none
  |_,_=>none
 |.max x y=>match x.ev G fr,y.ev G fr with
  |some (.int k a),some (.int K b)=>match zFO k K with
   |true=>some (.int k (if b > a then b else a),H,nx)
   |false=>none
  |_,_=>none
 |.qN l c g bytes z=>match l.ev G fr,c.ev G fr with
  |some (.int _ (.ofNat l)),some (.int _ (.ofNat c))=>match Nat.ble l c with
   |true=>match Nat.ble (c*bytes) zc with
    |true=>match Nat.ble c zc with
     |true=>some (.row nx 0 l g c true,(nx,.cells false (rep c z))::H,nx+1)
     |false=>none
    |false=>none
   |false=>none
  |_,_=>none
 |.wv=>some (.map nx,(nx,.map [])::H,nx+1)
 |.lookup q C m k z ok=>match m.ev G fr,k.ev G fr with
  |some m,some k=>match zDC q C k with
   |false=>none
   |true=>match m with
    |.qn=>some (match ok with|true=>.qd [z,.bool false]|false=>z,H,nx)
    |.map h=>match H.get h with
     |some (.map p)=>match zAE q C k p with
      |some (some v)=>some (match ok with|true=>.qd [v,.bool true]|false=>v,H,nx)
      |some none=>some (match ok with|true=>.qd [z,.bool false]|false=>z,H,nx)
      |none=>none
     |_=>none
    |_=>none
  |_,_=>none
 |.wR q C m k v=>match m.ev G fr,k.ev G fr,v.ev G fr with
  |some (.map h),some k,some v=>match zDC q C k with
   |false=>none
   |true=>match H.get h with
    |some (.map p)=>match zCm q C k v p with
     |some p=>some (.qd [],H.put h (.map p),nx)
     |none=>none
    |_=>none
  |_,_,_=>none
 |.del q C m k=>match m.ev G fr,k.ev G fr with
  |some m,some k=>match zDC q C k with
   |false=>none
   |true=>match m with
    |.qn=>some (.qd [],H,nx)
    |.map h=>match H.get h with
     |some (.map p)=>match zRP q C k p with
      |some p=>some (.qd [],H.put h (.map p),nx)
      |none=>none
     |_=>none
    |_=>none
  |_,_=>none
 |.wh fn first F=>match evs G fr first,evs G fr F with
  |some a,some b=>some (.func fn a b,H,nx)
  |_,_=>none
 |.w8 t x=>match x.ev G fr with
  |some v=>some (.iface t v,H,nx)
  |none=>none
 |.ug x t ok z=>match x.ev G fr with
  |some (.iface u v)=>match Nat.beq u t with
   |true=>some (match ok with|true=>.qd [v,.bool true]|false=>v,H,nx)
   |false=>match ok with
    |true=>some (.qd [z,.bool false],H,nx)
    |false=>none
  |some .qe=>match ok with
   |true=>some (.qd [z,.bool false],H,nx)
   |false=>none
  |_=>none
 |.v8 x=>match x.ev G fr with
  |some (.str s)=>some (.ptr nx 0,(nx,.wx s 0)::H,nx+1)
  |_=>none
 |.vI x=>match x.ev G fr with
  |some (.ptr h 0)=>match H.get h with
   |some (.wx s pos)=>match Nat.ble s.length zh with
    |true=>match Nat.blt pos s.length with
     |true=>match rune s pos with
      |some b=>some (.qd [.bool true,.int .i64 (.ofNat pos),.int .i32 (.ofNat b)],H.put h (.wx s (pos+1)),nx)
      |none=>none
     |false=>some (.qd [.bool false],H,nx)
    |false=>none
   |_=>none
  |_=>none
 |.call f args=>match evs G fr args with
  |some D=>call f D H nx
  |none=>none
 |.qO f args=>match f.ev G fr,evs G fr args with
  |some O,some D=>zHq call H nx D O
  |_,_=>none
 |.invoke r m args=>match r.ev G fr,evs G fr args with
  |some (.iface t v),some D=>match G.uP t m with
   |some f=>call f (v::D) H nx
   |none=>none
  |_,_=>none
def zR1  :Option Out:=
 none
def zdR(G:Cx)(fr:Fr)(H:Heap)(nx:Nat)(x:XV):Option Out:=
 match x.ev G fr with
 |some v=>some (v,H,nx)
 |none=>none
def zbT(G:Cx)(fr:Fr)(H:Heap)(nx:Nat)(c:XV)(a:XV)(b:XV):Option Out:=
 match c.ev G fr with
 |some (.bool true)=>match a.ev G fr with
  |some v=>some (v,H,nx)
  |none=>none
 |some (.bool false)=>match b.ev G fr with
  |some v=>some (v,H,nx)
  |none=>none
 |_=>none
def zdS(G:Cx)(fr:Fr)(H:Heap)(nx:Nat)(op:BinOp)(x:XV)(y:XV):Option Out:=
 match x.ev G fr,y.ev G fr with
 |some a,some b=>match zEo op a b with
  |some v=>some (v,H,nx)
  |none=>none
 |_,_=>none
def zdT(G:Cx)(fr:Fr)(H:Heap)(nx:Nat)(neg:Bool)(x:XV)(y:XV):Option Out:=
 match x.ev G fr,y.ev G fr with
 |some (.bool a),some (.bool b)=>some (zCk neg (a==b),H,nx)
 |_,_=>none
def zdU(G:Cx)(fr:Fr)(H:Heap)(nx:Nat)(neg:Bool)(x:XV)(y:XV):Option Out:=
 match x.ev G fr,y.ev G fr with
 |some a,some b=>match zOh H a b with
  |some v=>some (zCk neg v,H,nx)
  |none=>none
 |_,_=>none
def zdV(G:Cx)(fr:Fr)(H:Heap)(nx:Nat)(neg:Bool)(d:List Kd)(x:XV)(y:XV):Option Out:=
 match x.ev G fr,y.ev G fr with
 |some (.agg a),some (.agg b)=>match eqs d a b with
  |some v=>some (zCk neg v,H,nx)
  |none=>none
 |_,_=>none
def zdW(G:Cx)(fr:Fr)(H:Heap)(nx:Nat)(neg:Bool)(lit:Bool)(d:Nat->Option Kd)(x:XV)(y:XV):Option Out:=
 match x.ev G fr,y.ev G fr with
 |some a,some b=>match zLz lit d a b with
  |some v=>some (zCk neg v,H,nx)
  |none=>none
 |_,_=>none
def zdX(G:Cx)(fr:Fr)(H:Heap)(nx:Nat)(neg:Bool)(x:XV)(y:XV):Option Out:=
 match x.ev G fr,y.ev G fr with
 |some a,some b=>match zLA a b with
  |some v=>some (zCk neg v,H,nx)
  |none=>none
 |_,_=>none
def zdY(G:Cx)(fr:Fr)(H:Heap)(nx:Nat)(neg:Bool)(x:XV)(y:XV):Option Out:=
 match x.ev G fr,y.ev G fr with
 |some a,some b=>match zOi a b with
  |some v=>some (zCk neg v,H,nx)
  |none=>none
 |_,_=>none
def zdZ(G:Cx)(fr:Fr)(H:Heap)(nx:Nat)(neg:Bool)(x:XV)(y:XV):Option Out:=
 match x.ev G fr,y.ev G fr with
 |some a,some b=>match zOj a b with
  |some v=>some (zCk neg v,H,nx)
  |none=>none
 |_,_=>none
def zfa(G:Cx)(fr:Fr)(H:Heap)(nx:Nat)(op:UnOp)(x:XV):Option Out:=
 match x.ev G fr with
 |some a=>match xun op a with
  |some v=>some (v,H,nx)
  |none=>none
 |none=>none
def zbU(G:Cx)(fr:Fr)(H:Heap)(nx:Nat)(k:IntKind)(x:XV):Option Out:=
 match x.ev G fr with
 |some (.int _ n)=>some (.int k (wrapx k n),H,nx)
 |_=>none
def zd0(G:Cx)(fr:Fr)(H:Heap)(nx:Nat)(x:XV):Option Out:=
 match x.ev G fr with
 |some (.str s)=>some (.row nx 0 s.length 1 s.length false,(nx,.cells true (s.map λb=>.int .u8 (.ofNat b)))::H,nx+1)
 |_=>none
def zd1(G:Cx)(fr:Fr)(H:Heap)(nx:Nat)(x:XV):Option Out:=
 match x.ev G fr with
 |some (.str _)=>none
 |some v=>match content H 1 v with
  |some (_,b)=>match zAr b with
   |some s=>some (.str s,H,nx)
   |none=>none
  |none=>none
 |none=>none
def zd2(G:Cx)(fr:Fr)(H:Heap)(nx:Nat)(x:XV):Option Out:=
 match x.ev G fr with
 |some (.str s)=>some (.str s,H,nx)
 |_=>none
def zbV(G:Cx)(fr:Fr)(H:Heap)(nx:Nat)(x:XV):Option Out:=
 match x.ev G fr with
 |some (.row h off len c e b)=>match Nat.blt 0 len with
  |true=>match H.get h with
   |some (.cells _ d)=>some (.row h off len c e b,H.put h (.cells true d),nx)
   |_=>none
  |false=>none
 |_=>none
def zbW(G:Cx)(fr:Fr)(H:Heap)(nx:Nat)(x:XV)(c:XV):Option Out:=
 match x.ev G fr,c.ev G fr with
 |some (.str s),some (.int .u8 (.ofNat b))=>some (.int .i64 (zRQ b 0 s),H,nx)
 |_,_=>none
def zbX(G:Cx)(fr:Fr)(H:Heap)(nx:Nat)(x:XV)(c:XV):Option Out:=
 match x.ev G fr,c.ev G fr with
 |some (.str s),some (.int .u8 (.ofNat b))=>some (.int .i64 (.ofNat (zTq b s)),H,nx)
 |_,_=>none
def zd3(G:Cx)(fr:Fr)(H:Heap)(nx:Nat)(x:XV)(off:Nat)(sz:Nat)(c:Bool):Option Out:=
 match x.ev G fr with
 |some (.agg b)=>match part b off sz c with
  |some v=>some (v,H,nx)
  |none=>none
 |_=>none
def zd4(G:Cx)(fr:Fr)(H:Heap)(nx:Nat)(x:XV)(i:Nat):Option Out:=
 match x.ev G fr with
 |some (.qd b)=>match b[i]? with
  |some v=>some (v,H,nx)
  |none=>none
 |_=>none
def zbY(G:Cx)(fr:Fr)(H:Heap)(nx:Nat)(x:XV)(i:XV):Option Out:=
 match x.ev G fr,i.ev G fr with
 |some (.str s),some (.int _ (.ofNat n))=>match s[n]? with
  |some b=>some (.int .u8 (.ofNat b),H,nx)
  |none=>none
 |_,_=>none
def zbZ(G:Cx)(fr:Fr)(H:Heap)(nx:Nat)(x:XV)(i:XV)(len:Nat)(sz:Nat)(c:Bool):Option Out:=
 match x.ev G fr,i.ev G fr with
 |some (.agg b),some i=>match zFw len i with
  |some n=>match part b (n*sz) sz c with
   |some v=>some (v,H,nx)
   |none=>none
  |none=>none
 |_,_=>none
def zd5(G:Cx)(fr:Fr)(H:Heap)(nx:Nat)(x:XV)(sz:Nat):Option Out:=
 match x.ev G fr with
 |some v=>match cellsOf v sz with
  |some b=>some (.ptr nx 0,(nx,.cells false b)::H,nx+1)
  |none=>none
 |none=>none
def zag(H:Heap)(nx:Nat)(z:JE):Option Out:=
 some (.ptr nx 0,(nx,.cells false z)::H,nx+1)
def zah(G:Cx)(fr:Fr)(H:Heap)(nx:Nat)(z:JE)(b:List (Nat×Nat×XV)):Option Out:=
 match zBe G fr z b with
 |some c=>some (.agg c,H,nx)
 |none=>none
def zYv(G:Cx)(fr:Fr)(H:Heap)(nx:Nat)(len:Nat)(sz:Nat)(z:JE)(b:List (Nat×Nat×XV)):Option Out:=
 match zBe G fr z b with
 |some c=>some (.row nx 0 len sz len true,(nx,.cells false c)::H,nx+1)
 |none=>none
def zb0(G:Cx)(fr:Fr)(H:Heap)(nx:Nat)(x:XV)(sz:Nat)(b:Bool):Option Out:=
 match x.ev G fr with
 |some a=>match zER H sz b a with
  |some v=>some (v,H,nx)
  |none=>none
 |none=>none
def zai(G:Cx)(fr:Fr)(H:Heap)(nx:Nat)(a:XV)(x:XV)(sz:Nat):Option Out:=
 match a.ev G fr,x.ev G fr with
 |some (.ptr h off),some v=>match H.get h with
  |some (.cells str b)=>match cellsOf v sz with
   |some new=>match Nat.ble (off+sz) b.length with
    |true=>some (.qd [],H.put h (.cells str (qm b off new)),nx)
    |false=>none
   |none=>none
  |_=>none
 |_,_=>none
def zYw(G:Cx)(fr:Fr)(H:Heap)(nx:Nat)(x:XV):Option Out:=
 match x.ev G fr with
 |some (.ptr h o)=>some (.ptr h o,H,nx)
 |some (.qc e o)=>some (.qc e o,H,nx)
 |some (.iface t v)=>some (.iface t v,H,nx)
 |some (.func (.func f) a b)=>some (.func (.func f) a b,H,nx)
 |_=>none
def zaj(G:Cx)(fr:Fr)(H:Heap)(nx:Nat)(x:XV)(off:Nat):Option Out:=
 match x.ev G fr with
 |some (.ptr h o)=>some (.ptr h (o+off),H,nx)
 |some (.qc e o)=>some (.qc e (o+off),H,nx)
 |_=>none
def zYx(G:Cx)(fr:Fr)(H:Heap)(nx:Nat)(x:XV)(i:XV)(sz:Nat):Option Out:=
 match x.ev G fr,i.ev G fr with
 |some (.qf b c),some i=>match Nat.beq sz b with
  |true=>match idx c i with
   |some e=>some (.qc e 0,H,nx)
   |none=>none
  |false=>none
 |some (.row h off len b _ _),some i=>match Nat.beq sz b with
  |true=>match zFw len i with
   |some n=>some (.ptr h (off+n*sz),H,nx)
   |none=>none
  |false=>none
 |_,_=>none
def zYy(G:Cx)(fr:Fr)(H:Heap)(nx:Nat)(x:XV)(i:XV)(len:Nat)(sz:Nat):Option Out:=
 match x.ev G fr,i.ev G fr with
 |some (.ptr h o),some i=>match zFw len i with
  |some n=>some (.ptr h (o+n*sz),H,nx)
  |none=>none
 |some (.qc e o),some i=>match zFw len i with
  |some n=>some (.qc e (o+n*sz),H,nx)
  |none=>none
 |_,_=>none
def zb1(G:Cx)(fr:Fr)(H:Heap)(nx:Nat)(x:XV)(lo:Option XV)(hi:Option XV):Option Out:=
 match x.ev G fr,evo G fr lo,evo G fr hi with
 |some (.str s),some lo,some hi=>match bnd hi s.length s.length with
  |some h=>match bnd lo 0 h with
   |some l=>some (.str ((s.take h).drop l),H,nx)
   |none=>none
  |none=>none
 |_,_,_=>none
def zb2(G:Cx)(fr:Fr)(H:Heap)(nx:Nat)(x:XV)(lo:Option XV)(hi:Option XV)(b:Option XV)(sz:Nat):Option Out:=
 match x.ev G fr,evo G fr lo,evo G fr hi,evo G fr b with
 |some v,some lo,some hi,some b=>match zIW sz lo hi b v with
  |some v=>some (v,H,nx)
  |none=>none
 |_,_,_,_=>none
def zb3(G:Cx)(fr:Fr)(H:Heap)(nx:Nat)(x:XV)(lo:Option XV)(hi:Option XV)(len:Nat)(sz:Nat):Option Out:=
 match x.ev G fr,evo G fr lo,evo G fr hi with
 |some (.ptr h off),some lo,some hi=>match H.get h with
  |some (.cells _ b)=>match Nat.ble (off+len*sz) b.length with
   |true=>match bnd hi len len with
    |some t=>match bnd lo 0 t with
     |some l=>some (.row h (off+l*sz) (t-l) sz (len-l) true,H,nx)
     |none=>none
    |none=>none
   |false=>none
  |_=>none
 |_,_,_=>none
def zb4(G:Cx)(fr:Fr)(H:Heap)(nx:Nat)(x:XV):Option Out:=
 match x.ev G fr with
 |some (.str s)=>some (.int .i64 (.ofNat s.length),H,nx)
 |_=>none
def zb5(G:Cx)(fr:Fr)(H:Heap)(nx:Nat)(x:XV):Option Out:=
 match x.ev G fr with
 |some .qa=>some (.int .i64 (.ofNat 0),H,nx)
 |some (.qf _ b)=>some (.int .i64 (.ofNat b.length),H,nx)
 |some (.row _ _ len _ _ _)=>some (.int .i64 (.ofNat len),H,nx)
 |_=>none
def zb6(G:Cx)(fr:Fr)(H:Heap)(nx:Nat)(x:XV):Option Out:=
 match x.ev G fr with
 |some .qn=>some (.int .i64 (.ofNat 0),H,nx)
 |some (.map h)=>match H.get h with
  |some (.map b)=>match Nat.ble b.length zh with
   |true=>some (.int .i64 (.ofNat b.length),H,nx)
   |false=>none
  |_=>none
 |_=>none
def zb7(H:Heap)(nx:Nat)(n:Nat):Option Out:=
 some (.int .i64 (.ofNat n),H,nx)
def zd6(G:Cx)(fr:Fr)(H:Heap)(nx:Nat)(x:XV):Option Out:=
 match x.ev G fr with
 |some .qa=>some (.int .i64 (.ofNat 0),H,nx)
 |some (.row _ _ _ _ b true)=>some (.int .i64 (.ofNat b),H,nx)
 |_=>none
def zYz(G:Cx)(fr:Fr)(H:Heap)(nx:Nat)(x:XV)(y:XV)(sz:Nat)(bytes:Nat):Option Out:=
 match x.ev G fr,y.ev G fr with
 |some s,some y=>zDB H nx s y sz bytes
 |_,_=>none
def zb8(G:Cx)(fr:Fr)(H:Heap)(nx:Nat)(x:XV)(y:XV)(sz:Nat):Option Out:=
 match x.ev G fr,y.ev G fr with
 |some d,some y=>zQz H nx d y sz
 |_,_=>none
def zb9(G:Cx)(fr:Fr)(H:Heap)(nx:Nat)(x:XV)(sz:Nat)(z:JE):Option Out:=
 match x.ev G fr with
 |some .qa=>some (.qd [],H,nx)
 |some (.row h off len b _ _)=>match Nat.beq sz b with
  |false=>none
  |true=>match H.get h with
   |some (.cells str c)=>match Nat.ble (off+len*sz) c.length with
    |true=>some (.qd [],H.put h (.cells str (qm c off (rep len z))),nx)
    |false=>none
   |_=>none
 |_=>none
def zca(G:Cx)(fr:Fr)(H:Heap)(nx:Nat)(x:XV):Option Out:=
 match x.ev G fr with
 |some .qn=>some (.qd [],H,nx)
 |some (.map h)=>match H.get h with
  |some (.map _)=>some (.qd [],H.put h (.map []),nx)
  |_=>none
 |_=>none
def zd7(G:Cx)(fr:Fr)(H:Heap)(nx:Nat)(x:XV)(y:XV):Option Out:=
 match x.ev G fr,y.ev G fr with
 |some (.int k a),some (.int c b)=>match zFO k c with
  |true=>some (.int k (if b<a then b else a),H,nx)
  |false=>none
 |_,_=>none
def zd8(G:Cx)(fr:Fr)(H:Heap)(nx:Nat)(x:XV)(y:XV):Option Out:=
 match x.ev G fr,y.ev G fr with
 |some (.int k a),some (.int c b)=>match zFO k c with
  |true=>some (.int k (if b > a then b else a),H,nx)
  |false=>none
 |_,_=>none
def zXk(G:Cx)(fr:Fr)(H:Heap)(nx:Nat)(l:XV)(c:XV)(sz:Nat)(bytes:Nat)(z:JE):Option Out:=
 match l.ev G fr,c.ev G fr with
 |some (.int _ (.ofNat l)),some (.int _ (.ofNat c))=>match Nat.ble l c with
  |true=>match Nat.ble (c*bytes) zc with
   |true=>match Nat.ble c zc with
    |true=>some (.row nx 0 l sz c true,(nx,.cells false (rep c z))::H,nx+1)
    |false=>none
   |false=>none
  |false=>none
 |_,_=>none
def zak(H:Heap)(nx:Nat) :Option Out:=
 some (.map nx,(nx,.map [])::H,nx+1)
def zYA(G:Cx)(fr:Fr)(H:Heap)(nx:Nat)(e:Bool)(d:List Kd)(m:XV)(k:XV)(z:AV)(ok:Bool):Option Out:=
 match m.ev G fr,k.ev G fr with
 |some m,some k=>match zDC e d k with
  |false=>none
  |true=>match m with
   |.qn=>some (match ok with|true=>.qd [z,.bool false]|false=>z,H,nx)
   |.map h=>match H.get h with
    |some (.map g)=>match zAE e d k g with
     |some (some v)=>some (match ok with|true=>.qd [v,.bool true]|false=>v,H,nx)
     |some none=>some (match ok with|true=>.qd [z,.bool false]|false=>z,H,nx)
     |none=>none
    |_=>none
   |_=>none
 |_,_=>none
def zcb(G:Cx)(fr:Fr)(H:Heap)(nx:Nat)(g:Bool)(e:List Kd)(m:XV)(k:XV)(v:XV):Option Out:=
 match m.ev G fr,k.ev G fr,v.ev G fr with
 |some (.map h),some k,some v=>match zDC g e k with
  |false=>none
  |true=>match H.get h with
   |some (.map d)=>match zCm g e k v d with
    |some d=>some (.qd [],H.put h (.map d),nx)
    |none=>none
   |_=>none
 |_,_,_=>none
def zd9(G:Cx)(fr:Fr)(H:Heap)(nx:Nat)(g:Bool)(e:List Kd)(m:XV)(k:XV):Option Out:=
 match m.ev G fr,k.ev G fr with
 |some m,some k=>match zDC g e k with
  |false=>none
  |true=>match m with
   |.qn=>some (.qd [],H,nx)
   |.map h=>match H.get h with
    |some (.map d)=>match zRP g e k d with
     |some d=>some (.qd [],H.put h (.map d),nx)
     |none=>none
    |_=>none
   |_=>none
 |_,_=>none
def zYB(G:Cx)(fr:Fr)(H:Heap)(nx:Nat)(fn:Fn)(first:List XV)(c:List XV):Option Out:=
 match evs G fr first,evs G fr c with
 |some a,some b=>some (.func fn a b,H,nx)
 |_,_=>none
def zcc(G:Cx)(fr:Fr)(H:Heap)(nx:Nat)(t:Nat)(x:XV):Option Out:=
 match x.ev G fr with
 |some v=>some (.iface t v,H,nx)
 |none=>none
def zea(G:Cx)(fr:Fr)(H:Heap)(nx:Nat)(x:XV)(t:Nat)(ok:Bool)(z:AV):Option Out:=
 match x.ev G fr with
 |some (.iface u v)=>match Nat.beq u t with
  |true=>some (match ok with|true=>.qd [v,.bool true]|false=>v,H,nx)
  |false=>match ok with
   |true=>some (.qd [z,.bool false],H,nx)
   |false=>none
 |some .qe=>match ok with
  |true=>some (.qd [z,.bool false],H,nx)
  |false=>none
 |_=>none
def zcd(G:Cx)(fr:Fr)(H:Heap)(nx:Nat)(x:XV):Option Out:=
 match x.ev G fr with
 |some (.str s)=>some (.ptr nx 0,(nx,.wx s 0)::H,nx+1)
 |_=>none
def zal(G:Cx)(fr:Fr)(H:Heap)(nx:Nat)(x:XV):Option Out:=
 match x.ev G fr with
 |some (.ptr h 0)=>match H.get h with
  |some (.wx s pos)=>match Nat.ble s.length zh with
   |true=>match Nat.blt pos s.length with
    |true=>match rune s pos with
     |some b=>some (.qd [.bool true,.int .i64 (.ofNat pos),.int .i32 (.ofNat b)],H.put h (.wx s (pos+1)),nx)
     |none=>none
    |false=>some (.qd [.bool false],H,nx)
   |false=>none
  |_=>none
 |_=>none
def zce(G:Cx)(call:Call)(fr:Fr)(H:Heap)(nx:Nat)(f:Nat)(args:List XV):Option Out:=
 match evs G fr args with
 |some b=>call f b H nx
 |none=>none
def zam(G:Cx)(call:Call)(fr:Fr)(H:Heap)(nx:Nat)(f:XV)(args:List XV):Option Out:=
 match f.ev G fr,evs G fr args with
 |some c,some b=>zHq call H nx b c
 |_,_=>none
def zYC(G:Cx)(call:Call)(fr:Fr)(H:Heap)(nx:Nat)(r:XV)(m:String)(args:List XV):Option Out:=
 match r.ev G fr,evs G fr args with
 |some (.iface t v),some b=>match G.uP t m with
  |some f=>call f (v::b) H nx
  |none=>none
 |_,_=>none
def xo(G:Cx)(call:Call)(fr:Fr)(H:Heap)(nx:Nat):XO->Option Out
 |.bad=>zR1
 |.wM x=>zdR G fr H nx x
 |.pick c a b=>zbT G fr H nx c a b
 |.bin op x y=>zdS G fr H nx op x y
 |.beq neg x y=>zdT G fr H nx neg x y
 |.ui neg x y=>zdU G fr H nx neg x y
 |.wG neg g x y=>zdV G fr H nx neg g x y
 |.vZ neg lit p x y=>zdW G fr H nx neg lit p x y
 |.seq neg x y=>zdX G fr H nx neg x y
 |.ur neg x y=>zdY G fr H nx neg x y
 |.uq neg x y=>zdZ G fr H nx neg x y
 |.un op x=>zfa G fr H nx op x
 |.conv k x=>zbU G fr H nx k x
 |.vU x=>zd0 G fr H nx x
 |.vF x=>zd1 G fr H nx x
 |.uB x=>zd2 G fr H nx x
 |.mark x=>zbV G fr H nx x
 |.vA x c=>zbW G fr H nx x c
 |.vB x c=>zbX G fr H nx x c
 |.vS x off d e=>zd3 G fr H nx x off d e
 |.ext x i=>zd4 G fr H nx x i
 |.wW x i=>zbY G fr H nx x i
 |.wg x i len d e=>zbZ G fr H nx x i len d e
 |.box x d=>zd5 G fr H nx x d
 |.alloc z=>zag H nx z
 |.build z o=>zah G fr H nx z o
 |.qx len d z o=>zYv G fr H nx len d z o
 |.load x d e=>zb0 G fr H nx x d e
 |.store a x d=>zai G fr H nx a x d
 |.qQ x=>zYw G fr H nx x
 |.qD x off=>zaj G fr H nx x off
 |.qB x i d=>zYx G fr H nx x i d
 |.qz x i len d=>zYy G fr H nx x i len d
 |.wP x j hi=>zb1 G fr H nx x j hi
 |.wA x j hi q d=>zb2 G fr H nx x j hi q d
 |.vY x j hi len d=>zb3 G fr H nx x j hi len d
 |.w4 x=>zb4 G fr H nx x
 |.wq x=>zb5 G fr H nx x
 |.ub x=>zb6 G fr H nx x
 |.w7 n=>zb7 H nx n
 |.cap x=>zd6 G fr H nx x
 |.append x y d bytes=>zYz G fr H nx x y d bytes
 |.copy x y d=>zb8 G fr H nx x y d
 |.uo x d z=>zb9 G fr H nx x d z
 |.ux x=>zca G fr H nx x
 |.min x y=>zd7 G fr H nx x y
 |.max x y=>zd8 G fr H nx x y
 |.qN l c d bytes z=>zXk G fr H nx l c d bytes z
 |.wv=>zak H nx
 |.lookup e g m k z ok=>zYA G fr H nx e g m k z ok
 |.wR e g m k v=>zcb G fr H nx e g m k v
 |.del e g m k=>zd9 G fr H nx e g m k
 |.wh fn first h=>zYB G fr H nx fn first h
 |.w8 t x=>zcc G fr H nx t x
 |.ug x t ok z=>zea G fr H nx x t ok z
 |.v8 x=>zcd G fr H nx x
 |.vI x=>zal G fr H nx x
 |.call f args=>zce G call fr H nx f args
 |.qO f args=>zam G call fr H nx f args
 |.invoke r m args=>zYC G call fr H nx r m args
theorem zIj{G:Cx}{call:Call}{fr:Fr}{H:Heap}{nx:Nat}{o:XO}:xo G call fr H nx o=xoS G call fr H nx o:=by cases o<;>rfl
def qv(fr:Fr)(d:Option Nat)(v:AV):Fr:=
 match d with
 |some n=>fr.put n v
 |none=>fr
def zB7(fr:Fr):Option (Nat×Bool)->Option Bool
 |none=>some true
 |some (s,b)=>match fr.get s with
  |some (.bool c)=>some (match c,b with|true,true=>true|false,false=>true|_,_=>false)
  |some (.qd [])=>some false
  |_=>none
def zYD(G:Cx)(call:Call):List XOper->Fr->Heap->Nat->Option (Fr×Heap×Nat)
 |[],fr,H,nx=>some (fr,H,nx)
 |o::r,fr,H,nx=>match zB7 fr o.guard with
  |some true=>match xo G call fr H nx o.op with
   |some (v,H',nx')=>zYD G call r (qv fr o.dst v) H' nx'
   |none=>none
  |some false=>zYD G call r (qv fr o.dst (.qd [])) H nx
  |none=>none
inductive Ext where
 |normal
 |exit (id:Nat)
 |ret
abbrev St:=Fr×Heap×Nat
def zLB(f:AV->AV->Bool):JE->JE->Bool
 |[],[]=>true
 |a::x,b::y=>match f a b with
  |true=>zLB f x y
  |false=>false
 |_,_=>false
def wG:Nat->AV->AV->Bool
 |0,_,_=>false
 |d+1,a,b=>match a,b with
  |.bool a,.bool b=>a==b
  |.int k a,.int B b=>match zFO k B with|true=>a==b|false=>false
  |.str a,.str b=>zi a b
  |.qo,.qo=>true
  |.ptr h o,.ptr p u=>Nat.beq h p&&Nat.beq o u
  |.qc e o,.qc r u=>wG d e r&&Nat.beq o u
  |.qa,.qa=>true
  |.qf n a,.qf m b=>Nat.beq n m&&zLB (wG d) a b
  |.row a b c e f g,.row q l y r s A=>Nat.beq a q&&Nat.beq b l&&Nat.beq c y&&Nat.beq e r&&Nat.beq f s&&g==A
  |.qn,.qn=>true
  |.map h,.map p=>Nat.beq h p
  |.ql,.ql=>true
  |.func (.func f) a b,.func (.func s) q l=>Nat.beq f s&&zLB (wG d) a q&&zLB (wG d) b l
  |.qe,.qe=>true
  |.iface t v,.iface z x=>Nat.beq t z&&wG d v x
  |.agg a,.agg b=>zLB (wG d) a b
  |.qd a,.qd b=>zLB (wG d) a b
  |.sym i,.sym j=>Nat.beq i j
  |_,_=>false
def z8:XO->Nat
 |.wM _|.pick _ _ _|.bin _ _ _|.beq _ _ _|.wG _ _ _ _|.vZ _ _ _ _ _|.vA _ _|.vB _ _|.seq _ _ _|.ur _ _ _|.uq _ _ _|.un _ _|.conv _ _|.uB _|.vS _ _ _ _|.ext _ _|.wW _ _|.wg _ _ _ _ _|.build _ _|.qQ _
 |.qD _ _|.qB _ _ _|.qz _ _ _ _|.wP _ _ _|.wA _ _ _ _ _|.w4 _|.wq _|.w7 _|.cap _|.min _ _|.max _ _|.wh _ _ _|.w8 _ _|.ug _ _ _ _=>0
 |.ui _ _ _|.vF _|.load _ _ _|.vY _ _ _ _ _|.ub _|.lookup _ _ _ _ _ _=>1
 |.vU _|.box _ _|.alloc _|.qx _ _ _ _|.qN _ _ _ _ _|.wv|.v8 _=>2
 |_=>3
structure DRead where
 i:Nat
 op:XO
 fr:Fr
 qg:Nat
 v:AV
structure DS where
 fr:Fr
 nx:Nat
 ms:List (Heap×Nat)
 ch:JN
 al:List (Nat×Nat×HO)
 rd:List DRead
 tr:List (Nat×Option Nat×AV)
def within(f:Nat->Bool):List (Nat×Nat×HO)->Heap
 |[]=>[]
 |(i,h,o)::r=>match f i with
  |true=>(h,o)::within f r
  |false=>within f r
def zBv(mask:Nat):List (Nat×Nat×HO)->Nat
 |[]=>0
 |(i,_,_)::r=>match mask.testBit i with
  |true=>2 ^ i ||| zBv mask r
  |false=>zBv mask r
def but(mask inc:Nat)(i:Nat):Bool:=mask.testBit i&&!inc.testBit i
def zf:Call:=λ_ _ _ _=>none
def only:JV->Fr->Fr
 |[],_=>[]
 |t::ts,fr=>match fr.get t with
  |some v=>(t,v)::only ts fr
  |none=>only ts fr
def zC4(G:Cx)(call:Call)(i:Nat)(o:XOper)(d:XD)(s:DS):Option DS:=
 let fr:=only d.looks s.fr
 match zB7 fr o.guard with
 |some false=>some { s with fr:=qv s.fr o.dst (.qd []),tr:=(i,o.dst,.qd [])::s.tr }
 |some true=>match z8 o.op with
  |0=>match xo G zf fr [] s.nx o.op with
   |some (v,[],n)=>match Nat.beq n s.nx with
    |true=>some { s with fr:=qv s.fr o.dst v,tr:=(i,o.dst,v)::s.tr }
    |false=>none
   |_=>none
  |1=>match s.ms with
   |(m,inc)::_=>match xo G zf fr (within (but d.qg inc) s.al++m) s.nx o.op with
    |some (v,_,_)=>some { s with fr:=qv s.fr o.dst v,rd:=⟨i,o.op,fr,d.qg,v⟩::s.rd,tr:=(i,o.dst,v)::s.tr }
    |none=>none
   |[]=>none
  |2=>match xo G zf fr [] s.nx o.op with
   |some (v,[(h,b)],n)=>match Nat.beq n (h+1)with
    |true=>match Nat.beq h s.nx with
     |true=>some { s with fr:=qv s.fr o.dst v,nx:=n,al:=(i,h,b)::s.al,tr:=(i,o.dst,v)::s.tr }
     |false=>none
    |false=>none
   |some (v,[],n)=>match Nat.beq n s.nx with
    |true=>some { s with fr:=qv s.fr o.dst v,tr:=(i,o.dst,v)::s.tr }
    |false=>none
   |_=>none
  |_=>match s.ms with
   |(m,inc)::_=>match s.ch.all λc=>d.qg.testBit c.1 with
    |true=>match xo G call fr (within (but d.qg inc) s.al++m) s.nx o.op with
     |some (v,e,n)=>some { s with fr:=qv s.fr o.dst v,nx:=n,ms:=(e,inc ||| zBv d.qg s.al)::s.ms,ch:=(i,d.qg)::s.ch,tr:=(i,o.dst,v)::s.tr }
     |none=>none
    |false=>none
   |[]=>none
 |none=>none
def zBw(G:Cx)(call:Call):Nat->List XOper->List XD->DS->Option DS
 |_,[],_,s=>some s
 |i,o::r,d::ds,s=>match zC4 G call i o d s with
  |some b=>zBw G call (i+1) r ds b
  |none=>none
 |_,_::_,[],_=>none
open Classical in
noncomputable def eqC(a b:AV):Bool:=decide (a=b)
open Classical in
theorem zUK(a:AV):eqC a a=true:=Qc rfl
open Classical in
theorem zeb{a b:AV}(h:eqC a b=true):a=b:=Qm h
noncomputable section
def zD9(G:Cx)(al:List (Nat×Nat×HO))(nx:Nat)(r:DRead)(m:Heap)(inc:Nat):Bool:=
 match xo G zf r.fr (within (but r.qg inc) al++m) nx r.op with
 |some (v,_,_)=>eqC v r.v
 |none=>false
def zCs(G:Cx)(al:List (Nat×Nat×HO))(nx:Nat)(r:DRead):JN->List (Heap×Nat)->Bool
 |(c,p)::ch,(m,inc)::ms=>
  match r.qg.testBit c with
  |true=>zD9 G al nx r m inc
  |false=>match p.testBit r.i with
   |true=>zCs G al nx r ch ms
   |false=>match zD9 G al nx r m inc with
    |true=>zCs G al nx r ch ms
    |false=>false
 |[],(m,inc)::_=>zD9 G al nx r m inc
 |_,[]=>false
def zQb(G:Cx)(call:Call)(ops:List XOper)(ds:List XD)(st:St):Option St:=
 match zBw G call 0 ops ds ⟨st.1,st.2.2,[(st.2.1,0)],[],[],[],[]⟩with
 |some s=>match s.rd.all λr=>zCs G s.al s.nx r s.ch s.ms with
  |true=>match s.ms with
   |(m,inc)::_=>some (s.fr,within (λi=>!inc.testBit i) s.al++m,s.nx)
   |[]=>none
  |false=>none
 |none=>none
def inN(n:Nat):JV->Bool
 |[]=>false
 |a::r=>match Nat.beq n a with
  |true=>true
  |false=>inN n r
def zUo(H:Heap)(fr:Fr):XR->JF
 |.t n=>fr.get n
 |.cell n b c=>match fr.get n with
  |some a=>zER H b c a
  |none=>none
def zG3(H:Heap)(fr:Fr):List XR->Option JE
 |[]=>some []
 |r::rs=>match zUo H fr r with
  |some v=>match zG3 H fr rs with
   |some b=>some (v::b)
   |none=>none
  |none=>none
def zBG:JE->AV
 |[v]=>v
 |b=>.qd b
def qI(n:Nat):JE->Fr
 |[]=>[]
 |v::r=>(n,v)::qI (n+1) r
def chunks(sz:Nat):Nat->JE->JE
 |0,_=>[]
 |n+1,b=>(match sz with
  |1=>match b with
   |c::_=>c
   |[]=>.qd []
  |_=>.agg (b.take sz))::chunks sz n (b.drop sz)
end
def zVR(f:Value->JF):JC->Option JE
 |[]=>some []
 |v::r=>match f v with
  |some a=>match zVR f r with
   |some as=>some (a::as)
   |none=>none
  |none=>none
def inr:IntKind->Int->Bool
 |.i64,.ofNat m=>Nat.ble m 9223372036854775807
 |.i64,.negSucc m=>Nat.ble m 9223372036854775807
 |.i32,.ofNat m=>Nat.ble m 2147483647
 |.i32,.negSucc m=>Nat.ble m 2147483647
 |.i16,.ofNat m=>Nat.ble m 32767
 |.i16,.negSucc m=>Nat.ble m 32767
 |.i8,.ofNat m=>Nat.ble m 127
 |.i8,.negSucc m=>Nat.ble m 127
 |.u64,.ofNat m=>Nat.ble m 18446744073709551615
 |.u32,.ofNat m=>Nat.ble m 4294967295
 |.u16,.ofNat m=>Nat.ble m 65535
 |.u8,.ofNat m=>Nat.ble m 255
 |_,.negSucc _=>false
def cav:Nat->Value->JF
 |0,_=>none
 |d+1,v=>match v with
  |.bool b=>some (.bool b)
  |.int k n=>match inr k n with
   |true=>some (.int k n)
   |false=>none
  |.string s=>match Nat.ble s.data.toList.length zh with
   |true=>some (.str (s.data.toList.map UInt8.toNat))
   |false=>none
  |.pointer none=>some .qo
  |.slice none 0 0=>some .qa
  |.map none=>some .qn
  |.nilFunc=>some .ql
  |.nilIface=>some .qe
  |.func (.func f) a b=>match a.toList,b.toList with
   |[],[]=>some (.func (.func f) [] [])
   |_,_=>none
  |.agg c=>match zVR (cav d) c.toList with
   |some l=>match l.all AV.one with
    |true=>some (.agg l)
    |false=>none
   |none=>none
  |_=>none
def zL:Operand->Option XV
 |.tmp t=>some (.t t)
 |.const v=>match cav 3 v with
  |some a=>some (.c a)
  |none=>none
 |.global g=>some (.g g)
 |.func f=>some (.c (.func (.func f) [] []))
def zES:List Operand->Option (List XV)
 |[]=>some []
 |x::r=>match zL x,zES r with
  |some y,some s=>some (y::s)
  |_,_=>none
def zKF:Option Operand->Option (Option XV)
 |none=>some none
 |some x=>match zL x with
  |some y=>some (some y)
  |none=>none
def zS(P:Program)(t:TypeId):Option Nat:=(P.info? t).map (·.size)
def zJw(P:Program)(t:TypeId):Option Nat:=(P.info? t).map (·.bytes)
def agT(P:Program)(t:TypeId):Option Bool:=match P.underlying t with
 |some (.struct _)|some (.array _ _)=>some true
 |some _=>some false
 |none=>none
def zNs(P:Program)(t:TypeId):JF:=match P.info? t with
 |some i=>match i.zero with
  |some v=>cav 3 v
  |none=>none
 |none=>none
def zDD(P:Program)(t:TypeId):Option JE:=match zNs P t with
 |some v=>match v.flat,zS P t with
  |true,some n=>match Nat.beq v.cells.length n with
   |true=>some v.cells
   |false=>none
  |_,_=>none
 |none=>none
def zKR(P:Program)(f:TypeId->Option (List Kd)):Nat->List Field->Option (List Kd)
 |_,[]=>some []
 |n,x::r=>match x.name == "_",Nat.beq x.offset n,f x.type,zS P x.type with
  |false,true,some d,some s=>match Nat.beq d.length s with
   |true=>match zKR P f (n+s) r with
    |some rs=>some (d++rs)
    |none=>none
   |false=>none
  |_,_,_,_=>none
def zBI(P:Program):Nat->TypeId->Option (List Kd)
 |0,_=>none
 |d+1,t=>match P.underlying t with
  |some .bool=>some [.b]
  |some (.int _)=>some [.i]
  |some .string=>some [.s]
  |some (.struct e)=>match P.stoodInHeld t with
   |true=>none
   |false=>zKR P (zBI P d) 0 e.toList
  |_=>none
def zQc(P:Program)(t:TypeId):Option Kd:=match P.info? t with
 |some i=>match i.comparable with
  |true=>match P.underlying t with
   |some .bool=>some .b
   |some (.int _)=>some .i
   |some .string=>some .s
   |_=>none
  |false=>none
 |none=>none
def zbr(fn:Func)(as:List XV):Option XO:=match fn.origin == "",as with
 |true,[x,y]=>match fn.name == "internal/bytealg.IndexByteString" with
  |true=>some (.vA x y)
  |false=>match fn.name == "internal/bytealg.CountString" with
   |true=>some (.vB x y)
   |false=>none
 |_,_=>none
def zBi:Operand->Bool
 |.const _=>true
 |_=>false
def zDS(place:Nat->Option (Nat×Nat)):List (Nat×Operand)->Option (List (Nat×Nat×XV))
 |[]=>some []
 |(i,x)::r=>match place i,zL x,zDS place r with
  |some (off,b),some y,some s=>some ((off,b,y)::s)
  |_,_,_=>none
def zQA(P:Program)(t:TypeId):Option (Array Field):=match P.underlying t with
 |some (.struct b)=>some b
 |_=>none
def ze{α β:Type}(x:Option α)(f:α->Option β):Option β:=match x with
 |some a=>f a
 |none=>none
def zWv(P:Program)(op:BinOp)(t:TypeId)(x y:Operand):Option XO:=
 ze (zL x) λa=>ze (zL y) λb=>
 match P.underlying t with
 |some (.int _)|some .string=>some (.bin op a b)
 |some .bool=>match op with
  |.eql=>some (.beq false a b)
  |.neq=>some (.beq true a b)
  |_=>none
 |some (.pointer e)=>match op with
  |.eql=>match zS P e with|some 0=>none|some _=>some (.ui false a b)|none=>none
  |.neq=>match zS P e with|some 0=>none|some _=>some (.ui true a b)|none=>none
  |_=>none
 |some (.struct _)=>match zBI P 6 t,P.eqGuardType P.depth t with
  |some c,false=>match op with
   |.eql=>some (.wG false c a b)
   |.neq=>some (.wG true c a b)
   |_=>none
  |_,_=>none
 |some (.interface _)=>match op with
  |.eql=>some (.vZ false (zBi x||zBi y) (zQc P) a b)
  |.neq=>some (.vZ true (zBi x||zBi y) (zQc P) a b)
  |_=>none
 |some (.slice _)=>match op with
  |.eql=>some (.seq false a b)
  |.neq=>some (.seq true a b)
  |_=>none
 |some (.map _ _)=>match op with
  |.eql=>some (.ur false a b)
  |.neq=>some (.ur true a b)
  |_=>none
 |some (.func _ _ _)=>match op with
  |.eql=>some (.uq false a b)
  |.neq=>some (.uq true a b)
  |_=>none
 |_=>none
def zUL(P:Program)(s d:TypeId)(x:Operand):Option XO:=
 ze (zL x) λa=>
 match P.underlying s,P.underlying d with
 |some (.int _),some (.int k)=>some (.conv k a)
 |some .string,some .string=>some (.uB a)
 |some .string,some (.slice e)=>match P.underlying e with
  |some (.int .u8)=>some (.vU a)
  |_=>none
 |some (.slice e),some .string=>match P.underlying e with
  |some (.int .u8)=>some (.vF a)
  |_=>none
 |some (.slice _),some (.slice e)=>match Nat.beq s d with
  |true=>match P.underlying e with
   |some (.int .u8)=>some (.mark a)
   |_=>none
  |false=>none
 |_,_=>none
def zRR(P:Program)(t:TypeId):Option (Bool×List Kd):=ze (zBI P 6 t) λd=>ze (agT P t) λg=>some (g,d)
def zMt(P:Program)(b:Builtin)(args:List Operand)(ts:List TypeId):Option XO:=
 match b,args,ts with
 |.len,[x],[t]=>ze (zL x) λa=>match P.underlying t with
  |some .string=>some (.w4 a)
  |some (.slice _)=>some (.wq a)
  |some (.map _ _)=>some (.ub a)
  |some (.array n _)=>match Nat.ble n zh with
   |true=>some (.w7 n)
   |false=>none
  |some (.pointer e)=>match P.underlying e with
   |some (.array n _)=>match Nat.ble n zh with
    |true=>some (.w7 n)
    |false=>none
   |_=>none
  |_=>none
 |.cap,[x],[t]=>ze (zL x) λa=>match P.underlying t with
  |some (.slice _)=>some (.cap a)
  |_=>none
 |.append,[x,y],[t,u]=>ze (zL x) λa=>ze (zL y) λb=>match P.underlying t,P.underlying u with
  |some (.slice e),some (.slice _)=>ze (zS P e) λs=>ze (zJw P e) λn=>ze (zDD P e) λ_=>match s with|0=>none|s+1=>some (.append a b (s+1) n)
  |some (.slice e),some .string=>ze (zS P e) λs=>ze (zJw P e) λn=>ze (zDD P e) λ_=>match s with|1=>some (.append a b 1 n)|_=>none
  |_,_=>none
 |.copy,[x,y],[t,_]=>ze (zL x) λa=>ze (zL y) λb=>match P.underlying t with
  |some (.slice e)=>ze (zS P e) λs=>match s with|0=>none|s+1=>some (.copy a b (s+1))
  |_=>none
 |.clear,[x],[t]=>ze (zL x) λa=>match P.underlying t with
  |some (.slice e)=>ze (zS P e) λs=>ze (zDD P e) λz=>match s with|0=>none|s+1=>some (.uo a (s+1) z)
  |some (.map _ _)=>some (.ux a)
  |_=>none
 |.min,[x,y],[t,_]=>ze (zL x) λa=>ze (zL y) λb=>match P.underlying t with
  |some (.int _)=>some (.min a b)
  |_=>none
 |.max,[x,y],[t,_]=>ze (zL x) λa=>ze (zL y) λb=>match P.underlying t with
  |some (.int _)=>some (.max a b)
  |_=>none
 |.delete,[m,k],[t,_]=>ze (zL m) λa=>ze (zL k) λb=>match P.underlying t with
  |some (.map c _)=>ze (zRR P c) λk=>some (.del k.1 k.2 a b)
  |_=>none
 |_,_,_=>none
def zBx(P:Program):Op->Option XO
 |.move x|.assign x=>ze (zL x) λa=>some (.wM a)
 |.pick c a b=>ze (zL c) λc=>ze (zL a) λa=>ze (zL b) λb=>some (.pick c a b)
 |.alloc e=>ze (zDD P e) λz=>some (.alloc z)
 |.box e v=>ze (zL v) λa=>ze (zS P e) λs=>some (.box a s)
 |.build t h=>ze (zDD P t) λz=>match P.underlying t with
  |some (.struct o)=>match o.toList.all λf=>(zS P f.type).isSome with
   |true=>ze (zDS (λi=>ze (o[i]?) λf=>ze (zS P f.type) λs=>some (f.offset,s)) h.toList) λh=>some (.build z h)
   |false=>none
  |some (.array _ e)=>ze (zS P e) λs=>ze (zDS (λi=>some (i*s,s)) h.toList) λh=>some (.build z h)
  |_=>none
 |.buildSlice t n h=>match P.underlying t with
  |some (.slice e)=>ze (zS P e) λs=>ze (zDD P e) λz=>match s with
   |0=>none
   |s+1=>match Nat.ble (n*(s+1)) 16777216 with
    |true=>ze (zDS (λi=>some (i*(s+1),s+1)) h.toList) λh=>some (.qx n (s+1) (rep n z) h)
    |false=>none
  |_=>none
 |.load t a=>ze (zL a) λa=>ze (zS P t) λs=>ze (agT P t) λg=>some (.load a s g)
 |.store t a v=>ze (zL a) λa=>ze (zL v) λv=>ze (zS P t) λs=>some (.store a v s)
 |.nilCheck x=>ze (zL x) λa=>some (.qQ a)
 |.binOp op t x y _=>zWv P op t x y
 |.unOp op _ x=>ze (zL x) λa=>some (.un op a)
 |.convert s d x=>zUL P s d x
 |.makeInterface t x=>ze (zL x) λa=>match P.underlying t with
  |some (.interface _)=>none
  |some _=>some (.w8 t a)
  |none=>none
 |.makeFunc fn a b=>ze (zES a.toList) λa=>ze (zES b.toList) λb=>some (.wh fn a b)
 |.makeMap t r=>match P.underlying t,r with
  |some (.map _ _),none=>some .wv
  |_,_=>none
 |.makeSlice t l c=>match P.underlying t with
  |some (.slice e)=>ze (zL l) λl=>ze (zL c) λc=>ze (zS P e) λs=>ze (zJw P e) λn=>ze (zDD P e) λz=>match s with
   |0=>none
   |s+1=>some (.qN l c (s+1) n z)
  |_=>none
 |.slice t x p hi j=>ze (zL x) λx=>ze (zKF p) λp=>ze (zKF hi) λhi=>ze (zKF j) λj=>match P.underlying t with
  |some .string=>match j with
   |none=>some (.wP x p hi)
   |some _=>none
  |some (.slice e)=>ze (zS P e) λs=>match s with|0=>none|s+1=>match j,hi with
   |some _,none=>none
   |_,_=>some (.wA x p hi j (s+1))
  |some (.array n e)=>ze (zS P e) λs=>match s with|0=>none|s+1=>match j with
   |none=>match Nat.ble n zh with
    |true=>some (.vY x p hi n (s+1))
    |false=>none
   |some _=>none
  |_=>none
 |.fieldAddr t x f=>ze (zL x) λa=>ze (zQA P t) λo=>ze (o[f]?) λf=>ze (zS P f.type) λs=>match s with
  |0=>none
  |_+1=>some (.qD a f.offset)
 |.field t x f=>ze (zL x) λa=>ze (zQA P t) λo=>ze (o[f]?) λf=>ze (zS P f.type) λs=>ze (agT P f.type) λg=>some (.vS a f.offset s g)
 |.indexAddr t x i=>ze (zL x) λa=>ze (zL i) λi=>match P.underlying t with
  |some (.slice e)=>ze (zS P e) λs=>match s with|0=>none|s+1=>some (.qB a i (s+1))
  |some (.array n e)=>ze (zS P e) λs=>match s with|0=>none|s+1=>some (.qz a i n (s+1))
  |_=>none
 |.index t x i=>ze (zL x) λa=>ze (zL i) λi=>match P.underlying t with
  |some .string=>some (.wW a i)
  |some (.array n e)=>ze (zS P e) λs=>ze (agT P e) λg=>some (.wg a i n s g)
  |_=>none
 |.lookup t x i ok=>ze (zL x) λa=>ze (zL i) λk=>match P.underlying t with
  |some (.map u e)=>ze (zRR P u) λq=>ze (zNs P e) λz=>some (.lookup q.1 q.2 a k z ok)
  |_=>none
 |.mapUpdate t m k v|.insert t m k v=>ze (zL m) λm=>ze (zL k) λk=>ze (zL v) λv=>match P.underlying t with
  |some (.map u _)=>ze (zRR P u) λq=>some (.wR q.1 q.2 m k v)
  |_=>none
 |.range t x=>ze (zL x) λa=>match P.underlying t with
  |some .string=>some (.v8 a)
  |_=>none
 |.next A true=>ze (zL A) λa=>some (.vI a)
 |.typeAssert x _ t ok=>ze (zL x) λa=>ze (zNs P t) λz=>match P.underlying t with
  |some (.interface _)=>none
  |some _=>some (.ug a t ok z)
  |none=>none
 |.extract t i=>ze (zL t) λa=>some (.ext a i)
 |.call c=>match c.callee with
  |.builtin b=>zMt P b c.args.toList c.argTypes.toList
  |.value (.func f)=>match P.funcs[f]? with
   |some fn=>match fn.body with
    |some _=>ze (zES c.args.toList) λas=>some (.call f as)
    |none=>ze (zES c.args.toList) λas=>zbr fn as
   |none=>none
  |.value x=>ze (zL x) λx=>ze (zES c.args.toList) λas=>some (.qO x as)
  |.invoke r m=>ze (zL r) λr=>ze (zES c.args.toList) λas=>some (.invoke r m as)
 |_=>none
def zu(P:Program)(ops:Array Oper)(o:Oper):XOper:=
 match o.guard with
 |none=>⟨o.dst,(zBx P o.op).getD .bad,none⟩
 |some (j,b)=>match(ops[j]?).bind (·.dst)with
  |some s=>⟨o.dst,(zBx P o.op).getD .bad,some (s,b)⟩
  |none=>⟨o.dst,.bad,none⟩
def zR2:List Operand->JV
 |[]=>[]
 |.tmp t::r=>t::zR2 r
 |_::r=>zR2 r
def zcf(x:XOper)(o:Oper):JV:=match x.guard with
 |some (s,_)=>s::zR2 o.op.operands.toList
 |none=>zR2 o.op.operands.toList
def zDs(n:Nat):JV->Bool
 |[]=>false
 |a::r=>match Nat.beq n a with
  |true=>true
  |false=>zDs n r
def zIk(x:Option Nat)(c:XD)(y:Option Nat)(b:XD):Bool:=
 (match x with|some d=>!zDs d b.looks|none=>true)&&(match y with|some d=>!zDs d c.looks|none=>true) &&
 (match x,y with|some d,some e=>!Nat.beq d e|_,_=>true)
def zMR:Nat->List (Nat×Option Nat×XD)->List XOper->List XD->Bool
 |_,_,[],_=>true
 |_,_,_::_,[]=>false
 |i,b,x::r,d::ds=>(b.all λe=>d.qg.testBit e.1||zIk e.2.1 e.2.2 x.dst d)&&zMR (i+1) ((i,x.dst,d)::b) r ds
def zQd:Nat->List Oper->Bool
 |_,[]=>true
 |i,o::r=>(o.after.toList.all λe=>!Region.binds .any e||Nat.blt e.on i)&&zQd (i+1) r
def zDt(ops:Array Oper)(P:Program):List Oper->JV->List XD
 |o::r,m::ms=>⟨m,zcf (zu P ops o) o⟩::zDt ops P r ms
 |_,_=>[]
def zN(P:Program):Code->Option XC
 |.skip=>some .skip
 |.region _ d draw=>match draw with
  |false=>some (.wC (d.toList.map (zu P d)))
  |true=>
   let f:=d.toList.map (zu P d)
   let e:=zDt d P d.toList (Region.before d).toList
   match zQd 0 d.toList with
   |true=>match zMR 0 [] f e with
    |true=>some (.draw f e)
    |false=>none
   |false=>none
 |.seq a b=>ze (zN P a) λa=>ze (zN P b) λb=>some (.seq a b)
 |.cond c a b=>ze (zL c) λc=>ze (zN P a) λa=>ze (zN P b) λb=>some (.cond c a b)
 |.block i b=>ze (zN P b) λb=>some (.block i b)
 |.loop b=>ze (zN P b) λb=>some (.loop b)
 |.exit i=>some (.exit i)
 |.ret=>some .ret
 |.scope b=>zN P b
 |.label _=>some .skip
 |.refuse _=>some (.cond (.c .qo) .skip .skip)
 |_=>none
def zQe:List Oper->JV
 |[]=>[]
 |o::r=>match o.dst,o.op with
  |some _,.assign _=>zQe r
  |some d,_=>d::zQe r
  |none,_=>zQe r
def zUM:List Oper->JV
 |[]=>[]
 |o::r=>match o.dst with
  |some d=>d::zUM r
  |none=>zUM r
def zR3:Code->JV
 |.region _ c _=>zQe c.toList
 |.seq a b|.cond _ a b=>zR3 a++zR3 b
 |.block _ b|.loop b|.scope b=>zR3 b
 |_=>[]
def zTB:List Oper->Option (List Oper×Oper)
 |[]=>none
 |[o]=>some ([],o)
 |o::r=>match zTB r with
  |some (a,l)=>some (o::a,l)
  |none=>none
def zbs(P:Program):Code->Code->Option XC
 |.region _ c false,.block f (.loop (.seq (.region _ o false) (.seq (.cond (.tmp ok) .skip (.exit idx)) (.block g (.seq (.region _ n false) b)))))=>
  match zTB c.toList,o.toList,n.toList with
  |some (pre,⟨some e,.range t m,_,_,_,none⟩),[⟨some nx,.next (.tmp h) false,_,_,_,none⟩,⟨some j,.extract (.tmp l) 0,_,_,_,none⟩],⟨some k,.entry (.tmp i),_,_,_,none⟩::rest=>
   match Nat.beq e h&&Nat.beq e i&&Nat.beq nx l&&Nat.beq ok j&&Nat.beq f idx&&!Nat.beq f g&&!Nat.beq nx e&&!Nat.beq ok e&&!Nat.beq k e&&!Nat.beq ok nx,P.underlying t with
   |true,some (.map _ _)=>ze (zL m) λm=>ze (zN P b) λd=>
    some (.seq (.wC (pre.map (zu P c))) (.w9 m e (nx::ok::k::zUM rest++zR3 b) k 100000 g (rest.map (zu P n)) d))
   |_,_=>none
  |_,_,_=>none
 |_,_=>none
def zKG(P:Program):Code->Option XC
 |.seq a b=>match zbs P a b with
  |some x=>some x
  |none=>ze (zKG P a) λa=>ze (zKG P b) λb=>some (.seq a b)
 |c=>zN P c
def zDZ(nt:Nat):XC->Bool
 |.w9 _ g D h _ _ f e=>Nat.blt g nt&&Nat.blt h nt&&(D.all λd=>Nat.blt d nt)&&(f.all λo=>match o.dst with|some d=>Nat.blt d nt|none=>true)&&zDZ nt e
 |.wC c|.draw c _=>c.all λo=>match o.dst with|some d=>Nat.blt d nt|none=>true
 |.seq a b|.cond _ a b=>zDZ nt a&&zDZ nt b
 |.block _ b|.loop b=>zDZ nt b
 |_=>true
def zSX(P:Program):ResultVar->Option XR
 |.tmp t=>some (.t t)
 |.cell a t=>ze (zS P t) λs=>ze (agT P t) λg=>some (.cell a s g)
def zI4(P:Program):List ResultVar->Option (List XR)
 |[]=>some []
 |r::rs=>match zSX P r,zI4 P rs with
  |some x,some b=>some (x::b)
  |_,_=>none
def compF(P:Program)(fn:Func):Option XF:=
 ze fn.body λb=>ze (zKG P b) λb=>ze (zI4 P fn.results.toList) λrs=>
 match zDZ fn.ntmps b&&Nat.ble (fn.params.size+fn.nfree) fn.ntmps with
 |true=>some ⟨fn.params.size+fn.nfree,fn.ntmps,b,rs⟩
 |false=>none
theorem zHz{a b:IntKind}(h:zFO a b=true):a=b:=by cases a<;>cases b<;>first|rfl|(simp[zFO]at h)
theorem zcg(k:IntKind)(n:Int)(h:has k n):k.wrap n=n:=by
 obtain⟨h1,h2⟩:=h;cases k<;>simp[IntKind.min,IntKind.max,IntKind.signed,IntKind.bits]at h1 h2<;>simp[IntKind.wrap,IntKind.bits,IntKind.signed]<;>omega
theorem zHA(k:IntKind)(n:Int):has k (k.wrap n):=by
 cases k<;>simp[has,IntKind.min,IntKind.max,IntKind.wrap,IntKind.bits,IntKind.signed]<;>omega
theorem zWw{k:IntKind}{n:Int}(h:inr k n=true):has k n:=by
 cases k<;>cases n<;>simp[inr,has,IntKind.min,IntKind.max,IntKind.signed,IntKind.bits]at h⊢<;>omega
theorem zUN(k:IntKind)(n:Int)(b:Bool)(h:b=true->inr k n=true):cond b n (k.wrap n)=k.wrap n:=by
 cases b with
 |false=>rfl
 |true=>exact(zcg _ _ (zWw (h rfl))).symm
theorem zI5(k:IntKind)(n:Int):wrapx k n=k.wrap n:=by
 cases n with
 |ofNat m=>cases k<;>simp only[wrapx]<;>exact zUN _ _ _ λh=>h
 |negSucc m=>cases k<;>simp only[wrapx]<;>exact zUN _ _ _ λh=>h
theorem zR4{E:Env}{w:World}{f:Value->JF}(c:∀v a,f v=some a->VR E w a v):∀{l:JC}{as:JE},zVR f l=some as->VRs E w as l
 |[],as,h=>by simp[zVR]at h;subst h;exact VRs.nil
 |v::r,as,h=>by
  simp only[zVR]at h;split at h
  .rename_i a d;split at h
   .rename_i e b;cases h;exact VRs.cons (c _ _ d) (zR4 c b)
   .cases h
  .cases h
theorem zLO{E:Env}{w:World}:∀{d:Nat}{v:Value}{a:AV},cav d v=some a->VR E w a v
 |0,_,_,h=>by simp[cav]at h
 |d+1,v,a,h=>by
  unfold cav at h;split at h
  .cases h;exact .bool _
  .split at h
   .rename_i f;cases h;exact .int _ _ (zWw f)
   .cases h
  .split at h
   .rename_i f;cases h;exact .str _ _ rfl (by simpa using f)
   .cases h
  .cases h;exact .qo
  .cases h;exact .qa
  .cases h;exact .qn
  .cases h;exact .ql
  .cases h;exact .qe
  .split at h
   .rename_i m hb;cases h;exact .func _ _ _ _ _ (by rw[←Array.length_toList,m];rfl) (by rw[←Array.length_toList,hb];rfl) (λi x v e=>by simp at e) (λi x v e=>by simp at e)
   .cases h
  .split at h
   .rename_i l j;split at h
    .rename_i c;cases h;have g:VRs E w l _:=zR4 (λv a=>zLO (d:=d)) j
     refine VR.qP g λv k=>?_
     obtain⟨i,hi⟩:=List.getElem?_of_mem k;have b:i<l.length:=by
      rw[g.1];exact(QC.1 hi).1
     have e:l[i]?=some l[i]:=QD b;exact(g.2 i _ v e hi).wQ (QH.1 c _ (Qg b))
    .cases h
   .cases h
  .cases h
structure FrR(E:Env)(w:World)(fr:Fr)(a:Act)(nt:Nat):Prop where
 size:a.tmps.size=nt
 get:∀t v,fr.get t=some v->VR E w v (a.tmps.getD t undef)
def zET(w:World)(g:Nat)(v:AV):Prop:=∀b n,v=.qc (.agg b) n->∃c t e,w.heap[g]?=some (.cells c t e)/\c.size=b.length
theorem zET.mono{w w':World}{g:Nat}{v:AV}(h:zAw w w')(k:zET w g v):zET w' g v:=λb n e=>
 let ⟨c,t,f,h1,h2⟩:=k b n e
 let ⟨c',f',k1,k2⟩:=h g c t f h1
 ⟨c',t,f',k1,k2.trans h2⟩
def GR(G:Cx)(E:Env)(w:World):Prop:=∀g v,G.wN g=some v->VR E w v (.pointer (some ⟨g,0,none⟩))/\zET w g v
def zAS(P:Program)(E:Env)(H:Heap)(w:World)(nx:Nat)(s:Sem Next)(v:AV)(H':Heap)(nx':Nat):Prop:=
 ∃d c b,HR c H' b/\Tr E H w c H' b nx nx'/\VR c b v d/\(s.run P w=.ok (.value d) b\/(s.run P w=.ok .skip b/\d=undef))
theorem zAS.pure{P:Program}{E:Env}{H:Heap}{w:World}{nx:Nat}{s:Sem Next}{v:AV}{cv:Value}(c:HR E H w)
  (h:s.run P w=.ok (.value cv) w) (b:VR E w v cv):zAS P E H w nx s v H nx:=
 ⟨cv,E,w,c,.refl nx,b,.inl h⟩
section
variable{P:Program}{G:Cx}{E:Env}{w:World}{fr:Fr}{a:Act}{nt:Nat}
theorem zM(j:FrR E w fr a nt)(h:GR G E w){x:Operand}{y:XV}{v:AV}(hc:zL x=some y)(d:y.ev G fr=some v):VR E w v (a.eval x):=by
 cases x with
 |tmp t=>simp[zL]at hc;subst hc;exact j.get t v d
 |const c=>
  simp only[zL]at hc;split at hc
  .rename_i b hb;cases hc;simp only[XV.ev,QK]at d;subst d;exact zLO hb
  .cases hc
 |global g=>simp[zL]at hc;subst hc;exact(h g v d).1
 |func f=>
  simp[zL]at hc;subst hc;simp only[XV.ev,QK]at d;subst d;exact .func _ _ _ _ _ rfl rfl (λi x v e=>by simp at e) (λi x v e=>by simp at e)
theorem zDT(e:FrR E w fr a nt)(f:GR G E w):∀{xs:List Operand}{c:List XV}{vs:JE},zES xs=some c->evs G fr c=some vs->VRs E w vs (xs.map a.eval)
 |[],c,vs,hc,b=>by
  simp[zES]at hc;subst hc;simp[evs]at b;subst b;exact VRs.nil
 |x::r,c,vs,hc,b=>by
  simp only[zES]at hc;split at hc
  .rename_i y s h i;cases hc;simp only[evs]at b;split at b
   .rename_i v g;split at b
    .rename_i j d;cases b;exact VRs.cons (zM e f h g) (zDT e f i d)
    .cases b
   .cases b
  .cases hc
theorem VR.of_bool{b:Bool}{cv:Value}(h:VR E w (.bool b) cv):cv=.bool b:=by cases h;rfl
theorem VR.of_int{k:IntKind}{n:Int}{cv:Value}(h:VR E w (.int k n) cv):cv=.int k n/\has k n:=by cases h;exact⟨rfl,by assumption⟩
theorem VR.wc{l:JV}{cv:Value}(h:VR E w (.str l) cv):∃s:ByteArray,cv=.string s/\s.data.toList.map UInt8.toNat=l/\l.length<=zh:=by
 cases h with|str _ s h b=>exact⟨s,rfl,h,b⟩
theorem VR.wB{x o:Nat}{cv:Value}(h:VR E w (.ptr x o) cv):cv=.pointer (some ⟨E.ρ x,o,none⟩)/\E.D x:=by cases h;exact⟨rfl,by assumption⟩
theorem VR.w5{e:AV}{o:Nat}{cv:Value}(h:VR E w (.qc e o) cv):∃b c u,cv=.pointer (some ⟨b,c+o,none⟩)/\e.flat=true/\E.Z b/\VR E w e u/\∀(j:Nat) x,u.cells[j]?=some x->w.cell? ⟨b,c+j,none⟩=some x:=by
 cases h with|qc _ _ b c u d g f hc=>exact⟨b,c,u,rfl,d,g,f,hc⟩
theorem zI6{s:ByteArray}{l:JV}(h:s.data.toList.map UInt8.toNat=l):s.size=l.length:=by
 subst h;rw[QG,Array.length_toList];rfl
theorem zUO:∀(a b:List UInt8),zi (a.map UInt8.toNat) (b.map UInt8.toNat)=(a==b)
 |[],[]=>rfl
 |[],b::y=>rfl
 |a::x,[]=>rfl
 |a::x,b::y=>by
  simp only[QZ,zi];have c:=zUO x y;split
  .rename_i h;have:a=b:=UInt8.toNat_inj.1 (zb h);subst this;rw[c];simp
  .rename_i h;have:a≠b:=λe=>zAU h (by rw[e])
   symm
   simp[this]
set_option maxRecDepth 2000 in
theorem zWx:∀(a b:List UInt8),slt (a.map UInt8.toNat) (b.map UInt8.toNat)=Op.bytesLess a b
 |_,[]=>by simp[slt,Op.bytesLess]
 |[],b::y=>by simp[slt,Op.bytesLess]
 |a::x,b::y=>by
  simp only[QZ,slt,Op.bytesLess];have d:=zWx x y;rcases Nat.lt_trichotomy a.toNat b.toNat with h|h|h
  .have h1:Nat.blt a.toNat b.toNat=true:=by rw[Qi];exact h
   have h2:a<b:=UInt8.lt_iff_toNat_lt.2 h;simp[h1,h2]
  .have e:a=b:=UInt8.toNat_inj.1 h;subst e;have h1:Nat.blt a.toNat a.toNat=false:=by rw[Bool.eq_false_iff];intro c;exact Nat.lt_irrefl _ (Qi▸c)
   simp[h1,d]
  .have h1:Nat.blt a.toNat b.toNat=false:=by rw[Bool.eq_false_iff];intro c;rw[Qi]at c;omega
   have h2:¬a<b:=λc=>by have:=UInt8.lt_iff_toNat_lt.1 c;omega
   have h3:a≠b:=λe=>by rw[e]at h;omega
   have h4:Nat.beq a.toNat b.toNat=false:=by rw[Bool.eq_false_iff];intro c;have:=zb c;omega
   simp[h1,h2,h3,h4]
theorem zYE{a b:ByteArray}{l m:JV}(c:a.data.toList.map UInt8.toNat=l)(hb:b.data.toList.map UInt8.toNat=m):(a.toList==b.toList)=zi l m:=by
 subst c;subst hb;rw[zUO,ByteArray.toList_eq,ByteArray.toList_eq]
theorem zec{a b:ByteArray}{l m:JV}(c:a.data.toList.map UInt8.toNat=l)(hb:b.data.toList.map UInt8.toNat=m):Op.bytesLess a.toList b.toList=slt l m:=by
 subst c;subst hb;rw[zWx,ByteArray.toList_eq,ByteArray.toList_eq]
theorem zan(k:IntKind)(a b:Int)(d:has k a):has k (a.tmod b):=by
 obtain⟨h1,h2⟩:=d;have h3:(a.tmod b).natAbs<=a.natAbs:=by rw[Int.natAbs_tmod];exact Nat.mod_le _ _
 rcases Int.le_total 0 a with c|c
 .have h4:0<=a.tmod b:=Int.tmod_nonneg _ c
  constructor
  .have:k.min<=0:=by cases k<;>simp[IntKind.min,IntKind.signed,IntKind.bits]
   omega
  .omega
 .have h4:a.tmod b<=0:=by
   have:=Int.tmod_nonneg (b:=b) (a:=-a) (by omega)
   rw[Int.neg_tmod]at this;omega
  constructor
  .omega
  .have:0<=k.max:=by cases k<;>simp[IntKind.max,IntKind.signed,IntKind.bits]
   omega
theorem zao(k:IntKind)(a:Int)(n:Nat)(e:has k a):has k (a.fdiv (2 ^ n)):=by
 obtain⟨h1,h2⟩:=e;have b:(0:Int)<2 ^ n:=by exact_mod_cast Nat.two_pow_pos n
 have d:k.min<=0:=by cases k<;>simp[IntKind.min,IntKind.signed,IntKind.bits]
 have f:0<=k.max:=by cases k<;>simp[IntKind.max,IntKind.signed,IntKind.bits]
 rw[Int.fdiv_eq_ediv_of_nonneg _ (Int.le_of_lt b)];rcases Int.le_total 0 a with c|c
 .have:=Int.ediv_nonneg c (Int.le_of_lt b);have:=Int.ediv_le_self (2 ^ n) c
  constructor<;>omega
 .have h3:a / 2 ^ n<=0:=by
   have:=Int.ediv_le_ediv b c
   simpa using this
  have h4:a<=a / 2 ^ n:=by
   apply(Int.le_ediv_iff_mul_le b).2;have:(1:Int)<=2 ^ n:=b;have:a*2 ^ n<=a*1:=Int.mul_le_mul_of_nonpos_left c this;omega
  constructor<;>omega
theorem zMS{s:Sem Value}{k:IntKind}{z:Int}(h:s.run P w=.ok (.int k z) w)(b:has k z):∃cv,s.run P w=.ok cv w/\VR E w (.int k z) cv:=⟨_,h,.int _ _ b⟩
theorem zKH{s:Sem Value}{k:IntKind}{z:Int}(h:s.run P w=.ok (.int k (k.wrap z)) w):∃cv,s.run P w=.ok cv w/\VR E w (.int k (wrapx k z)) cv:=
 ⟨_,h,by rw[zI5];exact .int _ _ (zHA _ _)⟩
theorem zHU{s:Sem Value}{b:Bool}(h:s.run P w=.ok (.bool b) w):∃cv,s.run P w=.ok cv w/\VR E w (.bool b) cv:=⟨_,h,.bool _⟩
theorem zYF{op:BinOp}{t:TypeId}{x y:AV}{o i:Value}{v:AV}(hx:VR E w x o)(p:VR E w y i)(h:zEo op x y=some v)
  :
  ∃cv,(binOp op t o i).run P w=.ok cv w/\VR E w v cv:=by
 unfold zEo at h;split at h
 ·
  rename_i k m F n;obtain⟨rfl,q⟩:=hx.of_int;obtain⟨rfl,I⟩:=p.of_int;split at h
  .split at h
   .cases h
   .rename_i hb;cases h;have b:¬n<0:=by simpa using hb
    exact⟨.int k (k.wrap (m*2 ^ (min n.toNat k.bits))),by simp[binOp,Op.shift,b],by rw[zI5];exact .int _ _ (zHA _ _)⟩
  .split at h
   .cases h
   .rename_i hb;cases h;have b:¬n<0:=by simpa using hb
    exact⟨.int k (m.fdiv (2 ^ (min n.toNat k.bits))),by simp[binOp,Op.shift,b],.int _ _ (zao _ _ _ q)⟩
  .rename_i j r;split at h
   .cases h
   .rename_i z;have:=zHz z;subst this;split at h
    .cases h;exact zKH (by simp[binOp,Op.intArith])
    .cases h;exact zKH (by simp[binOp,Op.intArith])
    .cases h;exact zKH (by simp[binOp,Op.intArith])
    .split at h
     .cases h
     .rename_i hb;cases h;have b:¬n=0:=by simpa using hb
      exact zKH (by simp[binOp,Op.intDiv,b])
    .split at h
     .cases h
     .rename_i hb;cases h;have b:¬n=0:=by simpa using hb
      exact zMS (by simp[binOp,Op.intDiv,b]) (zan _ _ _ q)
    .cases h;exact zMS (by simp[binOp,Op.intBits]) (zHA _ _)
    .cases h;exact zMS (by simp[binOp,Op.intBits]) (zHA _ _)
    .cases h;exact zMS (by simp[binOp,Op.intBits]) (zHA _ _)
    .cases h;exact zMS (by simp[binOp,Op.intBits]) (zHA _ _)
    .cases op<;>simp_all[zbq]<;>(subst h;exact zHU (by simp[binOp,Op.intCmp]))
 ·
  rename_i l m;obtain⟨s,rfl,e,B⟩:=hx.wc;obtain⟨u,rfl,hu,A⟩:=p.wc;have f:=zYE e hu;have d:=zec e hu;have C:=zI6 e;have D:=zI6 hu;cases op with
  |add=>
   simp only at h;split at h
   .rename_i g;cases h;have c:l.length+m.length<=zh:=QM g;refine⟨.string (s++u),?_,.str _ _ (by rw[←e,←hu];simp) (by simpa using c)⟩
    have:¬(((s.size+u.size:Nat):Int) > IntKind.i64.max):=by
     rw[C,D];have:IntKind.i64.max=9223372036854775807:=rfl;unfold zh at c;omega
    simp only[binOp,Op.stringOp,this,if_false];rfl
   .cases h
  |eql=>cases h;exact zHU (by simp[binOp,Op.stringOp,f])
  |neq=>cases h;exact zHU (by simp[binOp,Op.stringOp,f])
  |lss=>cases h;exact zHU (by simp[binOp,Op.stringOp,d])
  |leq=>cases h;exact zHU (by simp[binOp,Op.stringOp,f,d])
  |gtr=>cases h;exact zHU (by simp[binOp,Op.stringOp,f,d])
  |geq=>cases h;exact zHU (by simp[binOp,Op.stringOp,d])
  |_=>cases h
 .cases h
end
section
variable{P:Program}{G:Cx}{E:Env}{w:World}
theorem za{α β:Type}{x:Option α}{f:α->Option β}{b:β}(h:ze x f=some b):∃a,x=some a/\f a=some b:=by
 cases x with
 |none=>cases h
 |some a=>exact⟨a,rfl,h⟩
theorem zUe{t:TypeId}{i:TypeInfo}(h:P.info? t=some i):(typeInfo t).run P w=.ok i w:=by simp[typeInfo,h]
theorem zAO{t:TypeId}{n:Nat}(h:zS P t=some n):(sizeOf t).run P w=.ok n w:=by
 unfold zS at h;cases hi:P.info? t with
 |none=>simp[hi]at h
 |some i=>simp[hi]at h;simp[sizeOf,typeInfo,hi,h]
theorem zHV{t:TypeId}{b:Bool}(h:agT P t=some b):(isAgg t).run P w=.ok b w:=by
 unfold agT at h;cases hu:P.underlying t with
 |none=>simp[hu]at h
 |some d=>
  simp only[hu]at h;cases d<;>simp at h<;>subst h<;>simp[isAgg,run_underlying hu]
theorem zOo{α:Type}(c:Array α)(a n:Nat):(c.extract a (a+n)).toList=(c.toList.drop a).take n:=by
 rw[Array.toList_extract,List.extract_eq_take_drop];congr 1;omega
theorem zR5{cs:JE}{vs:JB}(f:VRs E w cs vs.toList)(h1:∀v∈vs.toList,v.oneCell'=true){t:TypeId}{off sz:Nat}{d:Bool}{v:AV}
  (c:zS P t=some sz) (b:agT P t=some d) (h:part cs off sz d=some v):∃cv,(Go.part t vs off).run P w=.ok cv w/\VR E w v cv:=by
 unfold part at h;cases d with
 |true=>
  simp only at h;split at h
  .cases h;refine⟨.agg (vs.extract off (off+sz)),by simp[Go.part,zHV b,zAO c],?_⟩
   have e:=zOo vs off sz;refine VR.qP ?_ ?_
   .rw[e];exact f.extract off sz
   .rw[e];intro u hu;exact h1 u (QX (QO hu))
  .cases h
 |false=>
  obtain⟨u,hu,g⟩:=f.getElem? h;refine⟨u,?_,g⟩
  have:vs[off]?=some u:=by rw[←Array.getElem?_toList];exact hu
  simp[Go.part,zHV b,this]
theorem zap{op:UnOp}{x:AV}{b:Value}{v:AV}(hx:VR E w x b)(h:xun op x=some v):∃cv,(Op.unary op b).run P w=.ok cv w/\VR E w v cv:=by
 unfold xun at h;split at h
 .rename_i k n;obtain⟨rfl,c⟩:=hx.of_int;split at h
  .cases h;exact zKH (by simp[Op.unary,Op.intArith])
  .cases h;exact zMS (by simp[Op.unary,Op.intBits,Nat.xor_comm]) (zHA _ _)
  .cases h
 .obtain rfl:=hx.of_bool;split at h
  .cases h;exact zHU (by simp[Op.unary])
  .cases h
 .cases h
theorem zYG{t:TypeId}{c d:Operand}{b e:Value}(h1:∀u,b≠.agg u)(h2:b=.nilIface->e=.nilIface->(zBi c||zBi d)=true):
  (eqGuard .eql t c d b e).run P w=.ok () w:=by
 cases b<;>first
  |(exact absurd rfl (h1 _))
  |(simp only[eqGuard];rfl)
  |(cases e<;>first
    |(simp only[eqGuard];rfl)
    |(have:=h2 rfl rfl;cases c<;>cases d<;>first|(simp[zBi]at this;done)|(simp[eqGuard];done)))
theorem zYH{t:TypeId}{c d:Operand}{b e:Value}(h1:∀u,b≠.agg u)(h2:b=.nilIface->e=.nilIface->(zBi c||zBi d)=true):
  (eqGuard .neq t c d b e).run P w=.ok () w:=by
 cases b<;>first
  |(exact absurd rfl (h1 _))
  |(simp only[eqGuard];rfl)
  |(cases e<;>first
    |(simp only[eqGuard];rfl)
    |(have:=h2 rfl rfl;cases c<;>cases d<;>first|(simp[zBi]at this;done)|(simp[eqGuard];done)))
theorem VR.w6{sz:Nat}{es:JE}{e:AV}{cv:Value}(h:VR E w (.qf sz (e::es)) cv):∃a n c,cv=.slice (some a) n c:=by
 cases h with|qf _ b o cap sz f=>exact⟨_,_,_,rfl⟩
theorem VR.vH{h o l s c:Nat}{x:Bool}{cv:Value}(h:VR E w (.row h o l s c x) cv):∃a n c,cv=.slice (some a) n c:=by
 cases h<;>exact⟨_,_,_,rfl⟩
theorem VR.wV{f:Fn}{a b:JE}{cv:Value}(h:VR E w (.func f a b) cv):∃u v,cv=.func f u v:=by
 cases h;exact⟨_,_,rfl⟩
theorem zUf{d:Nat}{x y:AV}{g i:Value}{b:Bool}{t e:TypeId}(hx:VR E w x g)(c:VR E w y i)(h:zLA x y=some b)
  (f:P.underlying t=some (.slice e)):(Op.equalIn (d+1) t g i).run P w=.ok b w:=by
 unfold zLA at h;split at h
 .cases h;cases hx;cases c;simp[Op.equalIn,run_underlying f]
 .cases h;cases hx;obtain⟨_,_,_,rfl⟩:=c.vH;simp[Op.equalIn,run_underlying f]
 .cases h;cases c;obtain⟨_,_,_,rfl⟩:=hx.vH;simp[Op.equalIn,run_underlying f]
 .cases h;cases hx;obtain⟨_,_,_,rfl⟩:=c.w6;simp[Op.equalIn,run_underlying f]
 .cases h;cases c;obtain⟨_,_,_,rfl⟩:=hx.w6;simp[Op.equalIn,run_underlying f]
 .cases h
theorem zV8{d:Nat}{x y:AV}{g i:Value}{b:Bool}{t k e:TypeId}(hx:VR E w x g)(c:VR E w y i)(h:zOi x y=some b)
  (f:P.underlying t=some (.map k e)):(Op.equalIn (d+1) t g i).run P w=.ok b w:=by
 unfold zOi at h;split at h
 .cases h;cases hx;cases c;simp[Op.equalIn,run_underlying f]
 .cases h;cases hx;cases c;simp[Op.equalIn,run_underlying f]
 .cases h;cases hx;cases c;simp[Op.equalIn,run_underlying f]
 .cases h
theorem zUP{d:Nat}{x y:AV}{f g:Value}{b:Bool}{t:TypeId}{p r:Array TypeId}{i:Bool}(hx:VR E w x f)(c:VR E w y g)(h:zOj x y=some b)
  (e:P.underlying t=some (.func p r i)):(Op.equalIn (d+1) t f g).run P w=.ok b w:=by
 unfold zOj at h;split at h
 .cases h;cases hx;cases c;simp[Op.equalIn,run_underlying e]
 .cases h;cases hx;obtain⟨_,_,rfl⟩:=c.wV;simp[Op.equalIn,run_underlying e]
 .cases h;cases c;obtain⟨_,_,rfl⟩:=hx.wV;simp[Op.equalIn,run_underlying e]
 .cases h
end
section
variable{P:Program}{E:Env}{w:World}
def zXl(P:Program)(t:TypeId):Kd->Prop
 |.b=>P.underlying t=some .bool
 |.i=>∃q,P.underlying t=some (.int q)
 |.s=>P.underlying t=some .string
theorem zTC{d:Nat}{k:Kd}{x y:AV}{l j:Value}{b:Bool}{t:TypeId}(hx:VR E w x l)(g:VR E w y j)(h:eqb k x y=some b)(e:zXl P t k):(Op.equalIn (d+1) t l j).run P w=.ok b w:=by
 unfold eqb at h;split at h
 .cases h;obtain rfl:=hx.of_bool;obtain rfl:=g.of_bool;exact run_equalIn_bool w d t _ _ e
 .split at h
  .rename_i m;cases h;have:=zHz m;subst this;obtain⟨rfl,_⟩:=hx.of_int;obtain⟨rfl,_⟩:=g.of_int;obtain⟨q,n⟩:=e;exact run_equalIn_int w d t _ q _ _ n
  .cases h
 .cases h;obtain⟨s,rfl,o,_⟩:=hx.wc;obtain⟨u,rfl,hu,_⟩:=g.wc;rw[run_equalIn_string w d t _ _ e,zYE o hu]
 .cases h
theorem zXm{t:TypeId}{k:Kd}(h:zQc P t=some k):∃i,P.info? t=some i/\i.comparable=true/\zXl P t k:=by
 unfold zQc at h;split at h
 .rename_i i hi;split at h
  .rename_i hc;refine⟨i,hi,hc,?_⟩
   split at h
   .rename_i hu;cases h;exact hu
   .rename_i q hu;cases h;exact⟨q,hu⟩
   .rename_i hu;cases h;exact hu
   .cases h
  .cases h
 .cases h
theorem zUg{d:Nat}{lit:Bool}{x y:AV}{l j:Value}{b:Bool}{t:TypeId}{ms:Array (String×TypeId)}(hx:VR E w x l)(f:VR E w y j)(h:zLz lit (zQc P) x y=some b)
  (c:P.underlying t=some (.interface ms)):(Op.equalIn (d+2) t l j).run P w=.ok b w:=by
 unfold zLz at h;split at h
 .split at h
  .cases h;cases hx;cases f;simp[Op.equalIn,run_underlying c]
  .cases h
 .cases h;cases hx;cases f;simp[Op.equalIn,run_underlying c]
 .cases h;cases hx;cases f;simp[Op.equalIn,run_underlying c]
 .rename_i t1 p s q;cases hx with
  |iface _ _ z o=>
   cases f with
   |iface _ _ u n=>
    split at h
    .rename_i g;cases h;have e:=zAU g;unfold Op.equalIn;simp[run_underlying c,e]
    .rename_i r;have:=zb r;subst this;split at h
     .rename_i k m;obtain⟨i,h1,h2,h3⟩:=zXm m;have h4:=zTC (d:=d) o n h h3;unfold Op.equalIn;simp[run_underlying c,zUe h1,h2,h4]
     .cases h
 .cases h
theorem zQR:∀{d e:List Kd}{x y:JE}{b:Bool},zCl (d++e) x y=some b →
  ∃c,zCl d (x.take d.length) (y.take d.length)=some c/\(c=false->b=false)/\(c=true->zCl e (x.drop d.length) (y.drop d.length)=some b)
 |[],e,x,y,b,h=>⟨true,by simp[zCl],(λh=>by cases h),λ_=>by simpa using h⟩
 |k::d,e,x,y,b,h=>by
  cases x with
  |nil=>simp[zCl]at h
  |cons a x=>
   cases y with
   |nil=>simp[zCl]at h
   |cons c y=>
    simp only[List.cons_append,zCl]at h;simp only[QL,List.take_succ_cons,List.drop_succ_cons,zCl];cases he:eqb k a c with
    |none=>simp[he]at h
    |some r=>
     cases r with
     |true=>simp only[he]at h;exact zQR h
     |false=>
      simp only[he]at h;cases h;exact⟨false,rfl,λ_=>rfl,(λh=>by cases h)⟩
def shaped(P:Program)(t:TypeId)(vs:JC)(v:Value):Prop:=
 (agT P t=some true/\v=.agg vs.toArray)\/(agT P t=some false/\vs=[v])
theorem zMu{xs:JB}{t:TypeId}{off sz:Nat}{g:Bool}(d:agT P t=some g)(e:zS P t=some sz)(c:g=false->sz=1)(f:off+sz<=xs.size):
  ∃v,(Go.part t xs off).run P w=.ok v w/\shaped P t ((xs.toList.drop off).take sz) v:=by
 cases g with
 |true=>
  refine⟨.agg (xs.extract off (off+sz)),by simp[Go.part,zHV d,zAO e],.inl ⟨d,?_⟩⟩
  rw[←zOo]
 |false=>
  have:=c rfl;subst this;have b:off<xs.size:=by omega
  refine⟨xs[off],by simp[Go.part,zHV d,b],.inr ⟨d,?_⟩⟩
  have h2:off<xs.toList.length:=by simpa using b
  rw[Qo h2];simp
theorem zUQ{d:Nat}{t:TypeId}{e:List Kd}(h:zBI P d t=some e):∃g,agT P t=some g/\(g=false->e.length=1):=by
 cases d with
 |zero=>simp[zBI]at h
 |succ d=>
  unfold zBI at h;unfold agT;split at h<;>first
   |(rename_i hu;simp only[hu];cases h;exact⟨false,rfl,λ_=>rfl⟩)
   |(rename_i hu;simp only[hu];exact⟨true,rfl,λh=>by cases h⟩)
   |cases h
theorem zJo:∀{d:Nat}{t:TypeId}{z:List Kd},zBI P d t=some z->∀(D:Nat)(vs C:JC)(cs ds:JE)(cv R:Value)(b:Bool),VRs E w cs vs->VRs E w ds C →
  shaped P t vs cv->shaped P t C R->vs.length=z.length->C.length=z.length->zCl z cs ds=some b->(Op.equalIn (D+d) t cv R).run P w=.ok b w
 |0,t,z,h=>by simp[zBI]at h
 |d+1,t,z,h=>by
  intro D vs C cs ds cv R b A hu sv su lv lu hb;have base:∀k:Kd,zXl P t k->z=[k]->agT P t=some false →
    (Op.equalIn (D+(d+1)) t cv R).run P w=.ok b w:=by
   intro k hk e o;subst e;rcases sv with⟨h1,_⟩|⟨_,rfl⟩
   .rw[o]at h1;cases h1
   rcases su with⟨h1,_⟩|⟨_,rfl⟩
   .rw[o]at h1;cases h1
   match cs,ds,A,hu,hb with
   |[x],[y],A,hu,hb=>
    obtain⟨_,_,e,hx,_⟩:=A.of_cons;cases e;obtain⟨_,_,e,hy,_⟩:=hu.of_cons;cases e;have:eqb k x y=some b:=by
     simp only[zCl]at hb;split at hb<;>simp_all
    exact zTC hx hy this hk
   |[],_,A,_,_=>have:=A.1;simp at this
   |_::_::_,_,A,_,_=>have:=A.1;simp at this
   |[_],[],_,hu,_=>have:=hu.1;simp at this
   |[_],_::_::_,_,hu,_=>have:=hu.1;simp at this
  unfold zBI at h;split at h
  .rename_i j;cases h;exact base .b j rfl (by simp[agT,j])
  .rename_i j;cases h;exact base .i ⟨_,j⟩ rfl (by simp[agT,j])
  .rename_i j;cases h;exact base .s j rfl (by simp[agT,j])
  .rename_i fs j;split at h
   .cases h
   .rename_i T;have o:agT P t=some true:=by simp[agT,j]
    rcases sv with⟨_,rfl⟩|⟨h1,_⟩
    rotate_left
    .rw[o]at h1;cases h1
    rcases su with⟨_,rfl⟩|⟨h1,_⟩
    rotate_left
    .rw[o]at h1;cases h1
    have I:P.fieldsOf t=fs:=by simp[Program.fieldsOf,j]
    rw[←Nat.add_assoc,run_equalIn_struct w (D+d) t _ _ (by rw[I];exact j) T,I]
    have key:∀(l:List Field)(n:Nat)(F:List Kd),zKR P (zBI P d) n l=some F->n+F.length=vs.length->n+F.length=C.length->zCl F (cs.drop n) (ds.drop n)=some b →
      (Op.eqFields (D+d) vs.toArray C.toArray l).run P w=.ok b w:=by
     intro l
     induction l with
     |nil=>
      intro n F q n1 n2 hb;simp only[zKR]at q;cases q;have:b=true:=by
       unfold zCl at hb;split at hb<;>simp_all
      subst this;rfl
     |cons f r ih=>
      intro n F q n1 n2 hb;simp only[zKR]at q;split at q
      .rename_i kf s Y Q L M;split at q
       .rename_i J;split at q
        .rename_i rs U;cases q;have m:kf.length=s:=zb J;have B:f.offset=n:=zb Q;obtain⟨c,h1,h2,h3⟩:=zQR hb;obtain⟨g,hg,K⟩:=zUQ L;have aa:(kf++rs).length=s+rs.length:=by rw[QE,m]
         obtain⟨pv,W,V⟩:=zMu (P:=P) (w:=w) (xs:=vs.toArray) (t:=f.type) (off:=n) (sz:=s) hg M (λh=>by rw[←m];exact K h) (by simp;omega)
         obtain⟨pu,X,S⟩:=zMu (P:=P) (w:=w) (xs:=C.toArray) (t:=f.type) (off:=n) (sz:=s) hg M (λh=>by rw[←m];exact K h) (by simp;omega)
         rw[m]at h1 h3;have e1:=zJo L D _ _ _ _ _ _ _ (A.extract n s) (hu.extract n s) V S (by simp;omega) (by simp;omega) h1
         have N:f.name ≠ "_":=by simpa using Y
         simp only[Op.eqFields,N,ne_eq,not_false_eq_true,if_true,B,Sem.run_bind,W,X,Result.andThen_ok,e1];cases c with
         |false=>rw[h2 rfl];simp
         |true=>
          have O:=h3 rfl;rw[List.drop_drop,List.drop_drop]at O;simp only[Bool.not_true,Bool.false_eq_true,if_false];exact ih (n+s) rs U (by omega) (by omega) O
        .cases q
       .cases q
      .cases q
    exact key fs.toList 0 z h (by omega) (by omega) (by simpa using hb)
  .cases h
end
def CR(E:Env)(w:World)(cs:JE)(c:JC):Prop:=
 cs.length<=c.length/\∀(i:Nat) x,cs[i]?=some x->∃v,c[i]?=some v/\v.oneCell'=true/\VR E w x v
theorem CR.ve{E:Env}{w:World}{b:Nat}{s:Bool}{cs:JE}(h:OR E w b (.cells s cs)):
  ∃(c:JB) (e:TypeId) (f:Nat×Nat),w.heap[b]?=some (Obj.cells c e f)/\(f.2=f.1\/(s=true/\c.size<=f.1))/\CR E w cs c.toList:=by
 obtain⟨c,e,f,h1,h2,h3,h4⟩:=h;exact⟨c,e,f,h1,h3,by simpa using h2,λi x g=>let ⟨v,a,b,d⟩:=h4 i x g;⟨v,by simpa using a,b,d⟩⟩
theorem CR.or{E:Env}{w:World}{b:Nat}{s:Bool}{cs:JE}{c:JB}{e:TypeId}{f:Nat×Nat}(h:CR E w cs c.toList)(hb:w.heap[b]?=some (Obj.cells c e f))
  (g:f.2=f.1\/(s=true/\c.size<=f.1)):OR E w b (.cells s cs):=
 ⟨c,e,f,hb,by simpa using h.1,g,λi x j=>let ⟨v,a,b,d⟩:=h.2 i x j;⟨v,by simpa using a,b,d⟩⟩
section
variable{P:Program}{E:Env}{w:World}
theorem CR.mono{E':Env}{w':World}(hm:∀{v cv},VR E w v cv->VR E' w' v cv){cs:JE}{c:JC}(h:CR E w cs c):CR E' w' cs c:=
 ⟨h.1,λi x e=>let ⟨v,a,b,d⟩:=h.2 i x e;⟨v,a,b,hm d⟩⟩
theorem CR.vb{cs:JE}{c:JC}(h:VRs E w cs c)(h1:∀v∈c,v.oneCell'=true):CR E w cs c:=
 ⟨Nat.le_of_eq h.1,λi x d=>let ⟨v,a,b⟩:=h.getElem? d;⟨v,a,h1 v (QF a),b⟩⟩
theorem CR.part{cs:JE}{c:JC}(h:CR E w cs c){a n:Nat}(p:a+n<=cs.length):
  VRs E w ((cs.drop a).take n) ((c.drop a).take n)/\∀v∈(c.drop a).take n,v.oneCell'=true:=by
 have o:=h.1;have key:∀(i:Nat),i<n->∃x v,cs[a+i]?=some x/\c[a+i]?=some v/\v.oneCell'=true/\VR E w x v:=λi hi=>by
  have b:cs[a+i]?=some (cs[a+i]'(by omega)):=QD _
  obtain⟨v,h1,h2,h3⟩:=h.2 _ _ b;exact⟨_,v,b,h1,h2,h3⟩
 refine⟨⟨by simp;omega,λi x v b d=>?_⟩,λv d=>?_⟩
 .rw[List.getElem?_take]at b d;split at b
  .rename_i hi;simp only[hi,if_true,List.getElem?_drop]at b d;obtain⟨l,k,g,f,_,j⟩:=key i hi;rw[g]at b;cases b;rw[f]at d;cases d;exact j
  .cases b
 .obtain⟨i,hi⟩:=List.getElem?_of_mem d;rw[List.getElem?_take]at hi;split at hi
  .rename_i e;rw[List.getElem?_drop]at hi;obtain⟨l,k,g,f,m,j⟩:=key i e;rw[f]at hi;cases hi;exact m
  .cases hi
theorem zCF{α:Type}(c:List α)(off:Nat)(new:List α)(h:off<=c.length)(i:Nat):
  (c.take off++new++c.drop (off+new.length))[i]? = if i<off then c[i]? else if i<off+new.length then new[i-off]? else c[i]?:=by
 rw[QP,List.getElem?_append,Qj,Nat.min_eq_left h];split
 .rw[List.getElem?_take];simp[*]
 .rw[List.getElem?_append];by_cases h2:i<off+new.length
  .rw[if_pos (by omega),if_pos h2]
  .rw[if_neg (by omega),if_neg h2,List.getElem?_drop]
   congr 1;omega
theorem CR.qm{cs:JE}{c:JC}(h:CR E w cs c){off:Nat}{new:JE}{e:JC}(g:VRs E w new e)(h1:∀v∈e,v.oneCell'=true)
  (k:off<=cs.length) (hc:off+e.length<=c.length):CR E w (qm cs off new) (c.take off++e++c.drop (off+e.length)):=by
 have l:=h.1;have j:=g.1;refine⟨by simp[Sy.qm];omega,λi x d=>?_⟩
 unfold Sy.qm at d;rw[zCF _ _ _ k]at d;rw[zCF _ _ _ (by omega)]
 split at d
 .rename_i hi;rw[if_pos hi];exact h.2 i x d
 .rename_i hi;rw[if_neg hi];split at d
  .rename_i f;rw[if_pos (by omega)]
   obtain⟨v,a,b⟩:=g.getElem? d;exact⟨v,a,h1 v (QF a),b⟩
  .rename_i f;rw[if_neg (by omega)]
   exact h.2 i x d
theorem zBj(b o j:Nat):(⟨b,o,none⟩:Addr).add j=⟨b,o+j,none⟩:=by
 unfold Addr.add;split
 .rename_i h;subst h;rfl
 .rfl
theorem zSY{b o:Nat}{c:JB}{e:TypeId}{f:Nat×Nat}(h:w.heap[b]?=some (.cells c e f)):w.cell? ⟨b,o,none⟩=c[o]?:=by
 simp[World.cell?,h]
theorem zYI{b o:Nat}{c:JB}{e:TypeId}{f:Nat×Nat}{s:Prop}(h:w.heap[b]?=some (.cells c e f))(d:f.2=f.1\/(s/\c.size<=f.1))(ho:o<c.size):w.frozen? ⟨b,o,none⟩=false:=by
 obtain⟨g,hi⟩:=f;simp[World.frozen?,h];intro h1;rcases d with d|⟨_,d⟩<;>simp at d<;>omega
theorem zYJ{b o:Nat}{vs:JC}(h:∀(j:Nat) v,vs[j]?=some v->w.cell? ⟨b,o+j,none⟩=some v):(loadCells ⟨b,o,none⟩ vs.length).run P w=.ok vs.toArray w:=
 run_loadCells_list w ⟨b,o,none⟩ vs λj v c=>by rw[zBj];exact h j v c
theorem zKS{b o off sz:Nat}{t:TypeId}{l:Bool}{cs:JE}{v:AV}{c:JC}(e:CR E w cs c)(d:∀(j:Nat) v,c[j]?=some v->w.cell? ⟨b,o+j,none⟩=some v)
  (p:zS P t=some sz) (m:agT P t=some l) (h:part cs off sz l=some v):∃cv,(loadVar t ⟨b,o+off,none⟩).run P w=.ok cv w/\VR E w v cv:=by
 unfold Sy.part at h;cases l with
 |true=>
  simp only at h;split at h
  .rename_i k;cases h;have g:off+sz<=cs.length:=QM k;obtain⟨h1,h2⟩:=e.part g;have q:=e.1;have f:((c.drop off).take sz).length=sz:=by simp;omega
   refine⟨.agg ((c.drop off).take sz).toArray,?_,VR.qP (by simpa using h1) (by simpa using h2)⟩
   have n:=zYJ (P:=P) (w:=w) (b:=b) (o:=o+off) (vs:=(c.drop off).take sz) λj v i=>by
    rw[List.getElem?_take]at i;split at i
    .rw[List.getElem?_drop]at i;rw[Nat.add_assoc];exact d _ _ i
    .cases i
   rw[f]at n;simp[loadVar,zHV m,zAO p,n]
  .cases h
 |false=>
  obtain⟨u,h1,h2,h3⟩:=e.2 _ _ h;refine⟨u,?_,h3⟩
  simp[loadVar,zHV m,d _ _ h1]
theorem zR6{H:Heap}{t:TypeId}{sz:Nat}{p:Bool}{x v:AV}{m:Value}(q:HR E H w)(hx:VR E w x m)(n:zS P t=some sz)(l:agT P t=some p)
  (h:zER H sz p x=some v):∃a cv,m=.pointer (some a)/\(loadVar t a).run P w=.ok cv w/\VR E w v cv:=by
 unfold zER at h;split at h
 .rename_i hd off;obtain⟨rfl,s⟩:=hx.wB;split at h
  .rename_i B y d;obtain⟨c,e,f,hb,A,i⟩:=CR.ve (q.obj _ (Heap.qj d));obtain⟨cv,h1,h2⟩:=zKS (P:=P) (b:=E.ρ hd) (o:=0) i (λj v k=>by rw[zSY hb,Qa,←Array.getElem?_toList];exact k) n l h
   rw[Qa]at h1;exact⟨_,cv,rfl,h1,h2⟩
  .cases h
 .rename_i e off;obtain⟨b,c,u,rfl,g,z,r,hc⟩:=hx.w5;obtain⟨h1,h2⟩:=r.cells g;obtain⟨cv,h3,h4⟩:=zKS (P:=P) (b:=b) (o:=c) (CR.vb h1 h2) (λj v k=>hc j v (by rw[←Array.getElem?_toList];exact k)) n l h
  exact⟨_,cv,rfl,h3,h4⟩
 .cases h
theorem zR7{b:Nat}{e:TypeId}{f:Nat×Nat}{s:Prop}:∀(vs:JC)(off i:Nat)(w:World)(c:JB),w.heap[b]?=some (.cells c e f)->(f.2=f.1\/(s/\c.size<=f.1)) →
  (∀v∈vs,v.oneCell'=true)->off+i+vs.length<=c.size →
  ∃w',(storeCells ⟨b,off,none⟩ vs i).run P w=.ok () w'/\w'.tape=w.tape/\w'.os=w.os/\w'.output=w.output/\w'.heap.size=w.heap.size/\(∀x,x≠b->w'.heap[x]? = w.heap[x]?) ∧
   w'.heap[b]?=some (.cells (c.toList.take (off+i)++vs++c.toList.drop (off+i+vs.length)).toArray e f)
 |[],off,i,w,c,hb,_,_,_=>⟨w,by simp[storeCells],rfl,rfl,rfl,rfl,λ_ _=>rfl,by rw[hb];simp⟩
 |v::vs,off,i,w,c,hb,n,h1,m=>by
  have d:off+i<c.size:=by simp at m;omega
  have g:w.cell? ⟨b,off+i,none⟩=some c[off+i]:=by rw[zSY hb];simp[d]
  have l:=zYI hb n d;have D:=h1 v (.head _);have A:(w.setCell ⟨b,off+i,none⟩ v).heap[b]?=some (.cells (c.setIfInBounds (off+i) v) e f):=by
   simp[World.setCell,Array.getElem?_modify,hb]
  obtain⟨w',q,C,p,t,z,r,y⟩:=zR7 (s:=s) vs off (i+1) (w.setCell ⟨b,off+i,none⟩ v) (c.setIfInBounds (off+i) v) A (by simpa using n) (λu hu=>h1 u (.tail _ hu)) (by simp at m⊢;omega)
  refine⟨w',?_,C,p,t,by rw[z];simp[World.setCell],λx o=>by rw[r x o];simp only[World.setCell,Array.getElem?_modify];rw[if_neg (Ne.symm o)],?_⟩
  .simp only[storeCells,Sem.run_bind,zBj,run_store P w _ v _ D,g,l,Bool.false_eq_true,if_false,Result.andThen_ok];exact q
  .rw[y];congr 3;apply List.ext_getElem?;intro j;have B:off+i+1+vs.length<=c.toList.length:=by simp at m⊢;omega
   rw[zCF _ _ _ (by simp;omega)]
   have:=zCF c.toList (off+i) (v::vs) (by simp;omega) j
   rw[this];have h:(v::vs).length=vs.length+1:=rfl;rw[h];have k:(c.setIfInBounds (off+i) v).toList=c.toList.set (off+i) v:=by simp
   rw[k];by_cases h1:j<off+i
   .rw[if_pos (by omega),if_pos h1,List.getElem?_set,if_neg (by omega)]
   .by_cases h2:j=off+i
    .subst h2;rw[if_pos (by omega),if_neg (by omega),if_pos (by omega),List.getElem?_set]
     simp[d]
    .rw[if_neg (by omega),if_neg h1]
     by_cases h3:j<off+i+1+vs.length
     .rw[if_pos (by omega),if_pos (by omega)]
      have:j-(off+i)=(j-(off+(i+1)))+1:=by omega
      rw[this,List.getElem?_cons_succ]
     .rw[if_neg (by omega),if_neg (by omega),List.getElem?_set,if_neg (by omega)]
theorem zAw.uj{w w':World}{b:Nat}{c c':JB}{e:TypeId}{f g:Nat×Nat}(hb:w.heap[b]?=some (.cells c e f))(d:w'.heap[b]?=some (.cells c' e g))(j:c'.size=c.size)
  (ho:∀x,x≠b->w'.heap[x]? = w.heap[x]?):zAw w w':=λx c0 k f0 h=>by
 by_cases i:x=b
 .subst i;rw[hb]at h;cases h;exact⟨c',g,d,j⟩
 .exact⟨c0,f0,by rw[ho x i];exact h,rfl⟩
theorem zG4{H:Heap}(p:HR E H w){h:Nat}{st:Bool}{cs:JE}(m:H.get h=some (.cells st cs)){off:Nat}{new:JE}{b:JC}
  (q:VRs E w new b) (h1:∀v∈b,v.oneCell'=true) (l:off+new.length<=cs.length\/(off<=cs.length/\∃(c:JB) (e:TypeId) (f:Nat×Nat),w.heap[E.ρ h]?=some (Obj.cells c e f)/\off+new.length<=c.size)) (a:Nat):
  ∃w',(storeCells ⟨E.ρ h,off,none⟩ b).run P w=.ok () w'/\HR E (H.put h (.cells st (qm cs off new))) w'/\Tr E H w E (H.put h (.cells st (qm cs off new))) w' a a:=by
 obtain⟨c,e,f,hb,o,i⟩:=CR.ve (p.obj _ (Heap.qj m));have A:=q.1;have J:cs.length<=c.size:=by have:=i.1;simpa using this
 have d:off<=cs.length/\off+b.length<=c.size:=by
  rcases l with l|⟨l,I,K,L,j,B⟩
  .omega
  .rw[hb]at j;cases j;omega
 obtain⟨w',t,C,r,u,z,n,k⟩:=zR7 (P:=P) (s:=st=true) b off 0 w c hb o h1 (by omega)
 rw[Nat.add_zero]at k;have g:(c.toList.take off++b++c.toList.drop (off+b.length)).toArray.size=c.size:=by simp;omega
 have F:=zAw.uj hb k g n;obtain⟨m1,m2,_⟩:=zMs p m C r u z n F (o':=.cells st (qm cs off new)) (λD=>by
  refine CR.or (c:=(c.toList.take off++b++c.toList.drop (off+b.length)).toArray) ?_ k (o.imp id λ⟨x,y⟩=>⟨x,by rw[g];exact y⟩)
  exact(i.qm q h1 d.1 (by simpa using d.2)).mono D) a
 exact⟨w',t,m1,m2⟩
theorem zHs{v:AV}{cv:Value}{sz:Nat}{cs:JE}(d:VR E w v cv)(h:cellsOf v sz=some cs):v.flat=true/\cs=v.cells/\cs.length=sz/\VRs E w cs cv.cells.toList/\(∀u∈cv.cells.toList,u.oneCell'=true)/\cv.cells.size=sz:=by
 unfold cellsOf at h;split at h
 .rename_i c;split at h
  .rename_i e;cases h;obtain⟨h1,h2⟩:=d.cells c;have b:=zb e;exact⟨c,rfl,b,h1,h2,by rw[←Array.length_toList,←h1.1];exact b⟩
  .cases h
 .cases h
theorem zV9{H:Heap}{t:TypeId}{sz:Nat}{h off:Nat}{v:AV}{cv:Value}{st:Bool}{cs new:JE}(f:HR E H w)(j:VR E w v cv)(g:zS P t=some sz)
  (d:H.get h=some (.cells st cs)) (hc:cellsOf v sz=some new) (k:off+sz<=cs.length) (a:Nat):
  ∃w',(storeVar t ⟨E.ρ h,off,none⟩ cv).run P w=.ok () w'/\HR E (H.put h (.cells st (qm cs off new))) w'/\Tr E H w E (H.put h (.cells st (qm cs off new))) w' a a:=by
 obtain⟨_,rfl,h2,h3,h4,e⟩:=zHs j hc;obtain⟨w',c,i,b⟩:=zG4 (P:=P) f d h3 h4 (off:=off) (.inl (by omega)) a
 refine⟨w',?_,i,b⟩
 simp only[storeVar,Sem.run_bind,zAO g,Result.andThen_ok];simp[e,c]
end
section
variable{P:Program}{E:Env}{w:World}
theorem zOp{sz:Nat}:∀{es:JE}{cs:JE},flatten sz es=some cs->∀(f:Nat->Value),(∀i e,es[i]?=some e->VR E w e (f i))->(∀i,i<es.length->(f i).cells.size=sz) →
  ∃vs:JC,VRs E w cs vs/\(∀v∈vs,v.oneCell'=true)/\vs.length=es.length*sz/\∀(k:Nat) v,vs[k]?=some v->∃i j,i<es.length/\k=i*sz+j/\(f i).cells[j]?=some v
 |[],cs,h,f,_,_=>by
  simp[flatten]at h;subst h;exact⟨[],VRs.nil,λv b=>by simp at b,by simp,λk v b=>by simp at b⟩
 |e::r,cs,h,f,l,t=>by
  simp only[flatten]at h;split at h
  .rename_i c hc;split at h
   .rename_i s d;cases h;obtain⟨_,_,h2,h3,h4,p⟩:=zHs (l 0 e rfl) hc;obtain⟨vs,n,y,o,A⟩:=zOp d (λi=>f (i+1)) (λi x u=>l (i+1) x (by simpa using u)) (λi hi=>t (i+1) (by simpa using hi))
    have m:(f 0).cells.toList.length=sz:=by rw[Array.length_toList];exact p
    refine⟨(f 0).cells.toList++vs,h3.append n,?_,?_,?_⟩
    .intro v b;rcases QI.1 b with b|b
     .exact h4 v b
     .exact y v b
    .rw[QE,m,o,QL,Nat.add_mul,Nat.one_mul,Nat.add_comm]
    .intro k v b;rw[List.getElem?_append]at b;split at b
     .rename_i g;exact⟨0,k,by simp,by omega,by rw[←Array.getElem?_toList];exact b⟩
     .rename_i g;obtain⟨i,j,hi,z,q⟩:=A _ _ b;refine⟨i+1,j,by simp;omega,?_,q⟩
      rw[m]at z g;rw[Nat.add_mul,Nat.one_mul];omega
   .cases h
  .cases h
theorem zDx{H:Heap}{sz n:Nat}{y:AV}{t:Value}{V:JE}(hr:HR E H w)(l:VR E w y t)(h:content H sz y=some (n,V)):
  ∃vs:JC,VRs E w V vs/\(∀v∈vs,v.oneCell'=true)/\vs.length=n*sz/\n<=zh/\(Builtin.lenOf t).run P w=.ok n w ∧
   (∀w':World,w'.heap=w.heap->(Builtin.firstCells sz n t).run P w'=.ok vs.toArray w') ∧
   ((∃a c,t=.slice a n c/\(n*sz≠0->∃B,a=some B/\∀(j:Nat) v,vs[j]?=some v->w.cell? (B.add j)=some v))\/∃s:ByteArray,t=.string s/\s.size=n):=by
 unfold content at h;have zero:∀(a:Option Addr)(c:Nat),∃vs:JC,VRs E w [] vs/\(∀v∈vs,v.oneCell'=true)/\vs.length=0*sz/\0<=zh/\(Builtin.lenOf (.slice a 0 c)).run P w=.ok 0 w ∧
   (∀w':World,w'.heap=w.heap->(Builtin.firstCells sz 0 (.slice a 0 c)).run P w'=.ok vs.toArray w') ∧
   ((∃S c',Value.slice a 0 c=.slice S 0 c'/\(0*sz≠0->∃B,S=some B/\∀(j:Nat) v,vs[j]?=some v->w.cell? (B.add j)=some v))\/∃s:ByteArray,Value.slice a 0 c=.string s/\s.size=0):=λa c=>
  ⟨[],VRs.nil,λv l=>by simp at l,by simp,QN _,by simp[Builtin.lenOf],λw' _=>by cases a<;>simp[Builtin.firstCells,loadCells,loadCellsFrom],.inl ⟨a,c,rfl,λh=>by simp at h⟩⟩
 split at h
 .cases h;cases l;exact zero _ _
 .rename_i I es;split at h
  rotate_left
  .cases h
  rename_i N;have:=zb N;subst this;split at h
  .rename_i T r;cases h;cases l with
   |wj _ a c _=>simp[flatten]at r;subst r;exact zero _ _
   |qf _ b o cap _ f hz m M aa Q hc=>
    obtain⟨vs,k1,X,R,k4⟩:=zOp r f Q (λi hi=>(hc i hi).1)
    have d:∀(j:Nat) v,vs[j]?=some v->w.cell? ((⟨b,o,none⟩:Addr).add j)=some v:=λj v p=>by
     obtain⟨i,k,hi,Y,e2⟩:=k4 j v p;rw[zBj,Y,←Nat.add_assoc];exact(hc i hi).2 k v e2
    refine⟨vs,k1,X,R,Qh m M,by simp[Builtin.lenOf],λw' q=>?_,.inl ⟨_,_,rfl,λ_=>⟨_,rfl,d⟩⟩⟩
    exact run_firstCells_some w' sz _ _ _ _ vs R λj v p=>by
     have:=d j v p;rw[zBj]at this⊢;simp only[World.cell?,q]at this⊢;exact this
  .cases h
 .rename_i hd off len I cp ex;split at h
  .rename_i g;have:=zb g;subst this;split at h
   .rename_i st T A;split at h
    .rename_i L;simp only[QK,Prod.mk.injEq]at h;obtain⟨rfl,rfl⟩:=h;have z:off+len*sz<=T.length:=QM L;obtain⟨c,e,f,hb,Q,D⟩:=CR.ve (hr.obj _ (Heap.qj A));obtain⟨p1,p2⟩:=D.part z;cases l with
     |wm _ _ _ _ a=>simpa using zero (some a) 0
     |row _ _ _ _ _ cap _ hD u m U W ac ab=>
      have O:=D.1;have C:((c.toList.drop off).take (len*sz)).length=len*sz:=by simp at O⊢;omega
      have d:∀(j:Nat) v,((c.toList.drop off).take (len*sz))[j]?=some v->w.cell? ((⟨E.ρ hd,off,none⟩:Addr).add j)=some v:=λj v p=>by
       rw[zBj,zSY hb,←Array.getElem?_toList];rw[List.getElem?_take]at p;split at p
       .rw[List.getElem?_drop]at p;exact p
       .cases p
      refine⟨_,p1,p2,C,Qh u m,by simp[Builtin.lenOf],λw' q=>?_,.inl ⟨_,_,rfl,λ_=>⟨_,rfl,d⟩⟩⟩
      exact run_firstCells_some w' sz _ _ _ _ _ C λj v p=>by
       have:=d j v p;rw[zBj]at this⊢;simp only[World.cell?,q]at this⊢;exact this
    .cases h
   .cases h
  .cases h
 .rename_i s;split at h
  .rename_i g;have:=zb g;subst this;cases h;obtain⟨J,rfl,K,hl⟩:=l.wc;have g:=zI6 K;refine⟨J.data.toList.map λb=>.int .u8 b.toNat,?_,?_,?_,hl,?_,?_,.inr ⟨J,rfl,g⟩⟩
   .subst K;refine⟨by simp,λi x v F l=>?_⟩
    simp only[Qb,Option.map_map]at F l;cases hb:J.data.toList[i]? with
    |none=>simp[hb]at F
    |some b=>
     simp[hb]at F l;subst F;subst l;refine .int _ _ ?_
     have:=b.toNat_lt
     constructor<;>simp[IntKind.min,IntKind.max,IntKind.signed,IntKind.bits]<;>omega
   .intro v l;obtain⟨b,_,rfl⟩:=QR.1 l;rfl
   .subst K;simp
   .simp[Builtin.lenOf,g]
   .intro w' _;simp only[Builtin.firstCells,Sem.run_pure];congr 1;rw[←g,ByteArray.extract_zero_size];apply Array.ext';rw[Array.toList_map]
  .cases h
 .cases h
end
section
variable{P:Program}{E:Env}{w:World}
theorem zO0{H:Heap}(i:HR E H w){nx:Nat}(g:¬E.D nx){st:Bool}{cs:JE}{c:JB}{e:TypeId}(d:CR E w cs c.toList):
  HR (E.add nx w.heap.size) ((nx,.cells st cs)::H) { w with heap:=w.heap.push (.cells c e) } ∧
  Tr E H w (E.add nx w.heap.size) ((nx,.cells st cs)::H) { w with heap:=w.heap.push (.cells c e) } nx (nx+1):=
 have h:=zKf i g (o:=.cells c e) (ho:=.cells st cs) λj b _ f=>(d.mono f).or (by rw[b];exact zBV) (.inl rfl)
 ⟨h.1,h.2.1⟩
theorem zHB{α:Type}{P:α->Prop}{a b:α}{l:List α}(h1:P b)(h2:∀x∈a::l,P x):∀x∈b::l,P x:=λx c=>by
 cases c with
 |head=>exact h1
 |tail _ c=>exact h2 x (.tail _ c)
theorem HR.wb{H:Heap}{h:Nat}{o o':HO}(b:HR E ((h,o)::H) w)(ho:OR E w (E.ρ h) o->OR E w (E.ρ h) o'):HR E ((h,o')::H) w:=
 ⟨b.nodup,zHB (P:=λ(p:Nat×HO)=>E.D p.1) (b.qy (h,o) (.head _)) b.qy,
  zHB (P:=λ(p:Nat×HO)=>∀q∈(h,o')::H,E.ρ p.1=E.ρ q.1->p.1=q.1)
   (zHB (P:=λ(q:Nat×HO)=>E.ρ h=E.ρ q.1->h=q.1) (λ_=>rfl) (b.inj (h,o) (.head _)))
   (λp c=>zHB (P:=λ(q:Nat×HO)=>E.ρ p.1=E.ρ q.1->p.1=q.1) (b.inj p c (h,o) (.head _)) (b.inj p c)),
  zHB (P:=λ(p:Nat×HO)=>OR E w (E.ρ p.1) p.2) (ho (b.obj (h,o) (.head _))) b.obj,
  zHB (P:=λ(p:Nat×HO)=>¬E.Z (E.ρ p.1)) (b.nz (h,o) (.head _)) b.nz,b.wi⟩
theorem Tr.wb{c:Heap}{w0:World}{E0:Env}{H:Heap}{h:Nat}{o o':HO}{a b:Nat}(d:Tr E0 c w0 E ((h,o)::H) w a b):Tr E0 c w0 E ((h,o')::H) w a b:=
 { d with own:=zHB (P:=λ(p:Nat×HO)=>(∃q∈c,E0.ρ q.1=E.ρ p.1)\/w0.heap.size<=E.ρ p.1) (d.own (h,o) (.head _)) d.own }
theorem CR.take{cs:JE}{c:JC}(h:CR E w cs c)(k:Nat):CR E w (cs.take k) c:=
 ⟨by have:=h.1;simp;omega,λi x b=>by
  rw[List.getElem?_take]at b;split at b
  .exact h.2 i x b
  .cases b⟩
theorem VR.zero{z:AV}{v:Value}{n:Nat}{P:Program}{t:TypeId}{cs:JE}(h:zDD P t=some cs):∃i z,P.info? t=some i/\i.zero=some z/\z.cells.size=i.size/\zS P t=some i.size/\cs.length=i.size/\VRs E w cs z.cells.toList/\∀v∈z.cells.toList,v.oneCell'=true:=by
 unfold zDD at h;split at h
 .rename_i v b;split at h
  .rename_i n g d;split at h
   .rename_i j;cases h;unfold zNs at b;split at b
    .rename_i i hi;split at b
     .rename_i z f;have e:VR E w v z:=zLO b;obtain⟨h1,h2⟩:=e.cells g;have k:n=i.size:=by unfold zS at d;rw[hi]at d;simpa using d.symm
      have c:=zb j;subst k;exact⟨i,z,hi,f,by rw[←Array.length_toList,←h1.1,c],d,c,h1,h2⟩
     .cases b
    .cases b
   .cases h
  .cases h
 .cases h
theorem zXn(z:JB)(n:Nat):(Builtin.zeroCells z n).size=n*z.size:=by simp[Builtin.zeroCells]
set_option maxRecDepth 20000 in
theorem zSZ{t u ty e:TypeId}{i:TypeInfo}{z:Value}(A:P.underlying t=some (.slice e))(hu:(∃p,P.underlying u=some (.slice p))\/P.underlying u=some .string)(hi:P.info? e=some i)(C:i.zero=some z)
  {b:Option Addr} {sLen sCap n:Nat} {m:Value} {c d:JC} (f:∀w':World,w'.heap=w.heap->(Builtin.firstCells i.size sLen (.slice b sLen sCap)).run P w'=.ok c.toArray w')
  (g:(Builtin.lenOf m).run P w=.ok n w) (h:∀w':World,w'.heap=w.heap->(Builtin.firstCells i.size n m).run P w'=.ok d.toArray w')
  (B:sCap<sLen+n) (j:sLen+n<=zh) (k:(sLen+n)*i.bytes<=140737488355328):
  ∃cap w',sLen+n<=cap/\cap<=zh/\w'.heap=w.heap.push (.cells (c.toArray++d.toArray++Builtin.zeroCells z.cells (cap-(sLen+n))) e)/\w'.tape=w.tape/\w'.os=w.os/\w'.output=w.output ∧
   (Builtin.append_ #[t,u] ty #[.slice b sLen sCap,m]).run P w=.ok (.slice (some ⟨w.heap.size,0,none⟩) (sLen+n) cap) w':=by
 have D:¬(sLen+n<=sCap):=by omega
 have r:¬(9223372036854775807<((sLen:Int)+(n:Int))):=by unfold zh at j;omega
 have s:=growslice_fits B k;have y:¬(281474976710656<Builtin.nextslicecap (sLen+n) sCap*i.bytes):=by omega
 refine⟨grownCap w (sLen+n) sCap e,w.drew.alloc (.cells (c.toArray++d.toArray++Builtin.zeroCells z.cells (grownCap w (sLen+n) sCap e-(sLen+n))) e),grownCap_ge w _ _ _,?_,?_,?_,?_,?_,?_⟩
 rotate_left 5
 .have x:=f w.drew rfl;have q:=h w.drew rfl;have o:¬(((sLen+n:Nat):Int) > IntKind.i64.max):=by
   have:IntKind.i64.max=9223372036854775807:=rfl;rw[this];omega
  have l:¬(Builtin.nextslicecap (sLen+n) sCap*i.bytes > 2 ^ 48):=by
   have:(2:Nat) ^ 48=281474976710656:=rfl;omega
  rcases hu with⟨p,hu⟩|hu
  all_goals
   simp only[Builtin.append_,Sem.run_bind,run_underlying A,run_underlying hu,sizeOf,typeInfo,run_program,zeroValue,hi,C,g,D,o,l,x,q,newRow,grownCap,
    Result.andThen_ok,Sem.run_pure,Sem.run_ite,run_choose,run_askRoom,run_newObj,List.getElem?_toArray,List.getElem?_cons_zero,List.getElem?_cons_succ,Bool.false_eq_true,if_false,false_and,Bool.not_false,if_true]
   rw[show(Question.appendCap (sLen+n) sCap e).forced=false from rfl]
   simp only[Bool.false_eq_true,if_false,Result.andThen_ok];rw[show({ heap:=w.heap,tape:=w.tape,drawn:=w.drawn+1,os:=w.os,output:=w.output }:World)=w.drew from rfl,x,Result.andThen_ok,q,Result.andThen_ok]
   rfl
 .exact grownCap_le_maxLen w _ _ _ (by unfold zh at j;simp only[maxLen];omega)
 .rfl
 .rfl
 .rfl
 .rfl
def zIl(P:Program)(s:Sem Value)(E:Env)(H:Heap)(w:World)(nx:Nat)(v:AV)(H':Heap)(nx':Nat):Prop:=
 ∃d c b,s.run P w=.ok d b/\HR c H' b/\Tr E H w c H' b nx nx'/\VR c b v d
theorem zEU{t u ty e:TypeId}{i:TypeInfo}(j:P.underlying t=some (.slice e))(hu:(∃h,P.underlying u=some (.slice h))\/P.underlying u=some .string)(hi:P.info? e=some i)
  {a:Addr} {sLen sCap n:Nat} {f:Value} {b:JC} (c:(Builtin.lenOf f).run P w=.ok n w) (d:(Builtin.firstCells i.size n f).run P w=.ok b.toArray w) (k:sLen+n<=sCap)
  {w':World} (g:(storeCells (a.add (sLen*i.size)) b).run P w=.ok () w'):
  (Builtin.append_ #[t,u] ty #[.slice (some a) sLen sCap,f]).run P w=.ok (.slice (some a) (sLen+n) sCap) w':=by
 rcases hu with⟨h,hu⟩|hu
 all_goals
  simp only[Builtin.append_,Sem.run_bind,run_underlying j,run_underlying hu,sizeOf,typeInfo,run_program,hi,c,k,d,g,
   Result.andThen_ok,Sem.run_pure,Sem.run_ite,List.getElem?_toArray,List.getElem?_cons_zero,List.getElem?_cons_succ,Bool.false_eq_true,if_false,Bool.not_false,if_true]
theorem zKg(cs:JE)(k:Nat):qm cs k []=cs:=by simp[qm]
theorem Heap.qt:∀{H:Heap}{h:Nat}{o:HO},H.get h=some o->H.put h o=H
 |(k,b)::r,h,o,e=>by
  simp only[Heap.get]at e;simp only[Heap.put];split at e
  .cases e;rfl
  .rw[Heap.qt e]
theorem zUR{H:Heap}{nx nx':Nat}{s y v:AV}{az:JE}{cs' cy:Value}{sz bytes:Nat}{H':Heap}{t u ty e:TypeId}(O:HR E H w)(hs:VR E w s cs')(hy:VR E w y cy)
  (Q:P.underlying t=some (.slice e)) (hu:(∃K,P.underlying u=some (.slice K))\/P.underlying u=some .string) (hz:zDD P e=some az) (ay:zS P e=some sz) (ab:zJw P e=some bytes) (W:0<sz)
  (d:∀h,nx<=h->h<nx'->¬E.D h) (h:zDB H nx s y sz bytes=some (v,H',nx')):zIl P (Builtin.append_ #[t,u] ty #[cs',cy]) E H w nx v H' nx':=by
 obtain⟨i,z,hi,bk,a7,ai,_,_,_⟩:=VR.zero (P:=P) (E:=E) (w:=w) (z:=.bool true) (v:=.bool true) (n:=0) hz;have:i.size=sz:=by rw[ay]at ai;simpa using ai.symm
 subst this;have hb:i.bytes=bytes:=by unfold zJw at ab;rw[hi]at ab;simpa using ab
 subst hb;unfold zDB at h;split at h
 .cases h
 .rename_i n F ad;obtain⟨X,k1,k2,k3,k4,R,k6,_⟩:=zDx (P:=P) O hy ad;have U:=k6 w rfl;have room:∀{m:Nat},m*i.bytes<=zc->m*i.bytes<=140737488355328:=λh=>by unfold zc at h;omega
  have M:∀{a:Option Addr}{sLen sCap:Nat}{q:JE}{A:JC},VRs E w q A->(∀v∈A,v.oneCell'=true)->A.length=sLen*i.size →
    (∀w':World,w'.heap=w.heap->(Builtin.firstCells i.size sLen (.slice a sLen sCap)).run P w'=.ok A.toArray w')->sCap<sLen+n->sLen+n<=zh->(sLen+n)*i.bytes<=140737488355328->¬E.D nx →
    ∃cap w',(Builtin.append_ #[t,u] ty #[.slice a sLen sCap,cy]).run P w=.ok (.slice (some ⟨w.heap.size,0,none⟩) (sLen+n) cap) w' ∧
     HR (E.add nx w.heap.size) ((nx,.cells false (q++F))::H) w'/\Tr E H w (E.add nx w.heap.size) ((nx,.cells false (q++F))::H) w' nx (nx+1) ∧
     VR (E.add nx w.heap.size) w' (.row nx 0 (sLen+n) i.size (sLen+n) false) (.slice (some ⟨w.heap.size,0,none⟩) (sLen+n) cap):=by
   intro a sLen sCap q A ho be a8 bf aa S ar r;obtain⟨cap,w',c1,c2,c3,c4,c5,c6,c7⟩:=zSZ (P:=P) (ty:=ty) Q hu hi bk bf R k6 aa S ar;have bm:CR E w (q++F) (A.toArray++X.toArray++Builtin.zeroCells z.cells (cap-(sLen+n))).toList:=by
    have h1:=CR.vb (ho.append k1) (λv hv=>(QI.1 hv).elim (be v) (k2 v))
    refine⟨by have:=h1.1;simp at this⊢;omega,λi x hx=>?_⟩
    obtain⟨u,a1,a2,a3⟩:=h1.2 i x hx;refine⟨u,?_,a2,a3⟩
    have ax:i<(A++X).length:=(QC.1 a1).1;simp only[Array.toList_append];rw[Qy (by simpa using ax)]
    exact a1
   obtain⟨n1,n2⟩:=zO0 (st:=false) (e:=e) O r bm;obtain⟨d1,d2⟩:=zHT (w':=w') n1 ⟨by rw[c3],c4,c5,c6⟩ (nx+1)
   refine⟨cap,w',c7,d1,n2.trans n1 d2,?_⟩
   have:=VR.row (E:=E.add nx w.heap.size) (w:=w') nx 0 (sLen+n) i.size (sLen+n) cap false (.inr rfl) c1 c2 W c1 (λh=>by cases h)
    ⟨_,e,(0,0),by rw[Env.qw,c3];exact zBV,by simp[zXn,a8,k3,a7];rw[←Nat.add_mul,←Nat.add_mul];exact Nat.mul_le_mul_right _ (by omega)⟩
   rw[Env.qw]at this;exact this
  split at h
  ·
   cases hs;split at h
   .cases h;have C:X=[]:=List.eq_nil_of_length_eq_zero (by simpa using k3)
    refine⟨.slice none 0 0,E,w,?_,O,.refl _,.qa⟩
    rcases hu with⟨K,hu⟩|hu
    .simp[Builtin.append_,run_underlying Q,run_underlying hu,sizeOf,typeInfo,hi,R,U]
    .simp[Builtin.append_,run_underlying Q,run_underlying hu,sizeOf,typeInfo,hi,R,U]
   .split at h
    .rename_i m _ g;cases h;obtain⟨cap,w',g1,g2,g3,g4⟩:=M (a:=none) (sLen:=0) (sCap:=0) VRs.nil (λv hv=>by simp at hv) (by simp) (λw' _=>by simp[Builtin.firstCells]) (by omega) (by omega)
      (by have:=room (QM g);simpa using this) (d nx (QB _) (by omega))
     simp only[Qa,List.nil_append]at g1 g2 g3 g4;exact⟨_,_,w',g1,g2,g3,g4⟩
    .cases h
  ·
   rename_i hd off len a6 cp ex;split at h
   .cases h
   .rename_i bh;have:=zb bh;subst this;split at h
    rotate_left
    .cases h
    rename_i st B I;split at h
    .cases h
    rename_i au;have V:off+len*i.size<=B.length:=QM au;split at h
    .cases h
    rename_i g;simp only[QA]at g;have J:=room (QM g.1);have S:len+n<=zh:=by
     have:=QM g.2;unfold zc at this;unfold zh;omega
    have af:content H i.size (.row hd off len i.size cp ex)=some (len,(B.drop off).take (len*i.size)):=by
     simp only[content,Nat.beq_refl,I,au]
    obtain⟨os,o1,o2,o3,o4,o5,o6,o7⟩:=zDx (P:=P) O hs af;have ak:∀{a:Option Addr}{cap:Nat},cs'=.slice a len cap->∀w':World,w'.heap=w.heap->(Builtin.firstCells i.size len (.slice a len cap)).run P w'=.ok os.toArray w':=λe w' h=>e▸o6 w' h
    cases hs with
    |wm _ _ _ _ a=>
     split at h
     .rename_i k;have aq:n=0:=by have:=QM k;omega
      subst aq;have C:X=[]:=List.eq_nil_of_length_eq_zero (by simpa using k3)
      have bg:F=[]:=List.eq_nil_of_length_eq_zero (by rw[k1.1,C];rfl)
      subst C;subst bg;cases h;rw[zKg,Heap.qt I];refine⟨_,E,w,zEU (P:=P) Q hu hi R U (by omega) (by simp[storeCells]),O,.refl _,?_⟩
      exact .wm hd off _ _ a
     .rename_i k;have aq:0<n:=by
       rcases Nat.eq_zero_or_pos n with h0|h0
       .subst h0;simp at k
       .exact h0
      have j:=λr=>M (a:=some a) (sCap:=0) o1 o2 o3 (ak rfl) (by omega) S J r
      split at h
      .cases h;obtain⟨cap,w',g1,g2,g3,g4⟩:=j (d nx (QB _) (by omega))
       exact⟨_,_,w',g1,g2,g3,g4⟩
      .split at h
       .omega
       .split at h
        .cases h;obtain⟨cap,w',g1,g2,g3,g4⟩:=j (d nx (QB _) (by omega))
         have p:((nx,HO.cells false ((B.drop 0).take (0*i.size)++F))::H.del hd).Sublist ((nx,HO.cells false ((B.drop 0).take (0*i.size)++F))::H):=(Heap.wz H hd).cons_cons _;refine⟨_,_,w',g1,(g2.sub p).wb ?_,(g3.sub p).wb,g4⟩
         rintro ⟨c,K,f,a1,a2,a3,a4⟩
         exact⟨c,K,f,a1,by simpa using a2,a3.imp id (λ⟨x,_⟩=>by cases x),λi' x hx=>a4 i' x (by simpa using hx)⟩
        .cases h
    |row _ _ _ _ _ cap _ hD ah l L ag ae T=>
     have N:n+len<=cap->∃w',(storeCells ((⟨E.ρ hd,off,none⟩:Addr).add (len*i.size)) X).run P w=.ok () w'/\HR E (H.put hd (.cells st (qm B (off+len*i.size) F))) w' ∧
       Tr E H w E (H.put hd (.cells st (qm B (off+len*i.size) F))) w' nx nx:=λk=>by
      rw[zBj];obtain⟨c,K,f,b1,b2⟩:=T;refine zG4 O I k1 k2 (.inr ⟨V,c,K,f,b1,?_⟩) nx
      rw[k1.1,k3];have:len*i.size+n*i.size<=cap*i.size:=by rw[←Nat.add_mul];exact Nat.mul_le_mul_right _ (by omega)
      omega
     have j:=λaa r=>M (a:=some ⟨E.ρ hd,off,none⟩) (sCap:=cap) o1 o2 o3 (ak rfl) aa S J r
     split at h
     .rename_i k;have aj:len+n<=cp:=QM k;cases h;obtain⟨w',r1,r2,r3⟩:=N (by omega)
      obtain⟨c,K,f,b1,b2⟩:=T;obtain⟨c',f',s1,s2⟩:=r3.qp _ _ _ _ b1;exact⟨_,E,w',zEU (P:=P) Q hu hi R U (by omega) r1,r2,r3,.row hd off (len+n) _ cp cap ex hD (by omega) l L ag ae ⟨c',K,f',s1,by omega⟩⟩
     .rename_i k;have aj:¬len+n<=cp:=λh=>by rw[Nat.ble_eq_true_of_le h]at k;cases k
      split at h
      .cases h;have:=ae rfl;obtain⟨ao,w',g1,g2,g3,g4⟩:=j (by omega) (d nx (QB _) (by omega))
       exact⟨_,_,w',g1,g2,g3,g4⟩
      .split at h
       .cases h;have C:X=[]:=List.eq_nil_of_length_eq_zero (by simpa using k3)
        subst C;refine⟨_,E,w,zEU (P:=P) Q hu hi R U (by omega) (by simp[storeCells]),O,.refl _,?_⟩
        exact .row hd off len _ cp cap false hD ah l L ag ae T
       .split at h
        .cases h;have r:=d nx (QB _) (by omega)
         by_cases hc:len+n<=cap
         .obtain⟨q1,q2,q3⟩:=zV7 O I r;obtain⟨c,K,f,b1,b2⟩:=T;have ba:Heap.get ((nx,HO.cells st B)::H.del hd) nx=some (.cells st B):=by simp[Heap.get,Nat.beq_refl]
          have hρ:=Env.qw E nx (E.ρ hd);obtain⟨w',r1,r2,r3⟩:=zG4 (P:=P) q1 ba (off:=0+len*i.size) (k1.mono q3) k2 (.inr ⟨V,c,K,f,by rw[hρ];exact b1,by
           rw[k1.1,k3];have:len*i.size+n*i.size<=cap*i.size:=by rw[←Nat.add_mul];exact Nat.mul_le_mul_right _ (by omega)
           omega⟩) (nx+1)
          rw[hρ,←zBj]at r1;have aw:Heap.put ((nx,HO.cells st B)::H.del hd) nx (.cells st (qm B (0+len*i.size) F))=(nx,HO.cells st (qm B (0+len*i.size) F))::H.del hd:=by simp[Heap.put,Nat.beq_refl]
          rw[aw]at r2 r3;obtain⟨c',f',s1,s2⟩:=(q2.trans q1 r3).qp _ _ _ _ b1;have Y:B.take (len*i.size)++F=(qm B (0+len*i.size) F).take (len*i.size+F.length):=by
           unfold qm;rw[Qa];exact(List.take_left' (by simp;omega)).symm
          refine⟨_,_,w',zEU (P:=P) Q hu hi R U hc r1,r2.wb ?_,(q2.trans q1 r3).wb,?_⟩
          .intro ho;obtain⟨cc,ee,ff,a1,a2,a3⟩:=CR.ve ho;rw[Y];exact(a3.take _).or a1 a2
          .have:=VR.row (E:=E.add nx (E.ρ hd)) (w:=w') nx 0 (len+n) i.size (len+n) cap false (.inr rfl) hc l W hc (λh=>by cases h) ⟨c',K,f',by rw[hρ];exact s1,by omega⟩
           rw[hρ]at this;exact this
         .obtain⟨ao,w',g1,g2,g3,g4⟩:=j (by omega) r
          have p:((nx,HO.cells false ((B.drop 0).take (len*i.size)++F))::H.del hd).Sublist ((nx,HO.cells false ((B.drop 0).take (len*i.size)++F))::H):=(Heap.wz H hd).cons_cons _;refine⟨_,_,w',g1,(g2.sub p).wb ?_,(g3.sub p).wb,g4⟩
          rintro ⟨c,K,f,a1,a2,a3,a4⟩
          exact⟨c,K,f,a1,by simpa using a2,a3.imp id (λ⟨x,_⟩=>by cases x),λi' x hx=>a4 i' x (by simpa using hx)⟩
        .cases h
  ·
   rename_i zz es;split at h
   .cases h;have C:X=[]:=List.eq_nil_of_length_eq_zero (by simpa using k3)
    subst C;cases hs with
    |wj _ a c ac=>
     refine⟨.slice a 0 c,E,w,?_,O,.refl _,.wj _ a c ac⟩
     rcases hu with⟨K,hu⟩|hu<;>cases a<;>
      simp[Builtin.append_,run_underlying Q,run_underlying hu,sizeOf,typeInfo,hi,R,U,storeCells]
    |qf _ b o cap a6 f bc l ac bb hf hc=>
     refine⟨_,E,w,zEU (P:=P) Q hu hi R U (by omega) (by simp[storeCells]),O,.refl _,?_⟩
     exact .qf es b o cap _ f bc l ac bb hf hc
   .cases h
  .cases h
end
section
variable{P:Program}{E:Env}{w:World}
theorem zAJ:∀{a b:JV},zi a b=true->a=b
 |[],[],_=>rfl
 |a::x,b::y,h=>by
  simp only[zi]at h;split at h
  .rename_i hb;rw[zb hb,zAJ h]
  .cases h
 |[],_::_,h=>by simp[zi]at h
 |_::_,[],h=>by simp[zi]at h
theorem zYK{k:Kd}{x y:AV}(h:eqb k x y=some true):x=y:=by
 unfold eqb at h;split at h
 .simp at h;rw[h]
 .split at h
  .rename_i d;rw[zHz d];simp at h;rw[h]
  .cases h
 .simp only[QK]at h;rw[zAJ h]
 .cases h
theorem zWy:∀{d:List Kd}{x y:JE},zCl d x y=some true->x=y
 |[],[],[],_=>rfl
 |k::d,a::x,b::y,h=>by
  simp only[zCl]at h;split at h
  .rename_i hb;rw[zYK hb,zWy h]
  .cases h
  .cases h
 |[],_::_,_,h=>by simp[zCl]at h
 |[],[],_::_,h=>by simp[zCl]at h
 |_::_,[],_,h=>by simp[zCl]at h
 |_::_,_::_,[],h=>by simp[zCl]at h
theorem zYL{e:Bool}{d:List Kd}{x y:AV}(h:eqk e d x y=some true):x=y:=by
 unfold eqk at h;split at h
 .split at h
  .unfold eqs at h;split at h
   .rw[zWy h]
   .cases h
  .cases h
 .split at h
  .cases h
  .split at h
   .exact zYK h
   .cases h
theorem zEs{o:Bool}{j:List Kd}{e:TypeId}{x y:AV}{m g:Value}{b:Bool}(l:zBI P 6 e=some j)(d:agT P e=some o)(hx:VR E w x m)(n:VR E w y g)
  (h:eqk o j x y=some b):(Op.equal e m g).run P w=.ok b w:=by
 unfold eqk at h;split at h
 .split at h
  .unfold eqs at h;split at h
   .rename_i q r;obtain⟨t,rfl,h2,_⟩:=hx.qY;obtain⟨z,rfl,h4,_⟩:=n.qY;exact zJo l 9994 _ _ _ _ _ _ _ h2 h4 (.inl ⟨d,rfl⟩) (.inl ⟨d,rfl⟩) (by rw[←h2.1];exact zb q) (by rw[←h4.1];exact zb r) h
   .cases h
  .cases h
 .split at h
  .cases h
  .split at h
   .rename_i k;have hb:zCl [k] [x] [y]=some b:=by
     simp only[zCl,h];cases b<;>rfl
    exact zJo l 9994 _ _ _ _ _ _ _ (VRs.cons hx VRs.nil) (VRs.cons n VRs.nil) (.inr ⟨d,rfl⟩) (.inr ⟨d,rfl⟩) rfl rfl hb
   .cases h
theorem zI7:∀{d:Nat}{t:TypeId}{q:List Kd},zBI P d t=some q->∀(em:Bool)(D:Nat)(vs:JC)(cv:Value),shaped P t vs cv->vs.length=q.length →
  (Instr.checkKey em (D+d) t cv).run P w=.ok () w
 |0,t,q,h=>by simp[zBI]at h
 |d+1,t,q,h=>by
  intro em D vs cv S lv;unfold zBI at h;have base:(∃k,P.underlying t=some (.int k))\/P.underlying t=some .bool\/P.underlying t=some .string->(Instr.checkKey em (D+(d+1)) t cv).run P w=.ok () w:=by
   rw[←Nat.add_assoc]
   rintro (⟨k,hu⟩|hu|hu)<;>simp[Instr.checkKey,run_underlying hu]
  split at h
  .rename_i e;exact base (.inr (.inl e))
  .rename_i e;exact base (.inl ⟨_,e⟩)
  .rename_i e;exact base (.inr (.inr e))
  .rename_i T e;split at h
   .cases h
   .have C:agT P t=some true:=by simp[agT,e]
    rcases S with⟨_,rfl⟩|⟨h1,_⟩
    rotate_left
    .rw[C]at h1;cases h1
    rw[←Nat.add_assoc];simp only[Instr.checkKey,Sem.run_bind,run_underlying e,Result.andThen_ok];rw[←Array.forIn_toList];have key:∀(l:List Field)(n:Nat)(B:List Kd),zKR P (zBI P d) n l=some B->n+B.length=vs.length →
      ((forIn l PUnit.unit λf r=>do
       if f.name ≠ "_" then do
         let r ←Go.part f.type vs.toArray f.offset
         let r ←Instr.checkKey em (D+d) f.type r
         pure (ForInStep.yield PUnit.unit)
        else do
         pure (ForInStep.yield PUnit.unit):Sem PUnit)).run P w=.ok PUnit.unit w:=by
     intro l
     induction l with
     |nil=>intro n B _ _;simp
     |cons f r V=>
      intro n B m Y;simp only[zKR]at m;split at m
      .rename_i O s N z A K;split at m
       .rename_i x;split at m
        .rename_i rs F;cases m;have j:O.length=s:=zb x;have o:f.offset=n:=zb z;obtain⟨g,Q,J⟩:=zUQ A;have W:(O++rs).length=s+rs.length:=by rw[QE,j]
         obtain⟨X,M,L⟩:=zMu (P:=P) (w:=w) (xs:=vs.toArray) (t:=f.type) (off:=n) (sz:=s) Q K (λh=>by rw[←j];exact J h) (by simp;omega)
         have U:=zI7 A em D _ _ L (by simp;omega)
         have y:f.name ≠ "_":=by simpa using N
         have I:=V (n+s) rs F (by omega)
         simp only[List.forIn_cons,y,ne_eq,not_false_eq_true,if_true,o,Sem.run_bind,M,Result.andThen_ok,U,Sem.run_pure];exact I
        .cases m
       .cases m
      .cases m
    have R:=key T.toList 0 q h (by omega)
    rw[R];rfl
  .cases h
theorem zEa{j:Bool}{g:List Kd}{d:TypeId}{k:AV}{ck:Value}{em:Bool}(m:zBI P 6 d=some g)(n:agT P d=some j)(q:VR E w k ck)(h:zDC j g k=true):
  (Instr.checkKey em 10000 d ck).run P w=.ok () w:=by
 have one:j=false->g.length=1->(Instr.checkKey em 10000 d ck).run P w=.ok () w:=λe l=>
  zI7 m em 9994 [ck] ck (.inr ⟨e▸n,rfl⟩) (by rw[l];rfl)
 unfold zDC at h;split at h
 .simp only[QA]at h;obtain⟨o,rfl,h2,_⟩:=q.qY;exact zI7 m em 9994 o.toList _ (.inl ⟨h.1▸n,by simp⟩) (by rw[←h2.1];exact zb h.2)
 .simp only[QA,Bool.not_eq_true']at h;exact one h.1 (zb h.2)
 .simp only[QA,Bool.not_eq_true']at h;exact one h.1 (zb h.2)
 .simp only[QA,Bool.not_eq_true']at h;exact one h.1 (zb h.2)
 .cases h
theorem zOq{c:TypeId}{kind:TypeDesc}(d:P.underlying c=some kind){x y:Value}{b:Bool}(h:Instr.sameNow kind x y=some b):(Op.equal c x y).run P w=.ok b w:=by
 unfold Instr.sameNow at h;split at h
 .split at h
  .rename_i e;subst e;cases h;exact run_equalIn_int w 9999 c _ _ _ _ d
  .cases h
 .cases h;exact(run_equalIn_string w 9999 c _ _ d).trans (by rw[beq_toListBytes])
 .cases h;exact run_equalIn_bool w 9999 c _ _ d
 .cases h
theorem zMT{d:TypeId}{kind:TypeDesc}(b:P.underlying d=some kind){k:Value}:∀{es:List MapEntry}{i:Nat}{r:Option (Nat×Value)},Instr.findNow kind k es i=some r->(Instr.findAsking d k es i).run P w=.ok r w
 |[],i,r,h=>by simp[Instr.findNow]at h;subst h;simp[Instr.findAsking]
 |e::es,i,r,h=>by
  simp only[Instr.findNow]at h;split at h
  .rename_i c;cases h;simp[Instr.findAsking,zOq (P:=P) (w:=w) b c]
  .rename_i c;have:=zMT b h;simp[Instr.findAsking,zOq (P:=P) (w:=w) b c,this]
  .cases h
theorem zE5{c:TypeId}{k:Value}{es:List MapEntry}{r:Option (Nat×Value)}(b:∃kind,P.underlying c=some kind)(h:(Instr.findAsking c k es).run P w=.ok r w):(Instr.findKey c k es).run P w=.ok r w:=by
 obtain⟨kind,b⟩:=b;simp only[Instr.findKey,Sem.run_bind,run_underlying b,Result.andThen_ok];split
 .rename_i e d;have:=zMT (w:=w) b d;rw[h]at this;cases this;rfl
 .exact h
def ER(E:Env)(w:World)(es:List (AV×AV))(c:List MapEntry):Prop:=
 es.length=c.length/\∀(i:Nat) k x,es[i]?=some (k,x)->∃m,c[i]?=some m/\VR E w k m.key/\VR E w x m.val
theorem ER.of_cons{k x:AV}{es:List (AV×AV)}{c:List MapEntry}(h:ER E w ((k,x)::es) c):∃m c',c=m::c'/\VR E w k m.key/\VR E w x m.val/\ER E w es c':=by
 cases c with
 |nil=>have:=h.1;simp at this
 |cons m c=>
  obtain⟨d,h1,h2,h3⟩:=h.2 0 k x rfl;simp at h1;subst h1;exact⟨m,c,rfl,h2,h3,by have:=h.1;simpa using this,λi k x b=>by have:=h.2 (i+1) k x (by simpa using b);simpa using this⟩
theorem zR8{z:Bool}{x:List Kd}{o:TypeId}{k:AV}{ck:Value}(n:zBI P 6 o=some x)(l:agT P o=some z)(t:VR E w k ck):∀{es:List (AV×AV)}{c:List MapEntry}{i:Nat}{r:JF},
  ER E w es c->zAE z x k es=some r->∃d:Option (Nat×Value),(Instr.findAsking o ck c i).run P w=.ok d w ∧
   (match r with|none=>d=none|some v=>∃j cv,d=some (i+j,cv)/\VR E w v cv/\∃g,es[j]?=some (g,v)/\g=k)
 |[],c,i,r,q,h=>by
  have:c=[]:=by have:=q.1;cases c<;>simp_all
  subst this;simp[zAE]at h;subst h;exact⟨none,by simp[Instr.findAsking],rfl⟩
 |(j,v)::es,c,i,r,q,h=>by
  obtain⟨m,J,rfl,h1,h2,h3⟩:=q.of_cons;simp only[zAE]at h;split at h
  .rename_i e;cases h;refine⟨some (i,m.val),by simp[Instr.findAsking,zEs n l t h1 e],0,m.val,rfl,h2,j,rfl,(zYL e).symm⟩
  .rename_i e;obtain⟨d,B,y⟩:=zR8 n l t (i:=i+1) h3 h;refine⟨d,by simp[Instr.findAsking,zEs n l t h1 e,B],?_⟩
   cases r with
   |none=>exact y
   |some v=>
    obtain⟨A,cv,D,C,g,F,I⟩:=y;exact⟨A+1,cv,by rw[D];congr 2;omega,C,g,by simpa using F,I⟩
  .cases h
theorem zQS{t:TypeId}{z:AV}(h:zNs P t=some z):∃b,(zeroValue t).run P w=.ok b w/\∀{E:Env}{w':World},VR E w' z b:=by
 unfold zNs at h;split at h
 .rename_i i hi;split at h
  .rename_i v c;exact⟨v,by simp[zeroValue,typeInfo,hi,c],λ{E w'}=>zLO h⟩
  .cases h
 .cases h
theorem VR.of_map{h:Nat}{cv:Value}(b:VR E w (.map h) cv):cv=.map (some (E.ρ h))/\E.D h:=by cases b;exact⟨rfl,by assumption⟩
theorem zKI{v:AV}{cv:Value}{b:Bool}(h:VR E w v cv):VR E w (.qd [v,.bool b]) (.tuple #[cv,.bool b]):=
 VR.qG (VRs.cons h (VRs.cons (.bool b) VRs.nil))
theorem zUS{H:Heap}{L ok:Bool}{I:List Kd}{t C O:TypeId}{m k z v:AV}{M ck:Value}(W:HR E H w)(o:P.underlying t=some (.map C O))(J:zBI P 6 C=some I)(q:agT P C=some L)
  (T:zNs P O=some z) (hm:VR E w m M) (K:VR E w k ck) (A:zDC L I k=true)
  (h:(m=.qn/\v=(match ok with|true=>.qd [z,.bool false]|false=>z))\/∃hd es r,m=.map hd/\H.get hd=some (.map es)/\zAE L I k es=some r ∧
   v=(match r with|some v=>(match ok with|true=>.qd [v,.bool true]|false=>v)|none=>(match ok with|true=>.qd [z,.bool false]|false=>z))):
  ∃cv,(Instr.lookup t M ck ok).run P w=.ok cv w/\VR E w v cv:=by
 obtain⟨D,F,z2⟩:=zQS (w:=w) T;have l:∃kind,P.underlying C=some kind:=by
  unfold agT at q;split at q<;>first|exact⟨_,by assumption⟩|cases q
 rcases h with⟨rfl,rfl⟩|⟨hd,es,r,rfl,B,U,rfl⟩
 .cases hm;have g:=zEa (P:=P) (em:=true) J q K A;have e:=zE5 (P:=P) (w:=w) (k:=ck) (es:=[]) (r:=none) l (by simp[Instr.findAsking])
  cases ok
  .exact⟨D,by simp[Instr.lookup,run_underlying o,g,e,F],z2⟩
  .exact⟨.tuple #[D,.bool false],by simp[Instr.lookup,run_underlying o,g,e,F],zKI z2⟩
 .obtain⟨rfl,hD⟩:=hm.of_map;obtain⟨c,clock,hb,V,y,_⟩:=W.obj _ (Heap.qj B);have Y:ER E w es c.toList:=⟨by simpa using V,λi k x X=>let ⟨m,a,b,d,_⟩:=y i k x X;⟨m,by simpa using a,b,d⟩⟩
  obtain⟨R,S,Q⟩:=zR8 (P:=P) (i:=0) J q K Y U;have g:=zEa (P:=P) (em:=c.isEmpty) J q K A;have e:=zE5 (P:=P) (w:=w) (k:=ck) (es:=c.toList) (r:=R) l S;have n:(getObj (E.ρ hd)).run P w=.ok (.map c clock) w:=by simp[getObj,Sem.run,hb]
  cases r with
  |none=>
   subst Q;cases ok
   .exact⟨D,by simp[Instr.lookup,run_underlying o,n,g,e,F],z2⟩
   .exact⟨.tuple #[D,.bool false],by simp[Instr.lookup,run_underlying o,n,g,e,F],zKI z2⟩
  |some v=>
   obtain⟨j,cv,rfl,N,_⟩:=Q;cases ok
   .exact⟨cv,by simp[Instr.lookup,run_underlying o,n,g,e],N⟩
   .exact⟨.tuple #[cv,.bool true],by simp[Instr.lookup,run_underlying o,n,g,e],zKI N⟩
theorem zE6{H:Heap}(n:HR E H w){h:Nat}{o o':HO}(m:H.get h=some o){k ob':Obj}(hb:w.heap[E.ρ h]?=some k)(l:∀c e f,k≠.cells c e f)
  (j:∀w':World,w'.heap[E.ρ h]?=some ob'->(∀{v cv},VR E w v cv->VR E w' v cv)->OR E w' (E.ρ h) o') (a:Nat):
  ∃w',(setObj (E.ρ h) ob').run P w=.ok () w'/\HR E (H.put h o') w'/\Tr E H w E (H.put h o') w' a a/\∀{v cv},VR E w v cv->VR E w' v cv:=by
 have g:=(Array.getElem?_eq_some_iff.1 hb).1;refine⟨{ w with heap:=w.heap.setIfInBounds (E.ρ h) ob' },?_,?_⟩
 .cases k<;>first|exact absurd rfl (l _ _ _)|simp only[setObj,Sem.run,hb]
 .refine zMs (w':={ w with heap:=w.heap.setIfInBounds (E.ρ h) ob' }) n m rfl rfl rfl (by simp) (λb i=>?_) (λb c e f d=>?_) (λp=>j _ ?_ p) a
  .show(w.heap.setIfInBounds (E.ρ h) ob')[b]? = _
   rw[Array.getElem?_setIfInBounds,if_neg (Ne.symm i)]
  .refine⟨c,f,?_,rfl⟩
   show(w.heap.setIfInBounds (E.ρ h) ob')[b]? = _
   rw[Array.getElem?_setIfInBounds];split
   .rename_i e;subst e;rw[hb]at d;cases d;exact absurd rfl (l _ _ _)
   .exact d
  .show(w.heap.setIfInBounds (E.ρ h) ob')[E.ρ h]? = _
   rw[Array.getElem?_setIfInBounds,if_pos rfl,if_pos g]
theorem zR9{B:Bool}{A:List Kd}{n:TypeId}{k x:AV}{ck:Value}(l:zBI P 6 n=some A)(g:agT P n=some B)(o:VR E w k ck):∀{es d:List (AV×AV)}{c:List MapEntry}{i:Nat},
  ER E w es c->zCm B A k x es=some d →
  ((Instr.findAsking n ck c i).run P w=.ok none w/\d=es++[(k,x)])\/∃j cv t,(Instr.findAsking n ck c i).run P w=.ok (some (i+j,cv)) w/\es[j]?=some (k,t)/\d=es.set j (k,x)
 |[],d,c,i,z,h=>by
  have:c=[]:=by have:=z.1;cases c<;>simp_all
  subst this;simp[zCm]at h;subst h;exact .inl ⟨by simp[Instr.findAsking],rfl⟩
 |(j,v)::es,d,c,i,z,h=>by
  obtain⟨m,F,rfl,h1,h2,h3⟩:=z.of_cons;simp only[zCm]at h;split at h
  .rename_i e;cases h;exact .inr ⟨0,m.val,v,by simp[Instr.findAsking,zEs l g o h1 e],by rw[zYL e];rfl,rfl⟩
  .rename_i e;split at h
   .rename_i D r;cases h;rcases zR9 l g o (i:=i+1) h3 r with⟨y,rfl⟩|⟨q,cv,t,y,C,rfl⟩
    .exact .inl ⟨by simp[Instr.findAsking,zEs l g o h1 e,y],rfl⟩
    .refine .inr ⟨q+1,cv,t,?_,by simpa using C,rfl⟩
     have:i+(q+1)=i+1+q:=by omega
     rw[this];simp[Instr.findAsking,zEs l g o h1 e,y]
   .cases h
  .cases h
theorem zSa{z:Bool}{y:List Kd}{l:TypeId}{k:AV}{ck:Value}(g:zBI P 6 l=some y)(e:agT P l=some z)(o:VR E w k ck):∀{es d:List (AV×AV)}{c:List MapEntry}{i:Nat},
  ER E w es c->zRP z y k es=some d →
  ((Instr.findAsking l ck c i).run P w=.ok none w/\d=es)\/∃j cv,(Instr.findAsking l ck c i).run P w=.ok (some (i+j,cv)) w/\j<es.length/\d=es.eraseIdx j
 |[],d,c,i,x,h=>by
  have:c=[]:=by have:=x.1;cases c<;>simp_all
  subst this;simp[zRP]at h;subst h;exact .inl ⟨by simp[Instr.findAsking],rfl⟩
 |(j,v)::es,d,c,i,x,h=>by
  obtain⟨m,B,rfl,h1,h2,h3⟩:=x.of_cons;simp only[zRP]at h;split at h
  .rename_i n;cases h;exact .inr ⟨0,m.val,by simp[Instr.findAsking,zEs g e o h1 n],by simp,rfl⟩
  .rename_i n;split at h
   .rename_i A r;cases h;rcases zSa g e o (i:=i+1) h3 r with⟨t,rfl⟩|⟨q,cv,t,C,rfl⟩
    .exact .inl ⟨by simp[Instr.findAsking,zEs g e o h1 n,t],rfl⟩
    .refine .inr ⟨q+1,cv,?_,by simp;omega,rfl⟩
     have:i+(q+1)=i+1+q:=by omega
     rw[this];simp[Instr.findAsking,zEs g e o h1 n,t]
   .cases h
  .cases h
theorem zRd{k:AV}{b c2:Value}(h1:VR E w k b)(h2:VR E w k c2):∃c w',(Instr.keyThatStays b c2).run P w=.ok c w'/\World.vR w w'/\VR E w k c:=by
 unfold Instr.keyThatStays;split
 .exact⟨c2,w,rfl,.refl w,h2⟩
 .simp only[Sem.run_bind,run_choose];have pick:∀(n:Nat),VR E w k (if n=0 then c2 else b):=λn=>by split<;>assumption
  split
  .exact⟨_,w,rfl,.refl w,pick 0⟩
  .exact⟨_,_,rfl,.mk w _,pick _⟩
theorem zQf{w':World}(hd:World.vR w w'){v:AV}{cv:Value}(h:VR E w v cv):VR E w' v cv:=
 h.mono (λ_ h=>⟨h,rfl⟩) (λb h=>⟨h,by rw[hd.1]⟩) (.of_heap hd.1)
theorem zXo{H:Heap}{nx:Nat}{Y:Bool}{ks:List Kd}{t R et:TypeId}{hd:Nat}{k x:AV}{cm ck A:Value}{es C:List (AV×AV)}(hr:HR E H w)(ht:P.underlying t=some (.map R et))(hk:zBI P 6 R=some ks)(K:agT P R=some Y)
  (hm:VR E w (.map hd) cm) (S:VR E w k ck) (hx:VR E w x A) (T:zDC Y ks k=true) (o:H.get hd=some (.map es)) (h:zCm Y ks k x es=some C):
  ∃w',(Instr.mapUpdate t cm ck A).run P w=.ok () w'/\HR E (H.put hd (.map C)) w'/\Tr E H w E (H.put hd (.map C)) w' nx nx:=by
 obtain⟨rfl,hD⟩:=hm.of_map;obtain⟨c,clock,hb,M,g,q⟩:=hr.obj _ (Heap.qj o);have l:∃kind,P.underlying R=some kind:=by
  unfold agT at K;split at K<;>first|exact⟨_,by assumption⟩|cases K
 have he:ER E w es c.toList:=⟨by simpa using M,λi k x hx=>let ⟨m,a,b,d,_⟩:=g i k x hx;⟨m,by simpa using a,b,d⟩⟩
 have I:=zEa (P:=P) (em:=false) hk K S T;have N:(getObj (E.ρ hd)).run P w=.ok (.map c clock) w:=by simp[getObj,Sem.run,hb]
 rcases zR9 (P:=P) (i:=0) hk K S he h with⟨U,rfl⟩|⟨j,cv,x',U,e2,rfl⟩
 .have z:=zE5 l U;obtain⟨w',s1,s2,s3,_⟩:=zE6 (P:=P) hr o hb (λ_ _ _ h=>by cases h) (ob':=.map (c.push { key:=ck,val:=A,born:=clock }) (clock+1)) (o':=.map (es++[(k,x)])) (λw' D hm=>by
   refine⟨_,_,D,by simp[M],λi W v' hi=>?_,λi j m n hi B r=>?_⟩
   .rw[List.getElem?_append]at hi;split at hi
    .rename_i J;obtain⟨m,a1,a2,a3,a4⟩:=g i W v' hi;exact⟨m,by rw[Array.getElem?_push,if_neg (by omega)];exact a1,hm a2,hm a3,by omega⟩
    .rename_i ab;have X:i=es.length:=by
      have:=(QC.1 hi).1;simp at this;omega
     subst X;simp at hi;obtain⟨rfl,rfl⟩:=hi;exact⟨{ key:=ck,val:=A,born:=clock },by rw[Array.getElem?_push,if_pos M],hm S,hm hx,QS _⟩
   .have qM:∀{i:Nat}{m:MapEntry},c[i]?=some m->m.born<clock:=λ{i m} hi=>by
     have J:i<es.length:=by rw[M];exact(Array.getElem?_eq_some_iff.1 hi).1
     obtain⟨O,Q,_,_,b4⟩:=g i (es[i]).1 (es[i]).2 (by simp[J])
     rw[hi]at Q;cases Q;exact b4
    rw[Array.getElem?_push]at hi B;split at hi<;>split at B
    .omega
    .cases hi;have:=qM B;simp at r;omega
    .cases B;have:=qM hi;simp at r;omega
    .exact q i j m n hi B r) nx
  exact⟨w',by simp[Instr.mapUpdate,run_underlying ht,N,I,z,s1],s2,s3⟩
 .have z:=zE5 l U;rw[Qa]at z;obtain⟨m,a1,a2,a3,a4⟩:=g j k x' e2;obtain⟨V,w1,q1,F,q3⟩:=zRd (P:=P) a2 S;obtain⟨d1,d2⟩:=zHT hr F nx;have vJ:w1.heap[E.ρ hd]?=some (.map c clock):=by rw[F.1];exact hb
  have aa:j<c.size:=(Array.getElem?_eq_some_iff.1 a1).1;obtain⟨w',s1,s2,s3,_⟩:=zE6 (P:=P) d1 o vJ (λ_ _ _ h=>by cases h) (ob':=.map (c.modify j λe=>{ e with key:=V,val:=A }) clock) (o':=.map (es.set j (k,x))) (λw' D hm=>by
   refine⟨_,_,D,by simp[M],λi W v' hi=>?_,λi i' m1 n1 hi B r=>?_⟩
   .rw[List.getElem?_set]at hi;rw[Array.getElem?_modify];split at hi
    .rename_i e;subst e;split at hi
     .cases hi;exact⟨{ m with key:=V,val:=A },by simp[a1],hm (zQf F q3),hm (zQf F hx),a4⟩
     .cases hi
    .rename_i e;obtain⟨O,Q,b2,b3,b4⟩:=g i W v' hi;exact⟨O,by rw[if_neg e];exact Q,hm (zQf F b2),hm (zQf F b3),b4⟩
   .have back:∀{i:Nat}{m:MapEntry},(c.modify j λe=>{ e with key:=V,val:=A })[i]?=some m->∃O,c[i]?=some O/\O.born=m.born:=λ{i m} hi=>by
     rw[Array.getElem?_modify]at hi;split at hi
     .cases hc:c[i]? with
      |none=>simp[hc]at hi
      |some y=>simp[hc]at hi;exact⟨y,rfl,by rw[←hi]⟩
     .exact⟨m,hi,rfl⟩
    obtain⟨p1,p2,p3⟩:=back hi;obtain⟨r1,r2,r3⟩:=back B;exact q i i' p1 r1 p2 r2 (by omega)) nx
  refine⟨w',?_,s2,d2.trans d1 s3⟩
  have L:((c[j]?).map (·.key)).getD ck=m.key:=by simp[a1]
  simp[Instr.mapUpdate,run_underlying ht,N,I,z,L,q1,s1]
theorem zYM{H:Heap}{nx:Nat}{R:Bool}{K:List Kd}{t J W ty:TypeId}{ts:Array TypeId}{hd:Nat}{k:AV}{V ck:Value}{es r:List (AV×AV)}(M:HR E H w)(S:P.underlying t=some (.map J W))(U:zBI P 6 J=some K)(B:agT P J=some R)
  (F:ts[0]?=some t) (hm:VR E w (.map hd) V) (T:VR E w k ck) (O:zDC R K k=true) (o:H.get hd=some (.map es)) (h:zRP R K k es=some r):
  ∃w',(Builtin.delete_ ts ty #[V,ck]).run P w=.ok (.tuple #[]) w'/\HR E (H.put hd (.map r)) w'/\Tr E H w E (H.put hd (.map r)) w' nx nx:=by
 obtain⟨rfl,hD⟩:=hm.of_map;obtain⟨c,clock,hb,L,l,g⟩:=M.obj _ (Heap.qj o);have n:∃kind,P.underlying J=some kind:=by
  unfold agT at B;split at B<;>first|exact⟨_,by assumption⟩|cases B
 have X:ER E w es c.toList:=⟨by simpa using L,λi k x N=>let ⟨m,a,b,d,_⟩:=l i k x N;⟨m,by simpa using a,b,d⟩⟩
 have I:=zEa (P:=P) (em:=c.isEmpty) U B T O;have D:(getObj (E.ρ hd)).run P w=.ok (.map c clock) w:=by simp[getObj,Sem.run,hb]
 rcases zSa (P:=P) (i:=0) U B T X h with⟨Q,rfl⟩|⟨j,cv,Q,e2,rfl⟩
 .have y:=zE5 n Q;obtain⟨w',s1,s2,s3,_⟩:=zE6 (P:=P) M o hb (λ_ _ _ h=>by cases h) (ob':=.map c clock) (o':=.map r) (λw' z hm=>
   ⟨c,clock,z,L,λi k x N=>let ⟨m,a,b,d,e⟩:=l i k x N;⟨m,a,hm b,hm d,e⟩,g⟩) nx
  exact⟨w',by simp[Builtin.delete_,F,run_underlying S,D,I,y,s1],s2,s3⟩
 .have y:=zE5 n Q;rw[Qa]at y;have C:∀(i:Nat),(c.eraseIdxIfInBounds j)[i]? = if i<j then c[i]? else c[i+1]?:=λi=>by
   rw[←Array.getElem?_toList,Array.toList_eraseIdxIfInBounds,List.getElem?_eraseIdx];split<;>simp
  obtain⟨w',s1,s2,s3,_⟩:=zE6 (P:=P) M o hb (λ_ _ _ h=>by cases h) (ob':=.map (c.eraseIdxIfInBounds j) clock) (o':=.map (es.eraseIdx j)) (λw' z hm=>by
   refine⟨_,_,z,?_,λi k' v' hi=>?_,λi i' m1 n1 hi A q=>?_⟩
   .have Y:(c.eraseIdxIfInBounds j).size=(c.toList.eraseIdx j).length:=by rw[←Array.length_toList,Array.toList_eraseIdxIfInBounds]
    have e4:c.toList.length=es.length:=by rw[L];rfl
    rw[Y,List.length_eraseIdx,List.length_eraseIdx,e4]
   .rw[List.getElem?_eraseIdx]at hi;rw[C];split at hi
    .obtain⟨m,a,b,d,e⟩:=l _ _ _ hi;exact⟨m,by rw[if_pos (by assumption)];exact a,hm b,hm d,e⟩
    .obtain⟨m,a,b,d,e⟩:=l _ _ _ hi;exact⟨m,by rw[if_neg (by assumption)];exact a,hm b,hm d,e⟩
   .rw[C]at hi A;split at hi<;>split at A
    .exact g _ _ _ _ hi A q
    .have:=g _ _ _ _ hi A q;omega
    .have:=g _ _ _ _ hi A q;omega
    .have:=g _ _ _ _ hi A q;omega) nx
  exact⟨w',by simp[Builtin.delete_,F,run_underlying S,D,I,y,s1],s2,s3⟩
end
section
variable{P:Program}{E:Env}{w:World}
theorem zO1{b:Nat}{c:JB}{e:TypeId}{f:Nat×Nat}(h:w.heap[b]?=some (.cells c e f)):(viewAt b).run P w=.ok none w:=by
 simp[viewAt,World.shape?,h]
theorem zLP{b o:Nat}{c:JB}{e:TypeId}{f:Nat×Nat}(h:w.heap[b]?=some (.cells c e f))(d:f.2=f.1):w.frozen? ⟨b,o,none⟩=false:=by
 obtain⟨g,hi⟩:=f;simp[World.frozen?,h];simp at d;omega
theorem zO2{b o:Nat}{c:JB}{e:TypeId}{f:Nat×Nat}(h:w.heap[b]?=some (.cells c e f))(d:f.2=f.1):(stringish ⟨b,o,none⟩).run P w=.ok false w:=by
 have h1:w.frozen? ⟨b,o,none⟩=false:=zLP h d;have h2:w.frozen? { block:=b,off:=c.size }=false:=zLP h d;simp[stringish,h1,World.shape?,h,h2]
theorem zQT{H:Heap}(d:HR E H w){h:Nat}(hi:zQa (H.get h)=true):∃(c:JB) (e:TypeId) (f:Nat×Nat),w.heap[E.ρ h]?=some (Obj.cells c e f)/\f.2=f.1/\∃o,(h,o)∈H:=by
 unfold zQa at hi;split at hi
 .rename_i i g;have b:=Heap.qj g;obtain⟨c,e,f,h1,h2,h3,_⟩:=d.obj _ b;exact⟨c,e,f,h1,h3.elim id (λ⟨x,_⟩=>by cases x),_,b⟩
 .cases hi
theorem zYN{H:Heap}{x y:AV}{r q:Value}{b:Bool}{t e:TypeId}{n d:Nat}(p:HR E H w)(hx:VR E w x r)(f:VR E w y q)(h:zOh H x y=some b)(c:P.underlying t=some (.pointer e))
  (C:zS P e=some (n+1)):(Op.equalIn (d+1) t r q).run P w=.ok b w:=by
 unfold zOh at h;split at h
 .cases h;cases hx;cases f;simp[Op.equalIn,run_underlying c]
 .cases h;cases hx;cases f;simp[Op.equalIn,run_underlying c]
 .cases h;cases hx;cases f;simp[Op.equalIn,run_underlying c]
 .cases h;cases hx;cases f;simp[Op.equalIn,run_underlying c]
 .cases h;cases hx;cases f;simp[Op.equalIn,run_underlying c]
 .rename_i h1 o1 h2 i;split at h
  .rename_i i1;split at h
   .rename_i i2;obtain⟨rfl,_⟩:=hx.wB;obtain⟨rfl,_⟩:=f.wB;obtain⟨B,D,f1,a1,a2,I,m1⟩:=zQT p i1;obtain⟨c2,A,f2,g,s,F,m2⟩:=zQT p i2;simp only[QK]at h;have k:(n+1≠0):=by omega
    simp only[Op.equalIn,Sem.run_bind,run_underlying c,Result.andThen_ok,zAO C,k,ne_eq,not_false_eq_true,if_true];unfold sameAddr;by_cases hb:h1=h2
    .subst hb;simp only[BEq.rfl,if_true,Sem.run_pure];subst h;congr 1;rw[Nat.beq_refl,Bool.true_and];by_cases l:o1=i
     .subst l;simp
     .have:Nat.beq o1 i=false:=by rw[Bool.eq_false_iff];exact λm=>l (zb m)
      rw[this];simp[l]
    .have j:E.ρ h1≠E.ρ h2:=λe=>hb (p.inj _ m1 _ m2 e)
     have u:Nat.beq h1 h2=false:=by rw[Bool.eq_false_iff];exact λm=>hb (zb m)
     rw[u,Bool.false_and]at h;subst h;have g1:=zLP (o:=o1) a1 a2;have v1:=zO1 (P:=P) a1;have v2:=zO1 (P:=P) g;have s1:=zO2 (P:=P) (o:=o1) a1 a2;have s2:=zO2 (P:=P) (o:=i) g s;have z:w.shape? (E.ρ h1)=some (D,B.size):=by simp[World.shape?,a1]
     have z2:w.shape? (E.ρ h2)=some (A,c2.size):=by simp[World.shape?,g]
     have g2:=zLP (o:=i) g s;simp[j,g1,g2,noView,v1,v2,mayBeOne,s1,s2,z,z2]
   .cases h
  .cases h
 .cases h
theorem zYO{t:TypeId}{c d:Value}{b:Bool}(h:(Op.equalIn 10000 t c d).run P w=.ok b w)(h1:∀j a k b,¬(c=.int j a/\d=.int k b))(h2:∀j a k b,¬(c=.float j a/\d=.float k b))
  (h3:∀j a e k b g,¬(c=.complex j a e/\d=.complex k b g)) (h4:∀a b,¬(c=.string a/\d=.string b)):
  (binOp .eql t c d).run P w=.ok (.bool b) w/\(binOp .neq t c d).run P w=.ok (.bool (!b)) w:=by
 have f:(Op.equal t c d).run P w=.ok b w:=h;cases c<;>cases d<;>first
  |(exact absurd ⟨rfl,rfl⟩ (h1 _ _ _ _))
  |(exact absurd ⟨rfl,rfl⟩ (h2 _ _ _ _))
  |(exact absurd ⟨rfl,rfl⟩ (h3 _ _ _ _ _ _))
  |(exact absurd ⟨rfl,rfl⟩ (h4 _ _))
  |(constructor<;>simp[binOp,f])
theorem zaq{neg:Bool}{t:TypeId}{op:BinOp}{c d:Value}{b:Bool}(h:(binOp .eql t c d).run P w=.ok (.bool b) w/\(binOp .neq t c d).run P w=.ok (.bool (!b)) w)
  (e:(neg=false/\op=.eql)\/(neg=true/\op=.neq)):∃cv,(binOp op t c d).run P w=.ok cv w/\VR E w (zCk neg b) cv:=by
 rcases e with⟨rfl,rfl⟩|⟨rfl,rfl⟩
 .exact⟨_,h.1,.bool _⟩
 .exact⟨_,h.2,.bool _⟩
end
section
variable{P:Program}{E:Env}{w:World}
theorem zMv{n i:Nat}{x:AV}{c:Value}(hx:VR E w x c)(h:zFw n x=some i):∃k,c=.int k (i:Int)/\i<n:=by
 unfold zFw at h;split at h
 .rename_i k m;split at h
  .rename_i b;cases h;obtain⟨rfl,_⟩:=hx.of_int;exact⟨k,rfl,by rw[Qi]at b;exact b⟩
  .cases h
 .cases h
theorem zYP{es:JE}{e x:AV}{b:Value}(hx:VR E w x b)(h:idx es x=some e):∃k i,b=.int k ((i:Nat):Int)/\es[i]?=some e:=by
 unfold idx at h;split at h
 .rename_i k m;obtain⟨rfl,_⟩:=hx.of_int;exact⟨k,m,rfl,h⟩
 .cases h
theorem zTD{d top n:Nat}{x:AV}{c:Value}(hx:VR E w x c)(h:bnd (some x) d top=some n):∃k,c=.int k (n:Int)/\n<=top:=by
 unfold bnd at h;split at h
 .rename_i e;cases e
 .rename_i k m e;cases e;split at h
  .rename_i b;cases h;obtain⟨rfl,_⟩:=hx.of_int;exact⟨k,rfl,QM b⟩
  .cases h
 .cases h
theorem zO3{k:IntKind}{n top:Nat}(h:n<=top)(code:BoundsCode):(Instr.sliceBound (.int k (n:Int)) top code).run P w=.ok n w:=by
 simp[Instr.sliceBound,asIntOf,h]
def OV(E:Env)(w:World):JF->Option Value->Prop
 |none,none=>True
 |some x,some v=>VR E w x v
 |_,_=>False
theorem zBS{d top n:Nat}{x:JF}{b:Option Value}(hx:OV E w x b)(h:bnd x d top=some n):(b=none/\n=d)\/∃k,b=some (.int k (n:Int))/\n<=top:=by
 cases x with
 |none=>
  cases b with
  |none=>simp[bnd]at h;exact .inl ⟨rfl,h.symm⟩
  |some v=>exact hx.elim
 |some x=>
  cases b with
  |none=>exact hx.elim
  |some v=>
   obtain⟨k,rfl,c⟩:=zTD hx h;exact .inr ⟨k,rfl,c⟩
theorem zE7{sl:Bool}{len cap t l top:Nat}{lo hi:JF}{c b:Option Value}(h1:OV E w hi b)(h2:OV E w lo c)(i:bnd hi len top=some t)(e:bnd lo 0 t=some l)(f:len<=cap)(j:top<=cap):
  (Instr.sliceBounds sl len cap c b none).run P w=.ok (l,t,cap) w/\l<=t/\t<=cap:=by
 have d:t<=cap:=by
  rcases zBS h1 i with⟨_,rfl⟩|⟨k,_,h⟩<;>omega
 have g:l<=t:=by
  rcases zBS h2 e with⟨_,rfl⟩|⟨k,_,h⟩<;>omega
 refine⟨?_,g,d⟩
 rcases zBS h1 i with⟨rfl,rfl⟩|⟨k,rfl,_⟩<;>rcases zBS h2 e with⟨rfl,rfl⟩|⟨m,rfl,_⟩<;>
  simp[Instr.sliceBounds,zO3,g,d]
theorem zWa{len cap m t l top:Nat}{lo hi:JF}{i:AV}{c b:Option Value}{e:Value}(h1:OV E w hi b)(h2:OV E w lo c)(h3:VR E w i e)(p:bnd (some i) 0 top=some m)(q:bnd hi len m=some t)
  (j:bnd lo 0 t=some l) (f:b≠none) (o:top<=cap):(Instr.sliceBounds true len cap c b (some e)).run P w=.ok (l,t,m) w/\l<=t/\t<=m/\m<=cap:=by
 obtain⟨k,rfl,u⟩:=zTD h3 p;have d:m<=cap:=by omega
 rcases zBS h1 q with⟨rfl,_⟩|⟨r,rfl,g⟩
 .exact absurd rfl f
 .have n:l<=t:=by
   rcases zBS h2 j with⟨_,rfl⟩|⟨k,_,h⟩<;>omega
  refine⟨?_,n,g,d⟩
  rcases zBS h2 j with⟨rfl,rfl⟩|⟨s,rfl,_⟩<;>simp[Instr.sliceBounds,zO3,n,g,d]
theorem zWb{sz:Nat}{t e:TypeId}{lo hi mx:JF}{x v:AV}{s q p:Option Value}{L:Value}(ht:P.underlying t=some (.slice e))(hs:zS P e=some sz)(ac:0<sz)
  (hx:VR E w x L) (h1:OV E w hi q) (h2:OV E w lo s) (h3:OV E w mx p) (N:p≠none->q≠none) (h:zIW sz lo hi mx x=some v):
  ∃cv,(Instr.sliceAt t L s q p).run P w=.ok cv w/\VR E w v cv:=by
 have r:∀{a:Option Addr}{len cap l g m:Nat},L=.slice a len cap->(Instr.sliceBounds true len cap s q p).run P w=.ok (l,g,m) w →
   (Instr.sliceAt t L s q p).run P w=.ok (.slice (if m=l then a else a.map (·.add (l*sz))) (g-l) (m-l)) w:=by
  intro a len cap l g m W hb;subst W;simp[Instr.sliceAt,Instr.slice,run_underlying ht,hb,zAO hs]
 unfold zIW at h;split at h
 ·
  cases hx;split at h
  .rename_i m T;split at h
   .rename_i g n;split at h
    .rename_i l A;cases h;have Y:m=0:=by rcases zBS h3 T with⟨_,rfl⟩|⟨_,_,h⟩<;>omega
     subst Y;have J:g=0:=by rcases zBS h1 n with⟨_,rfl⟩|⟨_,_,h⟩<;>omega
     subst J;have F:l=0:=by rcases zBS h2 A with⟨_,rfl⟩|⟨_,_,h⟩<;>omega
     subst F;have hb:(Instr.sliceBounds true 0 0 s q p).run P w=.ok (0,0,0) w:=by
      rcases zBS h3 T with⟨rfl,_⟩|⟨k,rfl,_⟩
      .exact(zE7 (P:=P) h1 h2 n A (QB _) (QB _)).1
      .rcases zBS h1 n with⟨rfl,_⟩|⟨k1,rfl,_⟩
       .exact absurd rfl (N (by simp))
       .rcases zBS h2 A with⟨rfl,_⟩|⟨k2,rfl,_⟩<;>simp[Instr.sliceBounds,zO3,Instr.sliceBound,asIntOf]
     refine⟨_,r rfl hb,?_⟩
     simp;exact .qa
    .cases h
   .cases h
  .cases h
 ·
  rename_i V M;split at h
  .cases h
  rename_i K;have:=zb K;subst this;split at h
  .cases h
  cases p with
  |some _=>exact h3.elim
  |none=>
   split at h
   .rename_i g n;split at h
    .rename_i l A;cases h;cases hx with
     |wj _ a c hc=>
      have J:g=0:=by rcases zBS h1 n with⟨_,h⟩|⟨_,_,h⟩<;>simpa using h
      subst J;have F:l=0:=by rcases zBS h2 A with⟨_,h⟩|⟨_,_,h⟩<;>omega
      subst F;obtain⟨hb,_,_⟩:=zE7 (P:=P) (sl:=true) (cap:=c) h1 h2 n A (by simp) (by simp)
      refine⟨_,r rfl hb,?_⟩
      simp only[List.take_zero,List.drop_nil,Nat.sub_self];exact .wj _ _ _ (by omega)
     |qf _ b o cap _ f hz z af aa hf hc=>
      obtain⟨hb,ae,ad⟩:=zE7 (P:=P) (sl:=true) h1 h2 n A z z;have ah:g<=M.length:=by rcases zBS h1 n with⟨_,rfl⟩|⟨_,_,h⟩<;>omega
      refine⟨_,r rfl hb,?_⟩
      have d:((M.take g).drop l).length=g-l:=by simp;omega
      by_cases S:cap=l
      .have:(M.take g).drop l=[]:=List.eq_nil_of_length_eq_zero (by omega)
       rw[this,if_pos S];have:g-l=0:=by omega
       rw[this];exact .wj _ _ _ (by omega)
      .rw[if_neg S];simp only[Option.map_some,zBj];have get:∀(i:Nat),i<g-l->((M.take g).drop l)[i]? = M[l+i]?:=λi hi=>by
        rw[List.getElem?_drop,List.getElem?_take,if_pos (by omega)]
       have:=VR.qf (E:=E) (w:=w) ((M.take g).drop l) b (o+l*sz) (cap-l) sz (λi=>f (l+i)) hz (by omega) (by omega)
        (λi e C=>by
         have hi:i<g-l:=by rw[←d];exact(QC.1 C).1
         rw[get i hi]at C;exact aa _ _ C)
        (λi e C=>by
         have hi:i<g-l:=by rw[←d];exact(QC.1 C).1
         rw[get i hi]at C;exact hf _ _ C)
        (λi hi=>by
         rw[d]at hi;obtain⟨q1,q2⟩:=hc (l+i) (by omega)
         refine⟨q1,λj c hj=>?_⟩
         have:=q2 j c hj;rw[Nat.add_mul]at this;have e3:o+l*sz+i*sz+j=o+(l*sz+i*sz)+j:=by omega
         rw[e3];exact this)
       rw[d]at this;exact this
    .cases h
   .cases h
 ·
  rename_i hd off len V U ex;split at h
  .cases h
  rename_i K;have:=zb K;subst this;have fin:∀{m g l:Nat}{I:Bool}{u:Nat},(∀{a:Option Addr}{cap:Nat},L=.slice a len cap->U<=cap->(ex=true->cap=U)->len<=cap →
    ∃B,(Instr.sliceBounds true len cap s q p).run P w=.ok (l,g,B) w/\l<=g/\g<=B/\B<=cap/\u<=B-l/\(I=true->B-l=u)) →
    ∃cv,(Instr.sliceAt t L s q p).run P w=.ok cv w/\VR E w (.row hd (off+l*sz) (g-l) sz u I) cv:=by
   intro m g l I u hb;cases hx with
   |wm _ _ _ _ a=>
    obtain⟨B,X,b2,b3,b4,b5,b6⟩:=hb rfl (QB _) (λ_=>rfl) (QB _)
    refine⟨_,r rfl X,?_⟩
    have:B=0:=by omega
    subst this;have:l=0:=by omega
    subst this;have:g=0:=by omega
    subst this;have:u=0:=by omega
    subst this;simp;exact .wm _ _ _ _ _
   |row _ _ _ _ _ cap _ hD d z Q y D ab=>
    obtain⟨B,X,b2,b3,b4,b5,b6⟩:=hb rfl y D d;refine⟨_,r rfl X,?_⟩
    by_cases O:B=l
    .subst O;have:g-B=0:=by omega
     rw[this,if_pos rfl];have:u=0:=by omega
     subst this;rw[Nat.sub_self];exact .wm _ _ _ _ _
    .rw[if_neg O];simp only[Option.map_some,zBj];obtain⟨c,e',f,a1,a2⟩:=ab;refine .row _ _ _ _ _ _ _ hD (by omega) (by omega) Q b5 b6 ⟨c,e',f,a1,?_⟩
     have:l*sz+(B-l)*sz<=cap*sz:=by rw[←Nat.add_mul];exact Nat.mul_le_mul_right _ (by omega)
     omega
  split at h
  .rename_i mv;cases p with
   |none=>exact h3.elim
   |some ag=>
    split at h
    .rename_i m T;split at h
     .rename_i g n;split at h
      .rename_i l A;cases h;refine fin (m:=m) λ{a cap} W y D d=>?_
       obtain⟨c1,c2,c3,c4⟩:=zWa (P:=P) (cap:=cap) h1 h2 h3 T n A (N (by simp)) y
       exact⟨m,c1,c2,c3,c4,QB _,λ_=>rfl⟩
      .cases h
     .cases h
    .cases h
  .cases p with
   |some _=>exact h3.elim
   |none=>
    split at h
    .rename_i g n;split at h
     .rename_i l A;cases h;refine fin (m:=0) λ{a cap} W y D d=>?_
      have R:Nat.max len U<=cap:=Nat.max_le.2 ⟨d,y⟩;obtain⟨c1,c2,c3⟩:=zE7 (P:=P) (sl:=true) (cap:=cap) h1 h2 n A d R;refine⟨cap,c1,c2,c3,QB _,by omega,λC=>?_⟩
      have:=D C;have:Nat.max len U=cap:=by rw[this];exact Nat.max_eq_right (by omega)
      omega
     .cases h
    .cases h
 .cases h
theorem zXp{t:TypeId}{s:JV}{lo hi:JF}{c b:Option Value}{f:Value}{h' l:Nat}(h:P.underlying t=some .string)(hx:VR E w (.str s) f)(h1:OV E w hi b)(h2:OV E w lo c)
  (k:bnd hi s.length s.length=some h') (j:bnd lo 0 h'=some l):∃cv,(Instr.sliceAt t f c b none).run P w=.ok cv w/\VR E w (.str ((s.take h').drop l)) cv:=by
 obtain⟨e,rfl,g,n⟩:=hx.wc;have d:=zI6 g;obtain⟨hb,m,o⟩:=zE7 (P:=P) (sl:=false) (cap:=e.size) (w:=w) h1 h2 (d▸k) j (QB _) (QB _)
 refine⟨.string (e.extract l h'),by simp[Instr.sliceAt,Instr.slice,run_underlying h,hb],.str _ _ ?_ ?_⟩
 .rw[←g,ByteArray.data_extract,Array.toList_extract,List.extract_eq_take_drop,←List.map_take,←List.map_drop,List.drop_take]
 .have:=Qn (i:=l) (l:=s.take h');simp;omega
theorem zXq{t:TypeId}{s:JV}{b n:Nat}{g:Value}{k:IntKind}(i:P.underlying t=some .string)(hx:VR E w (.str s) g)(h:s[n]?=some b):
  ∃cv,(Instr.index t g (.int k (n:Int))).run P w=.ok cv w/\VR E w (.int .u8 (b:Int)) cv:=by
 obtain⟨d,rfl,l,m⟩:=hx.wc;subst l;rw[Qb]at h;cases hb:d.data.toList[n]? with
 |none=>simp[hb]at h
 |some c=>
  simp only[hb,Option.map_some,QK]at h;subst h;have j:d[n]?=some c:=by
   have f:n<d.data.toList.length:=(QC.1 hb).1;have e:n<d.size:=f;rw[getElem?_pos d n e];have:=(QC.1 hb).2;simp at this;rw[←this];rfl
  refine⟨.int .u8 c.toNat,by simp[Instr.index,run_underlying i,asIntOf,j],.int _ _ ?_⟩
  have:=c.toNat_lt
  constructor<;>simp[IntKind.min,IntKind.max,IntKind.signed,IntKind.bits]<;>omega
theorem zXr{t e:TypeId}{n sz i:Nat}{f:Bool}{cs:JE}{x v:AV}{c ci:Value}(j:P.underlying t=some (.array n e))(d:zS P e=some sz)(l:agT P e=some f)(hx:VR E w (.agg cs) c)
  (hi:VR E w x ci) (h1:zFw n x=some i) (h:part cs (i*sz) sz f=some v):∃cv,(Instr.index t c ci).run P w=.ok cv w/\VR E w v cv:=by
 obtain⟨k,rfl,b⟩:=zMv hi h1;obtain⟨p,rfl,q1,o⟩:=hx.qY;obtain⟨cv,g,m⟩:=zR5 q1 o d l h;exact⟨cv,by simp[Instr.index,run_underlying j,asIntOf,zAO d,b,g],m⟩
theorem zO4{t e:TypeId}{n sz i:Nat}{x:AV}{ci:Value}{a:Addr}(c:P.underlying t=some (.array n e))(d:zS P e=some sz)(hi:VR E w x ci)(h1:zFw n x=some i):
  (Instr.indexAt t (.pointer (some a)) ci).run P w=.ok (.pointer (some (a.add (i*sz)))) w:=by
 obtain⟨k,rfl,b⟩:=zMv hi h1;simp[Instr.indexAt,run_underlying c,asIntOf,zAO d,b,Instr.sureAddr]
theorem zO5{t e:TypeId}{sz:Nat}{x i v:AV}{q ci:Value}(p:P.underlying t=some (.slice e))(u:zS P e=some sz)(hx:VR E w x q)(hi:VR E w i ci)
  (h:(∃c es y,x=.qf c es/\Nat.beq sz c=true/\idx es i=some y/\v=.qc y 0)\/∃hd off len c cp ex n,x=.row hd off len c cp ex/\Nat.beq sz c=true/\zFw len i=some n/\v=.ptr hd (off+n*sz)):
  ∃cv,(Instr.indexAt t q ci).run P w=.ok cv w/\VR E w v cv:=by
 rcases h with⟨c,es,y,rfl,g,h1,rfl⟩|⟨hd,off,len,c,cp,ex,n,rfl,g,h1,rfl⟩
 .have:=zb g;subst this;obtain⟨k,n,rfl,m⟩:=zYP hi h1;have d:n<es.length:=(QC.1 m).1;cases hx with
  |wj=>simp at d
  |qf _ b o cap _ f C j A l D hc=>
   refine⟨.pointer (some ⟨b,o+n*sz,none⟩),by simp[Instr.indexAt,run_underlying p,asIntOf,zAO u,d,zBj],?_⟩
   exact .qc y 0 b (o+n*sz) (f n) (l n y m) C (D n y m) (hc n d).2
 .have:=zb g;subst this;obtain⟨k,rfl,d⟩:=zMv hi h1;cases hx with
  |wm=>omega
  |row _ _ _ _ _ cap _ B r j s z I F=>
   exact⟨.pointer (some ⟨E.ρ hd,off+n*sz,none⟩),by simp[Instr.indexAt,run_underlying p,asIntOf,zAO u,d,zBj],.ptr _ _ B⟩
theorem zQU{s:TypeId}{c:Array Field}{f:Field}{i n:Nat}{b o:Nat}(e:P.underlying s=some (.struct c))(d:c[i]?=some f)(g:zS P f.type=some (n+1)):
  (Instr.fieldAt s (.pointer (some ⟨b,o,none⟩)) i).run P w=.ok (.pointer (some ⟨b,o+f.offset,none⟩)) w:=by
 simp[Instr.fieldAt,run_underlying e,d,Instr.sureAddr,fieldPlace,zAO g,zBj]
theorem zQV(off:Nat):∀(vs:JC)(j:Nat)(cells:JB),off+j+vs.length<=cells.size →
  ((vs.zipIdx j).foldl (λcs x=>cs.setIfInBounds (off+x.2) x.1) cells).toList=cells.toList.take (off+j)++vs++cells.toList.drop (off+j+vs.length)
 |[],j,cells,_=>by simp
 |v::vs,j,cells,h=>by
  simp only[List.zipIdx_cons,List.foldl_cons];rw[zQV off vs (j+1) _ (by simp at h⊢;omega)]
  have d:off+j<cells.toList.length:=by simp at h⊢;omega
  have e:off+j+(vs.length+1)<=cells.toList.length:=by simpa using h
  apply List.ext_getElem?;intro i;rw[zCF _ _ _ (by simp at h⊢;omega),zCF _ _ _ (by omega)]
  have c:(cells.setIfInBounds (off+j) v).toList=cells.toList.set (off+j) v:=by simp
  have b:(v::vs).length=vs.length+1:=rfl;rw[c,b];by_cases h1:i<off+j
  .rw[if_pos (by omega),if_pos h1,List.getElem?_set,if_neg (by omega)]
  .by_cases h2:i=off+j
   .subst h2;rw[if_pos (by omega),if_neg (by omega),if_pos (by omega),List.getElem?_set]
    simp
    simpa using d
   .rw[if_neg (by omega),if_neg h1]
    by_cases h3:i<off+j+1+vs.length
    .rw[if_pos (by omega),if_pos (by omega)]
     have:i-(off+j)=(i-(off+(j+1)))+1:=by omega
     rw[this,List.getElem?_cons_succ]
    .rw[if_neg (by omega),if_neg (by omega),List.getElem?_set,if_neg (by omega)]
theorem zNt{G:Cx}{fr:Fr}{a:Act}{nt:Nat}(u:FrR E w fr a nt)(o:GR G E w){place:Nat->Option (Nat×Nat)}:∀{p:List (Nat×Operand)}{j:List (Nat×Nat×XV)}{cs out:JE}{cells:JB},
  zDS place p=some j->zBe G fr cs j=some out->VRs E w cs cells.toList->(∀v∈cells.toList,v.oneCell'=true) →
  ∃b,Instr.fill place cells (p.map λ(i,x)=>(i,a.eval x))=some b/\VRs E w out b.toList/\(∀v∈b.toList,v.oneCell'=true)/\b.size=cells.size
 |[],j,cs,out,cells,h1,h2,h3,h4=>by
  simp[zDS]at h1;subst h1;simp[zBe]at h2;subst h2;exact⟨cells,rfl,h3,h4,rfl⟩
 |(i,x)::r,j,cs,out,cells,h1,h2,h3,h4=>by
  simp only[zDS]at h1;split at h1
  .rename_i off R y s L I M;cases h1;simp only[zBe]at h2;split at h2
   .rename_i v d;split at h2
    .rename_i new f;split at h2
     .rename_i m;have z:=QM m;have k:=zM u o I d;obtain⟨_,_,N,O,t,h⟩:=zHs k f;have n:=h3.1;have q:cs.length=cells.size:=by simpa using n
      have c:=zQV off (a.eval x).cells.toList 0 cells (by simp[h];omega)
      have g:(a.eval x).cells.zipIdx.foldl (λcs (x:Value×Nat)=>cs.setIfInBounds (off+x.2) x.1) cells=(((a.eval x).cells.toList.zipIdx 0).foldl (λcs x=>cs.setIfInBounds (off+x.2) x.1) cells):=by
       rw[←Array.foldl_toList,Array.toList_zipIdx]
      rw[Nat.add_zero]at c;have l:=CR.qm (CR.vb h3 h4) O t (off:=off) (by omega) (by simp[h];omega)
      have e:(cells.toList.take off++(a.eval x).cells.toList++cells.toList.drop (off+(a.eval x).cells.toList.length)).length=cells.size:=by simp[h];omega
      obtain⟨b,C,K,A,F⟩:=zNt u o (cells:=((a.eval x).cells.toList.zipIdx 0).foldl (λcs x=>cs.setIfInBounds (off+x.2) x.1) cells) M h2
       (by
        rw[c];refine⟨by rw[e];simp[qm,N];omega,λi x v J d=>?_⟩
        obtain⟨Q,B,S,D⟩:=l.2 i x J;rw[B]at d;cases d;exact D)
       (by
        rw[c];intro v d;rcases QI.1 d with d|d
        .rcases QI.1 d with d|d
         .exact h4 v (QO d)
         .exact t v d
        .exact h4 v (QX d))
      refine⟨b,?_,K,A,?_⟩
      .simp only[QZ,Instr.fill,L,h];rw[if_neg (by simp;omega),g]
       exact C
      .rw[F,←Array.length_toList,c,e]
     .cases h2
    .cases h2
   .cases h2
  .cases h1
end
section
variable{P:Program}{E:Env}{w:World}
theorem zSb(n:Nat)(z:JE):(rep n z).length=n*z.length:=by
 induction n with
 |zero=>simp[rep]
 |succ n b=>simp[rep,b,Nat.add_mul,Nat.add_comm]
theorem zO6(z:JE):∀(n i:Nat),i<n*z.length->(rep n z)[i]? = z[i % z.length]?
 |0,i,h=>by simp at h
 |n+1,i,h=>by
  simp only[rep];rw[List.getElem?_append];split
  .rename_i hi;rw[Nat.mod_eq_of_lt hi]
  .rename_i hi;have b:i-z.length<n*z.length:=by rw[Nat.add_mul]at h;omega
   rw[zO6 z n _ b];have:i=(i-z.length)+z.length:=by omega
   conv=>rhs;rw[this,Nat.add_mod_right]
theorem zRe{z:JE}{b:JB}(j:VRs E w z b.toList)(h1:∀v∈b.toList,v.oneCell'=true)(n:Nat):
  VRs E w (rep n z) (madeCells b (n*b.size)).toList/\∀v∈(madeCells b (n*b.size)).toList,v.oneCell'=true:=by
 have g:z.length=b.size:=by have:=j.1;simpa using this
 have key:∀(i:Nat),i<n*b.size->(madeCells b (n*b.size)).toList[i]? = b.toList[i % b.size]?:=λi hi=>by
  have d:0<b.size:=Nat.pos_of_ne_zero λh=>by rw[h]at hi;simp at hi
  have l:i % b.size<b.size:=Nat.mod_lt _ d;simp[madeCells,hi,l]
 have c:(madeCells b (n*b.size)).toList.length=n*b.size:=by rw[Array.length_toList,size_madeCells]
 refine⟨⟨by rw[zSb,g,c],λi x v k e=>?_⟩,λv e=>?_⟩
 .have hi:i<n*b.size:=by rw[←c];exact(QC.1 e).1
  rw[zO6 _ _ _ (by rw[g];exact hi),g]at k
  rw[key i hi]at e;exact j.2 _ x v k e
 .obtain⟨i,hi⟩:=List.getElem?_of_mem e;have f:i<n*b.size:=by rw[←c];exact(QC.1 hi).1
  rw[key i f]at hi;exact h1 v (QF hi)
theorem zS0{H:Heap}(g:HR E H w){nx:Nat}(b:¬E.D nx){cs:JE}{vs:JC}{e:TypeId}(d:VRs E w cs vs)(h1:∀v∈vs,v.oneCell'=true):
  ∃w',(newRow e vs.toArray).run P w=.ok ⟨w.heap.size,0,none⟩ w'/\w'.heap[w.heap.size]?=some (.cells vs.toArray e (0,0))/\HR (E.add nx w.heap.size) ((nx,.cells false cs)::H) w' ∧
   Tr E H w (E.add nx w.heap.size) ((nx,.cells false cs)::H) w' nx (nx+1):=by
 obtain⟨f,h⟩:=zO0 (st:=false) (e:=e) (c:=vs.toArray) g b (by simpa using CR.vb d h1)
 exact⟨_,by simp[newRow],zBV,f,h⟩
theorem zVS{nx b off:Nat}{w':World}:VR (E.add nx b) w' (.ptr nx off) (.pointer (some ⟨b,off,none⟩)):=by
 have:=VR.ptr (E:=E.add nx b) (w:=w') nx off (.inr rfl);rw[Env.qw]at this;exact this
theorem zVT{nx b len sz:Nat}{w':World}{c:JB}{e:TypeId}{f:Nat×Nat}(h:w'.heap[b]?=some (.cells c e f)){cp cap:Nat}{ex:Bool}(d:0<sz)(h1:len<=cap)(h2:cap<=zh)(h3:cap*sz<=c.size)(h4:cp<=cap)(g:ex=true->cap=cp):
  VR (E.add nx b) w' (.row nx 0 len sz cp ex) (.slice (some ⟨b,0,none⟩) len cap):=by
 have:=VR.row (E:=E.add nx b) (w:=w') nx 0 len sz cp cap ex (.inr rfl) h1 h2 d h4 g ⟨c,e,f,by rw[Env.qw];exact h,by omega⟩
 rw[Env.qw]at this;exact this
theorem zYQ{H:Heap}{nx sz:Nat}{e:TypeId}{v:AV}{cv:Value}{cs:JE}(g:HR E H w)(j:¬E.D nx)(i:VR E w v cv)(h:cellsOf v sz=some cs):
  zIl P (Instr.box e cv) E H w nx (.ptr nx 0) ((nx,.cells false cs)::H) (nx+1):=by
 obtain⟨_,_,_,h2,h3,_⟩:=zHs i h;obtain⟨c,d,k,b,f⟩:=zS0 (P:=P) (e:=e) g j h2 h3;exact⟨_,_,c,by simp only[Instr.box,newVar,Sem.run_bind];rw[show newRow e cv.cells=newRow e cv.cells.toList.toArray by simp,d];rfl,b,f,zVS⟩
theorem zWc{H:Heap}{nx:Nat}{e:TypeId}{cs:JE}(k:HR E H w)(l:¬E.D nx)(h:zDD P e=some cs):
  zIl P (Instr.alloc e true (.tuple #[])) E H w nx (.ptr nx 0) ((nx,.cells false cs)::H) (nx+1):=by
 obtain⟨i,z,hi,j,_,_,_,h2,h3⟩:=VR.zero (P:=P) (E:=E) (w:=w) (z:=.bool true) (v:=.bool true) (n:=0) h;obtain⟨d,f,m,c,g⟩:=zS0 (P:=P) (e:=e) k l h2 h3;refine⟨_,_,d,?_,c,g,zVS⟩
 have b:(zeroValue e).run P w=.ok z w:=by simp[zeroValue,typeInfo,hi,j]
 simp only[Instr.alloc,newVar,Sem.run_bind,b,Result.andThen_ok];rw[show newRow e z.cells=newRow e z.cells.toList.toArray by simp,f]
 rfl
theorem zUh{H:Heap}{nx l c sz bytes:Nat}{t e:TypeId}{kl kc:IntKind}{z:JE}(x:HR E H w)(A:¬E.D nx)(r:P.underlying t=some (.slice e))(y:zS P e=some sz)(hb:zJw P e=some bytes)(u:zDD P e=some z)
  (s:0<sz) (p:l<=c) (h:c*bytes<=zc) (b:c<=zc):
  zIl P (Instr.makeSlice t (.int kl (l:Int)) (.int kc (c:Int))) E H w nx (.row nx 0 l sz c true) ((nx,.cells false (rep c z))::H) (nx+1):=by
 obtain⟨i,j,hi,q,m,k,_,h2,h3⟩:=VR.zero (P:=P) (E:=E) (w:=w) (z:=.bool true) (v:=.bool true) (n:=0) u;have:i.size=sz:=by rw[y]at k;simpa using k.symm
 subst this;have o:i.bytes=bytes:=by unfold zJw at hb;rw[hi]at hb;simpa using hb
 subst o;obtain⟨m1,m2⟩:=zRe h2 h3 c;have g:=run_make (P:=P) w t e i j r hi q kl kc (l:Int) (c:Int) (by omega) (by omega) (by
  have:(i.bytes:Int)*(c:Int)=((c*i.bytes:Nat):Int):=by rw[Nat.mul_comm];simp
  rw[this];unfold zc at h;omega) (by unfold zc at b;omega)
 rw[Int.toNat_natCast,Int.toNat_natCast]at g;have d:=zO0 (st:=false) (e:=e) (c:=madeCells j.cells (c*j.cells.size)) x A (CR.vb m1 m2);rw[←m]at g;refine⟨_,_,_,g,d.1,d.2,?_⟩
 exact zVT (c:=madeCells j.cells (c*j.cells.size)) (e:=e) (f:=(0,0)) zBV s p (by unfold zc at b;unfold zh;omega) (by rw[size_madeCells,m];exact QB _) (QB _) (λ_=>rfl)
theorem zUT{G:Cx}{fr:Fr}{a:Act}{nt:Nat}(M:FrR E w fr a nt)(F:GR G E w){H:Heap}{nx len sz:Nat}{t e:TypeId}{z cs:JE}{m:List (Nat×Operand)}{u:List (Nat×Nat×XV)}(O:HR E H w)(T:¬E.D nx)
  (C:P.underlying t=some (.slice e)) (y:zS P e=some sz) (K:zDD P e=some z) (r:0<sz) (s:len*sz<=16777216)
  (L:zDS (λi=>some (i*sz,sz)) m=some u) (h:zBe G fr (rep len z) u=some cs):
  zIl P (Instr.buildSlice t len (m.map λ(i,x)=>(i,a.eval x)).toArray) E H w nx (.row nx 0 len sz len true) ((nx,.cells false cs)::H) (nx+1):=by
 obtain⟨i,g,hi,p,l,k,_,h2,h3⟩:=VR.zero (P:=P) (E:=E) (w:=w) (z:=.bool true) (v:=.bool true) (n:=0) K;have:i.size=sz:=by rw[y]at k;simpa using k.symm
 subst this;obtain⟨m1,m2⟩:=zRe h2 h3 len;obtain⟨b,q,R,A,I⟩:=zNt M F L h m1 m2;obtain⟨B,q1,U,J,N⟩:=zS0 (P:=P) (e:=e) O T R A;have f:¬(len*i.size > 2 ^ 24):=by omega
 have o:(zeroValue e).run P w=.ok g w:=by simp[zeroValue,typeInfo,hi,p]
 have Q:len<=len*i.size:=Nat.le_mul_of_pos_right _ r;refine⟨_,_,B,?_,J,N,zVT U r (QB _) (by unfold zh;omega) (by simp[I,size_madeCells,l]) (QB _) (λ_=>rfl)⟩
 have c:Instr.fill (λj=>some (j*i.size,i.size)) (madeCells g.cells (len*i.size)) (m.map λ(i,x)=>(i,a.eval x))=some b:=by rw[←l]at q⊢;exact q
 simp only[Instr.buildSlice,Sem.run_bind,run_underlying C,Result.andThen_ok,zAO y,if_neg f,Sem.run_ite];by_cases d:len*i.size=0
 .have S:madeCells g.cells (len*i.size)=(Array.range (len*i.size)).map ((#[]:JB)[· % (#[]:JB).size]!):=by
   rw[d];simp[madeCells,Array.range_zero']
  rw[if_pos d];simp only[Sem.run_pure,Result.andThen_ok];rw[←S,c];simp only[Sem.run_bind];rw[show newRow e b=newRow e b.toList.toArray by simp,q1]
  rfl
 .rw[if_neg d];simp only[Sem.run_bind,o,Result.andThen_ok,Sem.run_pure];rw[show(Array.range (len*i.size)).map (λx=>g.cells[x % g.cells.size]!)=madeCells g.cells (len*i.size)from rfl,c]
  simp only[Sem.run_bind];rw[show newRow e b=newRow e b.toList.toArray by simp,q1]
  rfl
theorem zYR{H:Heap}{nx:Nat}{s d e:TypeId}{l:JV}{r:Value}(t:HR E H w)(B:¬E.D nx)(hx:VR E w (.str l) r)(z:P.underlying s=some .string)(hd:P.underlying d=some (.slice e))(C:P.underlying e=some (.int .u8)):
  zIl P (convert s d r) E H w nx (.row nx 0 l.length 1 l.length false) ((nx,.cells true (l.map λb=>.int .u8 (.ofNat b)))::H) (nx+1):=by
 obtain⟨F,M,J,N,K,L,I⟩:=zDx (P:=P) (sz:=1) t hx (show content H 1 (.str l)=some (l.length,_)from rfl)
 obtain⟨c,rfl,hb,y⟩:=hx.wc;have m:=zI6 hb;have f:=run_bytes_of_string (P:=P) w s d e c z hd C;have g:=grownCap_ge w c.size 0 e;have n:=grownCap_le_maxLen w c.size 0 e (by rw[m];unfold zh at y;simp only[maxLen];omega)
 have k:(bytesRow c (grownCap w c.size 0 e)).size=grownCap w c.size 0 e:=by
  simp[bytesRow];have:c.data.size=c.size:=rfl;omega
 have q:CR E w (l.map λb=>AV.int .u8 (.ofNat b)) (bytesRow c (grownCap w c.size 0 e)).toList:=by
  refine⟨by simp[bytesRow,←hb],λi x hx=>?_⟩
  subst hb;simp only[Qb,Option.map_map]at hx;cases hc:c.data.toList[i]? with
  |none=>simp[hc]at hx
  |some b=>
   simp[hc]at hx;subst hx;have hi:i<c.data.toList.length:=(QC.1 hc).1;have u:=b.toNat_lt;refine⟨.int .u8 b.toNat,?_,rfl,.int _ _ (by constructor<;>simp[IntKind.min,IntKind.max,IntKind.signed,IntKind.bits]<;>omega)⟩
   simp only[bytesRow,Array.toList_append,Array.toList_map];rw[Qy (by simpa using hi),Qb,hc]
   rfl
 have j:=zKf t B (o:=.cells (bytesRow c (grownCap w c.size 0 e)) e ((bytesRow c (grownCap w c.size 0 e)).size,(bytesRow c (grownCap w c.size 0 e)).size+1))
  (ho:=.cells true (l.map λb=>.int .u8 (.ofNat b))) λw' p _ A=>(q.mono A).or (by rw[p];exact zBV) (.inr ⟨rfl,QB _⟩)
 obtain⟨d1,d2⟩:=zHT (w':=w.drew.alloc (.cells (bytesRow c (grownCap w c.size 0 e)) e ((bytesRow c (grownCap w c.size 0 e)).size,(bytesRow c (grownCap w c.size 0 e)).size+1))) j.1 ⟨rfl,rfl,rfl,rfl⟩ (nx+1);refine⟨_,_,_,f,d1,j.2.1.trans j.1 d2,?_⟩
 rw[m]at g n k f⊢;exact zVT zBV (by omega) g (by unfold zh;simp only[maxLen]at n;omega) (by rw[Nat.mul_one];exact Nat.le_of_eq k.symm) g (λh=>by cases h)
theorem zWd{H:Heap}{nx:Nat}{t:TypeId}(e:HR E H w)(d:¬E.D nx):zIl P (Instr.makeMap t none) E H w nx (.map nx) ((nx,.map [])::H) (nx+1):=by
 have b:=zKf e d (o:=.map #[] 0) (ho:=.map []) λg c _ f=>⟨#[],0,by rw[c];exact zBV,rfl,λi k x hi=>by simp at hi,λi j m n hi=>by simp at hi⟩
 refine⟨.map (some w.heap.size),_,_,by simp[Instr.makeMap],b.1,b.2.1,?_⟩
 have:=VR.map (E:=E.add nx w.heap.size) (w:={ w with heap:=w.heap.push (.map #[] 0) }) nx (.inr rfl)
 rw[Env.qw]at this;exact this
theorem zXs{H:Heap}{nx:Nat}{t:TypeId}{s:JV}{d:Value}(g:HR E H w)(f:¬E.D nx)(hx:VR E w (.str s) d)(h:P.underlying t=some .string):
  zIl P (Instr.range t d) E H w nx (.ptr nx 0) ((nx,.wx s 0)::H) (nx+1):=by
 obtain⟨e,rfl,i,l⟩:=hx.wc;have b:=zKf g f (o:=.stringIter e 0) (ho:=.wx s 0) λk c _ j=>⟨e,by rw[c];exact zBV,i⟩
 exact⟨_,_,_,by simp[Instr.range,run_underlying h],b.1,b.2.1,zVS⟩
theorem zQW{H:Heap}{nx:Nat}{ty:TypeId}{s:JV}{hd pos:Nat}{v:AV}{H':Heap}(p:HR E H w)(z:E.D hd)(i:H.get hd=some (.wx s pos))(k:s.length<=zh)
  (h:(pos<s.length/\∃b,rune s pos=some b/\v=.qd [.bool true,.int .i64 (.ofNat pos),.int .i32 (.ofNat b)]/\H'=H.put hd (.wx s (pos+1)))\/(¬pos<s.length/\v=.qd [.bool false]/\H'=H)):
  zIl P (Instr.next (.pointer (some ⟨E.ρ hd,0,none⟩)) true ty) E H w nx v H' nx:=by
 obtain⟨f,hb,q⟩:=p.obj _ (Heap.qj i);have y:=zI6 q;have l:(getObj (E.ρ hd)).run P w=.ok (.stringIter f pos) w:=by simp[getObj,Sem.run,hb]
 rcases h with⟨x,b,d,rfl,rfl⟩|⟨u,rfl,rfl⟩
 .have e:pos<f.size:=by omega
  obtain⟨t,s1,s2,s3,_⟩:=zE6 (P:=P) p i hb (λ_ _ _ h=>by cases h) (ob':=.stringIter f (pos+1)) (o':=.wx s (pos+1)) (λt r A=>⟨f,r,q⟩) nx
  unfold rune at d;cases hc:s[pos]? with
  |none=>simp[hc]at d
  |some c=>
   simp only[hc]at d;split at d
   .rename_i g;cases d;rw[Qi]at g;have j:(f[pos]'e).toNat=b:=by
     subst q;rw[Qb]at hc;have o:pos<f.data.toList.length:=e;rw[QD o]at hc;simp at hc;rw[←hc];rfl
    have m:=decode_ascii f pos e (by rw[j];exact g)
    refine⟨.tuple #[.bool true,.int .i64 pos,.int .i32 b],E,t,?_,s2,s3,?_⟩
    .simp[Instr.next,l,e,m,s1,j,goInt]
    .refine VR.qG (VRs.cons (.bool _) (VRs.cons (.int _ _ ?_) (VRs.cons (.int _ _ ?_) VRs.nil)))
     .unfold zh at k
      constructor<;>simp[IntKind.min,IntKind.max,IntKind.signed,IntKind.bits]<;>omega
     .constructor<;>simp[IntKind.min,IntKind.max,IntKind.signed,IntKind.bits]<;>omega
   .cases d
 .have n:¬pos<f.size:=by omega
  exact⟨.tuple #[.bool false],E,w,by simp[Instr.next,l,n],p,.refl _,VR.qG (VRs.cons (.bool _) VRs.nil)⟩
theorem zXt{H:Heap}{nx nx' sz:Nat}{d y v:AV}{cd B:Value}{H':Heap}{t u ty e:TypeId}(z:HR E H w)(hd:VR E w d cd)(S:VR E w y B)(A:P.underlying t=some (.slice e))(I:zS P e=some sz)(h0:0<sz)
  (h:zQz H nx d y sz=some (v,H',nx')):zIl P (Builtin.copy_ #[t,u] ty #[cd,B]) E H w nx v H' nx':=by
 unfold zQz at h;split at h
 .cases h
 .rename_i n X b;obtain⟨C,V,k2,T,k4,K,k6,k7⟩:=zDx (P:=P) z S b;have first:∀m,m<=n->(Builtin.firstCells sz m B).run P w=.ok (C.take (m*sz)).toArray w:=λm hm=>by
   rcases k7 with⟨a,c,rfl,g⟩|⟨s,rfl,D⟩
   .by_cases hz:n*sz=0
    .have hn:n=0:=by
      rcases Nat.eq_zero_or_pos n with h|h
      .exact h
      .have:=Nat.mul_pos h h0;omega
     have F:m=0:=by omega
     subst F;cases a<;>simp[Builtin.firstCells,loadCells,loadCellsFrom]
    .obtain⟨ad,rfl,hc⟩:=g hz;refine run_firstCells_some w sz m ad _ _ (C.take (m*sz)) (by
      rw[Qj,T];exact Nat.min_eq_left (Nat.mul_le_mul_right _ hm)) λj v x=>?_
     rw[List.getElem?_take]at x;split at x
     .exact hc j v x
     .cases x
   .have R:=k6 w rfl;simp only[Builtin.firstCells,Sem.run_pure]at R⊢;congr 1;have o:=congrArg (λr=>match r with|Result.ok a _=>a.toList|_=>[]) R
    simp only at o;rw[←D,ByteArray.extract_zero_size]at o;rw[←o];apply Array.ext';have:sz=1:=by
     cases S with
     |str l _ _ _=>
      cases hq:Nat.beq sz 1 with
      |true=>exact zb hq
      |false=>
       rw[show content H sz (.str l)=none by simp[content,hq]]at b
       cases b
     |sym i _ _ _=>simp[content]at b
    subst this;rw[Array.toList_map,Array.toList_map,ByteArray.data_extract,Array.toList_extract,List.extract_eq_take_drop,←List.map_take];simp
  split at h
  .cases h;cases hd;refine⟨.int .i64 0,E,w,?_,z,.refl _,.int _ _ (by constructor<;>simp[IntKind.min,IntKind.max,IntKind.signed,IntKind.bits])⟩
   have:=first 0 (QN _);simp[Builtin.copy_,run_underlying A,K,zAO I,this,goInt]
  .rename_i ab off len aa cp ex;split at h
   .cases h
   rename_i M;have:=zb M;subst this;split at h
   .rename_i st cs f;split at h
    .rename_i J;have Q:=QM J;cases h;have k:Nat.min n len<=n:=Nat.min_le_left _ _;have p:Nat.min n len<=len:=Nat.min_le_right _ _;have ac:Nat.min n len*sz<=n*sz:=Nat.mul_le_mul_right _ k;have W:Nat.min n len*sz<=len*sz:=Nat.mul_le_mul_right _ p;have L:VRs E w (X.take (Nat.min n len*sz)) (C.take (Nat.min n len*sz)):=by
      have:=V.extract 0 (Nat.min n len*sz)
      simpa using this
     have hint:has .i64 ((Nat.min n len:Nat):Int):=by
      unfold zh at k4
      constructor<;>simp only[IntKind.min,IntKind.max,IntKind.signed,IntKind.bits]<;>simp<;>omega
     cases hd with
     |wm _ _ _ _ a=>
      refine⟨.int .i64 ((Nat.min n 0:Nat):Int),E,w,?_,?_,?_,.int _ _ hint⟩
      .have:=first 0 (QN _);have q:Nat.min n 0=0:=Nat.min_zero _;simp only[Builtin.copy_,List.getElem?_toArray,List.getElem?_cons_zero,List.getElem?_cons_succ,Sem.run_bind,run_underlying A,Result.andThen_ok,K,zAO I,q,this];simp[storeCells,goInt]
      .have q:Nat.min n 0=0:=Nat.min_zero _;rw[q];simp only[Nat.zero_mul,List.take_zero,Nat.add_zero,zKg];rw[Heap.qt f];exact z
      .have q:Nat.min n 0=0:=Nat.min_zero _;rw[q];simp only[Nat.zero_mul,List.take_zero,Nat.add_zero,zKg];rw[Heap.qt f];exact .refl _
     |row _ _ _ _ _ cap _ hD O N U Y af ae=>
      obtain⟨w',r1,r2,r3⟩:=zG4 (P:=P) z f (off:=off) L (λv hv=>k2 v (QO hv)) (.inl (by
       have h9:X.length=n*sz:=by rw[V.1,T]
       rw[Qj,h9];omega)) nx
      refine⟨.int .i64 ((Nat.min n len:Nat):Int),E,w',?_,r2,r3,.int _ _ hint⟩
      have:=first _ k;simp only[Builtin.copy_,List.getElem?_toArray,List.getElem?_cons_zero,List.getElem?_cons_succ,Sem.run_bind,run_underlying A,Result.andThen_ok,K,zAO I,this,r1];rfl
    .cases h
   .cases h
  .cases h
end
def zFP(E:Env)(a b:Nat):Prop:=∀h,a<=h->h<b->¬E.D h
section
variable{P:Program}{G:Cx}{E:Env}{w:World}{fr:Fr}{a:Act}{nt:Nat}{H:Heap}{nx nx':Nat}{v:AV}{H':Heap}
theorem zAS.qZ{o:Oper}{s:Sem Value}(h:zIl P s E H w nx v H' nx')(c:∀r w',s.run P w=.ok r w'->(execOp a.eval o).run P w=.ok (.value r) w'):zAS P E H w nx (execOp a.eval o) v H' nx':=by
 obtain⟨d,b,w',h1,h2,h3,h4⟩:=h;exact⟨d,b,w',h2,h3,h4,.inl (c _ _ h1)⟩
theorem zAS.qq{o:Oper}{s:Sem Value}(c:HR E H w)(h:∃cv,s.run P w=.ok cv w/\VR E w v cv)(b:∀r w',s.run P w=.ok r w'->(execOp a.eval o).run P w=.ok (.value r) w'):zAS P E H w nx (execOp a.eval o) v H nx:=by
 obtain⟨cv,h1,h2⟩:=h;exact .pure c (b _ _ h1) h2
theorem zAS.vV{o:Oper}{s:Sem Unit}(h:∃w',s.run P w=.ok () w'/\HR E H' w'/\Tr E H w E H' w' nx nx)(b:∀w',s.run P w=.ok () w'->(execOp a.eval o).run P w=.ok .skip w'):zAS P E H w nx (execOp a.eval o) (.qd []) H' nx:=by
 obtain⟨w',h1,h2,h3⟩:=h;exact⟨undef,E,w',h2,h3,VR.qG VRs.nil,.inr ⟨b _ h1,rfl⟩⟩
theorem zFQ(d:FrR E w fr a nt)(e:GR G E w){x:Option Operand}{y:Option XV}{u:JF}(hc:zKF x=some y)(b:evo G fr y=some u):OV E w u (x.map a.eval):=by
 cases x with
 |none=>
  simp[zKF]at hc;subst hc;simp[evo]at b;subst b
  trivial
 |some x=>
  simp only[zKF]at hc;split at hc
  .rename_i z f;cases hc;simp only[evo]at b;split at b
   .rename_i av c;cases b;exact zM d e f c
   .cases b
  .cases hc
theorem VR.uK{x:AV}{b:Value}(h:VR E w x b)(h1:∀k n,x≠.int k n)(h2:∀l,x≠.str l)(c:∀i,x≠.sym i):(∀k n,b≠.int k n)/\(∀k n,b≠.float k n)/\(∀k n m,b≠.complex k n m)/\∀s,b≠.string s:=by
 cases h<;>first
  |(exact absurd rfl (h1 _ _))
  |(exact absurd rfl (h2 _))
  |(exact absurd rfl (c _))
  |(refine⟨?_,?_,?_,?_⟩<;>intros<;>intro h<;>cases h)
theorem zbD{t:TypeId}{x:AV}{c d:Value}{b:Bool}(hx:VR E w x c)(h1:∀k n,x≠.int k n)(h2:∀l,x≠.str l)(g:∀i,x≠.sym i)(h:(Op.equalIn 10000 t c d).run P w=.ok b w):
  (binOp .eql t c d).run P w=.ok (.bool b) w/\(binOp .neq t c d).run P w=.ok (.bool (!b)) w:=by
 obtain⟨q1,m,e,f⟩:=hx.uK h1 h2 g;exact zYO h (λj a k b h=>q1 _ _ h.1) (λj a k b h=>m _ _ h.1) (λj a p k b o h=>e _ _ _ h.1) (λa b h=>f _ h.1)
theorem zUU{o:Oper}{op:BinOp}{t u:TypeId}{x y:Operand}(ho:o.op=.binOp op t x y u){r:Value}(b:(eqGuard op t x y (a.eval x) (a.eval y)).run P w=.ok () w)(h:(binOp op t (a.eval x) (a.eval y)).run P w=.ok r w):
  (execOp a.eval o).run P w=.ok (.value r) w:=by
 simp only[execOp,ho,Sem.run_bind,b,Result.andThen_ok,h,Sem.run_pure]
theorem zWe{op:BinOp}{t:TypeId}{x y:Operand}{b c:Value}(h1:op≠.eql)(h2:op≠.neq):(eqGuard op t x y b c).run P w=.ok () w:=by
 cases op<;>first|exact absurd rfl h1|exact absurd rfl h2|rfl
theorem zQX{op:BinOp}{t:TypeId}{d e:Operand}{b f:Value}(h1:∀u,b≠.agg u)(h2:b=.nilIface->f=.nilIface->(zBi d||zBi e)=true):(eqGuard op t d e b f).run P w=.ok () w:=by
 by_cases c:op=.eql
 .subst c;exact zYG h1 h2
 .by_cases g:op=.neq
  .subst g;exact zYH h1 h2
  .exact zWe c g
theorem VR.um{x:AV}{b:Value}(h:VR E w x b)(h1:∀c,x≠.agg c):∀u,b≠.agg u:=by
 intro u hu;subst hu;cases h with
 |agg d _ _ _ _=>exact h1 d rfl
 |sym i _ _ h2=>simp[Value.oneCell']at h2
theorem VR.vE{x:AV}{b:Value}(h:VR E w x b)(h1:x≠.qe)(c:∀i,x≠.sym i):b≠.nilIface:=by
 cases h<;>first|(exact absurd rfl h1)|(exact absurd rfl (c _))|(intro hu;cases hu)
theorem zTE{o:Oper}{op:BinOp}{t u:TypeId}{x y:Operand}{neg b:Bool}(c:HR E H w)(ho:o.op=.binOp op t x y u)
  (h1:(binOp .eql t (a.eval x) (a.eval y)).run P w=.ok (.bool b) w/\(binOp .neq t (a.eval x) (a.eval y)).run P w=.ok (.bool (!b)) w) (h2:(neg=false/\op=.eql)\/(neg=true/\op=.neq))
  (h3:(eqGuard op t x y (a.eval x) (a.eval y)).run P w=.ok () w):zAS P E H w nx (execOp a.eval o) (zCk neg b) H nx:=by
 have h:=zaq (P:=P) (E:=E) h1 h2;exact h.elim λd r=>.pure c (zUU ho h3 r.1) r.2
theorem zXu{o:Oper}{op:BinOp}{t u:TypeId}{x y:Operand}{p q:AV}(d:HR E H w)(ho:o.op=.binOp op t x y u)(h1:VR E w p (a.eval x))(h2:VR E w q (a.eval y))(h3:zEo op p q=some v):
  zAS P E H w nx (execOp a.eval o) v H nx:=by
 obtain⟨g,b,f⟩:=zYF (P:=P) (t:=t) h1 h2 h3;refine .pure d (zUU ho (zQX ?_ ?_) b) f
 .refine h1.um λc hc=>?_
  subst hc;simp[zEo]at h3
 .intro e;refine absurd e (h1.vE (λhc=>?_) λi hc=>?_)
  .subst hc;simp[zEo]at h3
  .subst hc;simp[zEo]at h3
theorem zE8{o:Oper}{op:BinOp}{t u:TypeId}{x y:Operand}{p:AV}{neg b:Bool}(j:HR E H w)(ho:o.op=.binOp op t x y u)(h1:VR E w p (a.eval x))(h2:∀k n,p≠.int k n)(h3:∀l,p≠.str l)(h4:∀c,p≠.agg c)(f:∀i,p≠.sym i)
  (h:p=.qe->a.eval y=.nilIface->(zBi x||zBi y)=true) (q:(Op.equalIn 10000 t (a.eval x) (a.eval y)).run P w=.ok b w) (g:(neg=false/\op=.eql)\/(neg=true/\op=.neq)):
  zAS P E H w nx (execOp a.eval o) (zCk neg b) H nx:=by
 refine zTE j ho (zbD h1 h2 h3 f q) g (zQX (h1.um h4) λm d=>?_)
 by_cases e:p=.qe
 .exact h e d
 .exact absurd m (h1.vE e f)
theorem zar{o:Oper}{op:BinOp}{t u:TypeId}{x y:Operand}{p q:JE}{d:List Kd}{neg b:Bool}(B:HR E H w)(ho:o.op=.binOp op t x y u)(h1:VR E w (.agg p) (a.eval x))(h2:VR E w (.agg q) (a.eval y))(r:zBI P 6 t=some d)
  (e:agT P t=some true) (z:P.eqGuardType P.depth t=false) (h:eqs d p q=some b) (A:(neg=false/\op=.eql)\/(neg=true/\op=.neq)):zAS P E H w nx (execOp a.eval o) (zCk neg b) H nx:=by
 obtain⟨j,m,q1,_⟩:=h1.qY;obtain⟨l,k,n,_⟩:=h2.qY;have g:p.length=d.length/\q.length=d.length/\zCl d p q=some b:=by
  unfold eqs at h;split at h
  .rename_i D F;exact⟨zb D,zb F,h⟩
  .cases h
 have C:=zJo (P:=P) (E:=E) (w:=w) r 9994 j.toList l.toList p q (a.eval x) (a.eval y) b q1 n (.inl ⟨e,by rw[m]⟩) (.inl ⟨e,by rw[k]⟩) (by rw[←q1.1];exact g.1) (by rw[←n.1];exact g.2.1) g.2.2
 refine zTE B ho (zbD h1 (λ_ _ h=>by cases h) (λ_ h=>by cases h) (λ_ h=>by cases h) C) A ?_
 rw[m,k];exact run_eqGuard_agg w op t x y j l z
theorem zas(C:HR E H w)(Q:FrR E w fr a nt)(O:GR G E w){o:Oper}{op:BinOp}{t u:TypeId}{x y:Operand}{g:XO}{call:Sy.Call}(ho:o.op=.binOp op t x y u)(hc:zWv P op t x y=some g)
  (h:xoS G call fr H nx g=some (v,H',nx')):zAS P E H w nx (execOp a.eval o) v H' nx':=by
 obtain⟨B,N,hc⟩:=za hc;obtain⟨D,J,hc⟩:=za hc;have i:∀{p:AV},B.ev G fr=some p->VR E w p (a.eval x):=λh=>zM Q O N h
 have j:∀{p:AV},D.ev G fr=some p->VR E w p (a.eval y):=λh=>zM Q O J h
 have A:g=.bin op B D->zAS P E H w nx (execOp a.eval o) v H' nx':=by
  intro e;rw[e]at h;simp only[xoS]at h;split at h
  .rename_i p q s l;split at h
   .rename_i r I;cases h;exact zXu C ho (i s) (j l) I
   .cases h
  .cases h
 split at hc
 .cases hc;exact A rfl
 .cases hc;exact A rfl
 .rename_i f;have key:∀{neg:Bool},g=.beq neg B D->((neg=false/\op=.eql)\/(neg=true/\op=.neq))->zAS P E H w nx (execOp a.eval o) v H' nx':=by
   intro neg e z;rw[e]at h;simp only[xoS]at h;split at h
   .rename_i p q s l;cases h;have h1:=i s;have h2:=j l;have U:=h1.of_bool;have T:=h2.of_bool;exact zE8 C ho h1 (λ_ _ h=>by cases h) (λ_ h=>by cases h) (λ_ h=>by cases h) (λ_ h=>by cases h) (λh=>by cases h) (by rw[U,T];exact run_equalIn_bool w 9999 t p q f) z
   .cases h
  split at hc
  .cases hc;exact key rfl (.inl ⟨rfl,rfl⟩)
  .cases hc;exact key rfl (.inr ⟨rfl,rfl⟩)
  .cases hc
 .rename_i e f;have key:∀{neg:Bool}{n:Nat},zS P e=some (n+1)->g=.ui neg B D->((neg=false/\op=.eql)\/(neg=true/\op=.neq))->zAS P E H w nx (execOp a.eval o) v H' nx':=by
   intro neg n K e z;rw[e]at h;simp only[xoS]at h;split at h
   .rename_i p q s l;split at h
    .rename_i b hb;cases h;have h1:=i s;refine zE8 C ho h1 ?_ ?_ ?_ ?_ ?_ (zYN (d:=9999) C h1 (j l) hb f K) z
     .intro _ _ c;subst c;simp[zOh]at hb
     .intro _ c;subst c;simp[zOh]at hb
     .intro _ c;subst c;simp[zOh]at hb
     .intro _ c;subst c;simp[zOh]at hb
     .intro c;subst c;simp[zOh]at hb
    .cases h
   .cases h
  split at hc
  .split at hc
   .cases hc
   .rename_i m F L;cases m with
    |zero=>exact absurd rfl F
    |succ m=>cases hc;exact key L rfl (.inl ⟨rfl,rfl⟩)
   .cases hc
  .split at hc
   .cases hc
   .rename_i m F L;cases m with
    |zero=>exact absurd rfl F
    |succ m=>cases hc;exact key L rfl (.inr ⟨rfl,rfl⟩)
   .cases hc
  .cases hc
 .rename_i X f;split at hc
  .rename_i R S l;have key:∀{neg:Bool},g=.wG neg R B D->((neg=false/\op=.eql)\/(neg=true/\op=.neq))->zAS P E H w nx (execOp a.eval o) v H' nx':=by
    intro neg e z;rw[e]at h;simp only[xoS]at h;split at h
    .rename_i p q s M;split at h
     .rename_i b hb;cases h;exact zar C ho (i s) (j M) S (by simp[agT,f]) l hb z
     .cases h
    .cases h
   split at hc
   .cases hc;exact key rfl (.inl ⟨rfl,rfl⟩)
   .cases hc;exact key rfl (.inr ⟨rfl,rfl⟩)
   .cases hc
  .cases hc
 .rename_i V f;have key:∀{neg:Bool},g=.vZ neg (zBi x||zBi y) (zQc P) B D->((neg=false/\op=.eql)\/(neg=true/\op=.neq))->zAS P E H w nx (execOp a.eval o) v H' nx':=by
   intro neg e z;rw[e]at h;simp only[xoS]at h;split at h
   .rename_i p q s l;split at h
    .rename_i b hb;cases h;have h1:=i s;have h2:=j l;refine zE8 C ho h1 ?_ ?_ ?_ ?_ ?_ (zUg (d:=9998) h1 h2 hb f) z
     .intro _ _ c;subst c;simp[zLz]at hb
     .intro _ c;subst c;simp[zLz]at hb
     .intro _ c;subst c;simp[zLz]at hb
     .intro _ c;subst c;simp[zLz]at hb
     .intro c K;subst c;rw[K]at h2;cases h2
      case qe=>
       simp only[zLz]at hb;split at hb
       .assumption
       .cases hb
      case sym=>simp[zLz]at hb
    .cases h
   .cases h
  split at hc
  .cases hc;exact key rfl (.inl ⟨rfl,rfl⟩)
  .cases hc;exact key rfl (.inr ⟨rfl,rfl⟩)
  .cases hc
 .rename_i e f;have key:∀{neg:Bool},g=.seq neg B D->((neg=false/\op=.eql)\/(neg=true/\op=.neq))->zAS P E H w nx (execOp a.eval o) v H' nx':=by
   intro neg e z;rw[e]at h;simp only[xoS]at h;split at h
   .rename_i p q s l;split at h
    .rename_i b hb;cases h;have h1:=i s;refine zE8 C ho h1 ?_ ?_ ?_ ?_ ?_ (zUf (d:=9999) h1 (j l) hb f) z
     .intro _ _ c;subst c;simp[zLA]at hb
     .intro _ c;subst c;simp[zLA]at hb
     .intro _ c;subst c;simp[zLA]at hb
     .intro _ c;subst c;simp[zLA]at hb
     .intro c;subst c;simp[zLA]at hb
    .cases h
   .cases h
  split at hc
  .cases hc;exact key rfl (.inl ⟨rfl,rfl⟩)
  .cases hc;exact key rfl (.inr ⟨rfl,rfl⟩)
  .cases hc
 .rename_i k e f;have key:∀{neg:Bool},g=.ur neg B D->((neg=false/\op=.eql)\/(neg=true/\op=.neq))->zAS P E H w nx (execOp a.eval o) v H' nx':=by
   intro neg e z;rw[e]at h;simp only[xoS]at h;split at h
   .rename_i p q s l;split at h
    .rename_i b hb;cases h;have h1:=i s;refine zE8 C ho h1 ?_ ?_ ?_ ?_ ?_ (zV8 (d:=9999) h1 (j l) hb f) z
     .intro _ _ c;subst c;simp[zOi]at hb
     .intro _ c;subst c;simp[zOi]at hb
     .intro _ c;subst c;simp[zOi]at hb
     .intro _ c;subst c;simp[zOi]at hb
     .intro c;subst c;simp[zOi]at hb
    .cases h
   .cases h
  split at hc
  .cases hc;exact key rfl (.inl ⟨rfl,rfl⟩)
  .cases hc;exact key rfl (.inr ⟨rfl,rfl⟩)
  .cases hc
 .rename_i pp W Y f;have key:∀{neg:Bool},g=.uq neg B D->((neg=false/\op=.eql)\/(neg=true/\op=.neq))->zAS P E H w nx (execOp a.eval o) v H' nx':=by
   intro neg e z;rw[e]at h;simp only[xoS]at h;split at h
   .rename_i p q s l;split at h
    .rename_i b hb;cases h;have h1:=i s;refine zE8 C ho h1 ?_ ?_ ?_ ?_ ?_ (zUP (d:=9999) h1 (j l) hb f) z
     .intro _ _ c;subst c;simp[zOj]at hb
     .intro _ c;subst c;simp[zOj]at hb
     .intro _ c;subst c;simp[zOj]at hb
     .intro _ c;subst c;simp[zOj]at hb
     .intro c;subst c;simp[zOj]at hb
    .cases h
   .cases h
  split at hc
  .cases hc;exact key rfl (.inl ⟨rfl,rfl⟩)
  .cases hc;exact key rfl (.inr ⟨rfl,rfl⟩)
  .cases hc
 .cases hc
end
section
variable{P:Program}{G:Cx}{E:Env}{w:World}{fr:Fr}{a:Act}{nt:Nat}{H:Heap}{nx:Nat}
theorem zYS{h:Nat}{st:Bool}{cs:JE}(s:HR E H w)(p:H.get h=some (.cells st cs))(off a:Nat):
  ∃w',(markStringish ⟨E.ρ h,off,none⟩).run P w=.ok () w'/\HR E (H.put h (.cells true cs)) w'/\Tr E H w E (H.put h (.cells true cs)) w' a a:=by
 obtain⟨c,e,f,hb,u,m⟩:=CR.ve (s.obj _ (Heap.qj p));obtain⟨g,l,k⟩:∃g:Nat×Nat,(w.freeze ⟨E.ρ h,c.size,none⟩ 1).heap=w.heap.setIfInBounds (E.ρ h) (.cells c e g)/\c.size<=g.1:=by
  obtain⟨o,hi⟩:=f;refine⟨if o==hi then(c.size,c.size+1)else(min o c.size,max hi (c.size+1)),?_,?_⟩
  .apply Array.ext_getElem?;intro i;simp only[World.freeze,Nat.one_ne_zero,if_false,Array.getElem?_modify,Array.getElem?_setIfInBounds];have n:w.heap[E.ρ h]?=some (Obj.cells c e (o,hi)):=hb;obtain⟨b,d⟩:=Array.getElem?_eq_some_iff.1 n;by_cases t:E.ρ h=i
   .subst t;simp[d,b]
   .simp[t]
  .split
   .exact QB _
   .rename_i j;rcases u with h1|⟨_,h1⟩
    .simp only at h1;subst h1;simp at j
    .simp only at h1⊢;omega
 have b:=(Array.getElem?_eq_some_iff.1 hb).1;have r:(w.freeze ⟨E.ρ h,c.size,none⟩ 1).heap[E.ρ h]?=some (.cells c e g):=by rw[l,Array.getElem?_setIfInBounds,if_pos rfl,if_pos b]
 have q:∀x,x≠E.ρ h->(w.freeze ⟨E.ρ h,c.size,none⟩ 1).heap[x]? = w.heap[x]?:=λx y=>by rw[l,Array.getElem?_setIfInBounds,if_neg (Ne.symm y)]
 have A:=zAw.uj hb r rfl q;obtain⟨m1,m2,_⟩:=zMs s p (w':=w.freeze ⟨E.ρ h,c.size,none⟩ 1) rfl rfl rfl (by rw[l,Array.size_setIfInBounds]) q A (o':=.cells true cs) (λz=>CR.or (m.mono z) r (.inr ⟨rfl,k⟩)) a
 refine⟨_,?_,m1,m2⟩
 simp[markStringish,World.shape?,hb]
theorem zYT(C:HR E H w)(hf:FrR E w fr a nt)(hg:GR G E w){v:AV}{H':Heap}{nx':Nat}{o:Oper}{s d:TypeId}{x:Operand}{R:XO}{call:Sy.Call}(ho:o.op=.convert s d x)(hc:zUL P s d x=some R)
  (ah:zFP E nx nx') (h:xoS G call fr H nx R=some (v,H',nx')):zAS P E H w nx (execOp a.eval o) v H' nx':=by
 obtain⟨ax,af,hc⟩:=za hc;have D:∀{p:AV},ax.ev G fr=some p->VR E w p (a.eval x):=λh=>zM hf hg af h
 have O:∀r Q,(convert s d (a.eval x)).run P w=.ok r Q->(execOp a.eval o).run P w=.ok (.value r) Q:=λr Q h=>by simp only[execOp,ho,Sem.run_bind,h,Result.andThen_ok,Sem.run_pure]
 split at hc
 .rename_i U Y h1 h2;cases hc;simp only[xoS]at h;split at h
  .rename_i k n hn;cases h;obtain⟨u,_⟩:=(D hn).of_int;refine .qq (s:=convert s d (a.eval x)) C ?_ O
   rw[u];exact zKH (by simp[convert,run_underlying h1,run_underlying h2,Conv.intToInt])
  .cases h
 .rename_i h1 h2;cases hc;simp only[xoS]at h;split at h
  .rename_i l f;cases h;obtain⟨j,u,hs,hb⟩:=(D f).wc;refine .qq (s:=convert s d (a.eval x)) C ⟨.string j,?_,.str _ _ hs hb⟩ O
   rw[u];simp[convert,run_underlying h1,run_underlying h2]
  .cases h
 .rename_i e h1 h2;split at hc
  .rename_i h3;cases hc;simp only[xoS]at h;split at h
   .rename_i l f;cases h;exact .qZ (zYR (P:=P) C (ah nx (QB _) (by omega)) (D f) h1 h2 h3) O
   .cases h
  .cases hc
 .rename_i e h1 h2;split at hc
  .rename_i h3;cases hc;simp only[xoS]at h;split at h
   .cases h
   .rename_i y ai hy;split at h
    .rename_i m B ae;split at h
     .rename_i l f;cases h;obtain⟨I,U,Y,T,k4,k5,k6,k7⟩:=zDx (P:=P) C (D hy) ae;have bytes:∀{B:JE}{l:JV}{I:JC},zAr B=some l->VRs E w B I->∃j:List UInt8,I=j.map (λb=>Value.int .u8 b.toNat)/\j.map UInt8.toNat=l:=by
       intro B
       induction B with
       |nil=>
        intro l I f F;simp[zAr]at f;subst f;rw[F.of_nil];exact⟨[],rfl,rfl⟩
       |cons c B ih=>
        intro l I f F;obtain⟨v,aq,rfl,aa,ag⟩:=F.of_cons;unfold zAr at f;split at f
        .rename_i S;cases S
        rotate_left
        .cases f
        rename_i b r S;cases S;split at f
        .rename_i l' aj;cases f;obtain⟨j,rfl,rfl⟩:=ih aj ag;obtain⟨rfl,hb⟩:=aa.of_int;have we:b<=255:=by
          have:=hb.2;simp[IntKind.max,IntKind.signed,IntKind.bits]at this;omega
         have M:(UInt8.ofNat b).toNat=b:=by simp;omega
         exact⟨UInt8.ofNat b::j,by simp[M],by simp[M]⟩
        .cases f
      obtain⟨j,rfl,rfl⟩:=bytes f U;refine .qq (s:=convert s d (a.eval x)) C ?_ O
      have g:j.length<=zh:=by simp at T;omega
      rcases k7 with⟨N,c,u,ab⟩|⟨bb,u,_⟩
      .rw[u]at k6⊢;have t:=run_convert_bytes_string (P:=P) w s d e N m c h1 h3 h2;rw[t];cases N with
       |none=>
        have q:=k6 w rfl;have ac:j=[]:=by
         simp only[Builtin.firstCells,Sem.run_pure,Result.ok.injEq,and_true]at q;have:=congrArg Array.size q;simp at this;exact List.eq_nil_of_length_eq_zero (by simpa using this.symm)
        subst ac;exact⟨.string .empty,by simp[Conv.bytesToString],.str _ _ rfl (by simp)⟩
       |some N=>
        have q:=k6 w rfl;simp only[Builtin.firstCells,Nat.mul_one]at q;have:=run_bytesToString (P:=P) w N m c (j.map λb=>(b.toNat:Int)) (by rw[q];simp[Function.comp_def])
        rw[foldl_push_byteCells]at this;refine⟨_,this,.str _ _ ?_ (by simpa using g)⟩
        show((#[]:Array UInt8)++j.toArray).toList.map UInt8.toNat=_
        simp
      .have hx:=D hy;rw[u]at hx;cases hx with
       |str l _ _ _=>exact absurd rfl (ai l)
       |sym i _ _ _=>simp[content]at *
     .cases h
    .cases h
   .cases h
  .cases hc
 .rename_i S e h1 h2;split at hc
  .rename_i A;have A:=zb A;split at hc
   .rename_i h3;cases hc;simp only[xoS]at h;split at h
    .rename_i hd off len sz cp ex f;split at h
     .rename_i L;have z:0<len:=by simpa[Qi]using L
      split at h
      .rename_i st B K;cases h;have F:=D f;obtain⟨Q,U,Y,T⟩:=zYS (P:=P) C K off nx;generalize W:a.eval x=cx at F;cases F with
       |wm _ _ _ _ N=>exact absurd z (Nat.lt_irrefl _)
       |row _ _ _ _ _ cap _ hD g J X V ak hb=>
        refine .qZ (s:=convert s d (a.eval x)) ⟨.slice (some ⟨E.ρ hd,off,none⟩) len cap,E,Q,?_,Y,T,?_⟩ O
        .rw[W];have ao:(s==d)=true:=by rw[A];simp
         simp[convert,run_underlying h1,run_underlying h2,run_underlying h3,ao,U]
        .exact T.vr C (.row _ _ _ _ _ cap _ hD g J X V ak hb)
      .cases h
     .cases h
    .cases h
   .cases hc
  .cases hc
 .cases hc
end
section
variable{P:Program}{G:Cx}{E:Env}{w:World}{fr:Fr}{a:Act}{nt:Nat}{H:Heap}{nx:Nat}
theorem zCt{o:Oper}{b:Builtin}{args:Array Operand}{ts:Array TypeId}(ho:o.op=.call { callee:=.builtin b,args:=args,argTypes:=ts }):
  (execOp a.eval o)=(builtin b ts o.type (args.map λ|.const _=>true|_=>false) (args.map a.eval)):=by
 simp only[execOp,ho,resolve,invoke];rfl
theorem zHW{α:Type}{l:Array α}{x:α}(h:l.toList=[x]):l=#[x]:=by cases l;simp_all
theorem zC0{α:Type}{l:Array α}{x y:α}(h:l.toList=[x,y]):l=#[x,y]:=by cases l;simp_all
theorem zKJ{n:Nat}(h:n<=zh):has .i64 (n:Int):=by
 unfold zh at h
 constructor<;>simp[IntKind.min,IntKind.max,IntKind.signed,IntKind.bits]<;>omega
theorem zO7(L:HR E H w)(T:FrR E w fr a nt)(S:GR G E w){v:AV}{H':Heap}{nx':Nat}{o:Oper}{b:Builtin}{args:Array Operand}{ts:Array TypeId}{aa:XO}{call:Sy.Call}
  (ho:o.op=.call { callee:=.builtin b,args:=args,argTypes:=ts }) (hc:zMt P b args.toList ts.toList=some aa)
  (bf:zFP E nx nx') (h:xoS G call fr H nx aa=some (v,H',nx')):zAS P E H w nx (execOp a.eval o) v H' nx':=by
 unfold zMt at hc;split at hc
 ·
  rename_i x t C B;have C:=zHW C;have B:=zHW B;subst C;subst B;obtain⟨W,I,hc⟩:=za hc;have U:∀{p:AV},W.ev G fr=some p->VR E w p (a.eval x):=λh=>zM T S I h
  have J:∀r A,(Builtin.len_ #[t] o.type #[a.eval x]).run P w=.ok r A->(execOp a.eval o).run P w=.ok (.value r) A:=λr A h=>by rw[zCt ho];simp[builtin,h]
  have fixed:∀{n:Nat},n<=zh->aa=.w7 n->(Builtin.len_ #[t] o.type #[a.eval x]).run P w=.ok (.int .i64 n) w->zAS P E H w nx (execOp a.eval o) v H' nx':=by
   intro n hn e h1;rw[e]at h;cases h;exact .qq L ⟨_,h1,.int _ _ (zKJ hn)⟩ J
  split at hc
  .rename_i d;cases hc;simp only[xoS]at h;split at h
   .rename_i l K;cases h;obtain⟨bs,N,Y,hb⟩:=(U K).wc;refine .qq (s:=Builtin.len_ #[t] o.type #[a.eval x]) L ⟨.int .i64 (l.length:Int),?_,.int _ _ (zKJ hb)⟩ J
    rw[N];simp[Builtin.len_,run_underlying d,goInt,zI6 Y]
   .cases h
  .rename_i e d;cases hc;simp only[xoS]at h;have fin:∀{n c:Nat}{ad:Option Addr},a.eval x=.slice ad n c->n<=zh->v=.int .i64 (n:Int)->H'=H->nx'=nx->zAS P E H w nx (execOp a.eval o) v H' nx':=by
    intro n c ad N hn e2 e3 e4;rw[e2,e3,e4];refine .qq (s:=Builtin.len_ #[t] o.type #[a.eval x]) L ⟨.int .i64 (n:Int),?_,.int _ _ (zKJ hn)⟩ J
    rw[N];simp[Builtin.len_,run_underlying d,goInt]
   split at h
   .rename_i K;cases h;have F:=U K;generalize a.eval x=X at *;cases F;exact fin rfl (QN _) rfl rfl rfl
   .rename_i z es K;cases h;have F:=U K;generalize g:a.eval x=X at F;cases F with
    |wj _ ad c hc=>exact fin g (QN _) rfl rfl rfl
    |qf _ b o' cap _ f hz R bu bt bn hc=>exact fin g (by omega) rfl rfl rfl
   .rename_i hd off len sz cp ex K;cases h;have F:=U K;generalize g:a.eval x=X at F;cases F with
    |wm _ _ _ _ ad=>exact fin g (QN _) rfl rfl rfl
    |row _ _ _ _ _ cap _ hD M R ab af ae aw=>exact fin g (by omega) rfl rfl rfl
   .cases h
  .rename_i k e d;cases hc;simp only[xoS]at h;split at h
   .rename_i K;cases h;have F:=U K;generalize g:a.eval x=X at F;cases F;refine .qq (s:=Builtin.len_ #[t] o.type #[a.eval x]) L ⟨.int .i64 0,?_,.int _ _ (zKJ (n:=0) (QN _))⟩ J
    rw[g];simp[Builtin.len_,run_underlying d,goInt]
   .rename_i hd K;split at h
    .rename_i es D;split at h
     .rename_i O;cases h;obtain⟨N,hD⟩:=(U K).of_map;obtain⟨c,clock,hb,M,_,_⟩:=L.obj _ (Heap.qj D);have ac:(getObj (E.ρ hd)).run P w=.ok (.map c clock) w:=by simp[getObj,Sem.run,hb]
      refine .qq (s:=Builtin.len_ #[t] o.type #[a.eval x]) L ⟨.int .i64 (es.length:Int),?_,.int _ _ (zKJ (QM O))⟩ J
      rw[N];simp[Builtin.len_,run_underlying d,goInt,ac,M]
     .cases h
    .cases h
   .cases h
  .rename_i n e d;split at hc
   .rename_i O;cases hc;exact fixed (QM O) rfl (by simp[Builtin.len_,run_underlying d,goInt])
   .cases hc
  .rename_i e d;split at hc
   .rename_i n e' bk;split at hc
    .rename_i O;cases hc;exact fixed (QM O) rfl (by simp[Builtin.len_,run_underlying d,run_underlying bk,goInt])
    .cases hc
   .cases hc
  .cases hc
 ·
  rename_i x t C B;have C:=zHW C;have B:=zHW B;subst C;subst B;obtain⟨W,I,hc⟩:=za hc;have U:∀{p:AV},W.ev G fr=some p->VR E w p (a.eval x):=λh=>zM T S I h
  have J:∀r A,(Builtin.cap_ #[t] o.type #[a.eval x]).run P w=.ok r A->(execOp a.eval o).run P w=.ok (.value r) A:=λr A h=>by rw[zCt ho];simp[builtin,h]
  split at hc
  .rename_i e d;cases hc;have fin:∀{n c:Nat}{ad:Option Addr},a.eval x=.slice ad n c->c<=zh->zAS P E H w nx (execOp a.eval o) (.int .i64 (c:Int)) H nx:=by
    intro n c ad N hn;refine .qq (s:=Builtin.cap_ #[t] o.type #[a.eval x]) L ⟨.int .i64 (c:Int),?_,.int _ _ (zKJ hn)⟩ J
    rw[N];simp[Builtin.cap_,run_underlying d,goInt]
   simp only[xoS]at h;split at h
   .rename_i K;cases h;have F:=U K;generalize g:a.eval x=X at F;cases F;exact fin g (QN _)
   .rename_i hd off len sz cp K;cases h;have F:=U K;generalize g:a.eval x=X at F;cases F with
    |wm _ _ _ _ ad=>exact fin g (QN _)
    |row _ _ _ _ _ cap _ hD M R ab af ae aw=>
     have:=ae rfl;subst this;exact fin g R
   .cases h
  .cases hc
 ·
  rename_i x y t u C B;have C:=zC0 C;have B:=zC0 B;subst C;subst B;obtain⟨W,I,hc⟩:=za hc;obtain⟨ay,Q,hc⟩:=za hc;have J:∀r A,(Builtin.append_ #[t,u] o.type #[a.eval x,a.eval y]).run P w=.ok r A->(execOp a.eval o).run P w=.ok (.value r) A:=λr A h=>by rw[zCt ho];simp[builtin,h]
  have fin:∀{e:TypeId}{s n:Nat}{ah:JE},P.underlying t=some (.slice e)->(∃e',P.underlying u=some (.slice e'))\/P.underlying u=some .string->zDD P e=some ah->zS P e=some s->zJw P e=some n->0<s →
    aa=.append W ay s n->zAS P E H w nx (execOp a.eval o) v H' nx':=by
   intro e s n ah h1 h2 h3 h4 h5 h6 N;rw[N]at h;simp only[xoS]at h;split at h
   .rename_i p q hp V;exact .qZ (zUR (P:=P) L (zM T S I hp) (zM T S Q V) h1 h2 h3 h4 h5 h6 bf h) J
   .cases h
  split at hc
  .rename_i e e' h1 h2;obtain⟨s,Y,hc⟩:=za hc;obtain⟨n,hn,hc⟩:=za hc;obtain⟨z,hz,hc⟩:=za hc;split at hc
   .cases hc
   .cases hc;exact fin h1 (.inl ⟨_,h2⟩) hz Y hn (Qz _) rfl
  .rename_i e h1 h2;obtain⟨s,Y,hc⟩:=za hc;obtain⟨n,hn,hc⟩:=za hc;obtain⟨z,hz,hc⟩:=za hc;split at hc
   .cases hc;exact fin h1 (.inr h2) hz Y hn (Qz _) rfl
   .cases hc
  .cases hc
 ·
  rename_i x y t u C B;have C:=zC0 C;have B:=zC0 B;subst C;subst B;obtain⟨W,I,hc⟩:=za hc;obtain⟨ay,Q,hc⟩:=za hc;have J:∀r A,(Builtin.copy_ #[t,u] o.type #[a.eval x,a.eval y]).run P w=.ok r A->(execOp a.eval o).run P w=.ok (.value r) A:=λr A h=>by rw[zCt ho];simp[builtin,h]
  split at hc
  .rename_i e h1;obtain⟨s,Y,hc⟩:=za hc;split at hc
   .cases hc
   .cases hc;simp only[xoS]at h;split at h
    .rename_i p q hp V;exact .qZ (zXt (P:=P) L (zM T S I hp) (zM T S Q V) h1 Y (Qz _) h) J
    .cases h
  .cases hc
 ·
  rename_i x t C B;have C:=zHW C;have B:=zHW B;subst C;subst B;obtain⟨W,I,hc⟩:=za hc;have U:∀{p:AV},W.ev G fr=some p->VR E w p (a.eval x):=λh=>zM T S I h
  have J:∀r A,(Builtin.clear_ #[t] o.type #[a.eval x]).run P w=.ok r A->(execOp a.eval o).run P w=.ok (.value r) A:=λr A h=>by rw[zCt ho];simp[builtin,h]
  split at hc
  .rename_i e d;obtain⟨s,Y,hc⟩:=za hc;obtain⟨z,hz,hc⟩:=za hc;cases s with
   |zero=>cases hc
   |succ s=>
    cases hc;simp only[xoS]at h;split at h
    .rename_i K;cases h;have F:=U K;generalize g:a.eval x=X at F;cases F;refine .qq (s:=Builtin.clear_ #[t] o.type #[a.eval x]) L ⟨.tuple #[],?_,VR.qG VRs.nil⟩ J
     rw[g];simp[Builtin.clear_,run_underlying d]
    .rename_i hd off len bo cp ex K;split at h
     .cases h
     rename_i bh;have:=zb bh;subst this;split at h
     .rename_i st cs D;split at h
      .rename_i O;cases h;have bm:=QM O;obtain⟨i,cz,hi,ba,bp,ai,az,h2,h3⟩:=VR.zero (P:=P) (E:=E) (w:=w) (z:=.bool true) (v:=.bool true) (n:=0) hz;have a7:i.size=s+1:=by rw[Y]at ai;simpa using ai.symm
       obtain⟨m1,m2⟩:=zRe h2 h3 len;have F:=U K;generalize g:a.eval x=X at F;cases F with
       |wm _ _ _ _ ad=>
        simp only[rep,zKg];rw[Heap.qt D];refine .qq (s:=Builtin.clear_ #[t] o.type #[a.eval x]) L ⟨.tuple #[],?_,VR.qG VRs.nil⟩ J
        rw[g];simp[Builtin.clear_,run_underlying d]
       |row _ _ _ _ _ cap _ hD M R ab af ae aw=>
        obtain⟨A,r1,r2,r3⟩:=zG4 (P:=P) L D (off:=off) m1 m2 (.inl (by rw[zSb,az,a7];omega)) nx
        refine .qZ (s:=Builtin.clear_ #[t] o.type #[a.eval x]) ⟨.tuple #[],E,A,?_,r2,r3,VR.qG VRs.nil⟩ J
        rw[g];have a6:(zeroValue e).run P w=.ok cz w:=by simp[zeroValue,typeInfo,hi,ba]
        have bc:(Builtin.zeroCells cz.cells len).toList=(madeCells cz.cells (len*cz.cells.size)).toList:=rfl;cases len with
        |zero=>
         have:(madeCells cz.cells (0*cz.cells.size)).toList=[]:=by simp[madeCells,Array.range_zero']
         rw[this]at r1;simp[storeCells]at r1;subst r1;simp[Builtin.clear_,run_underlying d]
        |succ len=>
         simp[Builtin.clear_,run_underlying d,a6,bc,r1]
      .cases h
     .cases h
    .cases h
  .rename_i k e d;cases hc;simp only[xoS]at h;split at h
   .rename_i K;cases h;have F:=U K;generalize g:a.eval x=X at F;cases F;refine .qq (s:=Builtin.clear_ #[t] o.type #[a.eval x]) L ⟨.tuple #[],?_,VR.qG VRs.nil⟩ J
    rw[g];simp[Builtin.clear_,run_underlying d]
   .rename_i hd K;split at h
    .rename_i es D;cases h;obtain⟨N,hD⟩:=(U K).of_map;obtain⟨c,clock,hb,M,_,_⟩:=L.obj _ (Heap.qj D);have ac:(getObj (E.ρ hd)).run P w=.ok (.map c clock) w:=by simp[getObj,Sem.run,hb]
     obtain⟨A,s1,s2,s3,_⟩:=zE6 (P:=P) L D hb (λ_ _ _ h=>by cases h) (ob':=.map #[] clock) (o':=.map []) (λA bb hm=>⟨#[],clock,bb,rfl,λi k x hi=>by simp at hi,λi j m n hi=>by simp at hi⟩) nx
     refine .qZ (s:=Builtin.clear_ #[t] o.type #[a.eval x]) ⟨.tuple #[],E,A,?_,s2,s3,VR.qG VRs.nil⟩ J
     rw[N];simp[Builtin.clear_,run_underlying d,ac,s1]
    .cases h
   .cases h
  .cases hc
 ·
  rename_i x y t u C B;have C:=zC0 C;have B:=zC0 B;subst C;subst B;obtain⟨W,I,hc⟩:=za hc;obtain⟨ay,Q,hc⟩:=za hc;have J:∀r A,(Builtin.min_ #[t,u] o.type #[a.eval x,a.eval y]).run P w=.ok r A->(execOp a.eval o).run P w=.ok (.value r) A:=λr A h=>by rw[zCt ho];simp[builtin,h]
  split at hc
  .cases hc;simp only[xoS]at h;split at h
   .rename_i k p k' q hp V;split at h
    .rename_i hk;cases h;have:=zHz hk;subst this;obtain⟨N,b1⟩:=(zM T S I hp).of_int;obtain⟨e2,b2⟩:=(zM T S Q V).of_int;refine .qq (s:=Builtin.min_ #[t,u] o.type #[a.eval x,a.eval y]) L ⟨_,by rw[N,e2];exact run_min_int2 w _ _ _ _ _ _,.int _ _ (by split<;>assumption)⟩ J
    .cases h
   .cases h
  .cases hc
 ·
  rename_i x y t u C B;have C:=zC0 C;have B:=zC0 B;subst C;subst B;obtain⟨W,I,hc⟩:=za hc;obtain⟨ay,Q,hc⟩:=za hc;have J:∀r A,(Builtin.max_ #[t,u] o.type #[a.eval x,a.eval y]).run P w=.ok r A->(execOp a.eval o).run P w=.ok (.value r) A:=λr A h=>by rw[zCt ho];simp[builtin,h]
  split at hc
  .cases hc;simp only[xoS]at h;split at h
   .rename_i k p k' q hp V;split at h
    .rename_i hk;cases h;have:=zHz hk;subst this;obtain⟨N,b1⟩:=(zM T S I hp).of_int;obtain⟨e2,b2⟩:=(zM T S Q V).of_int;refine .qq (s:=Builtin.max_ #[t,u] o.type #[a.eval x,a.eval y]) L ⟨_,by rw[N,e2];exact run_max_int2 w _ _ _ _ _ _,.int _ _ (by split<;>assumption)⟩ J
    .cases h
   .cases h
  .cases hc
 ·
  rename_i m k t u C B;have C:=zC0 C;have B:=zC0 B;subst C;subst B;obtain⟨am,ao,hc⟩:=za hc;obtain⟨ak,bg,hc⟩:=za hc;have J:∀r A,(Builtin.delete_ #[t,u] o.type #[a.eval m,a.eval k]).run P w=.ok r A->(execOp a.eval o).run P w=.ok (.value r) A:=λr A h=>by rw[zCt ho];simp[builtin,h]
  split at hc
  .rename_i kt et d;obtain⟨q,V,hc⟩:=za hc;cases hc;unfold zRR at V;obtain⟨ks,au,V⟩:=za V;obtain⟨ag,ar,V⟩:=za V;cases V;simp only[xoS]at h;split at h
   .rename_i vm vk hm hk;split at h
    .cases h
    rename_i aj;have aq:=zM T S bg hk;split at h
    .cases h;have F:=zM T S ao hm;generalize g:a.eval m=X at F;cases F;have a8:=zEa (P:=P) (em:=true) au ar aq aj;refine .qq (s:=Builtin.delete_ #[t,u] o.type #[a.eval m,a.eval k]) L ⟨.tuple #[],?_,VR.qG VRs.nil⟩ J
     rw[g];simp[Builtin.delete_,run_underlying d,a8]
    .split at h
     .rename_i es D;split at h
      .rename_i bq be;cases h;obtain⟨A,r1,r2,r3⟩:=zYM (P:=P) (ts:=#[t,u]) (ty:=o.type) (nx:=nx) L d au ar rfl (zM T S ao hm) aq aj D be;exact .qZ (s:=Builtin.delete_ #[t,u] o.type #[a.eval m,a.eval k]) ⟨.tuple #[],E,A,r1,r2,r3,VR.qG VRs.nil⟩ J
      .cases h
     .cases h
    .cases h
   .cases h
  .cases hc
 .cases hc
end
end Go.Sy
