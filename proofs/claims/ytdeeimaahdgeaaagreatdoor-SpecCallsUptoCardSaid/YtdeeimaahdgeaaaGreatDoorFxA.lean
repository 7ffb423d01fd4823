/- A LIBRARY: WHAT A FUNCTION'S CODE RECKONS, AS A LEAN FUNCTION, AND THAT ITS WORD IS THE MODEL'S: part 1 of 6. No condition. -/
import Derived.Calls
import Derived.Orders
import Derived.Laws.Sem
import Derived.Laws.Strings
import Derived.Laws.Small
import Derived.Laws.Entries
import Derived.Laws.StructEq
import Derived.Laws.Externs
import Derived.Laws.Cells
import Derived.Laws.Pointers
import Derived.Laws.AppendOwn
import Derived.Laws.MakeOwn
import Derived.Laws.IdiomStrings
import Derived.Laws.RangeString
import Derived.Laws.IdiomRangeMap
set_option linter.unusedVariables false
set_option linter.unusedSimpArgs false
theorem qr:type_of% @Int.ofNat_eq_natCast:=@Int.ofNat_eq_natCast
theorem QA:type_of% @Bool.and_eq_true:=@Bool.and_eq_true
theorem QB:type_of% @Nat.le_refl:=@Nat.le_refl
theorem QC:type_of% @List.length_append:=@List.length_append
theorem QD:type_of% @List.getElem?_eq_some_iff:=@List.getElem?_eq_some_iff
theorem QE:type_of% @List.getElem?_eq_getElem:=@List.getElem?_eq_getElem
theorem QF:type_of% @List.mem_of_getElem?:=@List.mem_of_getElem?
theorem QG:type_of% @List.all_eq_true:=@List.all_eq_true
theorem QH:type_of% @List.mem_cons:=@List.mem_cons
theorem QI:type_of% @List.mem_append:=@List.mem_append
theorem QJ:type_of% @Option.some.injEq:=@Option.some.injEq
theorem QK:type_of% @List.length_cons:=@List.length_cons
theorem QL:type_of% @decide_eq_true:=@decide_eq_true
theorem QM:type_of% @Nat.le_of_ble_eq_true:=@Nat.le_of_ble_eq_true
theorem QN:type_of% @decide_eq_false:=@decide_eq_false
theorem QO:type_of% @of_decide_eq_true:=@of_decide_eq_true
theorem QP:type_of% @List.mem_of_mem_take:=@List.mem_of_mem_take
theorem QR:type_of% @Nat.zero_le:=@Nat.zero_le
theorem QS:type_of% @List.length_nil:=@List.length_nil
theorem QT:type_of% @Bool.and_true:=@Bool.and_true
theorem QU:type_of% @Nat.lt_succ_self:=@Nat.lt_succ_self
theorem QV:type_of% @Nat.zero_add:=@Nat.zero_add
theorem QW:type_of% @List.mem_of_mem_drop:=@List.mem_of_mem_drop
theorem QX:type_of% @List.all_cons:=@List.all_cons
theorem QY:type_of% @Nat.le_succ:=@Nat.le_succ
theorem QZ:type_of% @Nat.lt_of_lt_of_le:=@Nat.lt_of_lt_of_le
theorem Qa:type_of% @Int.natCast_nonneg:=@Int.natCast_nonneg
theorem Qb:type_of% @List.length_map:=@List.length_map
theorem Qc:type_of% @List.mem_singleton:=@List.mem_singleton
theorem Qd:type_of% @List.map_cons:=@List.map_cons
theorem Qe:type_of% @Array.getElem?_eq_getElem:=@Array.getElem?_eq_getElem
theorem Qf:type_of% @List.mem_map:=@List.mem_map
theorem Qg:type_of% @List.drop_eq_getElem_cons:=@List.drop_eq_getElem_cons
theorem Qh:type_of% @Nat.le_of_lt:=@Nat.le_of_lt
theorem Qi:type_of% @List.append_assoc:=@List.append_assoc
theorem Qj:type_of% @List.getElem?_map:=@List.getElem?_map
theorem Qk:type_of% @Nat.le_trans:=@Nat.le_trans
theorem Ql:type_of% @Nat.blt_eq:=@Nat.blt_eq
theorem Qm:type_of% @List.length_take:=@List.length_take
theorem Qn:type_of% @List.getElem_mem:=@List.getElem_mem
theorem Qo:type_of% @List.drop_eq_nil_of_le:=@List.drop_eq_nil_of_le
theorem Qp:type_of% @Int.ofNat_le:=@Int.ofNat_le
theorem Qq:type_of% @of_decide_eq_false:=@of_decide_eq_false
theorem Qr:type_of% @List.length_drop:=@List.length_drop
theorem Qs:type_of% @Nat.ble_eq:=@Nat.ble_eq
theorem Qt:type_of% @List.mem_append_right:=@List.mem_append_right
theorem Qu:type_of% @Option.some.inj:=@Option.some.inj
theorem Qv:type_of% @List.getElem?_append_left:=@List.getElem?_append_left
theorem Qw:type_of% @List.mem_append_left:=@List.mem_append_left
theorem Qx:type_of% @Nat.succ_pos:=@Nat.succ_pos
theorem Qy:type_of% @Nat.le_add_right:=@Nat.le_add_right
namespace Go.Sy
inductive AV where
 | bool (b:Bool)
 | int (k:IntKind) (n:Int)
 | str (s:List Nat)
 | ql
 | ptr (h off:Nat)
 | qe (e:AV) (off:Nat)
 | qa
 | qp (sz:Nat) (es:List AV)
 | row (h off len sz cp:Nat) (ex:Bool)
 | qj
 | map (h:Nat)
 | qi
 | func (fn:Fn) (first caps:List AV)
 | qd
 | iface (t:Nat) (v:AV)
 | agg (cs:List AV)
 | qf (vs:List AV)
 | sym (i:Nat)
inductive HO where
 | cells (str:Bool) (cs:List AV)
 | map (es:List (AV×AV))
 | wm (s:List Nat) (pos:Nat)
abbrev Heap:=List (Nat×HO)
def AV.cells:AV->List AV
 | .agg b=>b
 | v=>[v]
structure Env where
 ρ:Nat->Nat
 D:Nat->Prop
 Z:Nat->Prop
 σ:Nat->Value
def zc:Nat:=9223372036854775807
def has (k:IntKind) (n:Int):Prop:=k.min<=n/\n<=k.max
inductive VR (E:Env) (w:World):AV->Value->Prop where
 | bool (b:Bool):VR E w (.bool b) (.bool b)
 | int (k:IntKind) (n:Int) (h:has k n):VR E w (.int k n) (.int k n)
 | str (l:List Nat) (s:ByteArray) (h:s.data.toList.map UInt8.toNat=l) (hl:l.length<=zc):VR E w (.str l) (.string s)
 | ql:VR E w .ql (.pointer none)
 | ptr (h off:Nat) (hd:E.D h):VR E w (.ptr h off) (.pointer (some ⟨E.ρ h,off,none⟩))
 | qe (e:AV) (off b o:Nat) (cv:Value) (vZ:(match e with | .qf _=>false | _=>true)=true) (hz:E.Z b) (hv:VR E w e cv)
   (hc:∀j c,cv.cells[j]? = some c->w.cell? ⟨b,o+j,none⟩=some c):VR E w (.qe e off) (.pointer (some ⟨b,o+off,none⟩))
 | qa:VR E w .qa (.slice none 0 0)
 | wb (sz:Nat) (a:Option Addr) (c:Nat) (hc:c<=zc):VR E w (.qp sz []) (.slice a 0 c)
 | qp (es:List AV) (b o cap sz:Nat) (f:Nat->Value) (hz:E.Z b) (hcap:es.length<=cap) (hcm:cap<=zc) (vZ:∀(i:Nat) e,es[i]? = some e->(match e with | .qf _=>false | _=>true)=true)
   (hv:∀i e,es[i]? = some e->VR E w e (f i))
   (hc:∀i,i<es.length->(f i).cells.size=sz/\∀j c,(f i).cells[j]? = some c->w.cell? ⟨b,o+i*sz+j,none⟩=some c):
   VR E w (.qp sz es) (.slice (some ⟨b,o,none⟩) es.length cap)
 | row (h off len sz cp cap:Nat) (ex:Bool) (hd:E.D h) (hlen:len<=cap) (hcap:cap<=zc) (hsz:0<sz) (hcp:cp<=cap) (hex:ex=true->cap=cp)
   (hb:∃c e f,w.heap[E.ρ h]? = some (.cells c e f)/\off+cap*sz<=c.size):VR E w (.row h off len sz cp ex) (.slice (some ⟨E.ρ h,off,none⟩) len cap)
 | wc (h off sz:Nat) (ex:Bool) (a:Addr):VR E w (.row h off 0 sz 0 ex) (.slice (some a) 0 0)
 | qj:VR E w .qj (.map none)
 | map (h:Nat) (hd:E.D h):VR E w (.map h) (.map (some (E.ρ h)))
 | qi:VR E w .qi .nilFunc
 | func (fn:Fn) (f c:List AV) (vf vc:Array Value) (hf:f.length=vf.size) (hc:c.length=vc.size)
   (rf:∀(i:Nat) x v,f[i]? = some x->vf[i]? = some v->VR E w x v) (rc:∀(i:Nat) x v,c[i]? = some x->vc[i]? = some v->VR E w x v):
   VR E w (.func fn f c) (.func fn vf vc)
 | qd:VR E w .qd .nilIface
 | iface (t:Nat) (v:AV) (cv:Value) (h:VR E w v cv):VR E w (.iface t v) (.iface t cv)
 | agg (cs:List AV) (vs:Array Value) (hl:cs.length=vs.size) (h:∀(i:Nat) x v,cs[i]? = some x->vs[i]? = some v->VR E w x v)
   (h1:∀(i:Nat) v,vs[i]? = some v->v.oneCell'=true):VR E w (.agg cs) (.agg vs)
 | qf (cs:List AV) (vs:Array Value) (hl:cs.length=vs.size) (h:∀(i:Nat) x v,cs[i]? = some x->vs[i]? = some v->VR E w x v):
   VR E w (.qf cs) (.tuple vs)
 | sym (i:Nat) (cv:Value) (he:cv=E.σ i) (h1:cv.oneCell'=true):VR E w (.sym i) cv
def Shapes (w w':World):Prop:=
 ∀(b:Nat) (c:Array Value) (e:TypeId) (f:Nat×Nat),w.heap[b]? = some (Obj.cells c e f)->∃(d:Array Value) (g:Nat×Nat),w'.heap[b]? = some (Obj.cells d e g)/\d.size=c.size
theorem Shapes.refl (w:World):Shapes w w:=λ _ c _ f h=>⟨c,f,h,rfl⟩
theorem Shapes.trans {a b c:World} (h:Shapes a b) (k:Shapes b c):Shapes a c:=λ x y e f d=>
 let ⟨_,f1,h1,h2⟩:=h x y e f d
 let ⟨c',f',k1,k2⟩:=k x _ e f1 h1
 ⟨c',f',k1,k2.trans h2⟩
theorem zDI {w w':World} {b o:Nat} (h:w'.heap[b]? = w.heap[b]?):w'.cell? ⟨b,o,none⟩=w.cell? ⟨b,o,none⟩:=by
 simp only [World.cell?,h]
theorem VR.mono {E E':Env} {w w':World} (p:∀h,E.D h->E'.D h/\E'.ρ h=E.ρ h) (A:∀b,E.Z b->E'.Z b/\w'.heap[b]? = w.heap[b]?)
  (hS:Shapes w w') {v:AV} {cv:Value} (h:VR E w v cv) (V:E'.σ=E.σ:=by rfl):VR E' w' v cv:=by
 induction h with
 | bool b=>exact .bool b
 | int k n h=>exact .int k n h
 | str l s h y=>exact .str l s h y
 | ql=>exact .ql
 | ptr h off m=>rw [←(p h m).2];exact .ptr h off (p h m).1
 | qe e off b o cv r x _ hc g=>exact .qe e off b o cv r (A b x).1 g λ j c I=>by rw [zDI (A b x).2];exact hc j c I
 | qa=>exact .qa
 | wb q a c hc=>exact .wb q a c hc
 | qp S b o cap q f x d J r _ hc g=>
  exact .qp S b o cap q f (A b x).1 d J r g λ i N=>⟨(hc i N).1,λ j c I=>by rw [zDI (A b x).2];exact (hc i N).2 j c I⟩
 | row h off len q X cap L m u d F B M O=>
  obtain ⟨c,e,f,z,h2⟩:=O;obtain ⟨c',U,Y,k2⟩:=hS _ c e f z;rw [←(p h m).2];exact .row h off len q X cap L (p h m).1 u d F B M ⟨c',e,U,by rw [(p h m).2];exact Y,by omega⟩
 | wc h off q L a=>exact .wc h off q L a
 | qj=>exact .qj
 | map h m=>rw [←(p h m).2];exact .map h (p h m).1
 | qi=>exact .qi
 | func fn f c T vc R hc _ _ rf Q=>exact .func fn f c T vc R hc rf Q
 | qd=>exact .qd
 | iface t v cv _ g=>exact .iface t v cv g
 | agg K C y _ z g=>exact .agg K C y g z
 | qf K C y _ g=>exact .qf K C y g
 | sym i cv W z=>exact .sym i cv (W.trans (congrFun V i).symm) z
def VRs (E:Env) (w:World) (xs:List AV) (vs:List Value):Prop:=xs.length=vs.length/\∀(i:Nat) x v,xs[i]? = some x->vs[i]? = some v->VR E w x v
theorem VRs.nil {E:Env} {w:World}:VRs E w [] []:=⟨rfl,λ i x v h=>by simp at h⟩
theorem VRs.cons {E:Env} {w:World} {x:AV} {v:Value} {xs:List AV} {vs:List Value} (h:VR E w x v) (d:VRs E w xs vs):VRs E w (x::xs) (v::vs):=
 ⟨by simp [d.1],λ i y u b c=>by
  cases i with
  | zero=>simp at b c;subst b;subst c;exact h
  | succ i=>simp at b c;exact d.2 i y u b c⟩
theorem VRs.of_cons {E:Env} {w:World} {x:AV} {xs:List AV} {vs:List Value} (h:VRs E w (x::xs) vs):∃v b,vs=v::b/\VR E w x v/\VRs E w xs b:=by
 cases vs with
 | nil=>have:=h.1;simp at this
 | cons v vs=>exact ⟨v,vs,rfl,h.2 0 x v rfl rfl,by have:=h.1;simpa using this,λ i y u c d=>h.2 (i+1) y u (by simpa using c) (by simpa using d)⟩
theorem VRs.of_nil {E:Env} {w:World} {vs:List Value} (h:VRs E w [] vs):vs=[]:=by
 have:=h.1;cases vs <;> simp_all
theorem VRs.mono {E E':Env} {w w':World} (hm:∀{v cv},VR E w v cv->VR E' w' v cv) {xs:List AV} {vs:List Value} (h:VRs E w xs vs):VRs E' w' xs vs:=
 ⟨h.1,λ i x v c b=>hm (h.2 i x v c b)⟩
theorem VRs.append {E:Env} {w:World}:∀{xs:List AV} {vs:List Value} {c:List AV} {b:List Value},VRs E w xs vs->VRs E w c b->VRs E w (xs++c) (vs++b)
 | [],vs,c,b,h,k=>by rw [h.of_nil];simpa using k
 | x::xs,vs,c,b,h,k=>by
  obtain ⟨v,f,rfl,e,d⟩:=h.of_cons;exact .cons e (d.append k)
theorem VRs.getElem? {E:Env} {w:World} {xs:List AV} {vs:List Value} (h:VRs E w xs vs) {i:Nat} {x:AV} (hx:xs[i]? = some x):∃v,vs[i]? = some v/\VR E w x v:=by
 have d:i<xs.length:=by
  rcases Nat.lt_or_ge i xs.length with b | b
  ·exact b
  ·rw [List.getElem?_eq_none b] at hx;cases hx
 have c:vs[i]? = some (vs[i]'(h.1▸d)):=QE _
 exact ⟨_,c,h.2 i x _ hx c⟩
theorem VRs.extract {E:Env} {w:World} {xs:List AV} {vs:List Value} (h:VRs E w xs vs) (a n:Nat):VRs E w ((xs.drop a).take n) ((vs.drop a).take n):=
 ⟨by simp [h.1],λ i x v b c=>by
  rw [List.getElem?_take] at b c;split at b
  ·rename_i d;simp only [d,if_true,List.getElem?_drop] at b c;exact h.2 _ x v b c
  ·cases b⟩
theorem VR.qV {E:Env} {w:World} {cs:List AV} {cv:Value} (h:VR E w (.agg cs) cv):∃vs:Array Value,cv=.agg vs/\VRs E w cs vs.toList/\∀v∈vs.toList,v.oneCell'=true:=by
 cases h with
 | agg _ vs c h d=>
  refine ⟨vs,rfl,⟨by simpa using c,λ i x v f b=>h i x v f (by simpa using b)⟩,λ v b=>?_⟩
  obtain ⟨i,e⟩:=List.getElem?_of_mem b;exact d i v (by simpa using e)
theorem VR.qM {E:Env} {w:World} {cs:List AV} {vs:Array Value} (h:VRs E w cs vs.toList) (c:∀v∈vs.toList,v.oneCell'=true):VR E w (.agg cs) (.agg vs):=
 .agg cs vs (by simpa using h.1) (λ i x v d b=>h.2 i x v d (by simpa using b)) λ i v b=>c v (by
  have:=QF (l:=vs.toList) (i:=i) (a:=v) (by simpa using b)
  exact this)
theorem VR.w8 {E:Env} {w:World} {cs:List AV} {cv:Value} (h:VR E w (.qf cs) cv):∃vs:Array Value,cv=.tuple vs/\VRs E w cs vs.toList:=by
 cases h with
 | qf _ vs c h=>exact ⟨vs,rfl,⟨by simpa using c,λ i x v d b=>h i x v d (by simpa using b)⟩⟩
theorem VR.qJ {E:Env} {w:World} {cs:List AV} {vs:Array Value} (h:VRs E w cs vs.toList):VR E w (.qf cs) (.tuple vs):=
 .qf cs vs (by simpa using h.1) λ i x v c b=>h.2 i x v c (by simpa using b)
def AV.one:AV->Bool
 | .agg _ | .qf _=>false
 | _=>true
theorem VR.wJ {E:Env} {w:World} {v:AV} {cv:Value} (h:VR E w v cv) (b:v.one=true):cv.oneCell'=true:=by
 cases h <;> simp_all [AV.one,Value.oneCell']
theorem VR.vW {E:Env} {w:World} {v:AV} {cv:Value} (h:VR E w v cv) (b:v.one=true):cv.cells=#[cv]:=by
 have c:=h.wJ b;cases cv <;> simp_all [Value.cells,Value.oneCell']
def AV.flat:AV->Bool
 | .qf _=>false
 | _=>true
theorem VR.cells {E:Env} {w:World} {v:AV} {cv:Value} (h:VR E w v cv) (c:v.flat=true):VRs E w v.cells cv.cells.toList/\∀u∈cv.cells.toList,u.oneCell'=true:=by
 cases v with
 | agg i=>
  obtain ⟨d,rfl,b,g⟩:=h.qV;exact ⟨b,g⟩
 | qf d=>simp [AV.flat] at c
 | _=>
  have e:=h.vW rfl;have b:=h.wJ rfl;rw [e];exact ⟨VRs.cons h VRs.nil,λ u f=>by
   have:u=cv:=by simpa using f
   rw [this];exact b⟩
def Heap.get:Heap->Nat->Option HO
 | [],_=>none
 | (k,o)::r,h=>match Nat.beq k h with
  | true=>some o
  | false=>Heap.get r h
def Heap.put:Heap->Nat->HO->Heap
 | [],_,_=>[]
 | (k,o)::r,h,n=>match Nat.beq k h with
  | true=>(k,n)::r
  | false=>(k,o)::Heap.put r h n
def Heap.del:Heap->Nat->Heap
 | [],_=>[]
 | (k,o)::r,h=>match Nat.beq k h with
  | true=>r
  | false=>(k,o)::Heap.del r h
def Heap.keys (H:Heap):List Nat:=H.map (·.1)
theorem zb {a b:Nat} (h:Nat.beq a b=true):a=b:=Nat.eq_of_beq_eq_true h
theorem zA3 {a b:Nat} (h:Nat.beq a b=false):a≠b:=Nat.ne_of_beq_eq_false h
theorem Heap.qh:∀{H:Heap} {h:Nat} {o:HO},H.get h=some o->(h,o)∈H
 | (k,c)::r,h,o,e=>by
  simp only [Heap.get] at e;split at e
  ·rename_i b;cases e;rw [zb b];exact .head _
  ·exact .tail _ (Heap.qh e)
theorem Heap.wz:∀(H:Heap) (h:Nat) (o:HO),(H.put h o).keys=H.keys
 | [],_,_=>rfl
 | (k,b)::r,h,o=>by
  simp only [Heap.put];split
  ·rfl
  ·show k::(Heap.put r h o).keys=k::Heap.keys r
   rw [Heap.wz r h o]
theorem Heap.w5:∀{H:Heap} {h:Nat} {o:HO} {p:Nat×HO},H.keys.Nodup->p∈H.put h o->p=(h,o)\/(p∈H/\p.1≠h)
 | (k,i)::r,h,o,p,g,c=>by
  simp only [Heap.put] at c;have d:k ∉ Heap.keys r/\(Heap.keys r).Nodup:=List.nodup_cons.1 g;split at c
  ·rename_i f;have:=zb f;subst this;cases c with
   | head=>exact .inl rfl
   | tail _ c=>exact .inr ⟨.tail _ c,λ e=>d.1 (e▸List.mem_map_of_mem c)⟩
  ·rename_i f;cases c with
   | head=>exact .inr ⟨.head _,zA3 f⟩
   | tail _ c=>exact (Heap.w5 d.2 c).imp id λ⟨a,b⟩=>⟨.tail _ a,b⟩
theorem Heap.wV:∀{H:Heap} {h:Nat} {p:Nat×HO},H.keys.Nodup->p∈H.del h->p∈H/\p.1≠h
 | (k,i)::r,h,p,g,c=>by
  simp only [Heap.del] at c;have d:k ∉ Heap.keys r/\(Heap.keys r).Nodup:=List.nodup_cons.1 g;split at c
  ·rename_i f;have:=zb f;subst this;exact ⟨.tail _ c,λ e=>d.1 (e▸List.mem_map_of_mem c)⟩
  ·rename_i f;cases c with
   | head=>exact ⟨.head _,zA3 f⟩
   | tail _ c=>exact let ⟨a,b⟩:=Heap.wV d.2 c;⟨.tail _ a,b⟩
theorem Heap.wq:∀(H:Heap) (h:Nat),(H.del h).Sublist H
 | [],_=>.slnil
 | (k,o)::r,h=>by
  simp only [Heap.del];split
  ·exact List.sublist_cons_self _ _
  ·exact (Heap.wq r h).cons_cons _
def OR (E:Env) (w:World) (b:Nat):HO->Prop
 | .cells str g=>∃(c:Array Value) (e:TypeId) (f:Nat×Nat),w.heap[b]? = some (Obj.cells c e f)/\g.length<=c.size/\(f.2=f.1\/(str=true/\c.size<=f.1)) ∧
   ∀(i:Nat) x,g[i]? = some x->∃v,c[i]? = some v/\v.oneCell'=true/\VR E w x v
 | .map h=>∃(c:Array MapEntry) (clock:Nat),w.heap[b]? = some (Obj.map c clock)/\h.length=c.size ∧
   (∀(i:Nat) k x,h[i]? = some (k,x)->∃m,c[i]? = some m/\VR E w k m.key/\VR E w x m.val/\m.born<clock) ∧
   ∀(i j:Nat) m n,c[i]? = some m->c[j]? = some n->m.born=n.born->i=j
 | .wm s pos=>∃d:ByteArray,w.heap[b]? = some (Obj.stringIter d pos)/\d.data.toList.map UInt8.toNat=s
theorem OR.lt {E:Env} {w:World} {b:Nat} {o:HO} (h:OR E w b o):b<w.heap.size:=by
 cases o with
 | cells _ d=>obtain ⟨c,e,f,h,_⟩:=h;exact (Array.getElem?_eq_some_iff.1 h).1
 | map g=>obtain ⟨c,e,h,_⟩:=h;exact (Array.getElem?_eq_some_iff.1 h).1
 | wm s pos=>obtain ⟨c,h,_⟩:=h;exact (Array.getElem?_eq_some_iff.1 h).1
theorem OR.mono {E E':Env} {w w':World} {b:Nat} {o:HO} (l:w'.heap[b]? = w.heap[b]?) (hm:∀{v cv},VR E w v cv->VR E' w' v cv) (h:OR E w b o):OR E' w' b o:=by
 cases o with
 | cells _ t=>
  obtain ⟨c,e,f,j,g,p,n⟩:=h;exact ⟨c,e,f,l.trans j,g,p,λ i x q=>let ⟨v,a,b,d⟩:=n i x q;⟨v,a,b,hm d⟩⟩
 | map u=>
  obtain ⟨c,clock,j,g,p,n⟩:=h;exact ⟨c,clock,l.trans j,g,λ i k x q=>let ⟨m,a,b,d,e⟩:=p i k x q;⟨m,a,hm b,hm d,e⟩,n⟩
 | wm s pos=>
  obtain ⟨r,j,g⟩:=h;exact ⟨r,l.trans j,g⟩
structure HR (E:Env) (H:Heap) (w:World):Prop where
 nodup:H.keys.Nodup
 qC:∀p∈H,E.D p.1
 inj:∀p∈H,∀q∈H,E.ρ p.1=E.ρ q.1->p.1=q.1
 obj:∀p∈H,OR E w (E.ρ p.1) p.2
 nz:∀p∈H,¬E.Z (E.ρ p.1)
 wg:∀b,E.Z b->b<w.heap.size
theorem HR.lt {E:Env} {H:Heap} {w:World} (h:HR E H w) {p:Nat×HO} (b:p∈H):E.ρ p.1<w.heap.size:=(h.obj p b).lt
theorem HR.sub {E:Env} {H H':Heap} {w:World} (h:HR E H w) (c:H'.Sublist H):HR E H' w:=
 ⟨h.nodup.sublist (c.map _),λ p b=>h.qC p (c.subset b),λ p b q d=>h.inj p (c.subset b) q (c.subset d),
  λ p b=>h.obj p (c.subset b),λ p b=>h.nz p (c.subset b),h.wg⟩
structure Tr (E:Env) (H:Heap) (w:World) (E':Env) (H':Heap) (w':World) (a b:Nat):Prop where
 le:a<=b
 agree:∀h,E.D h->E'.ρ h=E.ρ h
 qC:∀h,E'.D h↔E.D h\/(a<=h/\h<b)
 qG:∀x,E.Z x->E'.Z x
 qN:∀x,E'.Z x->E.Z x\/(∃p∈H,E.ρ p.1=x)\/w.heap.size<=x
 own:∀p∈H',(∃q∈H,E.ρ q.1=E'.ρ p.1)\/w.heap.size<=E'.ρ p.1
 tape:w'.tape=w.tape
 os:w'.os=w.os
 output:w'.output=w.output
 size:w.heap.size<=w'.heap.size
 wa:∀x,x<w.heap.size->(∀p∈H,E.ρ p.1≠x)->w'.heap[x]? = w.heap[x]?
 qn:Shapes w w'
 sig:E'.σ=E.σ:=by rfl
theorem Tr.refl {E:Env} {H:Heap} {w:World} (a:Nat):Tr E H w E H w a a:=
 ⟨QB _,λ _ _=>rfl,λ h=>⟨.inl,λ h=>h.elim id λ⟨x,y⟩=>by omega⟩,λ _ h=>h,λ _ h=>.inl h,λ p b=>.inl ⟨p,b,rfl⟩,rfl,rfl,rfl,QB _,λ _ _ _=>rfl,.refl w,rfl⟩
theorem Tr.sub {E:Env} {H:Heap} {w:World} {E':Env} {H' H2:Heap} {w':World} {a b:Nat} (h:Tr E H w E' H' w' a b) (d:H2.Sublist H'):Tr E H w E' H2 w' a b:=
 { h with own:=λ p c=>h.own p (d.subset c) }
theorem Tr.vr {E:Env} {H:Heap} {w:World} {E':Env} {H':Heap} {w':World} {a b:Nat} (d:HR E H w) (h:Tr E H w E' H' w' a b) {v:AV} {cv:Value} (g:VR E w v cv):VR E' w' v cv:=
 g.mono (λ x c=>⟨(h.qC x).2 (.inl c),h.agree x c⟩)
  (λ x c=>⟨h.qG x c,h.wa x (d.wg x c) λ p f e=>d.nz p f (e▸c)⟩) h.qn h.sig
theorem Tr.trans {E:Env} {H:Heap} {w:World} {n:Env} {m:Heap} {i:World} {E2:Env} {H2:Heap} {o:World} {a b c:Nat}
  (_:HR n m i) (h:Tr E H w n m i a b) (k:Tr n m i E2 H2 o b c):Tr E H w E2 H2 o a c where
 le:=Qk h.le k.le
 agree x d:=(k.agree x ((h.qC x).2 (.inl d))).trans (h.agree x d)
 qC x:=by
  rw [k.qC,h.qC];have:=h.le;have:=k.le
  constructor
  ·rintro ((h | h) | h)
   ·exact .inl h
   ·exact .inr ⟨by omega,by omega⟩
   ·exact .inr ⟨by omega,by omega⟩
  ·rintro (h | h)
   ·exact .inl (.inl h)
   ·by_cases d:x<b
    ·exact .inl (.inr ⟨by omega,d⟩)
    ·exact .inr ⟨by omega,by omega⟩
 qG x d:=k.qG x (h.qG x d)
 qN x d:=by
  rcases k.qN x d with f | ⟨p,g,rfl⟩ | f
  ·exact h.qN x f
  ·exact .inr (h.own p g)
  ·exact .inr (.inr (Qk h.size f))
 own p g:=by
  rcases k.own p g with ⟨q,l,e⟩ | f
  ·rw [←e];exact h.own q l
  ·exact .inr (Qk h.size f)
 tape:=k.tape.trans h.tape
 os:=k.os.trans h.os
 output:=k.output.trans h.output
 size:=Qk h.size k.size
 wa x d g:=by
  rw [k.wa x (QZ d h.size) λ p j e=>by
   rcases h.own p j with ⟨q,l,r⟩ | f
   ·exact g q l (r.trans e)
   ·omega]
  exact h.wa x d g
 qn:=h.qn.trans k.qn
 sig:=k.sig.trans h.sig
theorem Tr.frame {E:Env} {H R:Heap} {w:World} {E':Env} {H':Heap} {w':World} {a b:Nat}
  (k:HR E (H++R) w) (g:HR E' H' w') (h:Tr E H w E' H' w' a b):HR E' (H'++R) w'/\Tr E (H++R) w E' (H'++R) w' a b:=by
 have A:HR E H w:=k.sub (List.sublist_append_left _ _);have r:(H.map (·.1)++R.map (·.1)).Nodup:=by have:=k.nodup;simpa [Heap.keys] using this
 have j:∀p∈H,∀q∈R,E.ρ p.1≠E.ρ q.1:=λ p c q d e=>by
  have B:=k.inj p (Qw _ c) q (Qt _ d) e;exact (List.nodup_append.1 r).2.2 p.1 (List.mem_map_of_mem c) q.1 (List.mem_map_of_mem d) B
 have o:∀q∈R,E.D q.1:=λ q d=>k.qC q (Qt _ d)
 have i:∀q∈R,E.ρ q.1<w.heap.size:=λ q d=>k.lt (Qt _ d)
 have f:∀p∈H',∀q∈R,E'.ρ p.1≠E.ρ q.1:=λ p c q d e=>by
  rcases h.own p c with ⟨C,m,t⟩ | F
  ·exact j C m q d (t.trans e)
  ·have:=i q d;omega
 have l:∀q∈R,E'.ρ q.1=E.ρ q.1:=λ q d=>h.agree _ (o q d)
 refine ⟨⟨?_,?_,?_,?_,?_,g.wg⟩,{ h with qN:=?_,own:=?_,wa:=?_ }⟩
 ·show ((H'++R).map (·.1)).Nodup
  rw [List.map_append,List.nodup_append];refine ⟨g.nodup,(List.nodup_append.1 r).2.1,?_⟩
  intro x s y z e;obtain ⟨p,c,rfl⟩:=Qf.1 s;obtain ⟨q,d,rfl⟩:=Qf.1 z;exact f p c q d (by rw [e];exact l q d)
 ·intro p c;rcases QI.1 c with c | c
  ·exact g.qC p c
  ·exact (h.qC _).2 (.inl (o p c))
 ·intro p c q d e;rcases QI.1 c with c | c <;> rcases QI.1 d with d | d
  ·exact g.inj p c q d e
  ·exact absurd (e.trans (l q d)) (f p c q d)
  ·exact absurd (e.symm.trans (l p c)) (f q d p c)
  ·rw [l p c,l q d] at e;exact k.inj p (Qt _ c) q (Qt _ d) e
 ·intro p c;rcases QI.1 c with c | c
  ·exact g.obj p c
  ·rw [l p c];exact (k.obj p (Qt _ c)).mono (h.wa _ (i p c) λ q d=>j q d p c) (h.vr A)
 ·intro p c;rcases QI.1 c with c | c
  ·exact g.nz p c
  ·rw [l p c];intro u;rcases h.qN _ u with n | ⟨q,d,e⟩ | n
   ·exact k.nz p (Qt _ c) n
   ·exact j q d p c e
   ·have:=i p c;omega
 ·intro x s;rcases h.qN x s with n | ⟨q,d,e⟩ | n
  ·exact .inl n
  ·exact .inr (.inl ⟨q,Qw _ d,e⟩)
  ·exact .inr (.inr n)
 ·intro p c;rcases QI.1 c with c | c
  ·exact (h.own p c).imp (λ⟨q,d,e⟩=>⟨q,Qw _ d,e⟩) id
  ·exact .inl ⟨p,Qt _ c,(l p c).symm⟩
 ·intro x s c;exact h.wa x s λ p m=>c p (Qw _ m)
theorem HR.perm {E:Env} {H H':Heap} {w:World} (h:HR E H w) (b:H.Perm H'):HR E H' w:=
 ⟨(b.map _).nodup_iff.1 h.nodup,λ p k=>h.qC p (b.mem_iff.2 k),λ p k q l=>h.inj p (b.mem_iff.2 k) q (b.mem_iff.2 l),
  λ p k=>h.obj p (b.mem_iff.2 k),λ p k=>h.nz p (b.mem_iff.2 k),h.wg⟩
theorem Tr.perm {E:Env} {H H2:Heap} {w:World} {E':Env} {H' c:Heap} {w':World} {a b:Nat} (h:Tr E H w E' H' w' a b) (f:H.Perm H2) (d:H'.Perm c):Tr E H2 w E' c w' a b:=
 { h with
  qN:=λ x g=>(h.qN x g).imp id (Or.imp (λ⟨p,k,e⟩=>⟨p,f.mem_iff.1 k,e⟩) id)
  own:=λ p k=>(h.own p (d.mem_iff.2 k)).imp (λ⟨q,k,e⟩=>⟨q,f.mem_iff.1 k,e⟩) id
  wa:=λ x g k=>h.wa x g λ p i=>k p (f.mem_iff.1 i) }
theorem zGa {h:Array Obj} {o:Obj} {b:Nat} (c:b<h.size):(h.push o)[b]? = h[b]?:=by
 rw [Array.getElem?_push,if_neg (by omega)]
theorem zCj {h:Array Obj} {o:Obj}:(h.push o)[h.size]? = some o:=by
 rw [Array.getElem?_push,if_pos rfl]
def Env.add (E:Env) (a b:Nat):Env:=⟨λ h=>if h=a then b else E.ρ h,λ h=>E.D h\/h=a,E.Z,E.σ⟩
theorem Env.qx (E:Env) (a b:Nat):(E.add a b).ρ a=b:=by simp [Env.add]
theorem Env.wh {E:Env} {a b h:Nat} (c:h≠a):(E.add a b).ρ h=E.ρ h:=by simp [Env.add,c]
def World.vq (w w':World):Prop:=w'.heap=w.heap/\w'.tape=w.tape/\w'.os=w.os/\w'.output=w.output
theorem World.vq.refl (w:World):World.vq w w:=⟨rfl,rfl,rfl,rfl⟩
theorem World.vq.mk (w:World) (n:Nat):World.vq w { w with drawn:=n }:=⟨rfl,rfl,rfl,rfl⟩
theorem Shapes.of_heap {w w':World} (h:w'.heap=w.heap):Shapes w w':=λ b c e f d=>⟨c,f,by rw [h];exact d,rfl⟩
theorem zGq {E:Env} {H:Heap} {w w':World} (d:HR E H w) (f:World.vq w w') (a:Nat):HR E H w'/\Tr E H w E H w' a a:=by
 obtain ⟨c,g,l,j⟩:=f;have m:∀{v e},VR E w v e->VR E w' v e:=λ h=>h.mono (λ _ h=>⟨h,rfl⟩) (λ b h=>⟨h,by rw [c]⟩) (.of_heap c)
 refine ⟨⟨d.nodup,d.qC,d.inj,λ p k=>(d.obj p k).mono (by rw [c]) m,d.nz,λ b i=>by rw [c];exact d.wg b i⟩,
  { Tr.refl (E:=E) (H:=H) (w:=w) a with tape:=g,os:=l,output:=j,size:=by rw [c];exact QB _,wa:=λ _ _ _=>by rw [c],qn:=.of_heap c }⟩
theorem zIm {E:Env} {H:Heap} {w:World} (g:HR E H w) {a:Nat} (y:¬E.D a) {o:Obj} {ho:HO}
  (r:∀w':World,w'.heap=w.heap.push o->Shapes w w'->(∀{v cv},VR E w v cv->VR (E.add a w.heap.size) w' v cv)->OR (E.add a w.heap.size) w' w.heap.size ho):
  HR (E.add a w.heap.size) ((a,ho)::H) { w with heap:=w.heap.push o } ∧
  Tr E H w (E.add a w.heap.size) ((a,ho)::H) { w with heap:=w.heap.push o } a (a+1) ∧
  ∀{v cv},VR E w v cv->VR (E.add a w.heap.size) { w with heap:=w.heap.push o } v cv:=by
 have i:∀{h},E.D h->h≠a:=λ h e=>y (e▸h)
 have s:Shapes w { w with heap:=w.heap.push o }:=λ b c e f k=>⟨c,f,by
  have:=(Array.getElem?_eq_some_iff.1 k).1;show (w.heap.push o)[b]? = _
  rw [zGa this];exact k,rfl⟩
 have m:∀{v cv},VR E w v cv->VR (E.add a w.heap.size) { w with heap:=w.heap.push o } v cv:=λ h=>
  h.mono (λ x n=>⟨Or.inl n,Env.wh (i n)⟩) (λ b k=>⟨k,zGa (g.wg b k)⟩) s
 have l:∀p∈H,(E.add a w.heap.size).ρ p.1=E.ρ p.1:=λ p d=>Env.wh (i (g.qC p d))
 refine ⟨⟨?_,?_,?_,?_,?_,?_⟩,⟨by omega,λ h u=>Env.wh (i u),?_,λ _ h=>h,λ _ h=>.inl h,?_,rfl,rfl,rfl,by simp,λ x n _=>zGa n,s,rfl⟩,m⟩
 ·show (a::Heap.keys H).Nodup
  refine List.nodup_cons.2 ⟨λ m=>?_,g.nodup⟩
  obtain ⟨p,d,e⟩:=Qf.1 m;exact i (g.qC p d) e
 ·intro p d;cases d with
  | head=>exact .inr rfl
  | tail _ d=>exact .inl (g.qC p d)
 ·intro p d q j e;cases d with
  | head=>
   cases j with
   | head=>rfl
   | tail _ j=>
    rw [l q j,Env.qx] at e;have:=g.lt j;omega
  | tail _ d=>
   cases j with
   | head=>
    rw [l p d,Env.qx] at e;have:=g.lt d;omega
   | tail _ j=>
    rw [l p d,l q j] at e;exact g.inj p d q j e
 ·intro p d;cases d with
  | head=>rw [Env.qx];exact r _ rfl s m
  | tail _ d=>
   rw [l p d];exact (g.obj p d).mono (zGa (g.lt d)) m
 ·intro p d;cases d with
  | head=>
   rw [Env.qx];intro t;have:=g.wg _ t;omega
  | tail _ d=>rw [l p d];exact g.nz p d
 ·intro b k;have:=g.wg b k;simp;omega
 ·intro h;show E.D h\/h=a↔_
  constructor
  ·rintro (h | h)
   ·exact .inl h
   ·exact .inr (by omega)
  ·rintro (h | h)
   ·exact .inl h
   ·exact .inr (by omega)
 ·intro p d;cases d with
  | head=>rw [Env.qx];exact .inr (QB _)
  | tail _ d=>exact .inl ⟨p,d,(l p d).symm⟩
theorem zJ0 {E:Env} {H:Heap} {w w':World} (g:HR E H w) {h:Nat} {o o':HO} (D:H.get h=some o)
  (I:w'.tape=w.tape) (C:w'.os=w.os) (J:w'.output=w.output) (F:w'.heap.size=w.heap.size) (r:∀b,b≠E.ρ h->w'.heap[b]? = w.heap[b]?)
  (B:Shapes w w') (n:(∀{v cv},VR E w v cv->VR E w' v cv)->OR E w' (E.ρ h) o') (a:Nat):
  HR E (H.put h o') w'/\Tr E H w E (H.put h o') w' a a/\∀{v cv},VR E w v cv->VR E w' v cv:=by
 have f:=Heap.qh D;have k:∀b,E.Z b->b≠E.ρ h:=λ b j e=>g.nz _ f (e▸j)
 have u:∀{v cv},VR E w v cv->VR E w' v cv:=λ K=>K.mono (λ _ s=>⟨s,rfl⟩) (λ b j=>⟨j,r b (k b j)⟩) B
 have c:∀p∈H.put h o',∃q∈H,q.1=p.1:=λ p d=>by
  rcases Heap.w5 g.nodup d with rfl | ⟨d,_⟩
  ·exact ⟨_,f,rfl⟩
  ·exact ⟨p,d,rfl⟩
 refine ⟨⟨by rw [Heap.wz];exact g.nodup,?_,?_,?_,?_,λ b j=>by rw [F];exact g.wg b j⟩,⟨QB _,λ _ _=>rfl,?_,λ _ h=>h,λ _ h=>.inl h,?_,I,C,J,by omega,?_,B,rfl⟩,u⟩
 ·intro p d;obtain ⟨q,i,e⟩:=c p d;rw [←e];exact g.qC q i
 ·intro p d q i e;obtain ⟨L,m,A⟩:=c p d;obtain ⟨M,t,z⟩:=c q i;rw [←A,←z] at e;rw [←A,←z];exact g.inj L m M t e
 ·intro p d;rcases Heap.w5 g.nodup d with rfl | ⟨d,l⟩
  ·exact n u
  ·exact (g.obj p d).mono (r _ λ e=>l (g.inj p d _ f e)) u
 ·intro p d;obtain ⟨q,i,e⟩:=c p d;rw [←e];exact g.nz q i
 ·exact λ h=>⟨.inl,λ h=>h.elim id λ⟨x,y⟩=>by omega⟩
 ·intro p d;obtain ⟨q,i,e⟩:=c p d;exact .inl ⟨q,i,by rw [e]⟩
 ·intro x _ s;exact r x λ e=>s _ f e.symm
theorem zQD {E:Env} {H:Heap} {w:World} (f:HR E H w) {h a:Nat} {o:HO} (z:H.get h=some o) (C:¬E.D a):
  HR (E.add a (E.ρ h)) ((a,o)::H.del h) w/\Tr E H w (E.add a (E.ρ h)) ((a,o)::H.del h) w a (a+1)/\∀{v cv},VR E w v cv->VR (E.add a (E.ρ h)) w v cv:=by
 have d:=Heap.qh z;have g:∀{h},E.D h->h≠a:=λ h e=>C (e▸h)
 have r:∀{v cv},VR E w v cv->VR (E.add a (E.ρ h)) w v cv:=λ B=>
  B.mono (λ x u=>⟨Or.inl u,Env.wh (g u)⟩) (λ b y=>⟨y,rfl⟩) (.refl w)
 have i:∀p∈H.del h,(E.add a (E.ρ h)).ρ p.1=E.ρ p.1/\p∈H/\p.1≠h:=λ p c=>
  let ⟨k,n⟩:=Heap.wV f.nodup c
  ⟨Env.wh (g (f.qC p k)),k,n⟩
 refine ⟨⟨?_,?_,?_,?_,?_,f.wg⟩,⟨by omega,λ h A=>Env.wh (g A),?_,λ _ h=>h,λ _ h=>.inl h,?_,rfl,rfl,rfl,QB _,λ _ _ _=>rfl,.refl w,rfl⟩,r⟩
 ·show (a::Heap.keys (H.del h)).Nodup
  refine List.nodup_cons.2 ⟨λ r=>?_,f.nodup.sublist ((Heap.wq H h).map _)⟩
  obtain ⟨p,c,e⟩:=Qf.1 r;exact g (f.qC p (i p c).2.1) e
 ·intro p c;cases c with
  | head=>exact .inr rfl
  | tail _ c=>exact .inl (f.qC p (i p c).2.1)
 ·intro p c q l e;cases c with
  | head=>
   cases l with
   | head=>rfl
   | tail _ l=>
    obtain ⟨t,k,n⟩:=i q l;rw [t,Env.qx] at e;exact absurd (f.inj _ d q k e).symm n
  | tail _ c=>
   obtain ⟨j,m,s⟩:=i p c;cases l with
   | head=>
    rw [j,Env.qx] at e;exact absurd (f.inj p m _ d e) s
   | tail _ l=>
    obtain ⟨t,k,n⟩:=i q l;rw [j,t] at e;exact f.inj p m q k e
 ·intro p c;cases c with
  | head=>rw [Env.qx];exact (f.obj _ d).mono rfl r
  | tail _ c=>
   obtain ⟨j,m,s⟩:=i p c;rw [j];exact (f.obj p m).mono rfl r
 ·intro p c;cases c with
  | head=>rw [Env.qx];exact f.nz _ d
  | tail _ c=>
   obtain ⟨j,m,s⟩:=i p c;rw [j];exact f.nz p m
 ·intro h;show E.D h\/h=a↔_
  constructor
  ·rintro (h | h)
   ·exact .inl h
   ·exact .inr (by omega)
  ·rintro (h | h)
   ·exact .inl h
   ·exact .inr (by omega)
 ·intro p c;cases c with
  | head=>rw [Env.qx];exact .inl ⟨_,d,rfl⟩
  | tail _ c=>exact .inl ⟨p,(i p c).2.1,(i p c).1.symm⟩
inductive XV where
 | t (n:Nat)
 | c (v:AV)
 | g (n:Nat)
inductive Kd where
 | b
 | i
 | s
inductive XO where
 | bad
 | vt (x:XV)
 | pick (c a b:XV)
 | bin (op:BinOp) (x y:XV)
 | beq (neg:Bool) (x y:XV)
 | vH (neg:Bool) (x y:XV)
 | wC (neg:Bool) (ks:List Kd) (x y:XV)
 | vI (neg lit:Bool) (kt:Nat->Option Kd) (x y:XV)
 | seq (neg:Bool) (x y:XV)
 | vO (neg:Bool) (x y:XV)
 | vN (neg:Bool) (x y:XV)
 | un (op:UnOp) (x:XV)
 | conv (k:IntKind) (x:XV)
 | vu (x:XV)
 | vb (x:XV)
 | vV (x:XV)
 | mark (x:XV)
 | w3 (x c:XV)
 | w4 (x c:XV)
 | vS (x:XV) (off sz:Nat) (ag:Bool)
 | ext (x:XV) (i:Nat)
 | wF (x i:XV)
 | qY (x i:XV) (len sz:Nat) (ag:Bool)
 | box (x:XV) (sz:Nat)
 | alloc (z:List AV)
 | build (z:List AV) (ps:List (Nat×Nat×XV))
 | qD (len sz:Nat) (z:List AV) (ps:List (Nat×Nat×XV))
 | load (x:XV) (sz:Nat) (ag:Bool)
 | store (a x:XV) (sz:Nat)
 | wo (x:XV)
 | qP (x:XV) (off:Nat)
 | qB (x i:XV) (sz:Nat)
 | qy (x i:XV) (len sz:Nat)
 | wA (x:XV) (lo hi:Option XV)
 | wu (x:XV) (lo hi mx:Option XV) (sz:Nat)
 | vA (x:XV) (lo hi:Option XV) (len sz:Nat)
 | w7 (x:XV)
 | wi (x:XV)
 | vD (x:XV)
 | wL (n:Nat)
 | cap (x:XV)
 | append (x y:XV) (sz bytes:Nat)
 | copy (x y:XV) (sz:Nat)
 | vM (x:XV) (sz:Nat) (z:List AV)
 | vP (x:XV)
 | min (x y:XV)
 | max (x y:XV)
 | qK (l c:XV) (sz bytes:Nat) (z:List AV)
 | wj
 | lookup (ag:Bool) (ks:List Kd) (m k:XV) (z:AV) (ok:Bool)
 | wB (ag:Bool) (ks:List Kd) (m k v:XV)
 | del (ag:Bool) (ks:List Kd) (m k:XV)
 | q9 (fn:Fn) (first caps:List XV)
 | wM (t:Nat) (x:XV)
 | vF (x:XV) (t:Nat) (ok:Bool) (z:AV)
 | vB (x:XV)
 | vg (x:XV)
 | call (f:Nat) (args:List XV)
 | qL (f:XV) (args:List XV)
 | invoke (r:XV) (m:String) (args:List XV)
structure XOper where
 dst:Option Nat
 op:XO
 guard:Option (Nat×Bool)
structure XD where
 qc:Nat
 looks:List Nat
inductive XC where
 | skip
 | wD (ops:List XOper)
 | draw (ops:List XOper) (ds:List XD)
 | seq (a b:XC)
 | cond (c:XV) (a b:XC)
 | block (id:Nat) (b:XC)
 | loop (b:XC)
 | exit (id:Nat)
 | ret
 | wN (m:XV) (it:Nat) (D:List Nat) (en W id1:Nat) (rest:List XOper) (body:XC)
inductive XR where
 | t (n:Nat)
 | cell (n sz:Nat) (ag:Bool)
structure XF where
 np:Nat
 nt:Nat
 body:XC
 res:List XR
abbrev Fr:=List (Nat×AV)
def Fr.get:Fr->Nat->Option AV
 | [],_=>none
 | (k,v)::r,n=>match Nat.beq k n with
  | true=>some v
  | false=>Fr.get r n
def Fr.put:Fr->Nat->AV->Fr
 | [],n,v=>[(n,v)]
 | (k,u)::r,n,v=>match Nat.beq k n with
  | true=>(n,v)::r
  | false=>(k,u)::Fr.put r n v
abbrev Out:=AV×Heap×Nat
structure Cx where
 wG:Nat->Option AV
 uf:Nat->String->Option Nat
def XV.ev (G:Cx) (fr:Fr):XV->Option AV
 | .t n=>fr.get n
 | .c v=>some v
 | .g n=>G.wG n
def evs (G:Cx) (fr:Fr):List XV->Option (List AV)
 | []=>some []
 | x::r=>match x.ev G fr with
  | some v=>match evs G fr r with
   | some b=>some (v::b)
   | none=>none
  | none=>none
def evo (G:Cx) (fr:Fr):Option XV->Option (Option AV)
 | none=>some none
 | some x=>match x.ev G fr with
  | some v=>some (some v)
  | none=>none
def ksame:IntKind->IntKind->Bool
 | .i8,.i8=>true | .i16,.i16=>true | .i32,.i32=>true | .i64,.i64=>true
 | .u8,.u8=>true | .u16,.u16=>true | .u32,.u32=>true | .u64,.u64=>true
 | _,_=>false
def wrapx (k:IntKind):Int->Int
 | .ofNat m=>match k with
  | .i64=>cond (Nat.ble m 9223372036854775807) (.ofNat m) (IntKind.i64.wrap (.ofNat m))
  | .u64=>cond (Nat.ble m 18446744073709551615) (.ofNat m) (IntKind.u64.wrap (.ofNat m))
  | .u8=>cond (Nat.ble m 255) (.ofNat m) (IntKind.u8.wrap (.ofNat m))
  | .u32=>cond (Nat.ble m 4294967295) (.ofNat m) (IntKind.u32.wrap (.ofNat m))
  | .i32=>cond (Nat.ble m 2147483647) (.ofNat m) (IntKind.i32.wrap (.ofNat m))
  | .i8=>IntKind.i8.wrap (.ofNat m)
  | .i16=>IntKind.i16.wrap (.ofNat m)
  | .u16=>IntKind.u16.wrap (.ofNat m)
 | .negSucc m=>match k with
  | .i64=>cond (Nat.ble m 9223372036854775807) (.negSucc m) (IntKind.i64.wrap (.negSucc m))
  | k=>k.wrap (.negSucc m)
def slt:List Nat->List Nat->Bool
 | _,[]=>false
 | [],_::_=>true
 | a::x,b::y=>match Nat.blt a b with
  | true=>true
  | false=>match Nat.beq a b with
   | true=>slt x y
   | false=>false
def seqb:List Nat->List Nat->Bool
 | [],[]=>true
 | a::x,b::y=>match Nat.beq a b with
  | true=>seqb x y
  | false=>false
 | _,_=>false
def xcmp (op:BinOp) (a b:Int):Option AV:=
 match op with
 | .eql=>some (.bool (a==b))
 | .neq=>some (.bool (a != b))
 | .lss=>some (.bool (decide (a<b)))
 | .leq=>some (.bool (decide (a<=b)))
 | .gtr=>some (.bool (decide (a > b)))
 | .geq=>some (.bool (decide (a>=b)))
 | _=>none
def xbits (op:BinOp) (k:IntKind) (x y:Int):Option AV:=
 match op with
 | .and=>some (.int k (k.wrap (BitVec.ofInt k.bits x &&& BitVec.ofInt k.bits y).toNat))
 | .or=>some (.int k (k.wrap (BitVec.ofInt k.bits x ||| BitVec.ofInt k.bits y).toNat))
 | .xor=>some (.int k (k.wrap (BitVec.ofInt k.bits x ^^^ BitVec.ofInt k.bits y).toNat))
 | .andNot=>some (.int k (k.wrap (BitVec.ofInt k.bits x &&& ~~~(BitVec.ofInt k.bits y)).toNat))
 | _=>none
def xbin (op:BinOp):AV->AV->Option AV
 | .int k a,.int c b=>
  match op with
  | .shl=>match decide (b<0) with
   | true=>none
   | false=>some (.int k (wrapx k (a*2 ^ (Min.min b.toNat k.bits))))
  | .shr=>match decide (b<0) with
   | true=>none
   | false=>some (.int k (a.fdiv (2 ^ (Min.min b.toNat k.bits))))
  | op=>match ksame k c with
   | false=>none
   | true=>match op with
    | .add=>some (.int k (wrapx k (a+b)))
    | .sub=>some (.int k (wrapx k (a-b)))
    | .mul=>some (.int k (wrapx k (a*b)))
    | .quo=>match b==0 with
     | true=>none
     | false=>some (.int k (wrapx k (a.tdiv b)))
    | .rem=>match b==0 with
     | true=>none
     | false=>some (.int k (a.tmod b))
    | .and | .or | .xor | .andNot=>xbits op k a b
    | op=>xcmp op a b
 | .str a,.str b=>
  match op with
  | .add=>match Nat.ble (a.length+b.length) zc with
   | true=>some (.str (a++b))
   | false=>none
  | .eql=>some (.bool (seqb a b))
  | .neq=>some (.bool (!seqb a b))
  | .lss=>some (.bool (slt a b))
  | .leq=>some (.bool (slt a b||seqb a b))
  | .gtr=>some (.bool (!(slt a b||seqb a b)))
  | .geq=>some (.bool (!slt a b))
  | _=>none
 | _,_=>none
def bneg (neg b:Bool):AV:=.bool (match neg with | true=>!b | false=>b)
def zL9:Option HO->Bool
 | some (.cells false _)=>true
 | _=>false
def xpeq (H:Heap):AV->AV->Option Bool
 | .ql,.ql=>some true
 | .ql,.ptr _ _=>some false
 | .ptr _ _,.ql=>some false
 | .ql,.qe _ _=>some false
 | .qe _ _,.ql=>some false
 | .ptr h o,.ptr b c=>match zL9 (H.get h) with
  | true=>match zL9 (H.get b) with
   | true=>some (Nat.beq h b&&Nat.beq o c)
   | false=>none
  | false=>none
 | _,_=>none
def eqb:Kd->AV->AV->Option Bool
 | .b,.bool a,.bool b=>some (a==b)
 | .i,.int k a,.int d b=>match ksame k d with
  | true=>some (a==b)
  | false=>none
 | .s,.str a,.str b=>some (seqb a b)
 | _,_,_=>none
def eqbs:List Kd->List AV->List AV->Option Bool
 | [],[],[]=>some true
 | k::ks,a::x,b::y=>match eqb k a b with
  | some true=>eqbs ks x y
  | some false=>some false
  | none=>none
 | _,_,_=>none
def eqs (d:List Kd) (a b:List AV):Option Bool:=
 match Nat.beq a.length d.length,Nat.beq b.length d.length with
 | true,true=>eqbs d a b
 | _,_=>none
def eqk (e:Bool) (d:List Kd):AV->AV->Option Bool
 | .agg a,.agg b=>match e with
  | true=>eqs d a b
  | false=>none
 | a,b=>match e with
  | true=>none
  | false=>match d with
   | [k]=>eqb k a b
   | _=>none
def xieq (lit:Bool) (d:Nat->Option Kd):AV->AV->Option Bool
 | .qd,.qd=>match lit with | true=>some true | false=>none
 | .qd,.iface _ _=>some false
 | .iface _ _,.qd=>some false
 | .iface t a,.iface u b=>match Nat.beq t u with
  | false=>some false
  | true=>match d t with
   | some k=>eqb k a b
   | none=>none
 | _,_=>none
def xseq:AV->AV->Option Bool
 | .qa,.qa=>some true
 | .qa,.row _ _ _ _ _ _=>some false
 | .row _ _ _ _ _ _,.qa=>some false
 | .qa,.qp _ (_::_)=>some false
 | .qp _ (_::_),.qa=>some false
 | _,_=>none
def xmeq:AV->AV->Option Bool
 | .qj,.qj=>some true
 | .qj,.map _=>some false
 | .map _,.qj=>some false
 | _,_=>none
def xfeq:AV->AV->Option Bool
 | .qi,.qi=>some true
 | .qi,.func _ _ _=>some false
 | .func _ _ _,.qi=>some false
 | _,_=>none
def xun (op:UnOp):AV->Option AV
 | .int k n=>match op with
  | .neg=>some (.int k (wrapx k (0-n)))
  | .xor=>xbits .xor k n (if k.signed then -1 else k.max)
  | _=>none
 | .bool b=>match op with
  | .not=>some (.bool !b)
  | _=>none
 | _=>none
def part (cs:List AV) (off sz:Nat) (b:Bool):Option AV:=
 match b with
 | true=>match Nat.ble (off+sz) cs.length with
  | true=>some (.agg ((cs.drop off).take sz))
  | false=>none
 | false=>cs[off]?
def qm (cs:List AV) (off:Nat) (new:List AV):List AV:=cs.take off++new++cs.drop (off+new.length)
def cellsOf (v:AV) (sz:Nat):Option (List AV):=
 match v.flat with
 | true=>match Nat.beq v.cells.length sz with
  | true=>some v.cells
  | false=>none
 | false=>none
def fillx (G:Cx) (fr:Fr) (cs:List AV):List (Nat×Nat×XV)->Option (List AV)
 | []=>some cs
 | (off,b,x)::r=>match x.ev G fr with
  | some v=>match cellsOf v b with
   | some new=>match Nat.ble (off+b) cs.length with
    | true=>fillx G fr (qm cs off new) r
    | false=>none
   | none=>none
  | none=>none
def flatten (sz:Nat):List AV->Option (List AV)
 | []=>some []
 | e::r=>match cellsOf e sz with
  | some c=>match flatten sz r with
   | some b=>some (c++b)
   | none=>none
  | none=>none
def content (H:Heap) (sz:Nat):AV->Option (Nat×List AV)
 | .qa=>some (0,[])
 | .qp c e=>match Nat.beq sz c with
  | true=>match flatten sz e with
   | some d=>some (e.length,d)
   | none=>none
  | false=>none
 | .row h off len c _ _=>match Nat.beq sz c with
  | true=>match H.get h with
   | some (.cells _ d)=>match Nat.ble (off+len*sz) d.length with
    | true=>some (len,(d.drop off).take (len*sz))
    | false=>none
   | _=>none
  | false=>none
 | .str s=>match Nat.beq sz 1 with
  | true=>some (s.length,s.map λ b=>.int .u8 (.ofNat b))
  | false=>none
 | _=>none
def zg:Nat:=70368744177664
def xappend (H:Heap) (nx:Nat) (s y:AV) (sz bytes:Nat):Option Out:=
 match content H sz y with
 | none=>none
 | some (n,c)=>
  match s with
  | .qa=>match n with
   | 0=>some (.qa,H,nx)
   | n+1=>match Nat.ble ((n+1)*bytes) zg with
    | true=>some (.row nx 0 (n+1) sz (n+1) false,(nx,.cells false c)::H,nx+1)
    | false=>none
  | .row h off len d f e=>match Nat.beq sz d with
   | false=>none
   | true=>match H.get h with
    | some (.cells str b)=>match Nat.ble (off+len*sz) b.length with
     | false=>none
     | true=>match Nat.ble ((len+n)*bytes) zg&&Nat.ble (len+n) zg with
      | false=>none
      | true=>match Nat.ble (len+n) f with
       | true=>some (.row h off (len+n) sz f e,H.put h (.cells str (qm b (off+len*sz) c)),nx)
       | false=>match e with
        | true=>some (.row nx 0 (len+n) sz (len+n) false,(nx,.cells false ((b.drop off).take (len*sz)++c))::H,nx+1)
        | false=>match n with
         | 0=>some (s,H,nx)
         | _=>match off with
          | 0=>some (.row nx 0 (len+n) sz (len+n) false,(nx,.cells str (b.take (len*sz)++c))::H.del h,nx+1)
          | _=>none
    | _=>none
  | .qp z g=>match n with
   | 0=>some (.qp z g,H,nx)
   | _=>none
  | _=>none
def zDO (d:Bool) (e:List Kd):AV->Bool
 | .agg a=>d&&Nat.beq a.length e.length
 | .bool _ | .int _ _ | .str _=>!d&&Nat.beq e.length 1
 | _=>false
def mfind (e:Bool) (d:List Kd) (k:AV):List (AV×AV)->Option (Option AV)
 | []=>some none
 | (j,v)::r=>match eqk e d k j with
  | some true=>some (some v)
  | some false=>mfind e d k r
  | none=>none
def mput (e:Bool) (d:List Kd) (k v:AV):List (AV×AV)->Option (List (AV×AV))
 | []=>some [(k,v)]
 | (j,u)::r=>match eqk e d k j with
  | some true=>some ((k,v)::r)
  | some false=>match mput e d k v r with
   | some g=>some ((j,u)::g)
   | none=>none
  | none=>none
def mdel (e:Bool) (d:List Kd) (k:AV):List (AV×AV)->Option (List (AV×AV))
 | []=>some []
 | (j,u)::r=>match eqk e d k j with
  | some true=>some r
  | some false=>match mdel e d k r with
   | some g=>some ((j,u)::g)
   | none=>none
  | none=>none
def bnd (v:Option AV) (b top:Nat):Option Nat:=
 match v with
 | none=>some b
 | some (.int _ (.ofNat n))=>match Nat.ble n top with
  | true=>some n
  | false=>none
 | _=>none
def xslice (sz:Nat) (lo c d:Option AV):AV->Option AV
 | .qa=>match bnd d 0 0 with
  | some m=>match bnd c 0 m with
   | some h=>match bnd lo 0 h with
    | some _=>some .qa
    | none=>none
   | none=>none
  | none=>none
 | .qp b e=>match Nat.beq sz b with
  | false=>none
  | true=>match d with
   | some _=>none
   | none=>match bnd c e.length e.length with
    | some h=>match bnd lo 0 h with
     | some l=>some (.qp sz ((e.take h).drop l))
     | none=>none
    | none=>none
 | .row h off len b f g=>match Nat.beq sz b with
  | false=>none
  | true=>match d with
   | some m=>match bnd (some m) 0 f with
    | some m=>match bnd c len m with
     | some t=>match bnd lo 0 t with
      | some l=>some (.row h (off+l*sz) (t-l) sz (m-l) true)
      | none=>none
     | none=>none
    | none=>none
   | none=>match bnd c len (Nat.max len f) with
    | some t=>match bnd lo 0 t with
     | some l=>some (.row h (off+l*sz) (t-l) sz (Nat.max len f-l) g)
     | none=>none
    | none=>none
 | _=>none
def xload (H:Heap) (sz:Nat) (b:Bool):AV->Option AV
 | .ptr h off=>match H.get h with
  | some (.cells _ c)=>part c off sz b
  | _=>none
 | .qe e off=>part e.cells off sz b
 | _=>none
def idx (es:List AV):AV->Option AV
 | .int _ (.ofNat n)=>es[n]?
 | _=>none
def zE5 (n:Nat):AV->Option Nat
 | .int _ (.ofNat i)=>match Nat.blt i n with
  | true=>some i
  | false=>none
 | _=>none
def xcopy (H:Heap) (nx:Nat) (d y:AV) (sz:Nat):Option Out:=
 match content H sz y with
 | none=>none
 | some (n,e)=>match d with
  | .qa=>some (.int .i64 0,H,nx)
  | .row h off len b _ _=>match Nat.beq sz b with
   | false=>none
   | true=>match H.get h with
    | some (.cells str c)=>match Nat.ble (off+len*sz) c.length with
     | true=>some (.int .i64 (.ofNat (Nat.min n len)),H.put h (.cells str (qm c off (e.take (Nat.min n len*sz)))),nx)
     | false=>none
    | _=>none
  | _=>none
def rep (n:Nat) (z:List AV):List AV:=match n with
 | 0=>[]
 | n+1=>z++rep n z
def zAN:List AV->Option (List Nat)
 | []=>some []
 | .int .u8 (.ofNat b)::r=>match zAN r with
  | some s=>some (b::s)
  | none=>none
 | _=>none
def rune (s:List Nat) (pos:Nat):Option Nat:=
 match s[pos]? with
 | some b=>match Nat.blt b 128 with
  | true=>some b
  | false=>none
 | none=>none
abbrev Call:=Nat->List AV->Heap->Nat->Option Out
def applyf (call:Call) (H:Heap) (nx:Nat) (args:List AV):AV->Option Out
 | .func (.func f) first b=>call f (first++args++b) H nx
 | _=>none
def bidx (b:Nat):Nat->List Nat->Int
 | _,[]=>-1
 | i,a::r=>match Nat.beq a b with
  | true=>.ofNat i
  | false=>bidx b (i+1) r
def bcnt (b:Nat):List Nat->Nat
 | []=>0
 | a::r=>match Nat.beq a b with
  | true=>bcnt b r+1
  | false=>bcnt b r
def xoS (G:Cx) (call:Call) (fr:Fr) (H:Heap) (nx:Nat):XO->Option Out
 | .bad=>none
 | .vt x=>match x.ev G fr with
  | some v=>some (v,H,nx)
  | none=>none
 | .pick c a b=>match c.ev G fr with
  | some (.bool true)=>match a.ev G fr with
   | some v=>some (v,H,nx)
   | none=>none
  | some (.bool false)=>match b.ev G fr with
   | some v=>some (v,H,nx)
   | none=>none
  | _=>none
 | .bin op x y=>match x.ev G fr,y.ev G fr with
  | some a,some b=>match xbin op a b with
   | some v=>some (v,H,nx)
   | none=>none
  | _,_=>none
 | .beq neg x y=>match x.ev G fr,y.ev G fr with
  | some (.bool a),some (.bool b)=>some (bneg neg (a==b),H,nx)
  | _,_=>none
 | .vH neg x y=>match x.ev G fr,y.ev G fr with
  | some a,some b=>match xpeq H a b with
   | some v=>some (bneg neg v,H,nx)
   | none=>none
  | _,_=>none
 | .wC neg D x y=>match x.ev G fr,y.ev G fr with
  | some (.agg a),some (.agg b)=>match eqs D a b with
   | some v=>some (bneg neg v,H,nx)
   | none=>none
  | _,_=>none
 | .vI neg lit O x y=>match x.ev G fr,y.ev G fr with
  | some a,some b=>match xieq lit O a b with
   | some v=>some (bneg neg v,H,nx)
   | none=>none
  | _,_=>none
 | .seq neg x y=>match x.ev G fr,y.ev G fr with
  | some a,some b=>match xseq a b with
   | some v=>some (bneg neg v,H,nx)
   | none=>none
  | _,_=>none
 | .vO neg x y=>match x.ev G fr,y.ev G fr with
  | some a,some b=>match xmeq a b with
   | some v=>some (bneg neg v,H,nx)
   | none=>none
  | _,_=>none
 | .vN neg x y=>match x.ev G fr,y.ev G fr with
  | some a,some b=>match xfeq a b with
   | some v=>some (bneg neg v,H,nx)
   | none=>none
  | _,_=>none
 | .un op x=>match x.ev G fr with
  | some a=>match xun op a with
   | some v=>some (v,H,nx)
   | none=>none
  | none=>none
 | .conv k x=>match x.ev G fr with
  | some (.int _ n)=>some (.int k (wrapx k n),H,nx)
  | _=>none
 | .vu x=>match x.ev G fr with
  | some (.str s)=>some (.row nx 0 s.length 1 s.length false,(nx,.cells true (s.map λ b=>.int .u8 (.ofNat b)))::H,nx+1)
  | _=>none
 | .vb x=>match x.ev G fr with
  | some (.str _)=>none
  | some v=>match content H 1 v with
   | some (_,j)=>match zAN j with
    | some s=>some (.str s,H,nx)
    | none=>none
   | none=>none
  | none=>none
 | .vV x=>match x.ev G fr with
  | some (.str s)=>some (.str s,H,nx)
  | _=>none
 | .mark x=>match x.ev G fr with
  | some (.row h off len g M N)=>match Nat.blt 0 len with
   | true=>match H.get h with
    | some (.cells _ j)=>some (.row h off len g M N,H.put h (.cells true j),nx)
    | _=>none
   | false=>none
  | _=>none
 | .w3 x c=>match x.ev G fr,c.ev G fr with
  | some (.str s),some (.int .u8 (.ofNat b))=>some (.int .i64 (bidx b 0 s),H,nx)
  | _,_=>none
 | .w4 x c=>match x.ev G fr,c.ev G fr with
  | some (.str s),some (.int .u8 (.ofNat b))=>some (.int .i64 (.ofNat (bcnt b s)),H,nx)
  | _,_=>none
 | .vS x off g q=>match x.ev G fr with
  | some (.agg j)=>match part j off g q with
   | some v=>some (v,H,nx)
   | none=>none
  | _=>none
 | .ext x i=>match x.ev G fr with
  | some (.qf F)=>match F[i]? with
   | some v=>some (v,H,nx)
   | none=>none
  | _=>none
 | .wF x i=>match x.ev G fr,i.ev G fr with
  | some (.str s),some (.int _ (.ofNat n))=>match s[n]? with
   | some b=>some (.int .u8 (.ofNat b),H,nx)
   | none=>none
  | _,_=>none
 | .qY x i len g q=>match x.ev G fr,i.ev G fr with
  | some (.agg j),some i=>match zE5 len i with
   | some n=>match part j (n*g) g q with
    | some v=>some (v,H,nx)
    | none=>none
   | none=>none
  | _,_=>none
 | .box x g=>match x.ev G fr with
  | some v=>match cellsOf v g with
   | some j=>some (.ptr nx 0,(nx,.cells false j)::H,nx+1)
   | none=>none
  | none=>none
 | .alloc z=>some (.ptr nx 0,(nx,.cells false z)::H,nx+1)
 | .build z J=>match fillx G fr z J with
  | some j=>some (.agg j,H,nx)
  | none=>none
 | .qD len g z J=>match fillx G fr z J with
  | some j=>some (.row nx 0 len g len true,(nx,.cells false j)::H,nx+1)
  | none=>none
 | .load x g q=>match x.ev G fr with
  | some a=>match xload H g q a with
   | some v=>some (v,H,nx)
   | none=>none
  | none=>none
 | .store a x g=>match a.ev G fr,x.ev G fr with
  | some (.ptr h off),some v=>match H.get h with
   | some (.cells str j)=>match cellsOf v g with
    | some new=>match Nat.ble (off+g) j.length with
     | true=>some (.qf [],H.put h (.cells str (qm j off new)),nx)
     | false=>none
    | none=>none
   | _=>none
  | _,_=>none
 | .wo x=>match x.ev G fr with
  | some (.ptr h o)=>some (.ptr h o,H,nx)
  | some (.qe e o)=>some (.qe e o,H,nx)
  | some (.iface t v)=>some (.iface t v,H,nx)
  | some (.func (.func f) a b)=>some (.func (.func f) a b,H,nx)
  | _=>none
 | .qP x off=>match x.ev G fr with
  | some (.ptr h o)=>some (.ptr h (o+off),H,nx)
  | some (.qe e o)=>some (.qe e (o+off),H,nx)
  | _=>none
 | .qB x i g=>match x.ev G fr,i.ev G fr with
  | some (.qp A p),some i=>match Nat.beq g A with
   | true=>match idx p i with
    | some e=>some (.qe e 0,H,nx)
    | none=>none
   | false=>none
  | some (.row h off len A _ _),some i=>match Nat.beq g A with
   | true=>match zE5 len i with
    | some n=>some (.ptr h (off+n*g),H,nx)
    | none=>none
   | false=>none
  | _,_=>none
 | .qy x i len g=>match x.ev G fr,i.ev G fr with
  | some (.ptr h o),some i=>match zE5 len i with
   | some n=>some (.ptr h (o+n*g),H,nx)
   | none=>none
  | some (.qe e o),some i=>match zE5 len i with
   | some n=>some (.qe e (o+n*g),H,nx)
   | none=>none
  | _,_=>none
 | .wA x C B=>match x.ev G fr,evo G fr C,evo G fr B with
  | some (.str s),some C,some B=>match bnd B s.length s.length with
   | some h=>match bnd C 0 h with
    | some l=>some (.str ((s.take h).drop l),H,nx)
    | none=>none
   | none=>none
  | _,_,_=>none
 | .wu x C B K g=>match x.ev G fr,evo G fr C,evo G fr B,evo G fr K with
  | some v,some C,some B,some K=>match xslice g C B K v with
   | some v=>some (v,H,nx)
   | none=>none
  | _,_,_,_=>none
 | .vA x C B len g=>match x.ev G fr,evo G fr C,evo G fr B with
  | some (.ptr h off),some C,some B=>match H.get h with
   | some (.cells _ j)=>match Nat.ble (off+len*g) j.length with
    | true=>match bnd B len len with
     | some t=>match bnd C 0 t with
      | some l=>some (.row h (off+l*g) (t-l) g (len-l) true,H,nx)
      | none=>none
     | none=>none
    | false=>none
   | _=>none
  | _,_,_=>none
 | .w7 x=>match x.ev G fr with
  | some (.str s)=>some (.int .i64 (.ofNat s.length),H,nx)
  | _=>none
 | .wi x=>match x.ev G fr with
  | some .qa=>some (.int .i64 (.ofNat 0),H,nx)
  | some (.qp _ p)=>some (.int .i64 (.ofNat p.length),H,nx)
  | some (.row _ _ len _ _ _)=>some (.int .i64 (.ofNat len),H,nx)
  | _=>none
 | .vD x=>match x.ev G fr with
  | some .qj=>some (.int .i64 (.ofNat 0),H,nx)
  | some (.map h)=>match H.get h with
   | some (.map p)=>match Nat.ble p.length zc with
    | true=>some (.int .i64 (.ofNat p.length),H,nx)
    | false=>none
   | _=>none
  | _=>none
 | .wL n=>some (.int .i64 (.ofNat n),H,nx)
 | .cap x=>match x.ev G fr with
  | some .qa=>some (.int .i64 (.ofNat 0),H,nx)
  | some (.row _ _ _ _ M true)=>some (.int .i64 (.ofNat M),H,nx)
  | _=>none
 | .append x y g bytes=>match x.ev G fr,y.ev G fr with
  | some s,some y=>xappend H nx s y g bytes
  | _,_=>none
 | .copy x y g=>match x.ev G fr,y.ev G fr with
  | some d,some y=>xcopy H nx d y g
  | _,_=>none
 | .vM x g z=>match x.ev G fr with
  | some .qa=>some (.qf [],H,nx)
  | some (.row h off len A _ _)=>match Nat.beq g A with
   | false=>none
   | true=>match H.get h with
    | some (.cells str j)=>match Nat.ble (off+len*g) j.length with
     | true=>some (.qf [],H.put h (.cells str (qm j off (rep len z))),nx)
     | false=>none
    | _=>none
  | _=>none
 | .vP x=>match x.ev G fr with
  | some .qj=>some (.qf [],H,nx)
  | some (.map h)=>match H.get h with
   | some (.map _)=>some (.qf [],H.put h (.map []),nx)
   | _=>none
  | _=>none
 | .min x y=>match x.ev G fr,y.ev G fr with
  | some (.int k a),some (.int L b)=>match ksame k L with
   | true=>some (.int k (if b<a then b else a),H,nx)
   | false=>none
  | _,_=>none
 | .max x y=>match x.ev G fr,y.ev G fr with
  | some (.int k a),some (.int L b)=>match ksame k L with
   | true=>some (.int k (if b > a then b else a),H,nx)
   | false=>none
  | _,_=>none
 | .qK l c g bytes z=>match l.ev G fr,c.ev G fr with
  | some (.int _ (.ofNat l)),some (.int _ (.ofNat c))=>match Nat.ble l c with
   | true=>match Nat.ble (c*bytes) zg with
    | true=>match Nat.ble c zg with
     | true=>some (.row nx 0 l g c true,(nx,.cells false (rep c z))::H,nx+1)
     | false=>none
    | false=>none
   | false=>none
  | _,_=>none
 | .wj=>some (.map nx,(nx,.map [])::H,nx+1)
 | .lookup q D m k z ok=>match m.ev G fr,k.ev G fr with
  | some m,some k=>match zDO q D k with
   | false=>none
   | true=>match m with
    | .qj=>some (match ok with | true=>.qf [z,.bool false] | false=>z,H,nx)
    | .map h=>match H.get h with
     | some (.map p)=>match mfind q D k p with
      | some (some v)=>some (match ok with | true=>.qf [v,.bool true] | false=>v,H,nx)
      | some none=>some (match ok with | true=>.qf [z,.bool false] | false=>z,H,nx)
      | none=>none
     | _=>none
    | _=>none
  | _,_=>none
 | .wB q D m k v=>match m.ev G fr,k.ev G fr,v.ev G fr with
  | some (.map h),some k,some v=>match zDO q D k with
   | false=>none
   | true=>match H.get h with
    | some (.map p)=>match mput q D k v p with
     | some p=>some (.qf [],H.put h (.map p),nx)
     | none=>none
    | _=>none
  | _,_,_=>none
 | .del q D m k=>match m.ev G fr,k.ev G fr with
  | some m,some k=>match zDO q D k with
   | false=>none
   | true=>match m with
    | .qj=>some (.qf [],H,nx)
    | .map h=>match H.get h with
     | some (.map p)=>match mdel q D k p with
      | some p=>some (.qf [],H.put h (.map p),nx)
      | none=>none
     | _=>none
    | _=>none
  | _,_=>none
 | .q9 fn first I=>match evs G fr first,evs G fr I with
  | some a,some b=>some (.func fn a b,H,nx)
  | _,_=>none
 | .wM t x=>match x.ev G fr with
  | some v=>some (.iface t v,H,nx)
  | none=>none
 | .vF x t ok z=>match x.ev G fr with
  | some (.iface u v)=>match Nat.beq u t with
   | true=>some (match ok with | true=>.qf [v,.bool true] | false=>v,H,nx)
   | false=>match ok with
    | true=>some (.qf [z,.bool false],H,nx)
    | false=>none
  | some .qd=>match ok with
   | true=>some (.qf [z,.bool false],H,nx)
   | false=>none
  | _=>none
 | .vB x=>match x.ev G fr with
  | some (.str s)=>some (.ptr nx 0,(nx,.wm s 0)::H,nx+1)
  | _=>none
 | .vg x=>match x.ev G fr with
  | some (.ptr h 0)=>match H.get h with
   | some (.wm s pos)=>match Nat.ble s.length zc with
    | true=>match Nat.blt pos s.length with
     | true=>match rune s pos with
      | some b=>some (.qf [.bool true,.int .i64 (.ofNat pos),.int .i32 (.ofNat b)],H.put h (.wm s (pos+1)),nx)
      | none=>none
     | false=>some (.qf [.bool false],H,nx)
    | false=>none
   | _=>none
  | _=>none
 | .call f args=>match evs G fr args with
  | some F=>call f F H nx
  | none=>none
 | .qL f args=>match f.ev G fr,evs G fr args with
  | some Q,some F=>applyf call H nx F Q
  | _,_=>none
 | .invoke r m args=>match r.ev G fr,evs G fr args with
  | some (.iface t v),some F=>match G.uf t m with
   | some f=>call f (v::F) H nx
   | none=>none
  | _,_=>none
def zNn  :Option Out:=
 none
def zVU (G:Cx) (fr:Fr) (H:Heap) (nx:Nat) (x:XV):Option Out:=
 match x.ev G fr with
 | some v=>some (v,H,nx)
 | none=>none
def zUF (G:Cx) (fr:Fr) (H:Heap) (nx:Nat) (c:XV) (a:XV) (b:XV):Option Out:=
 match c.ev G fr with
 | some (.bool true)=>match a.ev G fr with
  | some v=>some (v,H,nx)
  | none=>none
 | some (.bool false)=>match b.ev G fr with
  | some v=>some (v,H,nx)
  | none=>none
 | _=>none
def zVV (G:Cx) (fr:Fr) (H:Heap) (nx:Nat) (op:BinOp) (x:XV) (y:XV):Option Out:=
 match x.ev G fr,y.ev G fr with
 | some a,some b=>match xbin op a b with
  | some v=>some (v,H,nx)
  | none=>none
 | _,_=>none
def zVW (G:Cx) (fr:Fr) (H:Heap) (nx:Nat) (neg:Bool) (x:XV) (y:XV):Option Out:=
 match x.ev G fr,y.ev G fr with
 | some (.bool a),some (.bool b)=>some (bneg neg (a==b),H,nx)
 | _,_=>none
def zVX (G:Cx) (fr:Fr) (H:Heap) (nx:Nat) (neg:Bool) (x:XV) (y:XV):Option Out:=
 match x.ev G fr,y.ev G fr with
 | some a,some b=>match xpeq H a b with
  | some v=>some (bneg neg v,H,nx)
  | none=>none
 | _,_=>none
def zVY (G:Cx) (fr:Fr) (H:Heap) (nx:Nat) (neg:Bool) (d:List Kd) (x:XV) (y:XV):Option Out:=
 match x.ev G fr,y.ev G fr with
 | some (.agg a),some (.agg b)=>match eqs d a b with
  | some v=>some (bneg neg v,H,nx)
  | none=>none
 | _,_=>none
def zVZ (G:Cx) (fr:Fr) (H:Heap) (nx:Nat) (neg:Bool) (lit:Bool) (d:Nat->Option Kd) (x:XV) (y:XV):Option Out:=
 match x.ev G fr,y.ev G fr with
 | some a,some b=>match xieq lit d a b with
  | some v=>some (bneg neg v,H,nx)
  | none=>none
 | _,_=>none
def zV0 (G:Cx) (fr:Fr) (H:Heap) (nx:Nat) (neg:Bool) (x:XV) (y:XV):Option Out:=
 match x.ev G fr,y.ev G fr with
 | some a,some b=>match xseq a b with
  | some v=>some (bneg neg v,H,nx)
  | none=>none
 | _,_=>none
def zV1 (G:Cx) (fr:Fr) (H:Heap) (nx:Nat) (neg:Bool) (x:XV) (y:XV):Option Out:=
 match x.ev G fr,y.ev G fr with
 | some a,some b=>match xmeq a b with
  | some v=>some (bneg neg v,H,nx)
  | none=>none
 | _,_=>none
def zV2 (G:Cx) (fr:Fr) (H:Heap) (nx:Nat) (neg:Bool) (x:XV) (y:XV):Option Out:=
 match x.ev G fr,y.ev G fr with
 | some a,some b=>match xfeq a b with
  | some v=>some (bneg neg v,H,nx)
  | none=>none
 | _,_=>none
def zWK (G:Cx) (fr:Fr) (H:Heap) (nx:Nat) (op:UnOp) (x:XV):Option Out:=
 match x.ev G fr with
 | some a=>match xun op a with
  | some v=>some (v,H,nx)
  | none=>none
 | none=>none
def zUG (G:Cx) (fr:Fr) (H:Heap) (nx:Nat) (k:IntKind) (x:XV):Option Out:=
 match x.ev G fr with
 | some (.int _ n)=>some (.int k (wrapx k n),H,nx)
 | _=>none
def zV3 (G:Cx) (fr:Fr) (H:Heap) (nx:Nat) (x:XV):Option Out:=
 match x.ev G fr with
 | some (.str s)=>some (.row nx 0 s.length 1 s.length false,(nx,.cells true (s.map λ b=>.int .u8 (.ofNat b)))::H,nx+1)
 | _=>none
def zV4 (G:Cx) (fr:Fr) (H:Heap) (nx:Nat) (x:XV):Option Out:=
 match x.ev G fr with
 | some (.str _)=>none
 | some v=>match content H 1 v with
  | some (_,b)=>match zAN b with
   | some s=>some (.str s,H,nx)
   | none=>none
  | none=>none
 | none=>none
def zV5 (G:Cx) (fr:Fr) (H:Heap) (nx:Nat) (x:XV):Option Out:=
 match x.ev G fr with
 | some (.str s)=>some (.str s,H,nx)
 | _=>none
def zUH (G:Cx) (fr:Fr) (H:Heap) (nx:Nat) (x:XV):Option Out:=
 match x.ev G fr with
 | some (.row h off len c e b)=>match Nat.blt 0 len with
  | true=>match H.get h with
   | some (.cells _ d)=>some (.row h off len c e b,H.put h (.cells true d),nx)
   | _=>none
  | false=>none
 | _=>none
def zUI (G:Cx) (fr:Fr) (H:Heap) (nx:Nat) (x:XV) (c:XV):Option Out:=
 match x.ev G fr,c.ev G fr with
 | some (.str s),some (.int .u8 (.ofNat b))=>some (.int .i64 (bidx b 0 s),H,nx)
 | _,_=>none
def zUJ (G:Cx) (fr:Fr) (H:Heap) (nx:Nat) (x:XV) (c:XV):Option Out:=
 match x.ev G fr,c.ev G fr with
 | some (.str s),some (.int .u8 (.ofNat b))=>some (.int .i64 (.ofNat (bcnt b s)),H,nx)
 | _,_=>none
def zV6 (G:Cx) (fr:Fr) (H:Heap) (nx:Nat) (x:XV) (off:Nat) (sz:Nat) (c:Bool):Option Out:=
 match x.ev G fr with
 | some (.agg b)=>match part b off sz c with
  | some v=>some (v,H,nx)
  | none=>none
 | _=>none
def zV7 (G:Cx) (fr:Fr) (H:Heap) (nx:Nat) (x:XV) (i:Nat):Option Out:=
 match x.ev G fr with
 | some (.qf b)=>match b[i]? with
  | some v=>some (v,H,nx)
  | none=>none
 | _=>none
def zUK (G:Cx) (fr:Fr) (H:Heap) (nx:Nat) (x:XV) (i:XV):Option Out:=
 match x.ev G fr,i.ev G fr with
 | some (.str s),some (.int _ (.ofNat n))=>match s[n]? with
  | some b=>some (.int .u8 (.ofNat b),H,nx)
  | none=>none
 | _,_=>none
def zUL (G:Cx) (fr:Fr) (H:Heap) (nx:Nat) (x:XV) (i:XV) (len:Nat) (sz:Nat) (c:Bool):Option Out:=
 match x.ev G fr,i.ev G fr with
 | some (.agg b),some i=>match zE5 len i with
  | some n=>match part b (n*sz) sz c with
   | some v=>some (v,H,nx)
   | none=>none
  | none=>none
 | _,_=>none
def zV8 (G:Cx) (fr:Fr) (H:Heap) (nx:Nat) (x:XV) (sz:Nat):Option Out:=
 match x.ev G fr with
 | some v=>match cellsOf v sz with
  | some b=>some (.ptr nx 0,(nx,.cells false b)::H,nx+1)
  | none=>none
 | none=>none
def zTF (H:Heap) (nx:Nat) (z:List AV):Option Out:=
 some (.ptr nx 0,(nx,.cells false z)::H,nx+1)
def zTG (G:Cx) (fr:Fr) (H:Heap) (nx:Nat) (z:List AV) (b:List (Nat×Nat×XV)):Option Out:=
 match fillx G fr z b with
 | some c=>some (.agg c,H,nx)
 | none=>none
def zSm (G:Cx) (fr:Fr) (H:Heap) (nx:Nat) (len:Nat) (sz:Nat) (z:List AV) (b:List (Nat×Nat×XV)):Option Out:=
 match fillx G fr z b with
 | some c=>some (.row nx 0 len sz len true,(nx,.cells false c)::H,nx+1)
 | none=>none
def zUM (G:Cx) (fr:Fr) (H:Heap) (nx:Nat) (x:XV) (sz:Nat) (b:Bool):Option Out:=
 match x.ev G fr with
 | some a=>match xload H sz b a with
  | some v=>some (v,H,nx)
  | none=>none
 | none=>none
def zTH (G:Cx) (fr:Fr) (H:Heap) (nx:Nat) (a:XV) (x:XV) (sz:Nat):Option Out:=
 match a.ev G fr,x.ev G fr with
 | some (.ptr h off),some v=>match H.get h with
  | some (.cells str b)=>match cellsOf v sz with
   | some new=>match Nat.ble (off+sz) b.length with
    | true=>some (.qf [],H.put h (.cells str (qm b off new)),nx)
    | false=>none
   | none=>none
  | _=>none
 | _,_=>none
def zSn (G:Cx) (fr:Fr) (H:Heap) (nx:Nat) (x:XV):Option Out:=
 match x.ev G fr with
 | some (.ptr h o)=>some (.ptr h o,H,nx)
 | some (.qe e o)=>some (.qe e o,H,nx)
 | some (.iface t v)=>some (.iface t v,H,nx)
 | some (.func (.func f) a b)=>some (.func (.func f) a b,H,nx)
 | _=>none
def zTI (G:Cx) (fr:Fr) (H:Heap) (nx:Nat) (x:XV) (off:Nat):Option Out:=
 match x.ev G fr with
 | some (.ptr h o)=>some (.ptr h (o+off),H,nx)
 | some (.qe e o)=>some (.qe e (o+off),H,nx)
 | _=>none
def zSo (G:Cx) (fr:Fr) (H:Heap) (nx:Nat) (x:XV) (i:XV) (sz:Nat):Option Out:=
 match x.ev G fr,i.ev G fr with
 | some (.qp b c),some i=>match Nat.beq sz b with
  | true=>match idx c i with
   | some e=>some (.qe e 0,H,nx)
   | none=>none
  | false=>none
 | some (.row h off len b _ _),some i=>match Nat.beq sz b with
  | true=>match zE5 len i with
   | some n=>some (.ptr h (off+n*sz),H,nx)
   | none=>none
  | false=>none
 | _,_=>none
def zSp (G:Cx) (fr:Fr) (H:Heap) (nx:Nat) (x:XV) (i:XV) (len:Nat) (sz:Nat):Option Out:=
 match x.ev G fr,i.ev G fr with
 | some (.ptr h o),some i=>match zE5 len i with
  | some n=>some (.ptr h (o+n*sz),H,nx)
  | none=>none
 | some (.qe e o),some i=>match zE5 len i with
  | some n=>some (.qe e (o+n*sz),H,nx)
  | none=>none
 | _,_=>none
def zUN (G:Cx) (fr:Fr) (H:Heap) (nx:Nat) (x:XV) (lo:Option XV) (b:Option XV):Option Out:=
 match x.ev G fr,evo G fr lo,evo G fr b with
 | some (.str s),some lo,some b=>match bnd b s.length s.length with
  | some h=>match bnd lo 0 h with
   | some l=>some (.str ((s.take h).drop l),H,nx)
   | none=>none
  | none=>none
 | _,_,_=>none
def zUO (G:Cx) (fr:Fr) (H:Heap) (nx:Nat) (x:XV) (lo:Option XV) (c:Option XV) (b:Option XV) (sz:Nat):Option Out:=
 match x.ev G fr,evo G fr lo,evo G fr c,evo G fr b with
 | some v,some lo,some c,some b=>match xslice sz lo c b v with
  | some v=>some (v,H,nx)
  | none=>none
 | _,_,_,_=>none
def zUP (G:Cx) (fr:Fr) (H:Heap) (nx:Nat) (x:XV) (lo:Option XV) (b:Option XV) (len:Nat) (sz:Nat):Option Out:=
 match x.ev G fr,evo G fr lo,evo G fr b with
 | some (.ptr h off),some lo,some b=>match H.get h with
  | some (.cells _ c)=>match Nat.ble (off+len*sz) c.length with
   | true=>match bnd b len len with
    | some t=>match bnd lo 0 t with
     | some l=>some (.row h (off+l*sz) (t-l) sz (len-l) true,H,nx)
     | none=>none
    | none=>none
   | false=>none
  | _=>none
 | _,_,_=>none
def zUQ (G:Cx) (fr:Fr) (H:Heap) (nx:Nat) (x:XV):Option Out:=
 match x.ev G fr with
 | some (.str s)=>some (.int .i64 (.ofNat s.length),H,nx)
 | _=>none
def zUR (G:Cx) (fr:Fr) (H:Heap) (nx:Nat) (x:XV):Option Out:=
 match x.ev G fr with
 | some .qa=>some (.int .i64 (.ofNat 0),H,nx)
 | some (.qp _ b)=>some (.int .i64 (.ofNat b.length),H,nx)
 | some (.row _ _ len _ _ _)=>some (.int .i64 (.ofNat len),H,nx)
 | _=>none
def zUS (G:Cx) (fr:Fr) (H:Heap) (nx:Nat) (x:XV):Option Out:=
 match x.ev G fr with
 | some .qj=>some (.int .i64 (.ofNat 0),H,nx)
 | some (.map h)=>match H.get h with
  | some (.map b)=>match Nat.ble b.length zc with
   | true=>some (.int .i64 (.ofNat b.length),H,nx)
   | false=>none
  | _=>none
 | _=>none
def zUT (H:Heap) (nx:Nat) (n:Nat):Option Out:=
 some (.int .i64 (.ofNat n),H,nx)
def zV9 (G:Cx) (fr:Fr) (H:Heap) (nx:Nat) (x:XV):Option Out:=
 match x.ev G fr with
 | some .qa=>some (.int .i64 (.ofNat 0),H,nx)
 | some (.row _ _ _ _ b true)=>some (.int .i64 (.ofNat b),H,nx)
 | _=>none
def zSq (G:Cx) (fr:Fr) (H:Heap) (nx:Nat) (x:XV) (y:XV) (sz:Nat) (bytes:Nat):Option Out:=
 match x.ev G fr,y.ev G fr with
 | some s,some y=>xappend H nx s y sz bytes
 | _,_=>none
def zUU (G:Cx) (fr:Fr) (H:Heap) (nx:Nat) (x:XV) (y:XV) (sz:Nat):Option Out:=
 match x.ev G fr,y.ev G fr with
 | some d,some y=>xcopy H nx d y sz
 | _,_=>none
def zUV (G:Cx) (fr:Fr) (H:Heap) (nx:Nat) (x:XV) (sz:Nat) (z:List AV):Option Out:=
 match x.ev G fr with
 | some .qa=>some (.qf [],H,nx)
 | some (.row h off len b _ _)=>match Nat.beq sz b with
  | false=>none
  | true=>match H.get h with
   | some (.cells str c)=>match Nat.ble (off+len*sz) c.length with
    | true=>some (.qf [],H.put h (.cells str (qm c off (rep len z))),nx)
    | false=>none
   | _=>none
 | _=>none
def zUW (G:Cx) (fr:Fr) (H:Heap) (nx:Nat) (x:XV):Option Out:=
 match x.ev G fr with
 | some .qj=>some (.qf [],H,nx)
 | some (.map h)=>match H.get h with
  | some (.map _)=>some (.qf [],H.put h (.map []),nx)
  | _=>none
 | _=>none
def zWa (G:Cx) (fr:Fr) (H:Heap) (nx:Nat) (x:XV) (y:XV):Option Out:=
 match x.ev G fr,y.ev G fr with
 | some (.int k a),some (.int c b)=>match ksame k c with
  | true=>some (.int k (if b<a then b else a),H,nx)
  | false=>none
 | _,_=>none
def zWb (G:Cx) (fr:Fr) (H:Heap) (nx:Nat) (x:XV) (y:XV):Option Out:=
 match x.ev G fr,y.ev G fr with
 | some (.int k a),some (.int c b)=>match ksame k c with
  | true=>some (.int k (if b > a then b else a),H,nx)
  | false=>none
 | _,_=>none
def zRE (G:Cx) (fr:Fr) (H:Heap) (nx:Nat) (l:XV) (c:XV) (sz:Nat) (bytes:Nat) (z:List AV):Option Out:=
 match l.ev G fr,c.ev G fr with
 | some (.int _ (.ofNat l)),some (.int _ (.ofNat c))=>match Nat.ble l c with
  | true=>match Nat.ble (c*bytes) zg with
   | true=>match Nat.ble c zg with
    | true=>some (.row nx 0 l sz c true,(nx,.cells false (rep c z))::H,nx+1)
    | false=>none
   | false=>none
  | false=>none
 | _,_=>none
def zTJ (H:Heap) (nx:Nat) :Option Out:=
 some (.map nx,(nx,.map [])::H,nx+1)
def zSr (G:Cx) (fr:Fr) (H:Heap) (nx:Nat) (e:Bool) (d:List Kd) (m:XV) (k:XV) (z:AV) (ok:Bool):Option Out:=
 match m.ev G fr,k.ev G fr with
 | some m,some k=>match zDO e d k with
  | false=>none
  | true=>match m with
   | .qj=>some (match ok with | true=>.qf [z,.bool false] | false=>z,H,nx)
   | .map h=>match H.get h with
    | some (.map g)=>match mfind e d k g with
     | some (some v)=>some (match ok with | true=>.qf [v,.bool true] | false=>v,H,nx)
     | some none=>some (match ok with | true=>.qf [z,.bool false] | false=>z,H,nx)
     | none=>none
    | _=>none
   | _=>none
 | _,_=>none
def zUX (G:Cx) (fr:Fr) (H:Heap) (nx:Nat) (g:Bool) (e:List Kd) (m:XV) (k:XV) (v:XV):Option Out:=
 match m.ev G fr,k.ev G fr,v.ev G fr with
 | some (.map h),some k,some v=>match zDO g e k with
  | false=>none
  | true=>match H.get h with
   | some (.map d)=>match mput g e k v d with
    | some d=>some (.qf [],H.put h (.map d),nx)
    | none=>none
   | _=>none
 | _,_,_=>none
def zWc (G:Cx) (fr:Fr) (H:Heap) (nx:Nat) (g:Bool) (e:List Kd) (m:XV) (k:XV):Option Out:=
 match m.ev G fr,k.ev G fr with
 | some m,some k=>match zDO g e k with
  | false=>none
  | true=>match m with
   | .qj=>some (.qf [],H,nx)
   | .map h=>match H.get h with
    | some (.map d)=>match mdel g e k d with
     | some d=>some (.qf [],H.put h (.map d),nx)
     | none=>none
    | _=>none
   | _=>none
 | _,_=>none
def zSs (G:Cx) (fr:Fr) (H:Heap) (nx:Nat) (fn:Fn) (first:List XV) (c:List XV):Option Out:=
 match evs G fr first,evs G fr c with
 | some a,some b=>some (.func fn a b,H,nx)
 | _,_=>none
def zUY (G:Cx) (fr:Fr) (H:Heap) (nx:Nat) (t:Nat) (x:XV):Option Out:=
 match x.ev G fr with
 | some v=>some (.iface t v,H,nx)
 | none=>none
def zWd (G:Cx) (fr:Fr) (H:Heap) (nx:Nat) (x:XV) (t:Nat) (ok:Bool) (z:AV):Option Out:=
 match x.ev G fr with
 | some (.iface u v)=>match Nat.beq u t with
  | true=>some (match ok with | true=>.qf [v,.bool true] | false=>v,H,nx)
  | false=>match ok with
   | true=>some (.qf [z,.bool false],H,nx)
   | false=>none
 | some .qd=>match ok with
  | true=>some (.qf [z,.bool false],H,nx)
  | false=>none
 | _=>none
def zUZ (G:Cx) (fr:Fr) (H:Heap) (nx:Nat) (x:XV):Option Out:=
 match x.ev G fr with
 | some (.str s)=>some (.ptr nx 0,(nx,.wm s 0)::H,nx+1)
 | _=>none
def zTK (G:Cx) (fr:Fr) (H:Heap) (nx:Nat) (x:XV):Option Out:=
 match x.ev G fr with
 | some (.ptr h 0)=>match H.get h with
  | some (.wm s pos)=>match Nat.ble s.length zc with
   | true=>match Nat.blt pos s.length with
    | true=>match rune s pos with
     | some b=>some (.qf [.bool true,.int .i64 (.ofNat pos),.int .i32 (.ofNat b)],H.put h (.wm s (pos+1)),nx)
     | none=>none
    | false=>some (.qf [.bool false],H,nx)
   | false=>none
  | _=>none
 | _=>none
def zU0 (G:Cx) (call:Call) (fr:Fr) (H:Heap) (nx:Nat) (f:Nat) (args:List XV):Option Out:=
 match evs G fr args with
 | some b=>call f b H nx
 | none=>none
def zTL (G:Cx) (call:Call) (fr:Fr) (H:Heap) (nx:Nat) (f:XV) (args:List XV):Option Out:=
 match f.ev G fr,evs G fr args with
 | some c,some b=>applyf call H nx b c
 | _,_=>none
def zSt (G:Cx) (call:Call) (fr:Fr) (H:Heap) (nx:Nat) (r:XV) (m:String) (args:List XV):Option Out:=
 match r.ev G fr,evs G fr args with
 | some (.iface t v),some b=>match G.uf t m with
  | some f=>call f (v::b) H nx
  | none=>none
 | _,_=>none
def xo (G:Cx) (call:Call) (fr:Fr) (H:Heap) (nx:Nat):XO->Option Out
 | .bad=>zNn
 | .vt x=>zVU G fr H nx x
 | .pick c a b=>zUF G fr H nx c a b
 | .bin op x y=>zVV G fr H nx op x y
 | .beq neg x y=>zVW G fr H nx neg x y
 | .vH neg x y=>zVX G fr H nx neg x y
 | .wC neg g x y=>zVY G fr H nx neg g x y
 | .vI neg lit q x y=>zVZ G fr H nx neg lit q x y
 | .seq neg x y=>zV0 G fr H nx neg x y
 | .vO neg x y=>zV1 G fr H nx neg x y
 | .vN neg x y=>zV2 G fr H nx neg x y
 | .un op x=>zWK G fr H nx op x
 | .conv k x=>zUG G fr H nx k x
 | .vu x=>zV3 G fr H nx x
 | .vb x=>zV4 G fr H nx x
 | .vV x=>zV5 G fr H nx x
 | .mark x=>zUH G fr H nx x
 | .w3 x c=>zUI G fr H nx x c
 | .w4 x c=>zUJ G fr H nx x c
 | .vS x off d e=>zV6 G fr H nx x off d e
 | .ext x i=>zV7 G fr H nx x i
 | .wF x i=>zUK G fr H nx x i
 | .qY x i len d e=>zUL G fr H nx x i len d e
 | .box x d=>zV8 G fr H nx x d
 | .alloc z=>zTF H nx z
 | .build z p=>zTG G fr H nx z p
 | .qD len d z p=>zSm G fr H nx len d z p
 | .load x d e=>zUM G fr H nx x d e
 | .store a x d=>zTH G fr H nx a x d
 | .wo x=>zSn G fr H nx x
 | .qP x off=>zTI G fr H nx x off
 | .qB x i d=>zSo G fr H nx x i d
 | .qy x i len d=>zSp G fr H nx x i len d
 | .wA x o h=>zUN G fr H nx x o h
 | .wu x o h s d=>zUO G fr H nx x o h s d
 | .vA x o h len d=>zUP G fr H nx x o h len d
 | .w7 x=>zUQ G fr H nx x
 | .wi x=>zUR G fr H nx x
 | .vD x=>zUS G fr H nx x
 | .wL n=>zUT H nx n
 | .cap x=>zV9 G fr H nx x
 | .append x y d bytes=>zSq G fr H nx x y d bytes
 | .copy x y d=>zUU G fr H nx x y d
 | .vM x d z=>zUV G fr H nx x d z
 | .vP x=>zUW G fr H nx x
 | .min x y=>zWa G fr H nx x y
 | .max x y=>zWb G fr H nx x y
 | .qK l c d bytes z=>zRE G fr H nx l c d bytes z
 | .wj=>zTJ H nx
 | .lookup e g m k z ok=>zSr G fr H nx e g m k z ok
 | .wB e g m k v=>zUX G fr H nx e g m k v
 | .del e g m k=>zWc G fr H nx e g m k
 | .q9 fn first j=>zSs G fr H nx fn first j
 | .wM t x=>zUY G fr H nx t x
 | .vF x t ok z=>zWd G fr H nx x t ok z
 | .vB x=>zUZ G fr H nx x
 | .vg x=>zTK G fr H nx x
 | .call f args=>zU0 G call fr H nx f args
 | .qL f args=>zTL G call fr H nx f args
 | .invoke r m args=>zSt G call fr H nx r m args
theorem zGK {G:Cx} {call:Call} {fr:Fr} {H:Heap} {nx:Nat} {o:XO}:xo G call fr H nx o=xoS G call fr H nx o:=by cases o <;> rfl
def qv (fr:Fr) (d:Option Nat) (v:AV):Fr:=
 match d with
 | some n=>fr.put n v
 | none=>fr
def wantx (fr:Fr):Option (Nat×Bool)->Option Bool
 | none=>some true
 | some (s,b)=>match fr.get s with
  | some (.bool c)=>some (match c,b with | true,true=>true | false,false=>true | _,_=>false)
  | some (.qf [])=>some false
  | _=>none
def zSu (G:Cx) (call:Call):List XOper->Fr->Heap->Nat->Option (Fr×Heap×Nat)
 | [],fr,H,nx=>some (fr,H,nx)
 | o::r,fr,H,nx=>match wantx fr o.guard with
  | some true=>match xo G call fr H nx o.op with
   | some (v,H',nx')=>zSu G call r (qv fr o.dst v) H' nx'
   | none=>none
  | some false=>zSu G call r (qv fr o.dst (.qf [])) H nx
  | none=>none
inductive Ext where
 | normal
 | exit (id:Nat)
 | ret
abbrev St:=Fr×Heap×Nat
def allb (f:AV->AV->Bool):List AV->List AV->Bool
 | [],[]=>true
 | a::x,b::y=>match f a b with
  | true=>allb f x y
  | false=>false
 | _,_=>false
def wC:Nat->AV->AV->Bool
 | 0,_,_=>false
 | d+1,a,b=>match a,b with
  | .bool a,.bool b=>a==b
  | .int k a,.int B b=>match ksame k B with | true=>a==b | false=>false
  | .str a,.str b=>seqb a b
  | .ql,.ql=>true
  | .ptr h o,.ptr p u=>Nat.beq h p&&Nat.beq o u
  | .qe e o,.qe r u=>wC d e r&&Nat.beq o u
  | .qa,.qa=>true
  | .qp n a,.qp m b=>Nat.beq n m&&allb (wC d) a b
  | .row a b c e f g,.row q l y r s A=>Nat.beq a q&&Nat.beq b l&&Nat.beq c y&&Nat.beq e r&&Nat.beq f s&&g==A
  | .qj,.qj=>true
  | .map h,.map p=>Nat.beq h p
  | .qi,.qi=>true
  | .func (.func f) a b,.func (.func s) q l=>Nat.beq f s&&allb (wC d) a q&&allb (wC d) b l
  | .qd,.qd=>true
  | .iface t v,.iface z x=>Nat.beq t z&&wC d v x
  | .agg a,.agg b=>allb (wC d) a b
  | .qf a,.qf b=>allb (wC d) a b
  | .sym i,.sym j=>Nat.beq i j
  | _,_=>false
def zX:XO->Nat
 | .vt _ | .pick _ _ _ | .bin _ _ _ | .beq _ _ _ | .wC _ _ _ _ | .vI _ _ _ _ _ | .w3 _ _ | .w4 _ _ | .seq _ _ _ | .vO _ _ _ | .vN _ _ _ | .un _ _ | .conv _ _ | .vV _ | .vS _ _ _ _ | .ext _ _ | .wF _ _ | .qY _ _ _ _ _ | .build _ _ | .wo _
 | .qP _ _ | .qB _ _ _ | .qy _ _ _ _ | .wA _ _ _ | .wu _ _ _ _ _ | .w7 _ | .wi _ | .wL _ | .cap _ | .min _ _ | .max _ _ | .q9 _ _ _ | .wM _ _ | .vF _ _ _ _=>0
 | .vH _ _ _ | .vb _ | .load _ _ _ | .vA _ _ _ _ _ | .vD _ | .lookup _ _ _ _ _ _=>1
 | .vu _ | .box _ _ | .alloc _ | .qD _ _ _ _ | .qK _ _ _ _ _ | .wj | .vB _=>2
 | _=>3
structure DRead where
 i:Nat
 op:XO
 fr:Fr
 qc:Nat
 v:AV
structure DS where
 fr:Fr
 nx:Nat
 ms:List (Heap×Nat)
 ch:List (Nat×Nat)
 al:List (Nat×Nat×HO)
 rd:List DRead
 tr:List (Nat×Option Nat×AV)
def within (f:Nat->Bool):List (Nat×Nat×HO)->Heap
 | []=>[]
 | (i,h,o)::r=>match f i with
  | true=>(h,o)::within f r
  | false=>within f r
def zBZ (mask:Nat):List (Nat×Nat×HO)->Nat
 | []=>0
 | (i,_,_)::r=>match mask.testBit i with
  | true=>2 ^ i ||| zBZ mask r
  | false=>zBZ mask r
def but (mask inc:Nat) (i:Nat):Bool:=mask.testBit i&&!inc.testBit i
def ze:Call:=λ _ _ _ _=>none
def only:List Nat->Fr->Fr
 | [],_=>[]
 | t::ts,fr=>match fr.get t with
  | some v=>(t,v)::only ts fr
  | none=>only ts fr
def zDm (G:Cx) (call:Call) (i:Nat) (o:XOper) (d:XD) (s:DS):Option DS:=
 let fr:=only d.looks s.fr
 match wantx fr o.guard with
 | some false=>some { s with fr:=qv s.fr o.dst (.qf []),tr:=(i,o.dst,.qf [])::s.tr }
 | some true=>match zX o.op with
  | 0=>match xo G ze fr [] s.nx o.op with
   | some (v,[],n)=>match Nat.beq n s.nx with
    | true=>some { s with fr:=qv s.fr o.dst v,tr:=(i,o.dst,v)::s.tr }
    | false=>none
   | _=>none
  | 1=>match s.ms with
   | (m,inc)::_=>match xo G ze fr (within (but d.qc inc) s.al++m) s.nx o.op with
    | some (v,_,_)=>some { s with fr:=qv s.fr o.dst v,rd:=⟨i,o.op,fr,d.qc,v⟩::s.rd,tr:=(i,o.dst,v)::s.tr }
    | none=>none
   | []=>none
  | 2=>match xo G ze fr [] s.nx o.op with
   | some (v,[(h,b)],n)=>match Nat.beq n (h+1) with
    | true=>match Nat.beq h s.nx with
     | true=>some { s with fr:=qv s.fr o.dst v,nx:=n,al:=(i,h,b)::s.al,tr:=(i,o.dst,v)::s.tr }
     | false=>none
    | false=>none
   | some (v,[],n)=>match Nat.beq n s.nx with
    | true=>some { s with fr:=qv s.fr o.dst v,tr:=(i,o.dst,v)::s.tr }
    | false=>none
   | _=>none
  | _=>match s.ms with
   | (m,inc)::_=>match s.ch.all λ c=>d.qc.testBit c.1 with
    | true=>match xo G call fr (within (but d.qc inc) s.al++m) s.nx o.op with
     | some (v,e,n)=>some { s with fr:=qv s.fr o.dst v,nx:=n,ms:=(e,inc ||| zBZ d.qc s.al)::s.ms,ch:=(i,d.qc)::s.ch,tr:=(i,o.dst,v)::s.tr }
     | none=>none
    | false=>none
   | []=>none
 | none=>none
def zB0 (G:Cx) (call:Call):Nat->List XOper->List XD->DS->Option DS
 | _,[],_,s=>some s
 | i,o::r,d::ds,s=>match zDm G call i o d s with
  | some b=>zB0 G call (i+1) r ds b
  | none=>none
 | _,_::_,[],_=>none
open Classical in
noncomputable def eqC (a b:AV):Bool:=decide (a=b)
open Classical in
theorem zPy (a:AV):eqC a a=true:=QL rfl
open Classical in
theorem zWe {a b:AV} (h:eqC a b=true):a=b:=QO h
noncomputable section
def zEb (G:Cx) (al:List (Nat×Nat×HO)) (nx:Nat) (r:DRead) (m:Heap) (inc:Nat):Bool:=
 match xo G ze r.fr (within (but r.qc inc) al++m) nx r.op with
 | some (v,_,_)=>eqC v r.v
 | none=>false
def zCz (G:Cx) (al:List (Nat×Nat×HO)) (nx:Nat) (r:DRead):List (Nat×Nat)->List (Heap×Nat)->Bool
 | (c,p)::ch,(m,inc)::ms=>
  match r.qc.testBit c with
  | true=>zEb G al nx r m inc
  | false=>match p.testBit r.i with
   | true=>zCz G al nx r ch ms
   | false=>match zEb G al nx r m inc with
    | true=>zCz G al nx r ch ms
    | false=>false
 | [],(m,inc)::_=>zEb G al nx r m inc
 | _,[]=>false
def zMa (G:Cx) (call:Call) (ops:List XOper) (ds:List XD) (st:St):Option St:=
 match zB0 G call 0 ops ds ⟨st.1,st.2.2,[(st.2.1,0)],[],[],[],[]⟩ with
 | some s=>match s.rd.all λ r=>zCz G s.al s.nx r s.ch s.ms with
  | true=>match s.ms with
   | (m,inc)::_=>some (s.fr,within (λ i=>!inc.testBit i) s.al++m,s.nx)
   | []=>none
  | false=>none
 | none=>none
def inN (n:Nat):List Nat->Bool
 | []=>false
 | a::r=>match Nat.beq n a with
  | true=>true
  | false=>inN n r
def zPh (H:Heap) (fr:Fr):XR->Option AV
 | .t n=>fr.get n
 | .cell n b c=>match fr.get n with
  | some a=>xload H b c a
  | none=>none
def ress (H:Heap) (fr:Fr):List XR->Option (List AV)
 | []=>some []
 | r::rs=>match zPh H fr r with
  | some v=>match ress H fr rs with
   | some b=>some (v::b)
   | none=>none
  | none=>none
def zCM:List AV->AV
 | [v]=>v
 | b=>.qf b
def qF (n:Nat):List AV->Fr
 | []=>[]
 | v::r=>(n,v)::qF (n+1) r
def chunks (sz:Nat):Nat->List AV->List AV
 | 0,_=>[]
 | n+1,b=>(match sz with
  | 1=>match b with
   | c::_=>c
   | []=>.qf []
  | _=>.agg (b.take sz))::chunks sz n (b.drop sz)
end
end Go.Sy
namespace Go.Sy
def cavs (f:Value->Option AV):List Value->Option (List AV)
 | []=>some []
 | v::r=>match f v with
  | some a=>match cavs f r with
   | some as=>some (a::as)
   | none=>none
  | none=>none
def inr:IntKind->Int->Bool
 | .i64,.ofNat m=>Nat.ble m 9223372036854775807
 | .i64,.negSucc m=>Nat.ble m 9223372036854775807
 | .i32,.ofNat m=>Nat.ble m 2147483647
 | .i32,.negSucc m=>Nat.ble m 2147483647
 | .i16,.ofNat m=>Nat.ble m 32767
 | .i16,.negSucc m=>Nat.ble m 32767
 | .i8,.ofNat m=>Nat.ble m 127
 | .i8,.negSucc m=>Nat.ble m 127
 | .u64,.ofNat m=>Nat.ble m 18446744073709551615
 | .u32,.ofNat m=>Nat.ble m 4294967295
 | .u16,.ofNat m=>Nat.ble m 65535
 | .u8,.ofNat m=>Nat.ble m 255
 | _,.negSucc _=>false
def cav:Nat->Value->Option AV
 | 0,_=>none
 | d+1,v=>match v with
  | .bool b=>some (.bool b)
  | .int k n=>match inr k n with
   | true=>some (.int k n)
   | false=>none
  | .string s=>match Nat.ble s.data.toList.length zc with
   | true=>some (.str (s.data.toList.map UInt8.toNat))
   | false=>none
  | .pointer none=>some .ql
  | .slice none 0 0=>some .qa
  | .map none=>some .qj
  | .nilFunc=>some .qi
  | .nilIface=>some .qd
  | .func (.func f) a b=>match a.toList,b.toList with
   | [],[]=>some (.func (.func f) [] [])
   | _,_=>none
  | .agg c=>match cavs (cav d) c.toList with
   | some l=>match l.all AV.one with
    | true=>some (.agg l)
    | false=>none
   | none=>none
  | _=>none
def copd:Operand->Option XV
 | .tmp t=>some (.t t)
 | .const v=>match cav 3 v with
  | some a=>some (.c a)
  | none=>none
 | .global g=>some (.g g)
 | .func f=>some (.c (.func (.func f) [] []))
def copds:List Operand->Option (List XV)
 | []=>some []
 | x::r=>match copd x,copds r with
  | some y,some s=>some (y::s)
  | _,_=>none
def copdo:Option Operand->Option (Option XV)
 | none=>some none
 | some x=>match copd x with
  | some y=>some (some y)
  | none=>none
def zL (P:Program) (t:TypeId):Option Nat:=(P.info? t).map (·.size)
def zHR (P:Program) (t:TypeId):Option Nat:=(P.info? t).map (·.bytes)
def agT (P:Program) (t:TypeId):Option Bool:=match P.underlying t with
 | some (.struct _) | some (.array _ _)=>some true
 | some _=>some false
 | none=>none
def zKz (P:Program) (t:TypeId):Option AV:=match P.info? t with
 | some i=>match i.zero with
  | some v=>cav 3 v
  | none=>none
 | none=>none
def zDP (P:Program) (t:TypeId):Option (List AV):=match zKz P t with
 | some v=>match v.flat,zL P t with
  | true,some n=>match Nat.beq v.cells.length n with
   | true=>some v.cells
   | false=>none
  | _,_=>none
 | none=>none
def zIR (P:Program) (f:TypeId->Option (List Kd)):Nat->List Field->Option (List Kd)
 | _,[]=>some []
 | n,x::r=>match x.name == "_",Nat.beq x.offset n,f x.type,zL P x.type with
  | false,true,some d,some s=>match Nat.beq d.length s with
   | true=>match zIR P f (n+s) r with
    | some rs=>some (d++rs)
    | none=>none
   | false=>none
  | _,_,_,_=>none
def zB7 (P:Program):Nat->TypeId->Option (List Kd)
 | 0,_=>none
 | d+1,t=>match P.underlying t with
  | some .bool=>some [.b]
  | some (.int _)=>some [.i]
  | some .string=>some [.s]
  | some (.struct e)=>match P.stoodInHeld t with
   | true=>none
   | false=>zIR P (zB7 P d) 0 e.toList
  | _=>none
def zMb (P:Program) (t:TypeId):Option Kd:=match P.info? t with
 | some i=>match i.comparable with
  | true=>match P.underlying t with
   | some .bool=>some .b
   | some (.int _)=>some .i
   | some .string=>some .s
   | _=>none
  | false=>none
 | none=>none
def extK (fn:Func) (as:List XV):Option XO:=match fn.origin == "",as with
 | true,[x,y]=>match fn.name == "internal/bytealg.IndexByteString" with
  | true=>some (.w3 x y)
  | false=>match fn.name == "internal/bytealg.CountString" with
   | true=>some (.w4 x y)
   | false=>none
 | _,_=>none
def zBv:Operand->Bool
 | .const _=>true
 | _=>false
def cparts (place:Nat->Option (Nat×Nat)):List (Nat×Operand)->Option (List (Nat×Nat×XV))
 | []=>some []
 | (i,x)::r=>match place i,copd x,cparts place r with
  | some (off,b),some y,some s=>some ((off,b,y)::s)
  | _,_,_=>none
def cfields (P:Program) (t:TypeId):Option (Array Field):=match P.underlying t with
 | some (.struct b)=>some b
 | _=>none
def obind {α β:Type} (x:Option α) (f:α->Option β):Option β:=match x with
 | some a=>f a
 | none=>none
def zQ0 (P:Program) (op:BinOp) (t:TypeId) (x y:Operand):Option XO:=
 obind (copd x) λ a=>obind (copd y) λ b=>
 match P.underlying t with
 | some (.int _) | some .string=>some (.bin op a b)
 | some .bool=>match op with
  | .eql=>some (.beq false a b)
  | .neq=>some (.beq true a b)
  | _=>none
 | some (.pointer e)=>match op with
  | .eql=>match zL P e with | some 0=>none | some _=>some (.vH false a b) | none=>none
  | .neq=>match zL P e with | some 0=>none | some _=>some (.vH true a b) | none=>none
  | _=>none
 | some (.struct _)=>match zB7 P 6 t,P.eqGuardType P.depth t with
  | some c,false=>match op with
   | .eql=>some (.wC false c a b)
   | .neq=>some (.wC true c a b)
   | _=>none
  | _,_=>none
 | some (.interface _)=>match op with
  | .eql=>some (.vI false (zBv x||zBv y) (zMb P) a b)
  | .neq=>some (.vI true (zBv x||zBv y) (zMb P) a b)
  | _=>none
 | some (.slice _)=>match op with
  | .eql=>some (.seq false a b)
  | .neq=>some (.seq true a b)
  | _=>none
 | some (.map _ _)=>match op with
  | .eql=>some (.vO false a b)
  | .neq=>some (.vO true a b)
  | _=>none
 | some (.func _ _ _)=>match op with
  | .eql=>some (.vN false a b)
  | .neq=>some (.vN true a b)
  | _=>none
 | _=>none
def zPz (P:Program) (s d:TypeId) (x:Operand):Option XO:=
 obind (copd x) λ a=>
 match P.underlying s,P.underlying d with
 | some (.int _),some (.int k)=>some (.conv k a)
 | some .string,some .string=>some (.vV a)
 | some .string,some (.slice e)=>match P.underlying e with
  | some (.int .u8)=>some (.vu a)
  | _=>none
 | some (.slice e),some .string=>match P.underlying e with
  | some (.int .u8)=>some (.vb a)
  | _=>none
 | some (.slice _),some (.slice e)=>match Nat.beq s d with
  | true=>match P.underlying e with
   | some (.int .u8)=>some (.mark a)
   | _=>none
  | false=>none
 | _,_=>none
def keyT (P:Program) (t:TypeId):Option (Bool×List Kd):=obind (zB7 P 6 t) λ d=>obind (agT P t) λ g=>some (g,d)
def zJ1 (P:Program) (b:Builtin) (args:List Operand) (ts:List TypeId):Option XO:=
 match b,args,ts with
 | .len,[x],[t]=>obind (copd x) λ a=>match P.underlying t with
  | some .string=>some (.w7 a)
  | some (.slice _)=>some (.wi a)
  | some (.map _ _)=>some (.vD a)
  | some (.array n _)=>match Nat.ble n zc with
   | true=>some (.wL n)
   | false=>none
  | some (.pointer e)=>match P.underlying e with
   | some (.array n _)=>match Nat.ble n zc with
    | true=>some (.wL n)
    | false=>none
   | _=>none
  | _=>none
 | .cap,[x],[t]=>obind (copd x) λ a=>match P.underlying t with
  | some (.slice _)=>some (.cap a)
  | _=>none
 | .append,[x,y],[t,u]=>obind (copd x) λ a=>obind (copd y) λ b=>match P.underlying t,P.underlying u with
  | some (.slice e),some (.slice _)=>obind (zL P e) λ s=>obind (zHR P e) λ n=>obind (zDP P e) λ _=>match s with | 0=>none | s+1=>some (.append a b (s+1) n)
  | some (.slice e),some .string=>obind (zL P e) λ s=>obind (zHR P e) λ n=>obind (zDP P e) λ _=>match s with | 1=>some (.append a b 1 n) | _=>none
  | _,_=>none
 | .copy,[x,y],[t,_]=>obind (copd x) λ a=>obind (copd y) λ b=>match P.underlying t with
  | some (.slice e)=>obind (zL P e) λ s=>match s with | 0=>none | s+1=>some (.copy a b (s+1))
  | _=>none
 | .clear,[x],[t]=>obind (copd x) λ a=>match P.underlying t with
  | some (.slice e)=>obind (zL P e) λ s=>obind (zDP P e) λ z=>match s with | 0=>none | s+1=>some (.vM a (s+1) z)
  | some (.map _ _)=>some (.vP a)
  | _=>none
 | .min,[x,y],[t,_]=>obind (copd x) λ a=>obind (copd y) λ b=>match P.underlying t with
  | some (.int _)=>some (.min a b)
  | _=>none
 | .max,[x,y],[t,_]=>obind (copd x) λ a=>obind (copd y) λ b=>match P.underlying t with
  | some (.int _)=>some (.max a b)
  | _=>none
 | .delete,[m,k],[t,_]=>obind (copd m) λ a=>obind (copd k) λ b=>match P.underlying t with
  | some (.map c _)=>obind (keyT P c) λ k=>some (.del k.1 k.2 a b)
  | _=>none
 | _,_,_=>none
def zB1 (P:Program):Op->Option XO
 | .move x | .assign x=>obind (copd x) λ a=>some (.vt a)
 | .pick c a b=>obind (copd c) λ c=>obind (copd a) λ a=>obind (copd b) λ b=>some (.pick c a b)
 | .alloc e=>obind (zDP P e) λ z=>some (.alloc z)
 | .box e v=>obind (copd v) λ a=>obind (zL P e) λ s=>some (.box a s)
 | .build t h=>obind (zDP P t) λ z=>match P.underlying t with
  | some (.struct o)=>match o.toList.all λ f=>(zL P f.type).isSome with
   | true=>obind (cparts (λ i=>obind (o[i]?) λ f=>obind (zL P f.type) λ s=>some (f.offset,s)) h.toList) λ h=>some (.build z h)
   | false=>none
  | some (.array _ e)=>obind (zL P e) λ s=>obind (cparts (λ i=>some (i*s,s)) h.toList) λ h=>some (.build z h)
  | _=>none
 | .buildSlice t n h=>match P.underlying t with
  | some (.slice e)=>obind (zL P e) λ s=>obind (zDP P e) λ z=>match s with
   | 0=>none
   | s+1=>match Nat.ble (n*(s+1)) 16777216 with
    | true=>obind (cparts (λ i=>some (i*(s+1),s+1)) h.toList) λ h=>some (.qD n (s+1) (rep n z) h)
    | false=>none
  | _=>none
 | .load t a=>obind (copd a) λ a=>obind (zL P t) λ s=>obind (agT P t) λ g=>some (.load a s g)
 | .store t a v=>obind (copd a) λ a=>obind (copd v) λ v=>obind (zL P t) λ s=>some (.store a v s)
 | .nilCheck x=>obind (copd x) λ a=>some (.wo a)
 | .binOp op t x y _=>zQ0 P op t x y
 | .unOp op _ x=>obind (copd x) λ a=>some (.un op a)
 | .convert s d x=>zPz P s d x
 | .makeInterface t x=>obind (copd x) λ a=>match P.underlying t with
  | some (.interface _)=>none
  | some _=>some (.wM t a)
  | none=>none
 | .makeFunc fn a b=>obind (copds a.toList) λ a=>obind (copds b.toList) λ b=>some (.q9 fn a b)
 | .makeMap t r=>match P.underlying t,r with
  | some (.map _ _),none=>some .wj
  | _,_=>none
 | .makeSlice t l c=>match P.underlying t with
  | some (.slice e)=>obind (copd l) λ l=>obind (copd c) λ c=>obind (zL P e) λ s=>obind (zHR P e) λ n=>obind (zDP P e) λ z=>match s with
   | 0=>none
   | s+1=>some (.qK l c (s+1) n z)
  | _=>none
 | .slice t x u p j=>obind (copd x) λ x=>obind (copdo u) λ u=>obind (copdo p) λ p=>obind (copdo j) λ j=>match P.underlying t with
  | some .string=>match j with
   | none=>some (.wA x u p)
   | some _=>none
  | some (.slice e)=>obind (zL P e) λ s=>match s with | 0=>none | s+1=>match j,p with
   | some _,none=>none
   | _,_=>some (.wu x u p j (s+1))
  | some (.array n e)=>obind (zL P e) λ s=>match s with | 0=>none | s+1=>match j with
   | none=>match Nat.ble n zc with
    | true=>some (.vA x u p n (s+1))
    | false=>none
   | some _=>none
  | _=>none
 | .fieldAddr t x f=>obind (copd x) λ a=>obind (cfields P t) λ o=>obind (o[f]?) λ f=>obind (zL P f.type) λ s=>match s with
  | 0=>none
  | _+1=>some (.qP a f.offset)
 | .field t x f=>obind (copd x) λ a=>obind (cfields P t) λ o=>obind (o[f]?) λ f=>obind (zL P f.type) λ s=>obind (agT P f.type) λ g=>some (.vS a f.offset s g)
 | .indexAddr t x i=>obind (copd x) λ a=>obind (copd i) λ i=>match P.underlying t with
  | some (.slice e)=>obind (zL P e) λ s=>match s with | 0=>none | s+1=>some (.qB a i (s+1))
  | some (.array n e)=>obind (zL P e) λ s=>match s with | 0=>none | s+1=>some (.qy a i n (s+1))
  | _=>none
 | .index t x i=>obind (copd x) λ a=>obind (copd i) λ i=>match P.underlying t with
  | some .string=>some (.wF a i)
  | some (.array n e)=>obind (zL P e) λ s=>obind (agT P e) λ g=>some (.qY a i n s g)
  | _=>none
 | .lookup t x i ok=>obind (copd x) λ a=>obind (copd i) λ k=>match P.underlying t with
  | some (.map A e)=>obind (keyT P A) λ q=>obind (zKz P e) λ z=>some (.lookup q.1 q.2 a k z ok)
  | _=>none
 | .mapUpdate t m k v | .insert t m k v=>obind (copd m) λ m=>obind (copd k) λ k=>obind (copd v) λ v=>match P.underlying t with
  | some (.map A _)=>obind (keyT P A) λ q=>some (.wB q.1 q.2 m k v)
  | _=>none
 | .range t x=>obind (copd x) λ a=>match P.underlying t with
  | some .string=>some (.vB a)
  | _=>none
 | .next B true=>obind (copd B) λ a=>some (.vg a)
 | .typeAssert x _ t ok=>obind (copd x) λ a=>obind (zKz P t) λ z=>match P.underlying t with
  | some (.interface _)=>none
  | some _=>some (.vF a t ok z)
  | none=>none
 | .extract t i=>obind (copd t) λ a=>some (.ext a i)
 | .call c=>match c.callee with
  | .builtin b=>zJ1 P b c.args.toList c.argTypes.toList
  | .value (.func f)=>match P.funcs[f]? with
   | some fn=>match fn.body with
    | some _=>obind (copds c.args.toList) λ as=>some (.call f as)
    | none=>obind (copds c.args.toList) λ as=>extK fn as
   | none=>none
  | .value x=>obind (copd x) λ x=>obind (copds c.args.toList) λ as=>some (.qL x as)
  | .invoke r m=>obind (copd r) λ r=>obind (copds c.args.toList) λ as=>some (.invoke r m as)
 | _=>none
def zp (P:Program) (ops:Array Oper) (o:Oper):XOper:=
 match o.guard with
 | none=>⟨o.dst,(zB1 P o.op).getD .bad,none⟩
 | some (j,b)=>match (ops[j]?).bind (·.dst) with
  | some s=>⟨o.dst,(zB1 P o.op).getD .bad,some (s,b)⟩
  | none=>⟨o.dst,.bad,none⟩
def zNo:List Operand->List Nat
 | []=>[]
 | .tmp t::r=>t::zNo r
 | _::r=>zNo r
def zU1 (x:XOper) (o:Oper):List Nat:=match x.guard with
 | some (s,_)=>s::zNo o.op.operands.toList
 | none=>zNo o.op.operands.toList
def memb (n:Nat):List Nat->Bool
 | []=>false
 | a::r=>match Nat.beq n a with
  | true=>true
  | false=>memb n r
def zGL (x:Option Nat) (c:XD) (y:Option Nat) (b:XD):Bool:=
 (match x with | some d=>!memb d b.looks | none=>true)&&(match y with | some d=>!memb d c.looks | none=>true) &&
 (match x,y with | some d,some e=>!Nat.beq d e | _,_=>true)
def zKb:Nat->List (Nat×Option Nat×XD)->List XOper->List XD->Bool
 | _,_,[],_=>true
 | _,_,_::_,[]=>false
 | i,b,x::r,d::ds=>(b.all λ e=>d.qc.testBit e.1||zGL e.2.1 e.2.2 x.dst d)&&zKb (i+1) ((i,x.dst,d)::b) r ds
def zMc:Nat->List Oper->Bool
 | _,[]=>true
 | i,o::r=>(o.after.toList.all λ e=>!Region.binds .any e||Nat.blt e.on i)&&zMc (i+1) r
def zipD (ops:Array Oper) (P:Program):List Oper->List Nat->List XD
 | o::r,m::ms=>⟨m,zU1 (zp P ops o) o⟩::zipD ops P r ms
 | _,_=>[]
def zJ (P:Program):Code->Option XC
 | .skip=>some .skip
 | .region _ d draw=>match draw with
  | false=>some (.wD (d.toList.map (zp P d)))
  | true=>
   let f:=d.toList.map (zp P d)
   let e:=zipD d P d.toList (Region.before d).toList
   match zMc 0 d.toList with
   | true=>match zKb 0 [] f e with
    | true=>some (.draw f e)
    | false=>none
   | false=>none
 | .seq a b=>obind (zJ P a) λ a=>obind (zJ P b) λ b=>some (.seq a b)
 | .cond c a b=>obind (copd c) λ c=>obind (zJ P a) λ a=>obind (zJ P b) λ b=>some (.cond c a b)
 | .block i b=>obind (zJ P b) λ b=>some (.block i b)
 | .loop b=>obind (zJ P b) λ b=>some (.loop b)
 | .exit i=>some (.exit i)
 | .ret=>some .ret
 | .scope b=>zJ P b
 | .label _=>some .skip
 | .refuse _=>some (.cond (.c .ql) .skip .skip)
 | _=>none
def zMd:List Oper->List Nat
 | []=>[]
 | o::r=>match o.dst,o.op with
  | some _,.assign _=>zMd r
  | some d,_=>d::zMd r
  | none,_=>zMd r
def zPA:List Oper->List Nat
 | []=>[]
 | o::r=>match o.dst with
  | some d=>d::zPA r
  | none=>zPA r
def zNp:Code->List Nat
 | .region _ c _=>zMd c.toList
 | .seq a b | .cond _ a b=>zNp a++zNp b
 | .block _ b | .loop b | .scope b=>zNp b
 | _=>[]
def zOv:List Oper->Option (List Oper×Oper)
 | []=>none
 | [o]=>some ([],o)
 | o::r=>match zOv r with
  | some (a,l)=>some (o::a,l)
  | none=>none
def mpat (P:Program):Code->Code->Option XC
 | .region _ c false,.block f (.loop (.seq (.region _ o false) (.seq (.cond (.tmp ok) .skip (.exit idx)) (.block g (.seq (.region _ n false) b)))))=>
  match zOv c.toList,o.toList,n.toList with
  | some (pre,⟨some e,.range t m,_,_,_,none⟩),[⟨some nx,.next (.tmp h) false,_,_,_,none⟩,⟨some j,.extract (.tmp l) 0,_,_,_,none⟩],⟨some k,.entry (.tmp i),_,_,_,none⟩::rest=>
   match Nat.beq e h&&Nat.beq e i&&Nat.beq nx l&&Nat.beq ok j&&Nat.beq f idx&&!Nat.beq f g&&!Nat.beq nx e&&!Nat.beq ok e&&!Nat.beq k e&&!Nat.beq ok nx,P.underlying t with
   | true,some (.map _ _)=>obind (copd m) λ m=>obind (zJ P b) λ d=>
    some (.seq (.wD (pre.map (zp P c))) (.wN m e (nx::ok::k::zPA rest++zNp b) k 100000 g (rest.map (zp P n)) d))
   | _,_=>none
  | _,_,_=>none
 | _,_=>none
def zIK (P:Program):Code->Option XC
 | .seq a b=>match mpat P a b with
  | some x=>some x
  | none=>obind (zIK P a) λ a=>obind (zIK P b) λ b=>some (.seq a b)
 | c=>zJ P c
def zD8 (nt:Nat):XC->Bool
 | .wN _ g D h _ _ f e=>Nat.blt g nt&&Nat.blt h nt&&(D.all λ d=>Nat.blt d nt)&&(f.all λ o=>match o.dst with | some d=>Nat.blt d nt | none=>true)&&zD8 nt e
 | .wD c | .draw c _=>c.all λ o=>match o.dst with | some d=>Nat.blt d nt | none=>true
 | .seq a b | .cond _ a b=>zD8 nt a&&zD8 nt b
 | .block _ b | .loop b=>zD8 nt b
 | _=>true
def zOa (P:Program):ResultVar->Option XR
 | .tmp t=>some (.t t)
 | .cell a t=>obind (zL P t) λ s=>obind (agT P t) λ g=>some (.cell a s g)
def zHp (P:Program):List ResultVar->Option (List XR)
 | []=>some []
 | r::rs=>match zOa P r,zHp P rs with
  | some x,some b=>some (x::b)
  | _,_=>none
def zNq (P:Program) (fn:Func):Option XF:=
 obind fn.body λ b=>obind (zIK P b) λ b=>obind (zHp P fn.results.toList) λ rs=>
 match zD8 fn.ntmps b&&Nat.ble (fn.params.size+fn.nfree) fn.ntmps with
 | true=>some ⟨fn.params.size+fn.nfree,fn.ntmps,b,rs⟩
 | false=>none
theorem zGh {a b:IntKind} (h:ksame a b=true):a=b:=by cases a <;> cases b <;> first | rfl | (simp [ksame] at h)
theorem zU2 (k:IntKind) (n:Int) (h:has k n):k.wrap n=n:=by
 obtain ⟨c,b⟩:=h;cases k <;> simp [IntKind.min,IntKind.max,IntKind.signed,IntKind.bits] at c b <;> simp [IntKind.wrap,IntKind.bits,IntKind.signed] <;> omega
theorem zGi (k:IntKind) (n:Int):has k (k.wrap n):=by
 cases k <;> simp [has,IntKind.min,IntKind.max,IntKind.wrap,IntKind.bits,IntKind.signed] <;> omega
theorem zQ1 {k:IntKind} {n:Int} (h:inr k n=true):has k n:=by
 cases k <;> cases n <;> simp [inr,has,IntKind.min,IntKind.max,IntKind.signed,IntKind.bits] at h ⊢ <;> omega
theorem zPB (k:IntKind) (n:Int) (b:Bool) (h:b=true->inr k n=true):cond b n (k.wrap n)=k.wrap n:=by
 cases b with
 | false=>rfl
 | true=>exact (zU2 _ _ (zQ1 (h rfl))).symm
theorem zPC (k:IntKind) (n:Int):wrapx k n=k.wrap n:=by
 cases n with
 | ofNat m=>cases k <;> simp only [wrapx] <;> exact zPB _ _ _ λ h=>h
 | negSucc m=>cases k <;> simp only [wrapx] <;> exact zPB _ _ _ λ h=>h
theorem zNr {E:Env} {w:World} {f:Value->Option AV} (c:∀v a,f v=some a->VR E w a v):∀{l:List Value} {as:List AV},cavs f l=some as->VRs E w as l
 | [],as,h=>by simp [cavs] at h;subst h;exact VRs.nil
 | v::r,as,h=>by
  simp only [cavs] at h;split at h
  ·rename_i a d;split at h
   ·rename_i e b;cases h;exact VRs.cons (c _ _ d) (zNr c b)
   ·cases h
  ·cases h
theorem zJy {E:Env} {w:World}:∀{d:Nat} {v:Value} {a:AV},cav d v=some a->VR E w a v
 | 0,_,_,h=>by simp [cav] at h
 | d+1,v,a,h=>by
  unfold cav at h;split at h
  ·cases h;exact .bool _
  ·split at h
   ·rename_i f;cases h;exact .int _ _ (zQ1 f)
   ·cases h
  ·split at h
   ·rename_i f;cases h;exact .str _ _ rfl (by simpa using f)
   ·cases h
  ·cases h;exact .ql
  ·cases h;exact .qa
  ·cases h;exact .qj
  ·cases h;exact .qi
  ·cases h;exact .qd
  ·split at h
   ·rename_i o k;cases h;exact .func _ _ _ _ _ (by rw [←Array.length_toList,o];rfl) (by rw [←Array.length_toList,k];rfl) (λ i x v e=>by simp at e) (λ i x v e=>by simp at e)
   ·cases h
  ·split at h
   ·rename_i l m;split at h
    ·rename_i c;cases h;have g:VRs E w l _:=zNr (λ v a=>zJy (d:=d)) m
     refine VR.qM g λ v n=>?_
     obtain ⟨i,j⟩:=List.getElem?_of_mem n;have b:i<l.length:=by
      rw [g.1];exact (QD.1 j).1
     have e:l[i]? = some l[i]:=QE b;exact (g.2 i _ v e j).wJ (QG.1 c _ (Qn b))
    ·cases h
   ·cases h
  ·cases h
structure FrR (E:Env) (w:World) (fr:Fr) (a:Act) (nt:Nat):Prop where
 size:a.tmps.size=nt
 get:∀t v,fr.get t=some v->VR E w v (a.tmps.getD t undef)
def zEE (w:World) (g:Nat) (v:AV):Prop:=∀b n,v=.qe (.agg b) n->∃c t e,w.heap[g]? = some (.cells c t e)/\c.size=b.length
theorem zEE.mono {w w':World} {g:Nat} {v:AV} (h:Shapes w w') (k:zEE w g v):zEE w' g v:=λ b n e=>
 let ⟨c,t,f,h1,h2⟩:=k b n e
 let ⟨c',f',k1,k2⟩:=h g c t f h1
 ⟨c',t,f',k1,k2.trans h2⟩
def GR (G:Cx) (E:Env) (w:World):Prop:=∀g v,G.wG g=some v->VR E w v (.pointer (some ⟨g,0,none⟩))/\zEE w g v
def Done (P:Program) (E:Env) (H:Heap) (w:World) (nx:Nat) (s:Sem Next) (v:AV) (H':Heap) (nx':Nat):Prop:=
 ∃d c b,HR c H' b/\Tr E H w c H' b nx nx'/\VR c b v d/\(s.run P w=.ok (.value d) b\/(s.run P w=.ok .skip b/\d=undef))
theorem Done.pure {P:Program} {E:Env} {H:Heap} {w:World} {nx:Nat} {s:Sem Next} {v:AV} {cv:Value} (c:HR E H w)
  (h:s.run P w=.ok (.value cv) w) (b:VR E w v cv):Done P E H w nx s v H nx:=
 ⟨cv,E,w,c,.refl nx,b,.inl h⟩
section
variable {P:Program} {G:Cx} {E:Env} {w:World} {fr:Fr} {a:Act} {nt:Nat}
theorem zH (k:FrR E w fr a nt) (j:GR G E w) {x:Operand} {y:XV} {v:AV} (hc:copd x=some y) (d:y.ev G fr=some v):VR E w v (a.eval x):=by
 cases x with
 | tmp t=>simp [copd] at hc;subst hc;exact k.get t v d
 | const c=>
  simp only [copd] at hc;split at hc
  ·rename_i b h;cases hc;simp only [XV.ev,QJ] at d;subst d;exact zJy h
  ·cases hc
 | global g=>simp [copd] at hc;subst hc;exact (j g v d).1
 | func f=>
  simp [copd] at hc;subst hc;simp only [XV.ev,QJ] at d;subst d;exact .func _ _ _ _ _ rfl rfl (λ i x v e=>by simp at e) (λ i x v e=>by simp at e)
theorem zD1 (e:FrR E w fr a nt) (f:GR G E w):∀{xs:List Operand} {c:List XV} {vs:List AV},copds xs=some c->evs G fr c=some vs->VRs E w vs (xs.map a.eval)
 | [],c,vs,hc,b=>by
  simp [copds] at hc;subst hc;simp [evs] at b;subst b;exact VRs.nil
 | x::r,c,vs,hc,b=>by
  simp only [copds] at hc;split at hc
  ·rename_i y s h i;cases hc;simp only [evs] at b;split at b
   ·rename_i v g;split at b
    ·rename_i j d;cases b;exact VRs.cons (zH e f h g) (zD1 e f i d)
    ·cases b
   ·cases b
  ·cases hc
theorem VR.of_bool {b:Bool} {cv:Value} (h:VR E w (.bool b) cv):cv=.bool b:=by cases h;rfl
theorem VR.of_int {k:IntKind} {n:Int} {cv:Value} (h:VR E w (.int k n) cv):cv=.int k n/\has k n:=by cases h;exact ⟨rfl,by assumption⟩
theorem VR.qX {l:List Nat} {cv:Value} (h:VR E w (.str l) cv):∃s:ByteArray,cv=.string s/\s.data.toList.map UInt8.toNat=l/\l.length<=zc:=by
 cases h with | str _ s h b=>exact ⟨s,rfl,h,b⟩
theorem VR.wv {x o:Nat} {cv:Value} (h:VR E w (.ptr x o) cv):cv=.pointer (some ⟨E.ρ x,o,none⟩)/\E.D x:=by cases h;exact ⟨rfl,by assumption⟩
theorem VR.wI {e:AV} {o:Nat} {cv:Value} (h:VR E w (.qe e o) cv):∃b c u,cv=.pointer (some ⟨b,c+o,none⟩)/\e.flat=true/\E.Z b/\VR E w e u/\∀(j:Nat) x,u.cells[j]? = some x->w.cell? ⟨b,c+j,none⟩=some x:=by
 cases h with | qe _ _ b c u d g f hc=>exact ⟨b,c,u,rfl,d,g,f,hc⟩
theorem zHq {s:ByteArray} {l:List Nat} (h:s.data.toList.map UInt8.toNat=l):s.size=l.length:=by
 subst h;rw [Qb,Array.length_toList];rfl
theorem zPD:∀(a b:List UInt8),seqb (a.map UInt8.toNat) (b.map UInt8.toNat)=(a==b)
 | [],[]=>rfl
 | [],b::y=>rfl
 | a::x,[]=>rfl
 | a::x,b::y=>by
  simp only [Qd,seqb];have c:=zPD x y;split
  ·rename_i h;have:a=b:=UInt8.toNat_inj.1 (zb h);subst this;rw [c];simp
  ·rename_i h;have:a≠b:=λ e=>zA3 h (by rw [e])
   symm
   simp [this]
set_option maxRecDepth 2000 in
theorem zQ2:∀(a b:List UInt8),slt (a.map UInt8.toNat) (b.map UInt8.toNat)=Op.bytesLess a b
 | _,[]=>by simp [slt,Op.bytesLess]
 | [],b::y=>by simp [slt,Op.bytesLess]
 | a::x,b::y=>by
  simp only [Qd,slt,Op.bytesLess];have g:=zQ2 x y;rcases Nat.lt_trichotomy a.toNat b.toNat with h | h | h
  ·have d:Nat.blt a.toNat b.toNat=true:=by rw [Ql];exact h
   have f:a<b:=UInt8.lt_iff_toNat_lt.2 h;simp [d,f]
  ·have e:a=b:=UInt8.toNat_inj.1 h;subst e;have d:Nat.blt a.toNat a.toNat=false:=by rw [Bool.eq_false_iff];intro c;exact Nat.lt_irrefl _ (Ql▸c)
   simp [d,g]
  ·have d:Nat.blt a.toNat b.toNat=false:=by rw [Bool.eq_false_iff];intro c;rw [Ql] at c;omega
   have f:¬a<b:=λ c=>by have:=UInt8.lt_iff_toNat_lt.1 c;omega
   have j:a≠b:=λ e=>by rw [e] at h;omega
   have i:Nat.beq a.toNat b.toNat=false:=by rw [Bool.eq_false_iff];intro c;have:=zb c;omega
   simp [d,f,j,i]
theorem zSv {a b:ByteArray} {l m:List Nat} (c:a.data.toList.map UInt8.toNat=l) (d:b.data.toList.map UInt8.toNat=m):(a.toList==b.toList)=seqb l m:=by
 subst c;subst d;rw [zPD,ByteArray.toList_eq,ByteArray.toList_eq]
theorem zWf {a b:ByteArray} {l m:List Nat} (c:a.data.toList.map UInt8.toNat=l) (d:b.data.toList.map UInt8.toNat=m):Op.bytesLess a.toList b.toList=slt l m:=by
 subst c;subst d;rw [zQ2,ByteArray.toList_eq,ByteArray.toList_eq]
theorem zTM (k:IntKind) (a b:Int) (d:has k a):has k (a.tmod b):=by
 obtain ⟨g,f⟩:=d;have h:(a.tmod b).natAbs<=a.natAbs:=by rw [Int.natAbs_tmod];exact Nat.mod_le _ _
 rcases Int.le_total 0 a with c | c
 ·have e:0<=a.tmod b:=Int.tmod_nonneg _ c
  constructor
  ·have:k.min<=0:=by cases k <;> simp [IntKind.min,IntKind.signed,IntKind.bits]
   omega
  ·omega
 ·have e:a.tmod b<=0:=by
   have:=Int.tmod_nonneg (b:=b) (a:=-a) (by omega)
   rw [Int.neg_tmod] at this;omega
  constructor
  ·omega
  ·have:0<=k.max:=by cases k <;> simp [IntKind.max,IntKind.signed,IntKind.bits]
   omega
theorem zTN (k:IntKind) (a:Int) (n:Nat) (e:has k a):has k (a.fdiv (2 ^ n)):=by
 obtain ⟨i,g⟩:=e;have b:(0:Int)<2 ^ n:=by exact_mod_cast Nat.two_pow_pos n
 have d:k.min<=0:=by cases k <;> simp [IntKind.min,IntKind.signed,IntKind.bits]
 have f:0<=k.max:=by cases k <;> simp [IntKind.max,IntKind.signed,IntKind.bits]
 rw [Int.fdiv_eq_ediv_of_nonneg _ (Int.le_of_lt b)];rcases Int.le_total 0 a with c | c
 ·have:=Int.ediv_nonneg c (Int.le_of_lt b);have:=Int.ediv_le_self (2 ^ n) c
  constructor <;> omega
 ·have j:a / 2 ^ n<=0:=by
   have:=Int.ediv_le_ediv b c
   simpa using this
  have h:a<=a / 2 ^ n:=by
   apply (Int.le_ediv_iff_mul_le b).2;have:(1:Int)<=2 ^ n:=b;have:a*2 ^ n<=a*1:=Int.mul_le_mul_of_nonpos_left c this;omega
  constructor <;> omega
theorem zKc {s:Sem Value} {k:IntKind} {z:Int} (h:s.run P w=.ok (.int k z) w) (b:has k z):∃cv,s.run P w=.ok cv w/\VR E w (.int k z) cv:=⟨_,h,.int _ _ b⟩
theorem zIL {s:Sem Value} {k:IntKind} {z:Int} (h:s.run P w=.ok (.int k (k.wrap z)) w):∃cv,s.run P w=.ok cv w/\VR E w (.int k (wrapx k z)) cv:=
 ⟨_,h,by rw [zPC];exact .int _ _ (zGi _ _)⟩
theorem zGr {s:Sem Value} {b:Bool} (h:s.run P w=.ok (.bool b) w):∃cv,s.run P w=.ok cv w/\VR E w (.bool b) cv:=⟨_,h,.bool _⟩
theorem zSw {op:BinOp} {t:TypeId} {x y:AV} {q o:Value} {v:AV} (hx:VR E w x q) (r:VR E w y o) (h:xbin op x y=some v)
  :
  ∃cv,(binOp op t q o).run P w=.ok cv w/\VR E w v cv:=by
 unfold xbin at h;split at h
 ·
  rename_i k m J n;obtain ⟨rfl,z⟩:=hx.of_int;obtain ⟨rfl,K⟩:=r.of_int;split at h
  ·split at h
   ·cases h
   ·rename_i d;cases h;have b:¬n<0:=by simpa using d
    exact ⟨.int k (k.wrap (m*2 ^ (min n.toNat k.bits))),by simp [binOp,Op.shift,b],by rw [zPC];exact .int _ _ (zGi _ _)⟩
  ·split at h
   ·cases h
   ·rename_i d;cases h;have b:¬n<0:=by simpa using d
    exact ⟨.int k (m.fdiv (2 ^ (min n.toNat k.bits))),by simp [binOp,Op.shift,b],.int _ _ (zTN _ _ _ z)⟩
  ·rename_i p A;split at h
   ·cases h
   ·rename_i B;have:=zGh B;subst this;split at h
    ·cases h;exact zIL (by simp [binOp,Op.intArith])
    ·cases h;exact zIL (by simp [binOp,Op.intArith])
    ·cases h;exact zIL (by simp [binOp,Op.intArith])
    ·split at h
     ·cases h
     ·rename_i d;cases h;have b:¬n=0:=by simpa using d
      exact zIL (by simp [binOp,Op.intDiv,b])
    ·split at h
     ·cases h
     ·rename_i d;cases h;have b:¬n=0:=by simpa using d
      exact zKc (by simp [binOp,Op.intDiv,b]) (zTM _ _ _ z)
    ·cases h;exact zKc (by simp [binOp,Op.intBits]) (zGi _ _)
    ·cases h;exact zKc (by simp [binOp,Op.intBits]) (zGi _ _)
    ·cases h;exact zKc (by simp [binOp,Op.intBits]) (zGi _ _)
    ·cases h;exact zKc (by simp [binOp,Op.intBits]) (zGi _ _)
    ·cases op <;> simp_all [xcmp] <;> (subst h;exact zGr (by simp [binOp,Op.intCmp]))
 ·
  rename_i l m;obtain ⟨s,rfl,g,D⟩:=hx.qX;obtain ⟨u,rfl,f,C⟩:=r.qX;have i:=zSv g f;have e:=zWf g f;have F:=zHq g;have I:=zHq f;cases op with
  | add=>
   simp only at h;split at h
   ·rename_i j;cases h;have c:l.length+m.length<=zc:=QM j;refine ⟨.string (s++u),?_,.str _ _ (by rw [←g,←f];simp) (by simpa using c)⟩
    have:¬(((s.size+u.size:Nat):Int) > IntKind.i64.max):=by
     rw [F,I];have:IntKind.i64.max=9223372036854775807:=rfl;unfold zc at c;omega
    simp only [binOp,Op.stringOp,this,if_false];rfl
   ·cases h
  | eql=>cases h;exact zGr (by simp [binOp,Op.stringOp,i])
  | neq=>cases h;exact zGr (by simp [binOp,Op.stringOp,i])
  | lss=>cases h;exact zGr (by simp [binOp,Op.stringOp,e])
  | leq=>cases h;exact zGr (by simp [binOp,Op.stringOp,i,e])
  | gtr=>cases h;exact zGr (by simp [binOp,Op.stringOp,i,e])
  | geq=>cases h;exact zGr (by simp [binOp,Op.stringOp,e])
  | _=>cases h
 ·cases h
end
end Go.Sy
namespace Go.Sy
section
variable {P:Program} {G:Cx} {E:Env} {w:World}
theorem za {α β:Type} {x:Option α} {f:α->Option β} {b:β} (h:obind x f=some b):∃a,x=some a/\f a=some b:=by
 cases x with
 | none=>cases h
 | some a=>exact ⟨a,rfl,h⟩
theorem zPb {t:TypeId} {i:TypeInfo} (h:P.info? t=some i):(typeInfo t).run P w=.ok i w:=by simp [typeInfo,h]
theorem zA1 {t:TypeId} {n:Nat} (h:zL P t=some n):(sizeOf t).run P w=.ok n w:=by
 unfold zL at h;cases hi:P.info? t with
 | none=>simp [hi] at h
 | some i=>simp [hi] at h;simp [sizeOf,typeInfo,hi,h]
theorem zGs {t:TypeId} {b:Bool} (h:agT P t=some b):(isAgg t).run P w=.ok b w:=by
 unfold agT at h;cases hu:P.underlying t with
 | none=>simp [hu] at h
 | some d=>
  simp only [hu] at h;cases d <;> simp at h <;> subst h <;> simp [isAgg,run_underlying hu]
theorem zK6 {α:Type} (c:Array α) (a n:Nat):(c.extract a (a+n)).toList=(c.toList.drop a).take n:=by
 rw [Array.toList_extract,List.extract_eq_take_drop];congr 1;omega
theorem zNs {cs:List AV} {vs:Array Value} (g:VRs E w cs vs.toList) (i:∀v∈vs.toList,v.oneCell'=true) {t:TypeId} {off sz:Nat} {f:Bool} {v:AV}
  (c:zL P t=some sz) (b:agT P t=some f) (h:part cs off sz f=some v):∃cv,(Go.part t vs off).run P w=.ok cv w/\VR E w v cv:=by
 unfold part at h;cases f with
 | true=>
  simp only at h;split at h
  ·cases h;refine ⟨.agg (vs.extract off (off+sz)),by simp [Go.part,zGs b,zA1 c],?_⟩
   have e:=zK6 vs off sz;refine VR.qM ?_ ?_
   ·rw [e];exact g.extract off sz
   ·rw [e];intro u d;exact i u (QW (QP d))
  ·cases h
 | false=>
  obtain ⟨u,d,j⟩:=g.getElem? h;refine ⟨u,?_,j⟩
  have:vs[off]? = some u:=by rw [←Array.getElem?_toList];exact d
  simp [Go.part,zGs b,this]
theorem zTO {op:UnOp} {x:AV} {b:Value} {v:AV} (hx:VR E w x b) (h:xun op x=some v):∃cv,(Op.unary op b).run P w=.ok cv w/\VR E w v cv:=by
 unfold xun at h;split at h
 ·rename_i k n;obtain ⟨rfl,c⟩:=hx.of_int;split at h
  ·cases h;exact zIL (by simp [Op.unary,Op.intArith])
  ·cases h;exact zKc (by simp [Op.unary,Op.intBits,Nat.xor_comm]) (zGi _ _)
  ·cases h
 ·obtain rfl:=hx.of_bool;split at h
  ·cases h;exact zGr (by simp [Op.unary])
  ·cases h
 ·cases h
theorem zSx {t:TypeId} {c d:Operand} {b e:Value} (g:∀u,b≠.agg u) (f:b=.nilIface->e=.nilIface->(zBv c||zBv d)=true):
  (eqGuard .eql t c d b e).run P w=.ok () w:=by
 cases b <;> first
  | (exact absurd rfl (g _))
  | (simp only [eqGuard];rfl)
  | (cases e <;> first
    | (simp only [eqGuard];rfl)
    | (have:=f rfl rfl;cases c <;> cases d <;> first | (simp [zBv] at this;done) | (simp [eqGuard];done)))
theorem zSy {t:TypeId} {c d:Operand} {b e:Value} (g:∀u,b≠.agg u) (f:b=.nilIface->e=.nilIface->(zBv c||zBv d)=true):
  (eqGuard .neq t c d b e).run P w=.ok () w:=by
 cases b <;> first
  | (exact absurd rfl (g _))
  | (simp only [eqGuard];rfl)
  | (cases e <;> first
    | (simp only [eqGuard];rfl)
    | (have:=f rfl rfl;cases c <;> cases d <;> first | (simp [zBv] at this;done) | (simp [eqGuard];done)))
theorem VR.wK {sz:Nat} {es:List AV} {e:AV} {cv:Value} (h:VR E w (.qp sz (e::es)) cv):∃a n c,cv=.slice (some a) n c:=by
 cases h with | qp _ b o cap sz f=>exact ⟨_,_,_,rfl⟩
theorem VR.ve {h o l s c:Nat} {x:Bool} {cv:Value} (h:VR E w (.row h o l s c x) cv):∃a n c,cv=.slice (some a) n c:=by
 cases h <;> exact ⟨_,_,_,rfl⟩
theorem VR.wE {f:Fn} {a b:List AV} {cv:Value} (h:VR E w (.func f a b) cv):∃u v,cv=.func f u v:=by
 cases h;exact ⟨_,_,rfl⟩
theorem zPc {d:Nat} {x y:AV} {g i:Value} {b:Bool} {t e:TypeId} (hx:VR E w x g) (c:VR E w y i) (h:xseq x y=some b)
  (f:P.underlying t=some (.slice e)):(Op.equalIn (d+1) t g i).run P w=.ok b w:=by
 unfold xseq at h;split at h
 ·cases h;cases hx;cases c;simp [Op.equalIn,run_underlying f]
 ·cases h;cases hx;obtain ⟨_,_,_,rfl⟩:=c.ve;simp [Op.equalIn,run_underlying f]
 ·cases h;cases c;obtain ⟨_,_,_,rfl⟩:=hx.ve;simp [Op.equalIn,run_underlying f]
 ·cases h;cases hx;obtain ⟨_,_,_,rfl⟩:=c.wK;simp [Op.equalIn,run_underlying f]
 ·cases h;cases c;obtain ⟨_,_,_,rfl⟩:=hx.wK;simp [Op.equalIn,run_underlying f]
 ·cases h
theorem zQE {d:Nat} {x y:AV} {g i:Value} {b:Bool} {t k e:TypeId} (hx:VR E w x g) (c:VR E w y i) (h:xmeq x y=some b)
  (f:P.underlying t=some (.map k e)):(Op.equalIn (d+1) t g i).run P w=.ok b w:=by
 unfold xmeq at h;split at h
 ·cases h;cases hx;cases c;simp [Op.equalIn,run_underlying f]
 ·cases h;cases hx;cases c;simp [Op.equalIn,run_underlying f]
 ·cases h;cases hx;cases c;simp [Op.equalIn,run_underlying f]
 ·cases h
theorem zPE {d:Nat} {x y:AV} {f g:Value} {b:Bool} {t:TypeId} {p r:Array TypeId} {i:Bool} (hx:VR E w x f) (c:VR E w y g) (h:xfeq x y=some b)
  (e:P.underlying t=some (.func p r i)):(Op.equalIn (d+1) t f g).run P w=.ok b w:=by
 unfold xfeq at h;split at h
 ·cases h;cases hx;cases c;simp [Op.equalIn,run_underlying e]
 ·cases h;cases hx;obtain ⟨_,_,rfl⟩:=c.wE;simp [Op.equalIn,run_underlying e]
 ·cases h;cases c;obtain ⟨_,_,rfl⟩:=hx.wE;simp [Op.equalIn,run_underlying e]
 ·cases h
end
end Go.Sy
namespace Go.Sy
section
variable {P:Program} {E:Env} {w:World}
def zRF (P:Program) (t:TypeId):Kd->Prop
 | .b=>P.underlying t=some .bool
 | .i=>∃q,P.underlying t=some (.int q)
 | .s=>P.underlying t=some .string
theorem zOw {d:Nat} {k:Kd} {x y:AV} {l j:Value} {b:Bool} {t:TypeId} (hx:VR E w x l) (g:VR E w y j) (h:eqb k x y=some b) (e:zRF P t k):(Op.equalIn (d+1) t l j).run P w=.ok b w:=by
 unfold eqb at h;split at h
 ·cases h;obtain rfl:=hx.of_bool;obtain rfl:=g.of_bool;exact run_equalIn_bool w d t _ _ e
 ·split at h
  ·rename_i m;cases h;have:=zGh m;subst this;obtain ⟨rfl,_⟩:=hx.of_int;obtain ⟨rfl,_⟩:=g.of_int;obtain ⟨q,n⟩:=e;exact run_equalIn_int w d t _ q _ _ n
  ·cases h
 ·cases h;obtain ⟨s,rfl,r,_⟩:=hx.qX;obtain ⟨u,rfl,o,_⟩:=g.qX;rw [run_equalIn_string w d t _ _ e,zSv r o]
 ·cases h
theorem zRG {t:TypeId} {k:Kd} (h:zMb P t=some k):∃i,P.info? t=some i/\i.comparable=true/\zRF P t k:=by
 unfold zMb at h;split at h
 ·rename_i i e;split at h
  ·rename_i hc;refine ⟨i,e,hc,?_⟩
   split at h
   ·rename_i d;cases h;exact d
   ·rename_i q d;cases h;exact ⟨q,d⟩
   ·rename_i d;cases h;exact d
   ·cases h
  ·cases h
 ·cases h
theorem zPd {d:Nat} {lit:Bool} {x y:AV} {l j:Value} {b:Bool} {t:TypeId} {ms:Array (String×TypeId)} (hx:VR E w x l) (f:VR E w y j) (h:xieq lit (zMb P) x y=some b)
  (c:P.underlying t=some (.interface ms)):(Op.equalIn (d+2) t l j).run P w=.ok b w:=by
 unfold xieq at h;split at h
 ·split at h
  ·cases h;cases hx;cases f;simp [Op.equalIn,run_underlying c]
  ·cases h
 ·cases h;cases hx;cases f;simp [Op.equalIn,run_underlying c]
 ·cases h;cases hx;cases f;simp [Op.equalIn,run_underlying c]
 ·rename_i t1 p B q;cases hx with
  | iface _ _ D u=>
   cases f with
   | iface _ _ C o=>
    split at h
    ·rename_i g;cases h;have e:=zA3 g;unfold Op.equalIn;simp [run_underlying c,e]
    ·rename_i A;have:=zb A;subst this;split at h
     ·rename_i k n;obtain ⟨i,s,m,z⟩:=zRG n;have r:=zOw (d:=d) u o h z;unfold Op.equalIn;simp [run_underlying c,zPb s,m,r]
     ·cases h
 ·cases h
theorem zMI:∀{d e:List Kd} {x y:List AV} {b:Bool},eqbs (d++e) x y=some b →
  ∃c,eqbs d (x.take d.length) (y.take d.length)=some c/\(c=false->b=false)/\(c=true->eqbs e (x.drop d.length) (y.drop d.length)=some b)
 | [],e,x,y,b,h=>⟨true,by simp [eqbs],(λ h=>by cases h),λ _=>by simpa using h⟩
 | k::d,e,x,y,b,h=>by
  cases x with
  | nil=>simp [eqbs] at h
  | cons a x=>
   cases y with
   | nil=>simp [eqbs] at h
   | cons c y=>
    simp only [List.cons_append,eqbs] at h;simp only [QK,List.take_succ_cons,List.drop_succ_cons,eqbs];cases he:eqb k a c with
    | none=>simp [he] at h
    | some r=>
     cases r with
     | true=>simp only [he] at h;exact zMI h
     | false=>
      simp only [he] at h;cases h;exact ⟨false,rfl,λ _=>rfl,(λ h=>by cases h)⟩
def shaped (P:Program) (t:TypeId) (vs:List Value) (v:Value):Prop:=
 (agT P t=some true/\v=.agg vs.toArray)\/(agT P t=some false/\vs=[v])
theorem zJ2 {xs:Array Value} {t:TypeId} {off sz:Nat} {g:Bool} (d:agT P t=some g) (f:zL P t=some sz) (c:g=false->sz=1) (h:off+sz<=xs.size):
  ∃v,(Go.part t xs off).run P w=.ok v w/\shaped P t ((xs.toList.drop off).take sz) v:=by
 cases g with
 | true=>
  refine ⟨.agg (xs.extract off (off+sz)),by simp [Go.part,zGs d,zA1 f],.inl ⟨d,?_⟩⟩
  rw [←zK6]
 | false=>
  have:=c rfl;subst this;have b:off<xs.size:=by omega
  refine ⟨xs[off],by simp [Go.part,zGs d,b],.inr ⟨d,?_⟩⟩
  have e:off<xs.toList.length:=by simpa using b
  rw [Qg e];simp
theorem zPF {d:Nat} {t:TypeId} {j:List Kd} (h:zB7 P d t=some j):∃g,agT P t=some g/\(g=false->j.length=1):=by
 cases d with
 | zero=>simp [zB7] at h
 | succ d=>
  unfold zB7 at h;unfold agT;split at h <;> first
   | (rename_i e;simp only [e];cases h;exact ⟨false,rfl,λ _=>rfl⟩)
   | (rename_i e;simp only [e];exact ⟨true,rfl,λ h=>by cases h⟩)
   | cases h
theorem zHH:∀{d:Nat} {t:TypeId} {B:List Kd},zB7 P d t=some B->∀(D:Nat) (vs J:List Value) (cs ds:List AV) (cv U:Value) (b:Bool),VRs E w cs vs->VRs E w ds J →
  shaped P t vs cv->shaped P t J U->vs.length=B.length->J.length=B.length->eqbs B cs ds=some b->(Op.equalIn (D+d) t cv U).run P w=.ok b w
 | 0,t,B,h=>by simp [zB7] at h
 | d+1,t,B,h=>by
  intro D vs J cs ds cv U b F C sv su lv lu A;have base:∀k:Kd,zRF P t k->B=[k]->agT P t=some false →
    (Op.equalIn (D+(d+1)) t cv U).run P w=.ok b w:=by
   intro k hk e q;subst e;rcases sv with ⟨o,_⟩ | ⟨_,rfl⟩
   ·rw [q] at o;cases o
   rcases su with ⟨o,_⟩ | ⟨_,rfl⟩
   ·rw [q] at o;cases o
   match cs,ds,F,C,A with
   | [x],[y],F,C,A=>
    obtain ⟨_,_,e,hx,_⟩:=F.of_cons;cases e;obtain ⟨_,_,e,hy,_⟩:=C.of_cons;cases e;have:eqb k x y=some b:=by
     simp only [eqbs] at A;split at A <;> simp_all
    exact zOw hx hy this hk
   | [],_,F,_,_=>have:=F.1;simp at this
   | _::_::_,_,F,_,_=>have:=F.1;simp at this
   | [_],[],_,C,_=>have:=C.1;simp at this
   | [_],_::_::_,_,C,_=>have:=C.1;simp at this
  unfold zB7 at h;split at h
  ·rename_i j;cases h;exact base .b j rfl (by simp [agT,j])
  ·rename_i j;cases h;exact base .i ⟨_,j⟩ rfl (by simp [agT,j])
  ·rename_i j;cases h;exact base .s j rfl (by simp [agT,j])
  ·rename_i fs j;split at h
   ·cases h
   ·rename_i W;have q:agT P t=some true:=by simp [agT,j]
    rcases sv with ⟨_,rfl⟩ | ⟨o,_⟩
    rotate_left
    ·rw [q] at o;cases o
    rcases su with ⟨_,rfl⟩ | ⟨o,_⟩
    rotate_left
    ·rw [q] at o;cases o
    have L:P.fieldsOf t=fs:=by simp [Program.fieldsOf,j]
    rw [←Nat.add_assoc,run_equalIn_struct w (D+d) t _ _ (by rw [L];exact j) W,L]
    have key:∀(l:List Field) (n:Nat) (K:List Kd),zIR P (zB7 P d) n l=some K->n+K.length=vs.length->n+K.length=J.length->eqbs K (cs.drop n) (ds.drop n)=some b →
      (Op.eqFields (D+d) vs.toArray J.toArray l).run P w=.ok b w:=by
     intro l
     induction l with
     | nil=>
      intro n K z n1 n2 A;simp only [zIR] at z;cases z;have:b=true:=by
       unfold eqbs at A;split at A <;> simp_all
      subst this;rfl
     | cons f r ih=>
      intro n K z n1 n2 A;simp only [zIR] at z;split at z
      ·rename_i kf s ac T O Q;split at z
       ·rename_i M;split at z
        ·rename_i rs X;cases z;have m:kf.length=s:=zb M;have I:f.offset=n:=zb T;obtain ⟨c,o,h2,h3⟩:=zMI A;obtain ⟨g,hg,N⟩:=zPF O;have ad:(kf++rs).length=s+rs.length:=by rw [QC,m]
         obtain ⟨pv,aa,Y⟩:=zJ2 (P:=P) (w:=w) (xs:=vs.toArray) (t:=f.type) (off:=n) (sz:=s) hg Q (λ h=>by rw [←m];exact N h) (by simp;omega)
         obtain ⟨pu,ab,V⟩:=zJ2 (P:=P) (w:=w) (xs:=J.toArray) (t:=f.type) (off:=n) (sz:=s) hg Q (λ h=>by rw [←m];exact N h) (by simp;omega)
         rw [m] at o h3;have e1:=zHH O D _ _ _ _ _ _ _ (F.extract n s) (C.extract n s) Y V (by simp;omega) (by simp;omega) o
         have R:f.name ≠ "_":=by simpa using ac
         simp only [Op.eqFields,R,ne_eq,not_false_eq_true,if_true,I,Sem.run_bind,aa,ab,Result.andThen_ok,e1];cases c with
         | false=>rw [h2 rfl];simp
         | true=>
          have S:=h3 rfl;rw [List.drop_drop,List.drop_drop] at S;simp only [Bool.not_true,Bool.false_eq_true,if_false];exact ih (n+s) rs X (by omega) (by omega) S
        ·cases z
       ·cases z
      ·cases z
    exact key fs.toList 0 B h (by omega) (by omega) (by simpa using A)
  ·cases h
end
end Go.Sy
namespace Go.Sy
def CR (E:Env) (w:World) (cs:List AV) (c:List Value):Prop:=
 cs.length<=c.length/\∀(i:Nat) x,cs[i]? = some x->∃v,c[i]? = some v/\v.oneCell'=true/\VR E w x v
theorem CR.wR {E:Env} {w:World} {b:Nat} {s:Bool} {cs:List AV} (h:OR E w b (.cells s cs)):
  ∃(c:Array Value) (e:TypeId) (f:Nat×Nat),w.heap[b]? = some (Obj.cells c e f)/\(f.2=f.1\/(s=true/\c.size<=f.1))/\CR E w cs c.toList:=by
 obtain ⟨c,e,f,k,g,l,j⟩:=h;exact ⟨c,e,f,k,l,by simpa using g,λ i x m=>let ⟨v,a,b,d⟩:=j i x m;⟨v,by simpa using a,b,d⟩⟩
theorem CR.or {E:Env} {w:World} {b:Nat} {s:Bool} {cs:List AV} {c:Array Value} {e:TypeId} {f:Nat×Nat} (h:CR E w cs c.toList) (j:w.heap[b]? = some (Obj.cells c e f))
  (g:f.2=f.1\/(s=true/\c.size<=f.1)):OR E w b (.cells s cs):=
 ⟨c,e,f,j,by simpa using h.1,g,λ i x k=>let ⟨v,a,b,d⟩:=h.2 i x k;⟨v,by simpa using a,b,d⟩⟩
section
variable {P:Program} {E:Env} {w:World}
theorem CR.mono {E':Env} {w':World} (hm:∀{v cv},VR E w v cv->VR E' w' v cv) {cs:List AV} {c:List Value} (h:CR E w cs c):CR E' w' cs c:=
 ⟨h.1,λ i x e=>let ⟨v,a,b,d⟩:=h.2 i x e;⟨v,a,b,hm d⟩⟩
theorem CR.wO {cs:List AV} {c:List Value} (h:VRs E w cs c) (d:∀v∈c,v.oneCell'=true):CR E w cs c:=
 ⟨Nat.le_of_eq h.1,λ i x e=>let ⟨v,a,b⟩:=h.getElem? e;⟨v,a,d v (QF a),b⟩⟩
theorem CR.part {cs:List AV} {c:List Value} (h:CR E w cs c) {a n:Nat} (t:a+n<=cs.length):
  VRs E w ((cs.drop a).take n) ((c.drop a).take n)/\∀v∈(c.drop a).take n,v.oneCell'=true:=by
 have s:=h.1;have key:∀(i:Nat),i<n->∃x v,cs[a+i]? = some x/\c[a+i]? = some v/\v.oneCell'=true/\VR E w x v:=λ i b=>by
  have d:cs[a+i]? = some (cs[a+i]'(by omega)):=QE _
  obtain ⟨v,o,m,q⟩:=h.2 _ _ d;exact ⟨_,v,d,o,m,q⟩
 refine ⟨⟨by simp;omega,λ i x v d e=>?_⟩,λ v e=>?_⟩
 ·rw [List.getElem?_take] at d e;split at d
  ·rename_i b;simp only [b,if_true,List.getElem?_drop] at d e;obtain ⟨p,l,j,g,_,k⟩:=key i b;rw [j] at d;cases d;rw [g] at e;cases e;exact k
  ·cases d
 ·obtain ⟨i,b⟩:=List.getElem?_of_mem e;rw [List.getElem?_take] at b;split at b
  ·rename_i f;rw [List.getElem?_drop] at b;obtain ⟨p,l,j,g,r,k⟩:=key i f;rw [g] at b;cases b;exact r
  ·cases b
theorem zCN {α:Type} (c:List α) (off:Nat) (new:List α) (h:off<=c.length) (i:Nat):
  (c.take off++new++c.drop (off+new.length))[i]? = if i<off then c[i]? else if i<off+new.length then new[i-off]? else c[i]?:=by
 rw [Qi,List.getElem?_append,Qm,Nat.min_eq_left h];split
 ·rw [List.getElem?_take];simp [*]
 ·rw [List.getElem?_append];by_cases b:i<off+new.length
  ·rw [if_pos (by omega),if_pos b]
  ·rw [if_neg (by omega),if_neg b,List.getElem?_drop]
   congr 1;omega
theorem CR.qm {cs:List AV} {c:List Value} (h:CR E w cs c) {off:Nat} {new:List AV} {e:List Value} (j:VRs E w new e) (k:∀v∈e,v.oneCell'=true)
  (m:off<=cs.length) (hc:off+e.length<=c.length):CR E w (qm cs off new) (c.take off++e++c.drop (off+e.length)):=by
 have n:=h.1;have l:=j.1;refine ⟨by simp [Sy.qm];omega,λ i x d=>?_⟩
 unfold Sy.qm at d;rw [zCN _ _ _ m] at d;rw [zCN _ _ _ (by omega)]
 split at d
 ·rename_i g;rw [if_pos g];exact h.2 i x d
 ·rename_i g;rw [if_neg g];split at d
  ·rename_i f;rw [if_pos (by omega)]
   obtain ⟨v,a,b⟩:=j.getElem? d;exact ⟨v,a,k v (QF a),b⟩
  ·rename_i f;rw [if_neg (by omega)]
   exact h.2 i x d
theorem zBw (b o j:Nat):(⟨b,o,none⟩:Addr).add j=⟨b,o+j,none⟩:=by
 unfold Addr.add;split
 ·rename_i h;subst h;rfl
 ·rfl
theorem zOb {b o:Nat} {c:Array Value} {e:TypeId} {f:Nat×Nat} (h:w.heap[b]? = some (.cells c e f)):w.cell? ⟨b,o,none⟩=c[o]?:=by
 simp [World.cell?,h]
theorem zSz {b o:Nat} {c:Array Value} {e:TypeId} {f:Nat×Nat} {s:Prop} (h:w.heap[b]? = some (.cells c e f)) (d:f.2=f.1\/(s/\c.size<=f.1)) (ho:o<c.size):w.frozen? ⟨b,o,none⟩=false:=by
 obtain ⟨i,j⟩:=f;simp [World.frozen?,h];intro g;rcases d with d | ⟨_,d⟩ <;> simp at d <;> omega
theorem zSA {b o:Nat} {vs:List Value} (h:∀(j:Nat) v,vs[j]? = some v->w.cell? ⟨b,o+j,none⟩=some v):(loadCells ⟨b,o,none⟩ vs.length).run P w=.ok vs.toArray w:=
 run_loadCells_list w ⟨b,o,none⟩ vs λ j v c=>by rw [zBw];exact h j v c
theorem zIS {b o off sz:Nat} {t:TypeId} {m:Bool} {cs:List AV} {v:AV} {c:List Value} (e:CR E w cs c) (d:∀(j:Nat) v,c[j]? = some v->w.cell? ⟨b,o+j,none⟩=some v)
  (s:zL P t=some sz) (p:agT P t=some m) (h:part cs off sz m=some v):∃cv,(loadVar t ⟨b,o+off,none⟩).run P w=.ok cv w/\VR E w v cv:=by
 unfold Sy.part at h;cases m with
 | true=>
  simp only at h;split at h
  ·rename_i l;cases h;have g:off+sz<=cs.length:=QM l;obtain ⟨k,n⟩:=e.part g;have x:=e.1;have f:((c.drop off).take sz).length=sz:=by simp;omega
   refine ⟨.agg ((c.drop off).take sz).toArray,?_,VR.qM (by simpa using k) (by simpa using n)⟩
   have q:=zSA (P:=P) (w:=w) (b:=b) (o:=o+off) (vs:=(c.drop off).take sz) λ j v i=>by
    rw [List.getElem?_take] at i;split at i
    ·rw [List.getElem?_drop] at i;rw [Nat.add_assoc];exact d _ _ i
    ·cases i
   rw [f] at q;simp [loadVar,zGs p,zA1 s,q]
  ·cases h
 | false=>
  obtain ⟨u,k,n,r⟩:=e.2 _ _ h;refine ⟨u,?_,r⟩
  simp [loadVar,zGs p,d _ _ k]
theorem zNt {H:Heap} {t:TypeId} {sz:Nat} {r:Bool} {x v:AV} {p:Value} (A:HR E H w) (hx:VR E w x p) (q:zL P t=some sz) (n:agT P t=some r)
  (h:xload H sz r x=some v):∃a cv,p=.pointer (some a)/\(loadVar t a).run P w=.ok cv w/\VR E w v cv:=by
 unfold xload at h;split at h
 ·rename_i s off;obtain ⟨rfl,D⟩:=hx.wv;split at h
  ·rename_i K F d;obtain ⟨c,e,f,y,J,l⟩:=CR.wR (A.obj _ (Heap.qh d));obtain ⟨cv,g,i⟩:=zIS (P:=P) (b:=E.ρ s) (o:=0) l (λ j v m=>by rw [zOb y,QV,←Array.getElem?_toList];exact m) q n h
   rw [QV] at g;exact ⟨_,cv,rfl,g,i⟩
  ·cases h
 ·rename_i e off;obtain ⟨b,c,u,rfl,k,I,C,hc⟩:=hx.wI;obtain ⟨g,i⟩:=C.cells k;obtain ⟨cv,B,z⟩:=zIS (P:=P) (b:=b) (o:=c) (CR.wO g i) (λ j v m=>hc j v (by rw [←Array.getElem?_toList];exact m)) q n h
  exact ⟨_,cv,rfl,B,z⟩
 ·cases h
theorem zNu {b:Nat} {e:TypeId} {f:Nat×Nat} {s:Prop}:∀(vs:List Value) (off i:Nat) (w:World) (c:Array Value),w.heap[b]? = some (.cells c e f)->(f.2=f.1\/(s/\c.size<=f.1)) →
  (∀v∈vs,v.oneCell'=true)->off+i+vs.length<=c.size →
  ∃w',(storeCells ⟨b,off,none⟩ vs i).run P w=.ok () w'/\w'.tape=w.tape/\w'.os=w.os/\w'.output=w.output/\w'.heap.size=w.heap.size/\(∀x,x≠b->w'.heap[x]? = w.heap[x]?) ∧
   w'.heap[b]? = some (.cells (c.toList.take (off+i)++vs++c.toList.drop (off+i+vs.length)).toArray e f)
 | [],off,i,w,c,h,_,_,_=>⟨w,by simp [storeCells],rfl,rfl,rfl,rfl,λ _ _=>rfl,by rw [h];simp⟩
 | v::vs,off,i,w,c,h,p,k,o=>by
  have d:off+i<c.size:=by simp at o;omega
  have g:w.cell? ⟨b,off+i,none⟩=some c[off+i]:=by rw [zOb h];simp [d]
  have n:=zSz h p d;have K:=k v (.head _);have D:(w.setCell ⟨b,off+i,none⟩ v).heap[b]? = some (.cells (c.setIfInBounds (off+i) v) e f):=by
   simp [World.setCell,Array.getElem?_modify,h]
  obtain ⟨w',y,J,r,A,C,z,B⟩:=zNu (s:=s) vs off (i+1) (w.setCell ⟨b,off+i,none⟩ v) (c.setIfInBounds (off+i) v) D (by simpa using p) (λ u I=>k u (.tail _ I)) (by simp at o ⊢;omega)
  refine ⟨w',?_,J,r,A,by rw [C];simp [World.setCell],λ x q=>by rw [z x q];simp only [World.setCell,Array.getElem?_modify];rw [if_neg (Ne.symm q)],?_⟩
  ·simp only [storeCells,Sem.run_bind,zBw,run_store P w _ v _ K,g,n,Bool.false_eq_true,if_false,Result.andThen_ok];exact y
  ·rw [B];congr 3;apply List.ext_getElem?;intro j;have F:off+i+1+vs.length<=c.toList.length:=by simp at o ⊢;omega
   rw [zCN _ _ _ (by simp;omega)]
   have:=zCN c.toList (off+i) (v::vs) (by simp;omega) j
   rw [this];have l:(v::vs).length=vs.length+1:=rfl;rw [l];have m:(c.setIfInBounds (off+i) v).toList=c.toList.set (off+i) v:=by simp
   rw [m];by_cases k:j<off+i
   ·rw [if_pos (by omega),if_pos k,List.getElem?_set,if_neg (by omega)]
   ·by_cases t:j=off+i
    ·subst t;rw [if_pos (by omega),if_neg (by omega),if_pos (by omega),List.getElem?_set]
     simp [d]
    ·rw [if_neg (by omega),if_neg k]
     by_cases L:j<off+i+1+vs.length
     ·rw [if_pos (by omega),if_pos (by omega)]
      have:j-(off+i)=(j-(off+(i+1)))+1:=by omega
      rw [this,List.getElem?_cons_succ]
     ·rw [if_neg (by omega),if_neg (by omega),List.getElem?_set,if_neg (by omega)]
theorem Shapes.vJ {w w':World} {b:Nat} {c c':Array Value} {e:TypeId} {f g:Nat×Nat} (j:w.heap[b]? = some (.cells c e f)) (d:w'.heap[b]? = some (.cells c' e g)) (k:c'.size=c.size)
  (ho:∀x,x≠b->w'.heap[x]? = w.heap[x]?):Shapes w w':=λ x c0 l f0 h=>by
 by_cases i:x=b
 ·subst i;rw [j] at h;cases h;exact ⟨c',g,d,k⟩
 ·exact ⟨c0,f0,by rw [ho x i];exact h,rfl⟩
theorem zF0 {H:Heap} (r:HR E H w) {h:Nat} {st:Bool} {cs:List AV} (n:H.get h=some (.cells st cs)) {off:Nat} {new:List AV} {b:List Value}
  (t:VRs E w new b) (p:∀v∈b,v.oneCell'=true) (m:off+new.length<=cs.length\/(off<=cs.length/\∃(c:Array Value) (e:TypeId) (f:Nat×Nat),w.heap[E.ρ h]? = some (Obj.cells c e f)/\off+new.length<=c.size)) (a:Nat):
  ∃w',(storeCells ⟨E.ρ h,off,none⟩ b).run P w=.ok () w'/\HR E (H.put h (.cells st (qm cs off new))) w'/\Tr E H w E (H.put h (.cells st (qm cs off new))) w' a a:=by
 obtain ⟨c,e,f,k,q,i⟩:=CR.wR (r.obj _ (Heap.qh n));have C:=t.1;have L:cs.length<=c.size:=by have:=i.1;simpa using this
 have d:off<=cs.length/\off+b.length<=c.size:=by
  rcases m with m | ⟨m,K,M,N,j,D⟩
  ·omega
  ·rw [k] at j;cases j;omega
 obtain ⟨w',z,F,u,A,B,o,l⟩:=zNu (P:=P) (s:=st=true) b off 0 w c k q p (by omega)
 rw [Nat.add_zero] at l;have g:(c.toList.take off++b++c.toList.drop (off+b.length)).toArray.size=c.size:=by simp;omega
 have J:=Shapes.vJ k l g o;obtain ⟨m1,m2,_⟩:=zJ0 r n F u A B o J (o':=.cells st (qm cs off new)) (λ I=>by
  refine CR.or (c:=(c.toList.take off++b++c.toList.drop (off+b.length)).toArray) ?_ l (q.imp id λ⟨x,y⟩=>⟨x,by rw [g];exact y⟩)
  exact (i.qm t p d.1 (by simpa using d.2)).mono I) a
 exact ⟨w',z,m1,m2⟩
theorem zGb {v:AV} {cv:Value} {sz:Nat} {cs:List AV} (e:VR E w v cv) (h:cellsOf v sz=some cs):v.flat=true/\cs=v.cells/\cs.length=sz/\VRs E w cs cv.cells.toList/\(∀u∈cv.cells.toList,u.oneCell'=true)/\cv.cells.size=sz:=by
 unfold cellsOf at h;split at h
 ·rename_i c;split at h
  ·rename_i f;cases h;obtain ⟨d,g⟩:=e.cells c;have b:=zb f;exact ⟨c,rfl,b,d,g,by rw [←Array.length_toList,←d.1];exact b⟩
  ·cases h
 ·cases h
theorem zQF {H:Heap} {t:TypeId} {sz:Nat} {h off:Nat} {v:AV} {cv:Value} {st:Bool} {cs new:List AV} (g:HR E H w) (l:VR E w v cv) (j:zL P t=some sz)
  (d:H.get h=some (.cells st cs)) (hc:cellsOf v sz=some new) (n:off+sz<=cs.length) (a:Nat):
  ∃w',(storeVar t ⟨E.ρ h,off,none⟩ cv).run P w=.ok () w'/\HR E (H.put h (.cells st (qm cs off new))) w'/\Tr E H w E (H.put h (.cells st (qm cs off new))) w' a a:=by
 obtain ⟨_,rfl,m,i,e,f⟩:=zGb l hc;obtain ⟨w',c,k,b⟩:=zF0 (P:=P) g d i e (off:=off) (.inl (by omega)) a
 refine ⟨w',?_,k,b⟩
 simp only [storeVar,Sem.run_bind,zA1 j,Result.andThen_ok];simp [f,c]
end
end Go.Sy
namespace Go.Sy
section
variable {P:Program} {E:Env} {w:World}
theorem zK7 {sz:Nat}:∀{es:List AV} {cs:List AV},flatten sz es=some cs->∀(f:Nat->Value),(∀i e,es[i]? = some e->VR E w e (f i))->(∀i,i<es.length->(f i).cells.size=sz) →
  ∃vs:List Value,VRs E w cs vs/\(∀v∈vs,v.oneCell'=true)/\vs.length=es.length*sz/\∀(k:Nat) v,vs[k]? = some v->∃i j,i<es.length/\k=i*sz+j/\(f i).cells[j]? = some v
 | [],cs,h,f,_,_=>by
  simp [flatten] at h;subst h;exact ⟨[],VRs.nil,λ v b=>by simp at b,by simp,λ k v b=>by simp at b⟩
 | e::r,cs,h,f,l,z=>by
  simp only [flatten] at h;split at h
  ·rename_i c hc;split at h
   ·rename_i u d;cases h;obtain ⟨_,_,F,y,q,s⟩:=zGb (l 0 e rfl) hc;obtain ⟨vs,o,B,p,D⟩:=zK7 d (λ i=>f (i+1)) (λ i x A=>l (i+1) x (by simpa using A)) (λ i n=>z (i+1) (by simpa using n))
    have m:(f 0).cells.toList.length=sz:=by rw [Array.length_toList];exact s
    refine ⟨(f 0).cells.toList++vs,y.append o,?_,?_,?_⟩
    ·intro v b;rcases QI.1 b with b | b
     ·exact q v b
     ·exact B v b
    ·rw [QC,m,p,QK,Nat.add_mul,Nat.one_mul,Nat.add_comm]
    ·intro k v b;rw [List.getElem?_append] at b;split at b
     ·rename_i g;exact ⟨0,k,by simp,by omega,by rw [←Array.getElem?_toList];exact b⟩
     ·rename_i g;obtain ⟨i,j,n,C,t⟩:=D _ _ b;refine ⟨i+1,j,by simp;omega,?_,t⟩
      rw [m] at C g;rw [Nat.add_mul,Nat.one_mul];omega
   ·cases h
  ·cases h
theorem zDJ {H:Heap} {sz n:Nat} {y:AV} {t:Value} {X:List AV} (hr:HR E H w) (l:VR E w y t) (h:content H sz y=some (n,X)):
  ∃vs:List Value,VRs E w X vs/\(∀v∈vs,v.oneCell'=true)/\vs.length=n*sz/\n<=zc/\(Builtin.lenOf t).run P w=.ok n w ∧
   (∀w':World,w'.heap=w.heap->(Builtin.firstCells sz n t).run P w'=.ok vs.toArray w') ∧
   ((∃a c,t=.slice a n c/\(n*sz≠0->∃B,a=some B/\∀(j:Nat) v,vs[j]? = some v->w.cell? (B.add j)=some v))\/∃s:ByteArray,t=.string s/\s.size=n):=by
 unfold content at h;have zero:∀(a:Option Addr) (c:Nat),∃vs:List Value,VRs E w [] vs/\(∀v∈vs,v.oneCell'=true)/\vs.length=0*sz/\0<=zc/\(Builtin.lenOf (.slice a 0 c)).run P w=.ok 0 w ∧
   (∀w':World,w'.heap=w.heap->(Builtin.firstCells sz 0 (.slice a 0 c)).run P w'=.ok vs.toArray w') ∧
   ((∃U c',Value.slice a 0 c=.slice U 0 c'/\(0*sz≠0->∃B,U=some B/\∀(j:Nat) v,vs[j]? = some v->w.cell? (B.add j)=some v))\/∃s:ByteArray,Value.slice a 0 c=.string s/\s.size=0):=λ a c=>
  ⟨[],VRs.nil,λ v l=>by simp at l,by simp,QR _,by simp [Builtin.lenOf],λ w' _=>by cases a <;> simp [Builtin.firstCells,loadCells,loadCellsFrom],.inl ⟨a,c,rfl,λ h=>by simp at h⟩⟩
 split at h
 ·cases h;cases l;exact zero _ _
 ·rename_i J es;split at h
  rotate_left
  ·cases h
  rename_i Q;have:=zb Q;subst this;split at h
  ·rename_i V r;cases h;cases l with
   | wb _ a c _=>simp [flatten] at r;subst r;exact zero _ _
   | qp _ b o cap _ f hz m N aa S hc=>
    obtain ⟨vs,k1,k2,T,k4⟩:=zK7 r f S (λ i O=>(hc i O).1)
    have d:∀(j:Nat) v,vs[j]? = some v->w.cell? ((⟨b,o,none⟩:Addr).add j)=some v:=λ j v p=>by
     obtain ⟨i,k,O,e1,e2⟩:=k4 j v p;rw [zBw,e1,←Nat.add_assoc];exact (hc i O).2 k v e2
    refine ⟨vs,k1,k2,T,Qk m N,by simp [Builtin.lenOf],λ w' q=>?_,.inl ⟨_,_,rfl,λ _=>⟨_,rfl,d⟩⟩⟩
    exact run_firstCells_some w' sz _ _ _ _ vs T λ j v p=>by
     have:=d j v p;rw [zBw] at this ⊢;simp only [World.cell?,q] at this ⊢;exact this
  ·cases h
 ·rename_i hd off len J cp ex;split at h
  ·rename_i g;have:=zb g;subst this;split at h
   ·rename_i st V A;split at h
    ·rename_i M;simp only [QJ,Prod.mk.injEq] at h;obtain ⟨rfl,rfl⟩:=h;have z:off+len*sz<=V.length:=QM M;obtain ⟨c,e,f,F,S,D⟩:=CR.wR (hr.obj _ (Heap.qh A));obtain ⟨p1,p2⟩:=D.part z;cases l with
     | wc _ _ _ _ a=>simpa using zero (some a) 0
     | row _ _ _ _ _ cap _ hD u m W Y ac ab=>
      have R:=D.1;have C:((c.toList.drop off).take (len*sz)).length=len*sz:=by simp at R ⊢;omega
      have d:∀(j:Nat) v,((c.toList.drop off).take (len*sz))[j]? = some v->w.cell? ((⟨E.ρ hd,off,none⟩:Addr).add j)=some v:=λ j v p=>by
       rw [zBw,zOb F,←Array.getElem?_toList];rw [List.getElem?_take] at p;split at p
       ·rw [List.getElem?_drop] at p;exact p
       ·cases p
      refine ⟨_,p1,p2,C,Qk u m,by simp [Builtin.lenOf],λ w' q=>?_,.inl ⟨_,_,rfl,λ _=>⟨_,rfl,d⟩⟩⟩
      exact run_firstCells_some w' sz _ _ _ _ _ C λ j v p=>by
       have:=d j v p;rw [zBw] at this ⊢;simp only [World.cell?,q] at this ⊢;exact this
    ·cases h
   ·cases h
  ·cases h
 ·rename_i s;split at h
  ·rename_i g;have:=zb g;subst this;cases h;obtain ⟨K,rfl,L,hl⟩:=l.qX;have g:=zHq L;refine ⟨K.data.toList.map λ b=>.int .u8 b.toNat,?_,?_,?_,hl,?_,?_,.inr ⟨K,rfl,g⟩⟩
   ·subst L;refine ⟨by simp,λ i x v I l=>?_⟩
    simp only [Qj,Option.map_map] at I l;cases F:K.data.toList[i]? with
    | none=>simp [F] at I
    | some b=>
     simp [F] at I l;subst I;subst l;refine .int _ _ ?_
     have:=b.toNat_lt
     constructor <;> simp [IntKind.min,IntKind.max,IntKind.signed,IntKind.bits] <;> omega
   ·intro v l;obtain ⟨b,_,rfl⟩:=Qf.1 l;rfl
   ·subst L;simp
   ·simp [Builtin.lenOf,g]
   ·intro w' _;simp only [Builtin.firstCells,Sem.run_pure];congr 1;rw [←g,ByteArray.extract_zero_size];apply Array.ext';rw [Array.toList_map]
  ·cases h
 ·cases h
end
end Go.Sy
namespace Go.Sy
section
variable {P:Program} {E:Env} {w:World}
theorem zLm {H:Heap} (i:HR E H w) {nx:Nat} (g:¬E.D nx) {st:Bool} {cs:List AV} {c:Array Value} {e:TypeId} (d:CR E w cs c.toList):
  HR (E.add nx w.heap.size) ((nx,.cells st cs)::H) { w with heap:=w.heap.push (.cells c e) } ∧
  Tr E H w (E.add nx w.heap.size) ((nx,.cells st cs)::H) { w with heap:=w.heap.push (.cells c e) } nx (nx+1):=
 have h:=zIm i g (o:=.cells c e) (ho:=.cells st cs) λ j b _ f=>(d.mono f).or (by rw [b];exact zCj) (.inl rfl)
 ⟨h.1,h.2.1⟩
theorem zGj {α:Type} {P:α->Prop} {a b:α} {l:List α} (e:P b) (d:∀x∈a::l,P x):∀x∈b::l,P x:=λ x c=>by
 cases c with
 | head=>exact e
 | tail _ c=>exact d x (.tail _ c)
theorem HR.qW {H:Heap} {h:Nat} {o o':HO} (b:HR E ((h,o)::H) w) (ho:OR E w (E.ρ h) o->OR E w (E.ρ h) o'):HR E ((h,o')::H) w:=
 ⟨b.nodup,zGj (P:=λ(p:Nat×HO)=>E.D p.1) (b.qC (h,o) (.head _)) b.qC,
  zGj (P:=λ(p:Nat×HO)=>∀q∈(h,o')::H,E.ρ p.1=E.ρ q.1->p.1=q.1)
   (zGj (P:=λ(q:Nat×HO)=>E.ρ h=E.ρ q.1->h=q.1) (λ _=>rfl) (b.inj (h,o) (.head _)))
   (λ p c=>zGj (P:=λ(q:Nat×HO)=>E.ρ p.1=E.ρ q.1->p.1=q.1) (b.inj p c (h,o) (.head _)) (b.inj p c)),
  zGj (P:=λ(p:Nat×HO)=>OR E w (E.ρ p.1) p.2) (ho (b.obj (h,o) (.head _))) b.obj,
  zGj (P:=λ(p:Nat×HO)=>¬E.Z (E.ρ p.1)) (b.nz (h,o) (.head _)) b.nz,b.wg⟩
theorem Tr.qW {c:Heap} {w0:World} {E0:Env} {H:Heap} {h:Nat} {o o':HO} {a b:Nat} (d:Tr E0 c w0 E ((h,o)::H) w a b):Tr E0 c w0 E ((h,o')::H) w a b:=
 { d with own:=zGj (P:=λ(p:Nat×HO)=>(∃q∈c,E0.ρ q.1=E.ρ p.1)\/w0.heap.size<=E.ρ p.1) (d.own (h,o) (.head _)) d.own }
theorem CR.take {cs:List AV} {c:List Value} (h:CR E w cs c) (k:Nat):CR E w (cs.take k) c:=
 ⟨by have:=h.1;simp;omega,λ i x b=>by
  rw [List.getElem?_take] at b;split at b
  ·exact h.2 i x b
  ·cases b⟩
theorem VR.zero {z:AV} {v:Value} {n:Nat} {P:Program} {t:TypeId} {cs:List AV} (h:zDP P t=some cs):∃i z,P.info? t=some i/\i.zero=some z/\z.cells.size=i.size/\zL P t=some i.size/\cs.length=i.size/\VRs E w cs z.cells.toList/\∀v∈z.cells.toList,v.oneCell'=true:=by
 unfold zDP at h;split at h
 ·rename_i v b;split at h
  ·rename_i n l d;split at h
   ·rename_i m;cases h;unfold zKz at b;split at b
    ·rename_i i g;split at b
     ·rename_i z k;have e:VR E w v z:=zJy b;obtain ⟨f,j⟩:=e.cells l;have o:n=i.size:=by unfold zL at d;rw [g] at d;simpa using d.symm
      have c:=zb m;subst o;exact ⟨i,z,g,k,by rw [←Array.length_toList,←f.1,c],d,c,f,j⟩
     ·cases b
    ·cases b
   ·cases h
  ·cases h
 ·cases h
theorem zRH (z:Array Value) (n:Nat):(Builtin.zeroCells z n).size=n*z.size:=by simp [Builtin.zeroCells]
set_option maxRecDepth 20000 in
theorem zOc {t u ty e:TypeId} {i:TypeInfo} {z:Value} (B:P.underlying t=some (.slice e)) (l:(∃q,P.underlying u=some (.slice q))\/P.underlying u=some .string) (F:P.info? e=some i) (D:i.zero=some z)
  {b:Option Addr} {sLen sCap n:Nat} {o:Value} {c d:List Value} (f:∀w':World,w'.heap=w.heap->(Builtin.firstCells i.size sLen (.slice b sLen sCap)).run P w'=.ok c.toArray w')
  (g:(Builtin.lenOf o).run P w=.ok n w) (h:∀w':World,w'.heap=w.heap->(Builtin.firstCells i.size n o).run P w'=.ok d.toArray w')
  (C:sCap<sLen+n) (j:sLen+n<=zc) (k:(sLen+n)*i.bytes<=140737488355328):
  ∃cap w',sLen+n<=cap/\cap<=zc/\w'.heap=w.heap.push (.cells (c.toArray++d.toArray++Builtin.zeroCells z.cells (cap-(sLen+n))) e)/\w'.tape=w.tape/\w'.os=w.os/\w'.output=w.output ∧
   (Builtin.append_ #[t,u] ty #[.slice b sLen sCap,o]).run P w=.ok (.slice (some ⟨w.heap.size,0,none⟩) (sLen+n) cap) w':=by
 have I:¬(sLen+n<=sCap):=by omega
 have s:¬(9223372036854775807<((sLen:Int)+(n:Int))):=by unfold zc at j;omega
 have x:=growslice_fits C k;have A:¬(281474976710656<Builtin.nextslicecap (sLen+n) sCap*i.bytes):=by omega
 refine ⟨grownCap w (sLen+n) sCap e,w.drew.alloc (.cells (c.toArray++d.toArray++Builtin.zeroCells z.cells (grownCap w (sLen+n) sCap e-(sLen+n))) e),grownCap_ge w _ _ _,?_,?_,?_,?_,?_,?_⟩
 rotate_left 5
 ·have y:=f w.drew rfl;have r:=h w.drew rfl;have p:¬(((sLen+n:Nat):Int) > IntKind.i64.max):=by
   have:IntKind.i64.max=9223372036854775807:=rfl;rw [this];omega
  have m:¬(Builtin.nextslicecap (sLen+n) sCap*i.bytes > 2 ^ 48):=by
   have:(2:Nat) ^ 48=281474976710656:=rfl;omega
  rcases l with ⟨q,l⟩ | l
  all_goals
   simp only [Builtin.append_,Sem.run_bind,run_underlying B,run_underlying l,sizeOf,typeInfo,run_program,zeroValue,F,D,g,I,p,m,y,r,newRow,grownCap,
    Result.andThen_ok,Sem.run_pure,Sem.run_ite,run_choose,run_askRoom,run_newObj,List.getElem?_toArray,List.getElem?_cons_zero,List.getElem?_cons_succ,Bool.false_eq_true,if_false,false_and,Bool.not_false,if_true]
   rw [show (Question.appendCap (sLen+n) sCap e).forced=false from rfl]
   simp only [Bool.false_eq_true,if_false,Result.andThen_ok];rw [show ({ heap:=w.heap,tape:=w.tape,drawn:=w.drawn+1,os:=w.os,output:=w.output }:World)=w.drew from rfl,y,Result.andThen_ok,r,Result.andThen_ok]
   rfl
 ·exact grownCap_le_maxLen w _ _ _ (by unfold zc at j;simp only [maxLen];omega)
 ·rfl
 ·rfl
 ·rfl
 ·rfl
def zGM (P:Program) (s:Sem Value) (E:Env) (H:Heap) (w:World) (nx:Nat) (v:AV) (H':Heap) (nx':Nat):Prop:=
 ∃d c b,s.run P w=.ok d b/\HR c H' b/\Tr E H w c H' b nx nx'/\VR c b v d
theorem zEF {t u ty e:TypeId} {i:TypeInfo} (k:P.underlying t=some (.slice e)) (f:(∃j,P.underlying u=some (.slice j))\/P.underlying u=some .string) (m:P.info? e=some i)
  {a:Addr} {sLen sCap n:Nat} {g:Value} {b:List Value} (c:(Builtin.lenOf g).run P w=.ok n w) (d:(Builtin.firstCells i.size n g).run P w=.ok b.toArray w) (l:sLen+n<=sCap)
  {w':World} (h:(storeCells (a.add (sLen*i.size)) b).run P w=.ok () w'):
  (Builtin.append_ #[t,u] ty #[.slice (some a) sLen sCap,g]).run P w=.ok (.slice (some a) (sLen+n) sCap) w':=by
 rcases f with ⟨j,f⟩ | f
 all_goals
  simp only [Builtin.append_,Sem.run_bind,run_underlying k,run_underlying f,sizeOf,typeInfo,run_program,m,c,l,d,h,
   Result.andThen_ok,Sem.run_pure,Sem.run_ite,List.getElem?_toArray,List.getElem?_cons_zero,List.getElem?_cons_succ,Bool.false_eq_true,if_false,Bool.not_false,if_true]
theorem zIn (cs:List AV) (k:Nat):qm cs k []=cs:=by simp [qm]
theorem Heap.qq:∀{H:Heap} {h:Nat} {o:HO},H.get h=some o->H.put h o=H
 | (k,b)::r,h,o,e=>by
  simp only [Heap.get] at e;simp only [Heap.put];split at e
  ·cases e;rfl
  ·rw [Heap.qq e]
theorem zPG {H:Heap} {nx nx':Nat} {s y v:AV} {a6:List AV} {cs' cy:Value} {sz bytes:Nat} {H':Heap} {t u ty e:TypeId} (S:HR E H w) (hs:VR E w s cs') (hy:VR E w y cy)
  (T:P.underlying t=some (.slice e)) (F:(∃M,P.underlying u=some (.slice M))\/P.underlying u=some .string) (hz:zDP P e=some a6) (az:zL P e=some sz) (ad:zHR P e=some bytes) (aa:0<sz)
  (d:∀h,nx<=h->h<nx'->¬E.D h) (h:xappend H nx s y sz bytes=some (v,H',nx')):zGM P (Builtin.append_ #[t,u] ty #[cs',cy]) E H w nx v H' nx':=by
 obtain ⟨i,z,R,bj,a8,ak,_,_,_⟩:=VR.zero (P:=P) (E:=E) (w:=w) (z:=.bool true) (v:=.bool true) (n:=0) hz;have:i.size=sz:=by rw [az] at ak;simpa using ak.symm
 subst this;have hb:i.bytes=bytes:=by unfold zHR at ad;rw [R] at ad;simpa using ad
 subst hb;unfold xappend at h;split at h
 ·cases h
 ·rename_i n J af;obtain ⟨vs,k1,k2,k3,k4,U,k6,_⟩:=zDJ (P:=P) S hy af;have X:=k6 w rfl;have room:∀{m:Nat},m*i.bytes<=zg->m*i.bytes<=140737488355328:=λ h=>by unfold zg at h;omega
  have O:∀{a:Option Addr} {sLen sCap:Nat} {r:List AV} {B:List Value},VRs E w r B->(∀v∈B,v.oneCell'=true)->B.length=sLen*i.size →
    (∀w':World,w'.heap=w.heap->(Builtin.firstCells i.size sLen (.slice a sLen sCap)).run P w'=.ok B.toArray w')->sCap<sLen+n->sLen+n<=zc->(sLen+n)*i.bytes<=140737488355328->¬E.D nx →
    ∃cap w',(Builtin.append_ #[t,u] ty #[.slice a sLen sCap,cy]).run P w=.ok (.slice (some ⟨w.heap.size,0,none⟩) (sLen+n) cap) w' ∧
     HR (E.add nx w.heap.size) ((nx,.cells false (r++J))::H) w'/\Tr E H w (E.add nx w.heap.size) ((nx,.cells false (r++J))::H) w' nx (nx+1) ∧
     VR (E.add nx w.heap.size) w' (.row nx 0 (sLen+n) i.size (sLen+n) false) (.slice (some ⟨w.heap.size,0,none⟩) (sLen+n) cap):=by
   intro a sLen sCap r B ho bf ba bg ac V au A;obtain ⟨cap,w',c1,c2,c3,c4,c5,c6,c7⟩:=zOc (P:=P) (ty:=ty) T F R bj bg U k6 ac V au;have bk:CR E w (r++J) (B.toArray++vs.toArray++Builtin.zeroCells z.cells (cap-(sLen+n))).toList:=by
    have h1:=CR.wO (ho.append k1) (λ v hv=>(QI.1 hv).elim (bf v) (k2 v))
    refine ⟨by have:=h1.1;simp at this ⊢;omega,λ i x hx=>?_⟩
    obtain ⟨u,a1,a2,a3⟩:=h1.2 i x hx;refine ⟨u,?_,a2,a3⟩
    have ay:i<(B++vs).length:=(QD.1 a1).1;simp only [Array.toList_append];rw [Qv (by simpa using ay)]
    exact a1
   obtain ⟨n1,n2⟩:=zLm (st:=false) (e:=e) S A bk;obtain ⟨d1,d2⟩:=zGq (w':=w') n1 ⟨by rw [c3],c4,c5,c6⟩ (nx+1)
   refine ⟨cap,w',c7,d1,n2.trans n1 d2,?_⟩
   have:=VR.row (E:=E.add nx w.heap.size) (w:=w') nx 0 (sLen+n) i.size (sLen+n) cap false (.inr rfl) c1 c2 aa c1 (λ h=>by cases h)
    ⟨_,e,(0,0),by rw [Env.qx,c3];exact zCj,by simp [zRH,ba,k3,a8];rw [←Nat.add_mul,←Nat.add_mul];exact Nat.mul_le_mul_right _ (by omega)⟩
   rw [Env.qx] at this;exact this
  split at h
  ·
   cases hs;split at h
   ·cases h;have I:vs=[]:=List.eq_nil_of_length_eq_zero (by simpa using k3)
    refine ⟨.slice none 0 0,E,w,?_,S,.refl _,.qa⟩
    rcases F with ⟨M,F⟩ | F
    ·simp [Builtin.append_,run_underlying T,run_underlying F,sizeOf,typeInfo,R,U,X]
    ·simp [Builtin.append_,run_underlying T,run_underlying F,sizeOf,typeInfo,R,U,X]
   ·split at h
    ·rename_i m _ g;cases h;obtain ⟨cap,w',g1,g2,g3,g4⟩:=O (a:=none) (sLen:=0) (sCap:=0) VRs.nil (λ v hv=>by simp at hv) (by simp) (λ w' _=>by simp [Builtin.firstCells]) (by omega) (by omega)
      (by have:=room (QM g);simpa using this) (d nx (QB _) (by omega))
     simp only [QV,List.nil_append] at g1 g2 g3 g4;exact ⟨_,_,w',g1,g2,g3,g4⟩
    ·cases h
  ·
   rename_i q off len a7 cp ex;split at h
   ·cases h
   ·rename_i bi;have:=zb bi;subst this;split at h
    rotate_left
    ·cases h
    rename_i st C K;split at h
    ·cases h
    rename_i aw;have Y:off+len*i.size<=C.length:=QM aw;split at h
    ·cases h
    rename_i g;simp only [QA] at g;have L:=room (QM g.1);have V:len+n<=zc:=by
     have:=QM g.2;unfold zg at this;unfold zc;omega
    have ah:content H i.size (.row q off len i.size cp ex)=some (len,(C.drop off).take (len*i.size)):=by
     simp only [content,Nat.beq_refl,K,aw]
    obtain ⟨os,o1,o2,o3,o4,o5,o6,o7⟩:=zDJ (P:=P) S hs ah;have ao:∀{a:Option Addr} {cap:Nat},cs'=.slice a len cap->∀w':World,w'.heap=w.heap->(Builtin.firstCells i.size len (.slice a len cap)).run P w'=.ok os.toArray w':=λ e w' h=>e▸o6 w' h
    cases hs with
    | wc _ _ _ _ a=>
     split at h
     ·rename_i k;have ar:n=0:=by have:=QM k;omega
      subst ar;have I:vs=[]:=List.eq_nil_of_length_eq_zero (by simpa using k3)
      have bh:J=[]:=List.eq_nil_of_length_eq_zero (by rw [k1.1,I];rfl)
      subst I;subst bh;cases h;rw [zIn,Heap.qq K];refine ⟨_,E,w,zEF (P:=P) T F R U X (by omega) (by simp [storeCells]),S,.refl _,?_⟩
      exact .wc q off _ _ a
     ·rename_i k;have ar:0<n:=by
       rcases Nat.eq_zero_or_pos n with h0 | h0
       ·subst h0;simp at k
       ·exact h0
      have j:=λ A=>O (a:=some a) (sCap:=0) o1 o2 o3 (ao rfl) (by omega) V L A
      split at h
      ·cases h;obtain ⟨cap,w',g1,g2,g3,g4⟩:=j (d nx (QB _) (by omega))
       exact ⟨_,_,w',g1,g2,g3,g4⟩
      ·split at h
       ·omega
       ·split at h
        ·cases h;obtain ⟨cap,w',g1,g2,g3,g4⟩:=j (d nx (QB _) (by omega))
         have p:((nx,HO.cells false ((C.drop 0).take (0*i.size)++J))::H.del q).Sublist ((nx,HO.cells false ((C.drop 0).take (0*i.size)++J))::H):=(Heap.wq H q).cons_cons _;refine ⟨_,_,w',g1,(g2.sub p).qW ?_,(g3.sub p).qW,g4⟩
         rintro ⟨c,M,f,a1,a2,a3,a4⟩
         exact ⟨c,M,f,a1,by simpa using a2,a3.imp id (λ⟨x,_⟩=>by cases x),λ i' x hx=>a4 i' x (by simpa using hx)⟩
        ·cases h
    | row _ _ _ _ _ cap _ hD aj l N ai ag W=>
     have Q:n+len<=cap->∃w',(storeCells ((⟨E.ρ q,off,none⟩:Addr).add (len*i.size)) vs).run P w=.ok () w'/\HR E (H.put q (.cells st (qm C (off+len*i.size) J))) w' ∧
       Tr E H w E (H.put q (.cells st (qm C (off+len*i.size) J))) w' nx nx:=λ k=>by
      rw [zBw];obtain ⟨c,M,f,b1,b2⟩:=W;refine zF0 S K k1 k2 (.inr ⟨Y,c,M,f,b1,?_⟩) nx
      rw [k1.1,k3];have:len*i.size+n*i.size<=cap*i.size:=by rw [←Nat.add_mul];exact Nat.mul_le_mul_right _ (by omega)
      omega
     have j:=λ ac A=>O (a:=some ⟨E.ρ q,off,none⟩) (sCap:=cap) o1 o2 o3 (ao rfl) ac V L A
     split at h
     ·rename_i k;have al:len+n<=cp:=QM k;cases h;obtain ⟨w',r1,r2,r3⟩:=Q (by omega)
      obtain ⟨c,M,f,b1,b2⟩:=W;obtain ⟨c',f',s1,s2⟩:=r3.qn _ _ _ _ b1;exact ⟨_,E,w',zEF (P:=P) T F R U X (by omega) r1,r2,r3,.row q off (len+n) _ cp cap ex hD (by omega) l N ai ag ⟨c',M,f',s1,by omega⟩⟩
     ·rename_i k;have al:¬len+n<=cp:=λ h=>by rw [Nat.ble_eq_true_of_le h] at k;cases k
      split at h
      ·cases h;have:=ag rfl;obtain ⟨aq,w',g1,g2,g3,g4⟩:=j (by omega) (d nx (QB _) (by omega))
       exact ⟨_,_,w',g1,g2,g3,g4⟩
      ·split at h
       ·cases h;have I:vs=[]:=List.eq_nil_of_length_eq_zero (by simpa using k3)
        subst I;refine ⟨_,E,w,zEF (P:=P) T F R U X (by omega) (by simp [storeCells]),S,.refl _,?_⟩
        exact .row q off len _ cp cap false hD aj l N ai ag W
       ·split at h
        ·cases h;have A:=d nx (QB _) (by omega)
         by_cases hc:len+n<=cap
         ·obtain ⟨q1,q2,q3⟩:=zQD S K A;obtain ⟨c,M,f,b1,b2⟩:=W;have bb:Heap.get ((nx,HO.cells st C)::H.del q) nx=some (.cells st C):=by simp [Heap.get,Nat.beq_refl]
          have hρ:=Env.qx E nx (E.ρ q);obtain ⟨w',r1,r2,r3⟩:=zF0 (P:=P) q1 bb (off:=0+len*i.size) (k1.mono q3) k2 (.inr ⟨Y,c,M,f,by rw [hρ];exact b1,by
           rw [k1.1,k3];have:len*i.size+n*i.size<=cap*i.size:=by rw [←Nat.add_mul];exact Nat.mul_le_mul_right _ (by omega)
           omega⟩) (nx+1)
          rw [hρ,←zBw] at r1;have ax:Heap.put ((nx,HO.cells st C)::H.del q) nx (.cells st (qm C (0+len*i.size) J))=(nx,HO.cells st (qm C (0+len*i.size) J))::H.del q:=by simp [Heap.put,Nat.beq_refl]
          rw [ax] at r2 r3;obtain ⟨c',f',s1,s2⟩:=(q2.trans q1 r3).qn _ _ _ _ b1;have ab:C.take (len*i.size)++J=(qm C (0+len*i.size) J).take (len*i.size+J.length):=by
           unfold qm;rw [QV];exact (List.take_left' (by simp;omega)).symm
          refine ⟨_,_,w',zEF (P:=P) T F R U X hc r1,r2.qW ?_,(q2.trans q1 r3).qW,?_⟩
          ·intro ho;obtain ⟨cc,ee,ff,a1,a2,a3⟩:=CR.wR ho;rw [ab];exact (a3.take _).or a1 a2
          ·have:=VR.row (E:=E.add nx (E.ρ q)) (w:=w') nx 0 (len+n) i.size (len+n) cap false (.inr rfl) hc l aa hc (λ h=>by cases h) ⟨c',M,f',by rw [hρ];exact s1,by omega⟩
           rw [hρ] at this;exact this
         ·obtain ⟨aq,w',g1,g2,g3,g4⟩:=j (by omega) A
          have p:((nx,HO.cells false ((C.drop 0).take (len*i.size)++J))::H.del q).Sublist ((nx,HO.cells false ((C.drop 0).take (len*i.size)++J))::H):=(Heap.wq H q).cons_cons _;refine ⟨_,_,w',g1,(g2.sub p).qW ?_,(g3.sub p).qW,g4⟩
          rintro ⟨c,M,f,a1,a2,a3,a4⟩
          exact ⟨c,M,f,a1,by simpa using a2,a3.imp id (λ⟨x,_⟩=>by cases x),λ i' x hx=>a4 i' x (by simpa using hx)⟩
        ·cases h
  ·
   rename_i zz es;split at h
   ·cases h;have I:vs=[]:=List.eq_nil_of_length_eq_zero (by simpa using k3)
    subst I;cases hs with
    | wb _ a c ae=>
     refine ⟨.slice a 0 c,E,w,?_,S,.refl _,.wb _ a c ae⟩
     rcases F with ⟨M,F⟩ | F <;> cases a <;>
      simp [Builtin.append_,run_underlying T,run_underlying F,sizeOf,typeInfo,R,U,X,storeCells]
    | qp _ b o cap a7 f be l ae bc hf hc=>
     refine ⟨_,E,w,zEF (P:=P) T F R U X (by omega) (by simp [storeCells]),S,.refl _,?_⟩
     exact .qp es b o cap _ f be l ae bc hf hc
   ·cases h
  ·cases h
end
end Go.Sy
namespace Go.Sy
section
variable {P:Program} {E:Env} {w:World}
theorem zEc:∀{a b:List Nat},seqb a b=true->a=b
 | [],[],_=>rfl
 | a::x,b::y,h=>by
  simp only [seqb] at h;split at h
  ·rename_i c;rw [zb c,zEc h]
  ·cases h
 | [],_::_,h=>by simp [seqb] at h
 | _::_,[],h=>by simp [seqb] at h
theorem zSB {k:Kd} {x y:AV} (h:eqb k x y=some true):x=y:=by
 unfold eqb at h;split at h
 ·simp at h;rw [h]
 ·split at h
  ·rename_i d;rw [zGh d];simp at h;rw [h]
  ·cases h
 ·simp only [QJ] at h;rw [zEc h]
 ·cases h
theorem zQ3:∀{d:List Kd} {x y:List AV},eqbs d x y=some true->x=y
 | [],[],[],_=>rfl
 | k::d,a::x,b::y,h=>by
  simp only [eqbs] at h;split at h
  ·rename_i e;rw [zSB e,zQ3 h]
  ·cases h
  ·cases h
 | [],_::_,_,h=>by simp [eqbs] at h
 | [],[],_::_,h=>by simp [eqbs] at h
 | _::_,[],_,h=>by simp [eqbs] at h
 | _::_,_::_,[],h=>by simp [eqbs] at h
theorem zSC {e:Bool} {d:List Kd} {x y:AV} (h:eqk e d x y=some true):x=y:=by
 unfold eqk at h;split at h
 ·split at h
  ·unfold eqs at h;split at h
   ·rw [zQ3 h]
   ·cases h
  ·cases h
 ·split at h
  ·cases h
  ·split at h
   ·exact zSB h
   ·cases h
theorem zEn {r:Bool} {l:List Kd} {e:TypeId} {x y:AV} {o j:Value} {b:Bool} (m:zB7 P 6 e=some l) (d:agT P e=some r) (hx:VR E w x o) (q:VR E w y j)
  (h:eqk r l x y=some b):(Op.equal e o j).run P w=.ok b w:=by
 unfold eqk at h;split at h
 ·split at h
  ·unfold eqs at h;split at h
   ·rename_i z A;obtain ⟨B,rfl,g,_⟩:=hx.qV;obtain ⟨C,rfl,n,_⟩:=q.qV;exact zHH m 9994 _ _ _ _ _ _ _ g n (.inl ⟨d,rfl⟩) (.inl ⟨d,rfl⟩) (by rw [←g.1];exact zb z) (by rw [←n.1];exact zb A) h
   ·cases h
  ·cases h
 ·split at h
  ·cases h
  ·split at h
   ·rename_i k;have t:eqbs [k] [x] [y]=some b:=by
     simp only [eqbs,h];cases b <;> rfl
    exact zHH m 9994 _ _ _ _ _ _ _ (VRs.cons hx VRs.nil) (VRs.cons q VRs.nil) (.inr ⟨d,rfl⟩) (.inr ⟨d,rfl⟩) rfl rfl t
   ·cases h
theorem zHr:∀{d:Nat} {t:TypeId} {q:List Kd},zB7 P d t=some q->∀(em:Bool) (D:Nat) (vs:List Value) (cv:Value),shaped P t vs cv->vs.length=q.length →
  (Instr.checkKey em (D+d) t cv).run P w=.ok () w
 | 0,t,q,h=>by simp [zB7] at h
 | d+1,t,q,h=>by
  intro em D vs cv T lv;unfold zB7 at h;have base:(∃k,P.underlying t=some (.int k))\/P.underlying t=some .bool\/P.underlying t=some .string->(Instr.checkKey em (D+(d+1)) t cv).run P w=.ok () w:=by
   rw [←Nat.add_assoc]
   rintro (⟨k,hu⟩ | hu | hu) <;> simp [Instr.checkKey,run_underlying hu]
  split at h
  ·rename_i e;exact base (.inr (.inl e))
  ·rename_i e;exact base (.inl ⟨_,e⟩)
  ·rename_i e;exact base (.inr (.inr e))
  ·rename_i U e;split at h
   ·cases h
   ·have C:agT P t=some true:=by simp [agT,e]
    rcases T with ⟨_,rfl⟩ | ⟨O,_⟩
    rotate_left
    ·rw [C] at O;cases O
    rw [←Nat.add_assoc];simp only [Instr.checkKey,Sem.run_bind,run_underlying e,Result.andThen_ok];rw [←Array.forIn_toList];have key:∀(l:List Field) (n:Nat) (B:List Kd),zIR P (zB7 P d) n l=some B->n+B.length=vs.length →
      ((forIn l PUnit.unit λ f r=>do
       if f.name ≠ "_" then do
         let r ←Go.part f.type vs.toArray f.offset
         let r ←Instr.checkKey em (D+d) f.type r
         pure (ForInStep.yield PUnit.unit)
        else do
         pure (ForInStep.yield PUnit.unit):Sem PUnit)).run P w=.ok PUnit.unit w:=by
     intro l
     induction l with
     | nil=>intro n B _ _;simp
     | cons f r W=>
      intro n B m n1;simp only [zIR] at m;split at m
      ·rename_i Q s N z A K;split at m
       ·rename_i x;split at m
        ·rename_i rs F;cases m;have j:Q.length=s:=zb x;have o:f.offset=n:=zb z;obtain ⟨g,R,J⟩:=zPF A;have X:(Q++rs).length=s+rs.length:=by rw [QC,j]
         obtain ⟨Y,M,L⟩:=zJ2 (P:=P) (w:=w) (xs:=vs.toArray) (t:=f.type) (off:=n) (sz:=s) R K (λ h=>by rw [←j];exact J h) (by simp;omega)
         have V:=zHr A em D _ _ L (by simp;omega)
         have y:f.name ≠ "_":=by simpa using N
         have I:=W (n+s) rs F (by omega)
         simp only [List.forIn_cons,y,ne_eq,not_false_eq_true,if_true,o,Sem.run_bind,M,Result.andThen_ok,V,Sem.run_pure];exact I
        ·cases m
       ·cases m
      ·cases m
    have S:=key U.toList 0 q h (by omega)
    rw [S];rfl
  ·cases h
theorem zEd {m:Bool} {j:List Kd} {g:TypeId} {k:AV} {d:Value} {em:Bool} (n:zB7 P 6 g=some j) (o:agT P g=some m) (r:VR E w k d) (h:zDO m j k=true):
  (Instr.checkKey em 10000 g d).run P w=.ok () w:=by
 have one:m=false->j.length=1->(Instr.checkKey em 10000 g d).run P w=.ok () w:=λ e l=>
  zHr n em 9994 [d] d (.inr ⟨e▸o,rfl⟩) (by rw [l];rfl)
 unfold zDO at h;split at h
 ·simp only [QA] at h;obtain ⟨q,rfl,t,_⟩:=r.qV;exact zHr n em 9994 q.toList _ (.inl ⟨h.1▸o,by simp⟩) (by rw [←t.1];exact zb h.2)
 ·simp only [QA,Bool.not_eq_true'] at h;exact one h.1 (zb h.2)
 ·simp only [QA,Bool.not_eq_true'] at h;exact one h.1 (zb h.2)
 ·simp only [QA,Bool.not_eq_true'] at h;exact one h.1 (zb h.2)
 ·cases h
theorem zK8 {c:TypeId} {kind:TypeDesc} (d:P.underlying c=some kind) {x y:Value} {b:Bool} (h:Instr.sameNow kind x y=some b):(Op.equal c x y).run P w=.ok b w:=by
 unfold Instr.sameNow at h;split at h
 ·split at h
  ·rename_i e;subst e;cases h;exact run_equalIn_int w 9999 c _ _ _ _ d
  ·cases h
 ·cases h;exact (run_equalIn_string w 9999 c _ _ d).trans (by rw [beq_toListBytes])
 ·cases h;exact run_equalIn_bool w 9999 c _ _ d
 ·cases h
theorem zKd {d:TypeId} {kind:TypeDesc} (b:P.underlying d=some kind) {k:Value}:∀{es:List MapEntry} {i:Nat} {r:Option (Nat×Value)},Instr.findNow kind k es i=some r->(Instr.findAsking d k es i).run P w=.ok r w
 | [],i,r,h=>by simp [Instr.findNow] at h;subst h;simp [Instr.findAsking]
 | e::es,i,r,h=>by
  simp only [Instr.findNow] at h;split at h
  ·rename_i c;cases h;simp [Instr.findAsking,zK8 (P:=P) (w:=w) b c]
  ·rename_i c;have:=zKd b h;simp [Instr.findAsking,zK8 (P:=P) (w:=w) b c,this]
  ·cases h
theorem zEP {c:TypeId} {k:Value} {es:List MapEntry} {r:Option (Nat×Value)} (b:∃kind,P.underlying c=some kind) (h:(Instr.findAsking c k es).run P w=.ok r w):(Instr.findKey c k es).run P w=.ok r w:=by
 obtain ⟨kind,b⟩:=b;simp only [Instr.findKey,Sem.run_bind,run_underlying b,Result.andThen_ok];split
 ·rename_i e d;have:=zKd (w:=w) b d;rw [h] at this;cases this;rfl
 ·exact h
def ER (E:Env) (w:World) (es:List (AV×AV)) (c:List MapEntry):Prop:=
 es.length=c.length/\∀(i:Nat) k x,es[i]? = some (k,x)->∃m,c[i]? = some m/\VR E w k m.key/\VR E w x m.val
theorem ER.of_cons {k x:AV} {es:List (AV×AV)} {c:List MapEntry} (h:ER E w ((k,x)::es) c):∃m c',c=m::c'/\VR E w k m.key/\VR E w x m.val/\ER E w es c':=by
 cases c with
 | nil=>have:=h.1;simp at this
 | cons m c=>
  obtain ⟨g,b,d,e⟩:=h.2 0 k x rfl;simp at b;subst b;exact ⟨m,c,rfl,d,e,by have:=h.1;simpa using this,λ i k x f=>by have:=h.2 (i+1) k x (by simpa using f);simpa using this⟩
theorem zNv {B:Bool} {x:List Kd} {o:TypeId} {k:AV} {z:Value} (n:zB7 P 6 o=some x) (l:agT P o=some B) (t:VR E w k z):∀{es:List (AV×AV)} {c:List MapEntry} {i:Nat} {r:Option AV},
  ER E w es c->mfind B x k es=some r->∃d:Option (Nat×Value),(Instr.findAsking o z c i).run P w=.ok d w ∧
   (match r with | none=>d=none | some v=>∃j cv,d=some (i+j,cv)/\VR E w v cv/\∃g,es[j]? = some (g,v)/\g=k)
 | [],c,i,r,q,h=>by
  have:c=[]:=by have:=q.1;cases c <;> simp_all
  subst this;simp [mfind] at h;subst h;exact ⟨none,by simp [Instr.findAsking],rfl⟩
 | (j,v)::es,c,i,r,q,h=>by
  obtain ⟨m,N,rfl,y,D,J⟩:=q.of_cons;simp only [mfind] at h;split at h
  ·rename_i e;cases h;refine ⟨some (i,m.val),by simp [Instr.findAsking,zEn n l t y e],0,m.val,rfl,D,j,rfl,(zSC e).symm⟩
  ·rename_i e;obtain ⟨d,F,A⟩:=zNv n l t (i:=i+1) J h;refine ⟨d,by simp [Instr.findAsking,zEn n l t y e,F],?_⟩
   cases r with
   | none=>exact A
   | some v=>
    obtain ⟨C,cv,K,I,g,L,M⟩:=A;exact ⟨C+1,cv,by rw [K];congr 2;omega,I,g,by simpa using L,M⟩
  ·cases h
theorem zMJ {t:TypeId} {z:AV} (h:zKz P t=some z):∃b,(zeroValue t).run P w=.ok b w/\∀{E:Env} {w':World},VR E w' z b:=by
 unfold zKz at h;split at h
 ·rename_i i d;split at h
  ·rename_i v c;exact ⟨v,by simp [zeroValue,typeInfo,d,c],λ{E w'}=>zJy h⟩
  ·cases h
 ·cases h
theorem VR.of_map {h:Nat} {cv:Value} (b:VR E w (.map h) cv):cv=.map (some (E.ρ h))/\E.D h:=by cases b;exact ⟨rfl,by assumption⟩
theorem zIM {v:AV} {cv:Value} {b:Bool} (h:VR E w v cv):VR E w (.qf [v,.bool b]) (.tuple #[cv,.bool b]):=
 VR.qJ (VRs.cons h (VRs.cons (.bool b) VRs.nil))
theorem zPH {H:Heap} {N ok:Bool} {K:List Kd} {t D R:TypeId} {m k z v:AV} {O J:Value} (hr:HR E H w) (o:P.underlying t=some (.map D R)) (L:zB7 P 6 D=some K) (q:agT P D=some N)
  (W:zKz P R=some z) (hm:VR E w m O) (M:VR E w k J) (A:zDO N K k=true)
  (h:(m=.qj/\v=(match ok with | true=>.qf [z,.bool false] | false=>z))\/∃C es r,m=.map C/\H.get C=some (.map es)/\mfind N K k es=some r ∧
   v=(match r with | some v=>(match ok with | true=>.qf [v,.bool true] | false=>v) | none=>(match ok with | true=>.qf [z,.bool false] | false=>z))):
  ∃cv,(Instr.lookup t O J ok).run P w=.ok cv w/\VR E w v cv:=by
 obtain ⟨F,I,z2⟩:=zMJ (w:=w) W;have l:∃kind,P.underlying D=some kind:=by
  unfold agT at q;split at q <;> first | exact ⟨_,by assumption⟩ | cases q
 rcases h with ⟨rfl,rfl⟩ | ⟨C,es,r,rfl,B,X,rfl⟩
 ·cases hm;have g:=zEd (P:=P) (em:=true) L q M A;have e:=zEP (P:=P) (w:=w) (k:=J) (es:=[]) (r:=none) l (by simp [Instr.findAsking])
  cases ok
  ·exact ⟨F,by simp [Instr.lookup,run_underlying o,g,e,I],z2⟩
  ·exact ⟨.tuple #[F,.bool false],by simp [Instr.lookup,run_underlying o,g,e,I],zIM z2⟩
 ·obtain ⟨rfl,hD⟩:=hm.of_map;obtain ⟨c,clock,V,Y,y,_⟩:=hr.obj _ (Heap.qh B);have he:ER E w es c.toList:=⟨by simpa using Y,λ i k x hx=>let ⟨m,a,b,d,_⟩:=y i k x hx;⟨m,by simpa using a,b,d⟩⟩
  obtain ⟨T,U,S⟩:=zNv (P:=P) (i:=0) L q M he X;have g:=zEd (P:=P) (em:=c.isEmpty) L q M A;have e:=zEP (P:=P) (w:=w) (k:=J) (es:=c.toList) (r:=T) l U;have n:(getObj (E.ρ C)).run P w=.ok (.map c clock) w:=by simp [getObj,Sem.run,V]
  cases r with
  | none=>
   subst S;cases ok
   ·exact ⟨F,by simp [Instr.lookup,run_underlying o,n,g,e,I],z2⟩
   ·exact ⟨.tuple #[F,.bool false],by simp [Instr.lookup,run_underlying o,n,g,e,I],zIM z2⟩
  | some v=>
   obtain ⟨j,cv,rfl,Q,_⟩:=S;cases ok
   ·exact ⟨cv,by simp [Instr.lookup,run_underlying o,n,g,e],Q⟩
   ·exact ⟨.tuple #[cv,.bool true],by simp [Instr.lookup,run_underlying o,n,g,e],zIM Q⟩
theorem zEQ {H:Heap} (p:HR E H w) {h:Nat} {o o':HO} (n:H.get h=some o) {l ob':Obj} (j:w.heap[E.ρ h]? = some l) (m:∀c e f,l≠.cells c e f)
  (k:∀w':World,w'.heap[E.ρ h]? = some ob'->(∀{v cv},VR E w v cv->VR E w' v cv)->OR E w' (E.ρ h) o') (a:Nat):
  ∃w',(setObj (E.ρ h) ob').run P w=.ok () w'/\HR E (H.put h o') w'/\Tr E H w E (H.put h o') w' a a/\∀{v cv},VR E w v cv->VR E w' v cv:=by
 have g:=(Array.getElem?_eq_some_iff.1 j).1;refine ⟨{ w with heap:=w.heap.setIfInBounds (E.ρ h) ob' },?_,?_⟩
 ·cases l <;> first | exact absurd rfl (m _ _ _) | simp only [setObj,Sem.run,j]
 ·refine zJ0 (w':={ w with heap:=w.heap.setIfInBounds (E.ρ h) ob' }) p n rfl rfl rfl (by simp) (λ b i=>?_) (λ b c e f d=>?_) (λ q=>k _ ?_ q) a
  ·show (w.heap.setIfInBounds (E.ρ h) ob')[b]? = _
   rw [Array.getElem?_setIfInBounds,if_neg (Ne.symm i)]
  ·refine ⟨c,f,?_,rfl⟩
   show (w.heap.setIfInBounds (E.ρ h) ob')[b]? = _
   rw [Array.getElem?_setIfInBounds];split
   ·rename_i e;subst e;rw [j] at d;cases d;exact absurd rfl (m _ _ _)
   ·exact d
  ·show (w.heap.setIfInBounds (E.ρ h) ob')[E.ρ h]? = _
   rw [Array.getElem?_setIfInBounds,if_pos rfl,if_pos g]
theorem zNw {D:Bool} {C:List Kd} {n:TypeId} {k x:AV} {z:Value} (l:zB7 P 6 n=some C) (g:agT P n=some D) (o:VR E w k z):∀{es d:List (AV×AV)} {c:List MapEntry} {i:Nat},
  ER E w es c->mput D C k x es=some d →
  ((Instr.findAsking n z c i).run P w=.ok none w/\d=es++[(k,x)])\/∃j cv y,(Instr.findAsking n z c i).run P w=.ok (some (i+j,cv)) w/\es[j]? = some (k,y)/\d=es.set j (k,x)
 | [],d,c,i,B,h=>by
  have:c=[]:=by have:=B.1;cases c <;> simp_all
  subst this;simp [mput] at h;subst h;exact .inl ⟨by simp [Instr.findAsking],rfl⟩
 | (j,v)::es,d,c,i,B,h=>by
  obtain ⟨m,L,rfl,t,K,I⟩:=B.of_cons;simp only [mput] at h;split at h
  ·rename_i e;cases h;exact .inr ⟨0,m.val,v,by simp [Instr.findAsking,zEn l g o t e],by rw [zSC e];rfl,rfl⟩
  ·rename_i e;split at h
   ·rename_i J r;cases h;rcases zNw l g o (i:=i+1) I r with ⟨A,rfl⟩ | ⟨q,cv,y,A,F,rfl⟩
    ·exact .inl ⟨by simp [Instr.findAsking,zEn l g o t e,A],rfl⟩
    ·refine .inr ⟨q+1,cv,y,?_,by simpa using F,rfl⟩
     have:i+(q+1)=i+1+q:=by omega
     rw [this];simp [Instr.findAsking,zEn l g o t e,A]
   ·cases h
  ·cases h
theorem zNx {B:Bool} {A:List Kd} {l:TypeId} {k:AV} {x:Value} (g:zB7 P 6 l=some A) (e:agT P l=some B) (o:VR E w k x):∀{es d:List (AV×AV)} {c:List MapEntry} {i:Nat},
  ER E w es c->mdel B A k es=some d →
  ((Instr.findAsking l x c i).run P w=.ok none w/\d=es)\/∃j cv,(Instr.findAsking l x c i).run P w=.ok (some (i+j,cv)) w/\j<es.length/\d=es.eraseIdx j
 | [],d,c,i,z,h=>by
  have:c=[]:=by have:=z.1;cases c <;> simp_all
  subst this;simp [mdel] at h;subst h;exact .inl ⟨by simp [Instr.findAsking],rfl⟩
 | (j,v)::es,d,c,i,z,h=>by
  obtain ⟨m,I,rfl,t,F,C⟩:=z.of_cons;simp only [mdel] at h;split at h
  ·rename_i n;cases h;exact .inr ⟨0,m.val,by simp [Instr.findAsking,zEn g e o t n],by simp,rfl⟩
  ·rename_i n;split at h
   ·rename_i D r;cases h;rcases zNx g e o (i:=i+1) C r with ⟨y,rfl⟩ | ⟨q,cv,y,J,rfl⟩
    ·exact .inl ⟨by simp [Instr.findAsking,zEn g e o t n,y],rfl⟩
    ·refine .inr ⟨q+1,cv,?_,by simp;omega,rfl⟩
     have:i+(q+1)=i+1+q:=by omega
     rw [this];simp [Instr.findAsking,zEn g e o t n,y]
   ·cases h
  ·cases h
theorem zMY {k:AV} {b c2:Value} (e:VR E w k b) (d:VR E w k c2):∃c w',(Instr.keyThatStays b c2).run P w=.ok c w'/\World.vq w w'/\VR E w k c:=by
 unfold Instr.keyThatStays;split
 ·exact ⟨c2,w,rfl,.refl w,d⟩
 ·simp only [Sem.run_bind,run_choose];have pick:∀(n:Nat),VR E w k (if n=0 then c2 else b):=λ n=>by split <;> assumption
  split
  ·exact ⟨_,w,rfl,.refl w,pick 0⟩
  ·exact ⟨_,_,rfl,.mk w _,pick _⟩
theorem zMe {w':World} (c:World.vq w w') {v:AV} {cv:Value} (h:VR E w v cv):VR E w' v cv:=
 h.mono (λ _ h=>⟨h,rfl⟩) (λ b h=>⟨h,by rw [c.1]⟩) (.of_heap c.1)
theorem zRI {H:Heap} {nx:Nat} {ag:Bool} {ks:List Kd} {t X et:TypeId} {K:Nat} {k x:AV} {cm Q C:Value} {es F:List (AV×AV)} (hr:HR E H w) (ht:P.underlying t=some (.map X et)) (hk:zB7 P 6 X=some ks) (O:agT P X=some ag)
  (hm:VR E w (.map K) cm) (Y:VR E w k Q) (hx:VR E w x C) (aa:zDO ag ks k=true) (q:H.get K=some (.map es)) (h:mput ag ks k x es=some F):
  ∃w',(Instr.mapUpdate t cm Q C).run P w=.ok () w'/\HR E (H.put K (.map F)) w'/\Tr E H w E (H.put K (.map F)) w' nx nx:=by
 obtain ⟨rfl,hD⟩:=hm.of_map;obtain ⟨c,clock,hb,T,l,r⟩:=hr.obj _ (Heap.qh q);have o:∃kind,P.underlying X=some kind:=by
  unfold agT at O;split at O <;> first | exact ⟨_,by assumption⟩ | cases O
 have he:ER E w es c.toList:=⟨by simpa using T,λ i k x hx=>let ⟨m,a,b,d,_⟩:=l i k x hx;⟨m,by simpa using a,b,d⟩⟩
 have M:=zEd (P:=P) (em:=false) hk O Y aa;have U:(getObj (E.ρ K)).run P w=.ok (.map c clock) w:=by simp [getObj,Sem.run,hb]
 rcases zNw (P:=P) (i:=0) hk O Y he h with ⟨e1,rfl⟩ | ⟨j,cv,x',e1,e2,rfl⟩
 ·have A:=zEP o e1;obtain ⟨w',s1,s2,s3,_⟩:=zEQ (P:=P) hr q hb (λ _ _ _ h=>by cases h) (ob':=.map (c.push { key:=Q,val:=C,born:=clock }) (clock+1)) (o':=.map (es++[(k,x)])) (λ w' I hm=>by
   refine ⟨_,_,I,by simp [T],λ i k' v' g=>?_,λ i j m n g D z=>?_⟩
   ·rw [List.getElem?_append] at g;split at g
    ·rename_i N;obtain ⟨m,R,a2,a3,a4⟩:=l i k' v' g;exact ⟨m,by rw [Array.getElem?_push,if_neg (by omega)];exact R,hm a2,hm a3,by omega⟩
    ·rename_i ae;have ab:i=es.length:=by
      have:=(QD.1 g).1;simp at this;omega
     subst ab;simp at g;obtain ⟨rfl,rfl⟩:=g;exact ⟨{ key:=Q,val:=C,born:=clock },by rw [Array.getElem?_push,if_pos T],hm Y,hm hx,QU _⟩
   ·have L:∀{i:Nat} {m:MapEntry},c[i]? = some m->m.born<clock:=λ{i m} g=>by
     have N:i<es.length:=by rw [T];exact (Array.getElem?_eq_some_iff.1 g).1
     obtain ⟨V,W,_,_,b4⟩:=l i (es[i]).1 (es[i]).2 (by simp [N])
     rw [g] at W;cases W;exact b4
    rw [Array.getElem?_push] at g D;split at g <;> split at D
    ·omega
    ·cases g;have:=L D;simp at z;omega
    ·cases D;have:=L g;simp at z;omega
    ·exact r i j m n g D z) nx
  exact ⟨w',by simp [Instr.mapUpdate,run_underlying ht,U,M,A,s1],s2,s3⟩
 ·have A:=zEP o e1;rw [QV] at A;obtain ⟨m,R,a2,a3,a4⟩:=l j k x' e2;obtain ⟨kk,w1,q1,J,q3⟩:=zMY (P:=P) a2 Y;obtain ⟨d1,d2⟩:=zGq hr J nx;have ac:w1.heap[E.ρ K]? = some (.map c clock):=by rw [J.1];exact hb
  have ad:j<c.size:=(Array.getElem?_eq_some_iff.1 R).1;obtain ⟨w',s1,s2,s3,_⟩:=zEQ (P:=P) d1 q ac (λ _ _ _ h=>by cases h) (ob':=.map (c.modify j λ e=>{ e with key:=kk,val:=C }) clock) (o':=.map (es.set j (k,x))) (λ w' I hm=>by
   refine ⟨_,_,I,by simp [T],λ i k' v' g=>?_,λ i i' m1 n1 g D z=>?_⟩
   ·rw [List.getElem?_set] at g;rw [Array.getElem?_modify];split at g
    ·rename_i e;subst e;split at g
     ·cases g;exact ⟨{ m with key:=kk,val:=C },by simp [R],hm (zMe J q3),hm (zMe J hx),a4⟩
     ·cases g
    ·rename_i e;obtain ⟨V,W,b2,b3,b4⟩:=l i k' v' g;exact ⟨V,by rw [if_neg e];exact W,hm (zMe J b2),hm (zMe J b3),b4⟩
   ·have B:∀{i:Nat} {m:MapEntry},(c.modify j λ e=>{ e with key:=kk,val:=C })[i]? = some m->∃V,c[i]? = some V/\V.born=m.born:=λ{i m} g=>by
     rw [Array.getElem?_modify] at g;split at g
     ·cases hc:c[i]? with
      | none=>simp [hc] at g
      | some y=>simp [hc] at g;exact ⟨y,rfl,by rw [←g]⟩
     ·exact ⟨m,g,rfl⟩
    obtain ⟨p1,p2,p3⟩:=B g;obtain ⟨r1,r2,r3⟩:=B D;exact r i i' p1 r1 p2 r2 (by omega)) nx
  refine ⟨w',?_,s2,d2.trans d1 s3⟩
  have S:((c[j]?).map (·.key)).getD Q=m.key:=by simp [R]
  simp [Instr.mapUpdate,run_underlying ht,U,M,A,S,q1,s1]
theorem zSD {H:Heap} {nx:Nat} {X:Bool} {N:List Kd} {t L et ty:TypeId} {ts:Array TypeId} {C:Nat} {k:AV} {cm ck:Value} {es y:List (AV×AV)} (R:HR E H w) (Y:P.underlying t=some (.map L et)) (hk:zB7 P 6 L=some N) (D:agT P L=some X)
  (J:ts[0]? = some t) (hm:VR E w (.map C) cm) (hv:VR E w k ck) (U:zDO X N k=true) (o:H.get C=some (.map es)) (h:mdel X N k es=some y):
  ∃w',(Builtin.delete_ ts ty #[cm,ck]).run P w=.ok (.tuple #[]) w'/\HR E (H.put C (.map y)) w'/\Tr E H w E (H.put C (.map y)) w' nx nx:=by
 obtain ⟨rfl,hD⟩:=hm.of_map;obtain ⟨c,clock,M,Q,l,g⟩:=R.obj _ (Heap.qh o);have n:∃kind,P.underlying L=some kind:=by
  unfold agT at D;split at D <;> first | exact ⟨_,by assumption⟩ | cases D
 have he:ER E w es c.toList:=⟨by simpa using Q,λ i k x T=>let ⟨m,a,b,d,_⟩:=l i k x T;⟨m,by simpa using a,b,d⟩⟩
 have K:=zEd (P:=P) (em:=c.isEmpty) hk D hv U;have I:(getObj (E.ρ C)).run P w=.ok (.map c clock) w:=by simp [getObj,Sem.run,M]
 rcases zNx (P:=P) (i:=0) hk D hv he h with ⟨W,rfl⟩ | ⟨j,cv,W,e2,rfl⟩
 ·have z:=zEP n W;obtain ⟨w',S,O,V,_⟩:=zEQ (P:=P) R o M (λ _ _ _ h=>by cases h) (ob':=.map c clock) (o':=.map y) (λ w' A hm=>
   ⟨c,clock,A,Q,λ i k x T=>let ⟨m,a,b,d,e⟩:=l i k x T;⟨m,a,hm b,hm d,e⟩,g⟩) nx
  exact ⟨w',by simp [Builtin.delete_,J,run_underlying Y,I,K,z,S],O,V⟩
 ·have z:=zEP n W;rw [QV] at z;have F:∀(i:Nat),(c.eraseIdxIfInBounds j)[i]? = if i<j then c[i]? else c[i+1]?:=λ i=>by
   rw [←Array.getElem?_toList,Array.toList_eraseIdxIfInBounds,List.getElem?_eraseIdx];split <;> simp
  obtain ⟨w',S,O,V,_⟩:=zEQ (P:=P) R o M (λ _ _ _ h=>by cases h) (ob':=.map (c.eraseIdxIfInBounds j) clock) (o':=.map (es.eraseIdx j)) (λ w' A hm=>by
   refine ⟨_,_,A,?_,λ i k' v' q=>?_,λ i i' m1 n1 q B r=>?_⟩
   ·have e3:(c.eraseIdxIfInBounds j).size=(c.toList.eraseIdx j).length:=by rw [←Array.length_toList,Array.toList_eraseIdxIfInBounds]
    have e4:c.toList.length=es.length:=by rw [Q];rfl
    rw [e3,List.length_eraseIdx,List.length_eraseIdx,e4]
   ·rw [List.getElem?_eraseIdx] at q;rw [F];split at q
    ·obtain ⟨m,a,b,d,e⟩:=l _ _ _ q;exact ⟨m,by rw [if_pos (by assumption)];exact a,hm b,hm d,e⟩
    ·obtain ⟨m,a,b,d,e⟩:=l _ _ _ q;exact ⟨m,by rw [if_neg (by assumption)];exact a,hm b,hm d,e⟩
   ·rw [F] at q B;split at q <;> split at B
    ·exact g _ _ _ _ q B r
    ·have:=g _ _ _ _ q B r;omega
    ·have:=g _ _ _ _ q B r;omega
    ·have:=g _ _ _ _ q B r;omega) nx
  exact ⟨w',by simp [Builtin.delete_,J,run_underlying Y,I,K,z,S],O,V⟩
end
end Go.Sy
namespace Go.Sy
section
variable {P:Program} {E:Env} {w:World}
theorem zLn {b:Nat} {c:Array Value} {e:TypeId} {f:Nat×Nat} (h:w.heap[b]? = some (.cells c e f)):(viewAt b).run P w=.ok none w:=by
 simp [viewAt,World.shape?,h]
theorem zJz {b o:Nat} {c:Array Value} {e:TypeId} {f:Nat×Nat} (h:w.heap[b]? = some (.cells c e f)) (d:f.2=f.1):w.frozen? ⟨b,o,none⟩=false:=by
 obtain ⟨g,i⟩:=f;simp [World.frozen?,h];simp at d;omega
theorem zLo {b o:Nat} {c:Array Value} {e:TypeId} {f:Nat×Nat} (h:w.heap[b]? = some (.cells c e f)) (d:f.2=f.1):(stringish ⟨b,o,none⟩).run P w=.ok false w:=by
 have i:w.frozen? ⟨b,o,none⟩=false:=zJz h d;have g:w.frozen? { block:=b,off:=c.size }=false:=zJz h d;simp [stringish,i,World.shape?,h,g]
theorem zMK {H:Heap} (i:HR E H w) {h:Nat} (b:zL9 (H.get h)=true):∃(c:Array Value) (e:TypeId) (f:Nat×Nat),w.heap[E.ρ h]? = some (Obj.cells c e f)/\f.2=f.1/\∃o,(h,o)∈H:=by
 unfold zL9 at b;split at b
 ·rename_i m j;have d:=Heap.qh j;obtain ⟨c,e,f,g,l,k,_⟩:=i.obj _ d;exact ⟨c,e,f,g,k.elim id (λ⟨x,_⟩=>by cases x),_,d⟩
 ·cases b
theorem zSE {H:Heap} {x y:AV} {A z:Value} {b:Bool} {t e:TypeId} {n d:Nat} (u:HR E H w) (hx:VR E w x A) (f:VR E w y z) (h:xpeq H x y=some b) (c:P.underlying t=some (.pointer e))
  (L:zL P e=some (n+1)):(Op.equalIn (d+1) t A z).run P w=.ok b w:=by
 unfold xpeq at h;split at h
 ·cases h;cases hx;cases f;simp [Op.equalIn,run_underlying c]
 ·cases h;cases hx;cases f;simp [Op.equalIn,run_underlying c]
 ·cases h;cases hx;cases f;simp [Op.equalIn,run_underlying c]
 ·cases h;cases hx;cases f;simp [Op.equalIn,run_underlying c]
 ·cases h;cases hx;cases f;simp [Op.equalIn,run_underlying c]
 ·rename_i j o1 i k;split at h
  ·rename_i i1;split at h
   ·rename_i i2;obtain ⟨rfl,_⟩:=hx.wv;obtain ⟨rfl,_⟩:=f.wv;obtain ⟨J,M,f1,l,a2,O,m1⟩:=zMK u i1;obtain ⟨c2,I,f2,g,B,N,m2⟩:=zMK u i2;simp only [QJ] at h;have p:(n+1≠0):=by omega
    simp only [Op.equalIn,Sem.run_bind,run_underlying c,Result.andThen_ok,zA1 L,p,ne_eq,not_false_eq_true,if_true];unfold sameAddr;by_cases q:j=i
    ·subst q;simp only [BEq.rfl,if_true,Sem.run_pure];subst h;congr 1;rw [Nat.beq_refl,Bool.true_and];by_cases r:o1=k
     ·subst r;simp
     ·have:Nat.beq o1 k=false:=by rw [Bool.eq_false_iff];exact λ s=>r (zb s)
      rw [this];simp [r]
    ·have m:E.ρ j≠E.ρ i:=λ e=>q (u.inj _ m1 _ m2 e)
     have C:Nat.beq j i=false:=by rw [Bool.eq_false_iff];exact λ s=>q (zb s)
     rw [C,Bool.false_and] at h;subst h;have g1:=zJz (o:=o1) l a2;have v1:=zLn (P:=P) l;have v2:=zLn (P:=P) g;have K:=zLo (P:=P) (o:=o1) l a2;have D:=zLo (P:=P) (o:=k) g B;have F:w.shape? (E.ρ j)=some (M,J.size):=by simp [World.shape?,l]
     have z2:w.shape? (E.ρ i)=some (I,c2.size):=by simp [World.shape?,g]
     have g2:=zJz (o:=k) g B;simp [m,g1,g2,noView,v1,v2,mayBeOne,K,D,F,z2]
   ·cases h
  ·cases h
 ·cases h
theorem zSF {t:TypeId} {c d:Value} {b:Bool} (h:(Op.equalIn 10000 t c d).run P w=.ok b w) (g:∀j a k b,¬(c=.int j a/\d=.int k b)) (e:∀j a k b,¬(c=.float j a/\d=.float k b))
  (n:∀j a f k b m,¬(c=.complex j a f/\d=.complex k b m)) (i:∀a b,¬(c=.string a/\d=.string b)):
  (binOp .eql t c d).run P w=.ok (.bool b) w/\(binOp .neq t c d).run P w=.ok (.bool (!b)) w:=by
 have l:(Op.equal t c d).run P w=.ok b w:=h;cases c <;> cases d <;> first
  | (exact absurd ⟨rfl,rfl⟩ (g _ _ _ _))
  | (exact absurd ⟨rfl,rfl⟩ (e _ _ _ _))
  | (exact absurd ⟨rfl,rfl⟩ (n _ _ _ _ _ _))
  | (exact absurd ⟨rfl,rfl⟩ (i _ _))
  | (constructor <;> simp [binOp,l])
theorem zTP {neg:Bool} {t:TypeId} {op:BinOp} {c d:Value} {b:Bool} (h:(binOp .eql t c d).run P w=.ok (.bool b) w/\(binOp .neq t c d).run P w=.ok (.bool (!b)) w)
  (e:(neg=false/\op=.eql)\/(neg=true/\op=.neq)):∃cv,(binOp op t c d).run P w=.ok cv w/\VR E w (bneg neg b) cv:=by
 rcases e with ⟨rfl,rfl⟩ | ⟨rfl,rfl⟩
 ·exact ⟨_,h.1,.bool _⟩
 ·exact ⟨_,h.2,.bool _⟩
end
end Go.Sy
namespace Go.Sy
section
variable {P:Program} {E:Env} {w:World}
theorem zJ3 {n i:Nat} {x:AV} {c:Value} (hx:VR E w x c) (h:zE5 n x=some i):∃k,c=.int k (i:Int)/\i<n:=by
 unfold zE5 at h;split at h
 ·rename_i k m;split at h
  ·rename_i b;cases h;obtain ⟨rfl,_⟩:=hx.of_int;exact ⟨k,rfl,by rw [Ql] at b;exact b⟩
  ·cases h
 ·cases h
theorem zSG {es:List AV} {e x:AV} {b:Value} (hx:VR E w x b) (h:idx es x=some e):∃k i,b=.int k ((i:Nat):Int)/\es[i]? = some e:=by
 unfold idx at h;split at h
 ·rename_i k m;obtain ⟨rfl,_⟩:=hx.of_int;exact ⟨k,m,rfl,h⟩
 ·cases h
theorem zOx {d top n:Nat} {x:AV} {c:Value} (hx:VR E w x c) (h:bnd (some x) d top=some n):∃k,c=.int k (n:Int)/\n<=top:=by
 unfold bnd at h;split at h
 ·rename_i e;cases e
 ·rename_i k m e;cases e;split at h
  ·rename_i b;cases h;obtain ⟨rfl,_⟩:=hx.of_int;exact ⟨k,rfl,QM b⟩
  ·cases h
 ·cases h
theorem zLp {k:IntKind} {n top:Nat} (h:n<=top) (code:BoundsCode):(Instr.sliceBound (.int k (n:Int)) top code).run P w=.ok n w:=by
 simp [Instr.sliceBound,asIntOf,h]
def OV (E:Env) (w:World):Option AV->Option Value->Prop
 | none,none=>True
 | some x,some v=>VR E w x v
 | _,_=>False
theorem zCg {d top n:Nat} {x:Option AV} {b:Option Value} (hx:OV E w x b) (h:bnd x d top=some n):(b=none/\n=d)\/∃k,b=some (.int k (n:Int))/\n<=top:=by
 cases x with
 | none=>
  cases b with
  | none=>simp [bnd] at h;exact .inl ⟨rfl,h.symm⟩
  | some v=>exact hx.elim
 | some x=>
  cases b with
  | none=>exact hx.elim
  | some v=>
   obtain ⟨k,rfl,c⟩:=zOx hx h;exact .inr ⟨k,rfl,c⟩
theorem zER {sl:Bool} {len cap t l top:Nat} {lo m:Option AV} {c b:Option Value} (f:OV E w m b) (d:OV E w lo c) (n:bnd m len top=some t) (g:bnd lo 0 t=some l) (i:len<=cap) (o:top<=cap):
  (Instr.sliceBounds sl len cap c b none).run P w=.ok (l,t,cap) w/\l<=t/\t<=cap:=by
 have e:t<=cap:=by
  rcases zCg f n with ⟨_,rfl⟩ | ⟨k,_,h⟩ <;> omega
 have j:l<=t:=by
  rcases zCg d g with ⟨_,rfl⟩ | ⟨k,_,h⟩ <;> omega
 refine ⟨?_,j,e⟩
 rcases zCg f n with ⟨rfl,rfl⟩ | ⟨k,rfl,_⟩ <;> rcases zCg d g with ⟨rfl,rfl⟩ | ⟨p,rfl,_⟩ <;>
  simp [Instr.sliceBounds,zLp,j,e]
theorem zQG {len cap m t l top:Nat} {lo p:Option AV} {j:AV} {c b:Option Value} {e:Value} (s:OV E w p b) (g:OV E w lo c) (u:VR E w j e) (r:bnd (some j) 0 top=some m) (x:bnd p len m=some t)
  (n:bnd lo 0 t=some l) (f:b≠none) (q:top<=cap):(Instr.sliceBounds true len cap c b (some e)).run P w=.ok (l,t,m) w/\l<=t/\t<=m/\m<=cap:=by
 obtain ⟨k,rfl,A⟩:=zOx u r;have d:m<=cap:=by omega
 rcases zCg s x with ⟨rfl,_⟩ | ⟨y,rfl,i⟩
 ·exact absurd rfl f
 ·have o:l<=t:=by
   rcases zCg g n with ⟨_,rfl⟩ | ⟨k,_,h⟩ <;> omega
  refine ⟨?_,o,i,d⟩
  rcases zCg g n with ⟨rfl,rfl⟩ | ⟨z,rfl,_⟩ <;> simp [Instr.sliceBounds,zLp,o,i,d]
theorem zQH {sz:Nat} {t e:TypeId} {lo D mx:Option AV} {x v:AV} {s q p:Option Value} {Q:Value} (ht:P.underlying t=some (.slice e)) (hs:zL P e=some sz) (ae:0<sz)
  (hx:VR E w x Q) (I:OV E w D q) (K:OV E w lo s) (R:OV E w mx p) (U:p≠none->q≠none) (h:xslice sz lo D mx x=some v):
  ∃cv,(Instr.sliceAt t Q s q p).run P w=.ok cv w/\VR E w v cv:=by
 have r:∀{a:Option Addr} {len cap l g m:Nat},Q=.slice a len cap->(Instr.sliceBounds true len cap s q p).run P w=.ok (l,g,m) w →
   (Instr.sliceAt t Q s q p).run P w=.ok (.slice (if m=l then a else a.map (·.add (l*sz))) (g-l) (m-l)) w:=by
  intro a len cap l g m e1 C;subst e1;simp [Instr.sliceAt,Instr.slice,run_underlying ht,C,zA1 hs]
 unfold xslice at h;split at h
 ·
  cases hx;split at h
  ·rename_i m hm;split at h
   ·rename_i g n;split at h
    ·rename_i l A;cases h;have ab:m=0:=by rcases zCg R hm with ⟨_,rfl⟩ | ⟨_,_,h⟩ <;> omega
     subst ab;have N:g=0:=by rcases zCg I n with ⟨_,rfl⟩ | ⟨_,_,h⟩ <;> omega
     subst N;have L:l=0:=by rcases zCg K A with ⟨_,rfl⟩ | ⟨_,_,h⟩ <;> omega
     subst L;have C:(Instr.sliceBounds true 0 0 s q p).run P w=.ok (0,0,0) w:=by
      rcases zCg R hm with ⟨rfl,_⟩ | ⟨k,rfl,_⟩
      ·exact (zER (P:=P) I K n A (QB _) (QB _)).1
      ·rcases zCg I n with ⟨rfl,_⟩ | ⟨k1,rfl,_⟩
       ·exact absurd rfl (U (by simp))
       ·rcases zCg K A with ⟨rfl,_⟩ | ⟨k2,rfl,_⟩ <;> simp [Instr.sliceBounds,zLp,Instr.sliceBound,asIntOf]
     refine ⟨_,r rfl C,?_⟩
     simp;exact .qa
    ·cases h
   ·cases h
  ·cases h
 ·
  rename_i aa S;split at h
  ·cases h
  rename_i O;have:=zb O;subst this;split at h
  ·cases h
  cases p with
  | some _=>exact R.elim
  | none=>
   split at h
   ·rename_i g n;split at h
    ·rename_i l A;cases h;cases hx with
     | wb _ a c hc=>
      have N:g=0:=by rcases zCg I n with ⟨_,h⟩ | ⟨_,_,h⟩ <;> simpa using h
      subst N;have L:l=0:=by rcases zCg K A with ⟨_,h⟩ | ⟨_,_,h⟩ <;> omega
      subst L;obtain ⟨C,_,_⟩:=zER (P:=P) (sl:=true) (cap:=c) I K n A (by simp) (by simp)
      refine ⟨_,r rfl C,?_⟩
      simp only [List.take_zero,List.drop_nil,Nat.sub_self];exact .wb _ _ _ (by omega)
     | qp _ b o cap _ f hz z ah ac hf hc=>
      obtain ⟨C,ag,af⟩:=zER (P:=P) (sl:=true) I K n A z z;have aj:g<=S.length:=by rcases zCg I n with ⟨_,rfl⟩ | ⟨_,_,h⟩ <;> omega
      refine ⟨_,r rfl C,?_⟩
      have d:((S.take g).drop l).length=g-l:=by simp;omega
      by_cases Y:cap=l
      ·have:(S.take g).drop l=[]:=List.eq_nil_of_length_eq_zero (by omega)
       rw [this,if_pos Y];have:g-l=0:=by omega
       rw [this];exact .wb _ _ _ (by omega)
      ·rw [if_neg Y];simp only [Option.map_some,zBw];have get:∀(i:Nat),i<g-l->((S.take g).drop l)[i]? = S[l+i]?:=λ i D=>by
        rw [List.getElem?_drop,List.getElem?_take,if_pos (by omega)]
       have:=VR.qp (E:=E) (w:=w) ((S.take g).drop l) b (o+l*sz) (cap-l) sz (λ i=>f (l+i)) hz (by omega) (by omega)
        (λ i e F=>by
         have D:i<g-l:=by rw [←d];exact (QD.1 F).1
         rw [get i D] at F;exact ac _ _ F)
        (λ i e F=>by
         have D:i<g-l:=by rw [←d];exact (QD.1 F).1
         rw [get i D] at F;exact hf _ _ F)
        (λ i D=>by
         rw [d] at D;obtain ⟨q1,q2⟩:=hc (l+i) (by omega)
         refine ⟨q1,λ j c hj=>?_⟩
         have:=q2 j c hj;rw [Nat.add_mul] at this;have e3:o+l*sz+i*sz+j=o+(l*sz+i*sz)+j:=by omega
         rw [e3];exact this)
       rw [d] at this;exact this
    ·cases h
   ·cases h
 ·
  rename_i hd off len aa cp ex;split at h
  ·cases h
  rename_i O;have:=zb O;subst this;have T:∀{m g l:Nat} {M:Bool} {u:Nat},(∀{a:Option Addr} {cap:Nat},Q=.slice a len cap->cp<=cap->(ex=true->cap=cp)->len<=cap →
    ∃B,(Instr.sliceBounds true len cap s q p).run P w=.ok (l,g,B) w/\l<=g/\g<=B/\B<=cap/\u<=B-l/\(M=true->B-l=u)) →
    ∃cv,(Instr.sliceAt t Q s q p).run P w=.ok cv w/\VR E w (.row hd (off+l*sz) (g-l) sz u M) cv:=by
   intro m g l M u C;cases hx with
   | wc _ _ _ _ a=>
    obtain ⟨B,b1,b2,b3,b4,b5,b6⟩:=C rfl (QB _) (λ _=>rfl) (QB _)
    refine ⟨_,r rfl b1,?_⟩
    have:B=0:=by omega
    subst this;have:l=0:=by omega
    subst this;have:g=0:=by omega
    subst this;have:u=0:=by omega
    subst this;simp;exact .wc _ _ _ _ _
   | row _ _ _ _ _ cap _ hD d z W y J ad=>
    obtain ⟨B,b1,b2,b3,b4,b5,b6⟩:=C rfl y J d;refine ⟨_,r rfl b1,?_⟩
    by_cases V:B=l
    ·subst V;have:g-B=0:=by omega
     rw [this,if_pos rfl];have:u=0:=by omega
     subst this;rw [Nat.sub_self];exact .wc _ _ _ _ _
    ·rw [if_neg V];simp only [Option.map_some,zBw];obtain ⟨c,e',f,a1,a2⟩:=ad;refine .row _ _ _ _ _ _ _ hD (by omega) (by omega) W b5 b6 ⟨c,e',f,a1,?_⟩
     have:l*sz+(B-l)*sz<=cap*sz:=by rw [←Nat.add_mul];exact Nat.mul_le_mul_right _ (by omega)
     omega
  split at h
  ·rename_i mv;cases p with
   | none=>exact R.elim
   | some ai=>
    split at h
    ·rename_i m hm;split at h
     ·rename_i g n;split at h
      ·rename_i l A;cases h;refine T (m:=m) λ{a cap} e1 y J d=>?_
       obtain ⟨c1,c2,c3,c4⟩:=zQG (P:=P) (cap:=cap) I K R hm n A (U (by simp)) y
       exact ⟨m,c1,c2,c3,c4,QB _,λ _=>rfl⟩
      ·cases h
     ·cases h
    ·cases h
  ·cases p with
   | some _=>exact R.elim
   | none=>
    split at h
    ·rename_i g n;split at h
     ·rename_i l A;cases h;refine T (m:=0) λ{a cap} e1 y J d=>?_
      have X:Nat.max len cp<=cap:=Nat.max_le.2 ⟨d,y⟩;obtain ⟨c1,c2,c3⟩:=zER (P:=P) (sl:=true) (cap:=cap) I K n A d X;refine ⟨cap,c1,c2,c3,QB _,by omega,λ F=>?_⟩
      have:=J F;have:Nat.max len cp=cap:=by rw [this];exact Nat.max_eq_right (by omega)
      omega
     ·cases h
    ·cases h
 ·cases h
theorem zRJ {t:TypeId} {s:List Nat} {lo h:Option AV} {c b:Option Value} {f:Value} {h' l:Nat} (k:P.underlying t=some .string) (hx:VR E w (.str s) f) (n:OV E w h b) (j:OV E w lo c)
  (p:bnd h s.length s.length=some h') (o:bnd lo 0 h'=some l):∃cv,(Instr.sliceAt t f c b none).run P w=.ok cv w/\VR E w (.str ((s.take h').drop l)) cv:=by
 obtain ⟨e,rfl,g,r⟩:=hx.qX;have d:=zHq g;obtain ⟨m,q,u⟩:=zER (P:=P) (sl:=false) (cap:=e.size) (w:=w) n j (d▸p) o (QB _) (QB _)
 refine ⟨.string (e.extract l h'),by simp [Instr.sliceAt,Instr.slice,run_underlying k,m],.str _ _ ?_ ?_⟩
 ·rw [←g,ByteArray.data_extract,Array.toList_extract,List.extract_eq_take_drop,←List.map_take,←List.map_drop,List.drop_take]
 ·have:=Qr (i:=l) (l:=s.take h');simp;omega
theorem zRK {t:TypeId} {s:List Nat} {b n:Nat} {g:Value} {k:IntKind} (i:P.underlying t=some .string) (hx:VR E w (.str s) g) (h:s[n]? = some b):
  ∃cv,(Instr.index t g (.int k (n:Int))).run P w=.ok cv w/\VR E w (.int .u8 (b:Int)) cv:=by
 obtain ⟨d,rfl,l,m⟩:=hx.qX;subst l;rw [Qj] at h;cases hb:d.data.toList[n]? with
 | none=>simp [hb] at h
 | some c=>
  simp only [hb,Option.map_some,QJ] at h;subst h;have j:d[n]? = some c:=by
   have f:n<d.data.toList.length:=(QD.1 hb).1;have e:n<d.size:=f;rw [getElem?_pos d n e];have:=(QD.1 hb).2;simp at this;rw [←this];rfl
  refine ⟨.int .u8 c.toNat,by simp [Instr.index,run_underlying i,asIntOf,j],.int _ _ ?_⟩
  have:=c.toNat_lt
  constructor <;> simp [IntKind.min,IntKind.max,IntKind.signed,IntKind.bits] <;> omega
theorem zRL {t e:TypeId} {n sz i:Nat} {f:Bool} {cs:List AV} {x v:AV} {c ci:Value} (j:P.underlying t=some (.array n e)) (d:zL P e=some sz) (l:agT P e=some f) (hx:VR E w (.agg cs) c)
  (o:VR E w x ci) (m:zE5 n x=some i) (h:part cs (i*sz) sz f=some v):∃cv,(Instr.index t c ci).run P w=.ok cv w/\VR E w v cv:=by
 obtain ⟨k,rfl,b⟩:=zJ3 o m;obtain ⟨r,rfl,q1,q⟩:=hx.qV;obtain ⟨cv,g,p⟩:=zNs q1 q d l h;exact ⟨cv,by simp [Instr.index,run_underlying j,asIntOf,zA1 d,b,g],p⟩
theorem zLq {t e:TypeId} {n sz i:Nat} {x:AV} {ci:Value} {a:Addr} (d:P.underlying t=some (.array n e)) (f:zL P e=some sz) (g:VR E w x ci) (c:zE5 n x=some i):
  (Instr.indexAt t (.pointer (some a)) ci).run P w=.ok (.pointer (some (a.add (i*sz)))) w:=by
 obtain ⟨k,rfl,b⟩:=zJ3 g c;simp [Instr.indexAt,run_underlying d,asIntOf,zA1 f,b,Instr.sureAddr]
theorem zLr {t e:TypeId} {sz:Nat} {x i v:AV} {s ci:Value} (r:P.underlying t=some (.slice e)) (A:zL P e=some sz) (hx:VR E w x s) (B:VR E w i ci)
  (h:(∃c es y,x=.qp c es/\Nat.beq sz c=true/\idx es i=some y/\v=.qe y 0)\/∃l off len c cp ex n,x=.row l off len c cp ex/\Nat.beq sz c=true/\zE5 len i=some n/\v=.ptr l (off+n*sz)):
  ∃cv,(Instr.indexAt t s ci).run P w=.ok cv w/\VR E w v cv:=by
 rcases h with ⟨c,es,y,rfl,g,m,rfl⟩ | ⟨l,off,len,c,cp,ex,n,rfl,g,m,rfl⟩
 ·have:=zb g;subst this;obtain ⟨k,n,rfl,q⟩:=zSG B m;have d:n<es.length:=(QD.1 q).1;cases hx with
  | wb=>simp at d
  | qp _ b o cap _ f I j D p J hc=>
   refine ⟨.pointer (some ⟨b,o+n*sz,none⟩),by simp [Instr.indexAt,run_underlying r,asIntOf,zA1 A,d,zBw],?_⟩
   exact .qe y 0 b (o+n*sz) (f n) (p n y q) I (J n y q) (hc n d).2
 ·have:=zb g;subst this;obtain ⟨k,rfl,d⟩:=zJ3 B m;cases hx with
  | wc=>omega
  | row _ _ _ _ _ cap _ F u j z C L K=>
   exact ⟨.pointer (some ⟨E.ρ l,off+n*sz,none⟩),by simp [Instr.indexAt,run_underlying r,asIntOf,zA1 A,d,zBw],.ptr _ _ F⟩
theorem zML {s:TypeId} {c:Array Field} {f:Field} {i n:Nat} {b o:Nat} (e:P.underlying s=some (.struct c)) (d:c[i]? = some f) (g:zL P f.type=some (n+1)):
  (Instr.fieldAt s (.pointer (some ⟨b,o,none⟩)) i).run P w=.ok (.pointer (some ⟨b,o+f.offset,none⟩)) w:=by
 simp [Instr.fieldAt,run_underlying e,d,Instr.sureAddr,fieldPlace,zA1 g,zBw]
theorem zMM (off:Nat):∀(vs:List Value) (j:Nat) (cells:Array Value),off+j+vs.length<=cells.size →
  ((vs.zipIdx j).foldl (λ cs x=>cs.setIfInBounds (off+x.2) x.1) cells).toList=cells.toList.take (off+j)++vs++cells.toList.drop (off+j+vs.length)
 | [],j,cells,_=>by simp
 | v::vs,j,cells,h=>by
  simp only [List.zipIdx_cons,List.foldl_cons];rw [zMM off vs (j+1) _ (by simp at h ⊢;omega)]
  have d:off+j<cells.toList.length:=by simp at h ⊢;omega
  have g:off+j+(vs.length+1)<=cells.toList.length:=by simpa using h
  apply List.ext_getElem?;intro i;rw [zCN _ _ _ (by simp at h ⊢;omega),zCN _ _ _ (by omega)]
  have c:(cells.setIfInBounds (off+j) v).toList=cells.toList.set (off+j) v:=by simp
  have b:(v::vs).length=vs.length+1:=rfl;rw [c,b];by_cases e:i<off+j
  ·rw [if_pos (by omega),if_pos e,List.getElem?_set,if_neg (by omega)]
  ·by_cases f:i=off+j
   ·subst f;rw [if_pos (by omega),if_neg (by omega),if_pos (by omega),List.getElem?_set]
    simp
    simpa using d
   ·rw [if_neg (by omega),if_neg e]
    by_cases k:i<off+j+1+vs.length
    ·rw [if_pos (by omega),if_pos (by omega)]
     have:i-(off+j)=(i-(off+(j+1)))+1:=by omega
     rw [this,List.getElem?_cons_succ]
    ·rw [if_neg (by omega),if_neg (by omega),List.getElem?_set,if_neg (by omega)]
theorem zKA {G:Cx} {fr:Fr} {a:Act} {nt:Nat} (C:FrR E w fr a nt) (u:GR G E w) {place:Nat->Option (Nat×Nat)}:∀{z:List (Nat×Operand)} {m:List (Nat×Nat×XV)} {cs out:List AV} {cells:Array Value},
  cparts place z=some m->fillx G fr cs m=some out->VRs E w cs cells.toList->(∀v∈cells.toList,v.oneCell'=true) →
  ∃b,Instr.fill place cells (z.map λ(i,x)=>(i,a.eval x))=some b/\VRs E w out b.toList/\(∀v∈b.toList,v.oneCell'=true)/\b.size=cells.size
 | [],m,cs,out,cells,f,e,n,h=>by
  simp [cparts] at f;subst f;simp [fillx] at e;subst e;exact ⟨cells,rfl,n,h,rfl⟩
 | (i,x)::r,m,cs,out,cells,f,e,n,h=>by
  simp only [cparts] at f;split at f
  ·rename_i off V y s Q M R;cases f;simp only [fillx] at e;split at e
   ·rename_i v d;split at e
    ·rename_i new j;split at e
     ·rename_i q;have D:=QM q;have o:=zH C u M d;obtain ⟨_,_,S,T,B,l⟩:=zGb o j;have t:=n.1;have A:cs.length=cells.size:=by simpa using t
      have c:=zMM off (a.eval x).cells.toList 0 cells (by simp [l];omega)
      have k:(a.eval x).cells.zipIdx.foldl (λ cs (x:Value×Nat)=>cs.setIfInBounds (off+x.2) x.1) cells=(((a.eval x).cells.toList.zipIdx 0).foldl (λ cs x=>cs.setIfInBounds (off+x.2) x.1) cells):=by
       rw [←Array.foldl_toList,Array.toList_zipIdx]
      rw [Nat.add_zero] at c;have p:=CR.qm (CR.wO n h) T B (off:=off) (by omega) (by simp [l];omega)
      have g:(cells.toList.take off++(a.eval x).cells.toList++cells.toList.drop (off+(a.eval x).cells.toList.length)).length=cells.size:=by simp [l];omega
      obtain ⟨b,J,O,F,L⟩:=zKA C u (cells:=((a.eval x).cells.toList.zipIdx 0).foldl (λ cs x=>cs.setIfInBounds (off+x.2) x.1) cells) R e
       (by
        rw [c];refine ⟨by rw [g];simp [qm,S];omega,λ i x v N d=>?_⟩
        obtain ⟨U,I,W,K⟩:=p.2 i x N;rw [I] at d;cases d;exact K)
       (by
        rw [c];intro v d;rcases QI.1 d with d | d
        ·rcases QI.1 d with d | d
         ·exact h v (QP d)
         ·exact B v d
        ·exact h v (QW d))
      refine ⟨b,?_,O,F,?_⟩
      ·simp only [Qd,Instr.fill,Q,l];rw [if_neg (by simp;omega),k]
       exact J
      ·rw [L,←Array.length_toList,c,g]
     ·cases e
    ·cases e
   ·cases e
  ·cases f
end
end Go.Sy
namespace Go.Sy
section
variable {P:Program} {E:Env} {w:World}
theorem zNy (n:Nat) (z:List AV):(rep n z).length=n*z.length:=by
 induction n with
 | zero=>simp [rep]
 | succ n b=>simp [rep,b,Nat.add_mul,Nat.add_comm]
theorem zLs (z:List AV):∀(n i:Nat),i<n*z.length->(rep n z)[i]? = z[i % z.length]?
 | 0,i,h=>by simp at h
 | n+1,i,h=>by
  simp only [rep];rw [List.getElem?_append];split
  ·rename_i b;rw [Nat.mod_eq_of_lt b]
  ·rename_i b;have c:i-z.length<n*z.length:=by rw [Nat.add_mul] at h;omega
   rw [zLs z n _ c];have:i=(i-z.length)+z.length:=by omega
   conv=>rhs;rw [this,Nat.add_mod_right]
theorem zMZ {z:List AV} {b:Array Value} (k:VRs E w z b.toList) (m:∀v∈b.toList,v.oneCell'=true) (n:Nat):
  VRs E w (rep n z) (madeCells b (n*b.size)).toList/\∀v∈(madeCells b (n*b.size)).toList,v.oneCell'=true:=by
 have j:z.length=b.size:=by have:=k.1;simpa using this
 have key:∀(i:Nat),i<n*b.size->(madeCells b (n*b.size)).toList[i]? = b.toList[i % b.size]?:=λ i d=>by
  have e:0<b.size:=Nat.pos_of_ne_zero λ h=>by rw [h] at d;simp at d
  have o:i % b.size<b.size:=Nat.mod_lt _ e;simp [madeCells,d,o]
 have c:(madeCells b (n*b.size)).toList.length=n*b.size:=by rw [Array.length_toList,size_madeCells]
 refine ⟨⟨by rw [zNy,j,c],λ i x v l f=>?_⟩,λ v f=>?_⟩
 ·have d:i<n*b.size:=by rw [←c];exact (QD.1 f).1
  rw [zLs _ _ _ (by rw [j];exact d),j] at l
  rw [key i d] at f;exact k.2 _ x v l f
 ·obtain ⟨i,d⟩:=List.getElem?_of_mem f;have g:i<n*b.size:=by rw [←c];exact (QD.1 d).1
  rw [key i g] at d;exact m v (QF d)
theorem zOd {H:Heap} (g:HR E H w) {nx:Nat} (b:¬E.D nx) {cs:List AV} {vs:List Value} {e:TypeId} (d:VRs E w cs vs) (h:∀v∈vs,v.oneCell'=true):
  ∃w',(newRow e vs.toArray).run P w=.ok ⟨w.heap.size,0,none⟩ w'/\w'.heap[w.heap.size]? = some (.cells vs.toArray e (0,0))/\HR (E.add nx w.heap.size) ((nx,.cells false cs)::H) w' ∧
   Tr E H w (E.add nx w.heap.size) ((nx,.cells false cs)::H) w' nx (nx+1):=by
 obtain ⟨f,i⟩:=zLm (st:=false) (e:=e) (c:=vs.toArray) g b (by simpa using CR.wO d h)
 exact ⟨_,by simp [newRow],zCj,f,i⟩
theorem newptr {nx b off:Nat} {w':World}:VR (E.add nx b) w' (.ptr nx off) (.pointer (some ⟨b,off,none⟩)):=by
 have:=VR.ptr (E:=E.add nx b) (w:=w') nx off (.inr rfl);rw [Env.qx] at this;exact this
theorem newrow {nx b len sz:Nat} {w':World} {c:Array Value} {e:TypeId} {f:Nat×Nat} (h:w'.heap[b]? = some (.cells c e f)) {cp cap:Nat} {ex:Bool} (j:0<sz) (i:len<=cap) (d:cap<=zc) (l:cap*sz<=c.size) (g:cp<=cap) (k:ex=true->cap=cp):
  VR (E.add nx b) w' (.row nx 0 len sz cp ex) (.slice (some ⟨b,0,none⟩) len cap):=by
 have:=VR.row (E:=E.add nx b) (w:=w') nx 0 len sz cp cap ex (.inr rfl) i d j g k ⟨c,e,f,by rw [Env.qx];exact h,by omega⟩
 rw [Env.qx] at this;exact this
theorem zSH {H:Heap} {nx sz:Nat} {e:TypeId} {v:AV} {cv:Value} {cs:List AV} (i:HR E H w) (l:¬E.D nx) (k:VR E w v cv) (h:cellsOf v sz=some cs):
  zGM P (Instr.box e cv) E H w nx (.ptr nx 0) ((nx,.cells false cs)::H) (nx+1):=by
 obtain ⟨_,_,_,d,j,_⟩:=zGb k h;obtain ⟨c,f,m,b,g⟩:=zOd (P:=P) (e:=e) i l d j;exact ⟨_,_,c,by simp only [Instr.box,newVar,Sem.run_bind];rw [show newRow e cv.cells=newRow e cv.cells.toList.toArray by simp,f];rfl,b,g,newptr⟩
theorem zQI {H:Heap} {nx:Nat} {e:TypeId} {cs:List AV} (l:HR E H w) (p:¬E.D nx) (h:zDP P e=some cs):
  zGM P (Instr.alloc e true (.tuple #[])) E H w nx (.ptr nx 0) ((nx,.cells false cs)::H) (nx+1):=by
 obtain ⟨i,z,o,k,_,_,_,f,m⟩:=VR.zero (P:=P) (E:=E) (w:=w) (z:=.bool true) (v:=.bool true) (n:=0) h;obtain ⟨d,g,q,c,j⟩:=zOd (P:=P) (e:=e) l p f m;refine ⟨_,_,d,?_,c,j,newptr⟩
 have b:(zeroValue e).run P w=.ok z w:=by simp [zeroValue,typeInfo,o,k]
 simp only [Instr.alloc,newVar,Sem.run_bind,b,Result.andThen_ok];rw [show newRow e z.cells=newRow e z.cells.toList.toArray by simp,g]
 rfl
theorem zPe {H:Heap} {nx l c sz bytes:Nat} {t e:TypeId} {kl kc:IntKind} {z:List AV} (B:HR E H w) (I:¬E.D nx) (x:P.underlying t=some (.slice e)) (F:zL P e=some sz) (o:zHR P e=some bytes) (A:zDP P e=some z)
  (y:0<sz) (q:l<=c) (h:c*bytes<=zg) (b:c<=zg):
  zGM P (Instr.makeSlice t (.int kl (l:Int)) (.int kc (c:Int))) E H w nx (.row nx 0 l sz c true) ((nx,.cells false (rep c z))::H) (nx+1):=by
 obtain ⟨i,j,s,r,m,k,_,u,C⟩:=VR.zero (P:=P) (E:=E) (w:=w) (z:=.bool true) (v:=.bool true) (n:=0) A;have:i.size=sz:=by rw [F] at k;simpa using k.symm
 subst this;have p:i.bytes=bytes:=by unfold zHR at o;rw [s] at o;simpa using o
 subst p;obtain ⟨m1,m2⟩:=zMZ u C c;have g:=run_make (P:=P) w t e i j x s r kl kc (l:Int) (c:Int) (by omega) (by omega) (by
  have:(i.bytes:Int)*(c:Int)=((c*i.bytes:Nat):Int):=by rw [Nat.mul_comm];simp
  rw [this];unfold zg at h;omega) (by unfold zg at b;omega)
 rw [Int.toNat_natCast,Int.toNat_natCast] at g;have d:=zLm (st:=false) (e:=e) (c:=madeCells j.cells (c*j.cells.size)) B I (CR.wO m1 m2);rw [←m] at g;refine ⟨_,_,_,g,d.1,d.2,?_⟩
 exact newrow (c:=madeCells j.cells (c*j.cells.size)) (e:=e) (f:=(0,0)) zCj y q (by unfold zg at b;unfold zc;omega) (by rw [size_madeCells,m];exact QB _) (QB _) (λ _=>rfl)
theorem zPI {G:Cx} {fr:Fr} {a:Act} {nt:Nat} (N:FrR E w fr a nt) (I:GR G E w) {H:Heap} {nx len sz:Nat} {t e:TypeId} {z cs:List AV} {m:List (Nat×Operand)} {u:List (Nat×Nat×XV)} (Q:HR E H w) (W:¬E.D nx)
  (F:P.underlying t=some (.slice e)) (y:zL P e=some sz) (L:zDP P e=some z) (r:0<sz) (s:len*sz<=16777216)
  (M:cparts (λ i=>some (i*sz,sz)) m=some u) (h:fillx G fr (rep len z) u=some cs):
  zGM P (Instr.buildSlice t len (m.map λ(i,x)=>(i,a.eval x)).toArray) E H w nx (.row nx 0 len sz len true) ((nx,.cells false cs)::H) (nx+1):=by
 obtain ⟨i,g,T,p,l,k,_,C,S⟩:=VR.zero (P:=P) (E:=E) (w:=w) (z:=.bool true) (v:=.bool true) (n:=0) L;have:i.size=sz:=by rw [y] at k;simpa using k.symm
 subst this;obtain ⟨m1,m2⟩:=zMZ C S len;obtain ⟨b,q,U,A,J⟩:=zKA N I M h m1 m2;obtain ⟨B,q1,X,K,O⟩:=zOd (P:=P) (e:=e) Q W U A;have f:¬(len*i.size > 2 ^ 24):=by omega
 have o:(zeroValue e).run P w=.ok g w:=by simp [zeroValue,typeInfo,T,p]
 have R:len<=len*i.size:=Nat.le_mul_of_pos_right _ r;refine ⟨_,_,B,?_,K,O,newrow X r (QB _) (by unfold zc;omega) (by simp [J,size_madeCells,l]) (QB _) (λ _=>rfl)⟩
 have c:Instr.fill (λ j=>some (j*i.size,i.size)) (madeCells g.cells (len*i.size)) (m.map λ(i,x)=>(i,a.eval x))=some b:=by rw [←l] at q ⊢;exact q
 simp only [Instr.buildSlice,Sem.run_bind,run_underlying F,Result.andThen_ok,zA1 y,if_neg f,Sem.run_ite];by_cases d:len*i.size=0
 ·have V:madeCells g.cells (len*i.size)=(Array.range (len*i.size)).map ((#[]:Array Value)[· % (#[]:Array Value).size]!):=by
   rw [d];simp [madeCells,Array.range_zero']
  rw [if_pos d];simp only [Sem.run_pure,Result.andThen_ok];rw [←V,c];simp only [Sem.run_bind];rw [show newRow e b=newRow e b.toList.toArray by simp,q1]
  rfl
 ·rw [if_neg d];simp only [Sem.run_bind,o,Result.andThen_ok,Sem.run_pure];rw [show (Array.range (len*i.size)).map (λ x=>g.cells[x % g.cells.size]!)=madeCells g.cells (len*i.size) from rfl,c]
  simp only [Sem.run_bind];rw [show newRow e b=newRow e b.toList.toArray by simp,q1]
  rfl
theorem zSI {H:Heap} {nx:Nat} {s d e:TypeId} {l:List Nat} {t:Value} (u:HR E H w) (I:¬E.D nx) (hx:VR E w (.str l) t) (B:P.underlying s=some .string) (y:P.underlying d=some (.slice e)) (J:P.underlying e=some (.int .u8)):
  zGM P (convert s d t) E H w nx (.row nx 0 l.length 1 l.length false) ((nx,.cells true (l.map λ b=>.int .u8 (.ofNat b)))::H) (nx+1):=by
 obtain ⟨K,Q,M,R,N,O,L⟩:=zDJ (P:=P) (sz:=1) u hx (show content H 1 (.str l)=some (l.length,_) from rfl)
 obtain ⟨c,rfl,q,A⟩:=hx.qX;have m:=zHq q;have f:=run_bytes_of_string (P:=P) w s d e c B y J;have g:=grownCap_ge w c.size 0 e;have n:=grownCap_le_maxLen w c.size 0 e (by rw [m];unfold zc at A;simp only [maxLen];omega)
 have k:(bytesRow c (grownCap w c.size 0 e)).size=grownCap w c.size 0 e:=by
  simp [bytesRow];have:c.data.size=c.size:=rfl;omega
 have r:CR E w (l.map λ b=>AV.int .u8 (.ofNat b)) (bytesRow c (grownCap w c.size 0 e)).toList:=by
  refine ⟨by simp [bytesRow,←q],λ i x hx=>?_⟩
  subst q;simp only [Qj,Option.map_map] at hx;cases hc:c.data.toList[i]? with
  | none=>simp [hc] at hx
  | some b=>
   simp [hc] at hx;subst hx;have C:i<c.data.toList.length:=(QD.1 hc).1;have z:=b.toNat_lt;refine ⟨.int .u8 b.toNat,?_,rfl,.int _ _ (by constructor <;> simp [IntKind.min,IntKind.max,IntKind.signed,IntKind.bits] <;> omega)⟩
   simp only [bytesRow,Array.toList_append,Array.toList_map];rw [Qv (by simpa using C),Qj,hc]
   rfl
 have j:=zIm u I (o:=.cells (bytesRow c (grownCap w c.size 0 e)) e ((bytesRow c (grownCap w c.size 0 e)).size,(bytesRow c (grownCap w c.size 0 e)).size+1))
  (ho:=.cells true (l.map λ b=>.int .u8 (.ofNat b))) λ w' p _ F=>(r.mono F).or (by rw [p];exact zCj) (.inr ⟨rfl,QB _⟩)
 obtain ⟨d1,d2⟩:=zGq (w':=w.drew.alloc (.cells (bytesRow c (grownCap w c.size 0 e)) e ((bytesRow c (grownCap w c.size 0 e)).size,(bytesRow c (grownCap w c.size 0 e)).size+1))) j.1 ⟨rfl,rfl,rfl,rfl⟩ (nx+1);refine ⟨_,_,_,f,d1,j.2.1.trans j.1 d2,?_⟩
 rw [m] at g n k f ⊢;exact newrow zCj (by omega) g (by unfold zc;simp only [maxLen] at n;omega) (by rw [Nat.mul_one];exact Nat.le_of_eq k.symm) g (λ h=>by cases h)
theorem zQJ {H:Heap} {nx:Nat} {t:TypeId} (f:HR E H w) (e:¬E.D nx):zGM P (Instr.makeMap t none) E H w nx (.map nx) ((nx,.map [])::H) (nx+1):=by
 have b:=zIm f e (o:=.map #[] 0) (ho:=.map []) λ h c _ g=>⟨#[],0,by rw [c];exact zCj,rfl,λ i k x d=>by simp at d,λ i j m n d=>by simp at d⟩
 refine ⟨.map (some w.heap.size),_,_,by simp [Instr.makeMap],b.1,b.2.1,?_⟩
 have:=VR.map (E:=E.add nx w.heap.size) (w:={ w with heap:=w.heap.push (.map #[] 0) }) nx (.inr rfl)
 rw [Env.qx] at this;exact this
theorem zRM {H:Heap} {nx:Nat} {t:TypeId} {s:List Nat} {d:Value} (g:HR E H w) (f:¬E.D nx) (hx:VR E w (.str s) d) (h:P.underlying t=some .string):
  zGM P (Instr.range t d) E H w nx (.ptr nx 0) ((nx,.wm s 0)::H) (nx+1):=by
 obtain ⟨e,rfl,i,l⟩:=hx.qX;have b:=zIm g f (o:=.stringIter e 0) (ho:=.wm s 0) λ k c _ j=>⟨e,by rw [c];exact zCj,i⟩
 exact ⟨_,_,_,by simp [Instr.range,run_underlying h],b.1,b.2.1,newptr⟩
theorem zMN {H:Heap} {nx:Nat} {ty:TypeId} {s:List Nat} {j pos:Nat} {v:AV} {H':Heap} (q:HR E H w) (I:E.D j) (i:H.get j=some (.wm s pos)) (l:s.length<=zc)
  (h:(pos<s.length/\∃b,rune s pos=some b/\v=.qf [.bool true,.int .i64 (.ofNat pos),.int .i32 (.ofNat b)]/\H'=H.put j (.wm s (pos+1)))\/(¬pos<s.length/\v=.qf [.bool false]/\H'=H)):
  zGM P (Instr.next (.pointer (some ⟨E.ρ j,0,none⟩)) true ty) E H w nx v H' nx:=by
 obtain ⟨f,x,r⟩:=q.obj _ (Heap.qh i);have B:=zHq r;have m:(getObj (E.ρ j)).run P w=.ok (.stringIter f pos) w:=by simp [getObj,Sem.run,x]
 rcases h with ⟨z,b,d,rfl,rfl⟩ | ⟨y,rfl,rfl⟩
 ·have e:pos<f.size:=by omega
  obtain ⟨u,C,A,F,_⟩:=zEQ (P:=P) q i x (λ _ _ _ h=>by cases h) (ob':=.stringIter f (pos+1)) (o':=.wm s (pos+1)) (λ u t J=>⟨f,t,r⟩) nx
  unfold rune at d;cases hc:s[pos]? with
  | none=>simp [hc] at d
  | some c=>
   simp only [hc] at d;split at d
   ·rename_i g;cases d;rw [Ql] at g;have k:(f[pos]'e).toNat=b:=by
     subst r;rw [Qj] at hc;have p:pos<f.data.toList.length:=e;rw [QE p] at hc;simp at hc;rw [←hc];rfl
    have n:=decode_ascii f pos e (by rw [k];exact g)
    refine ⟨.tuple #[.bool true,.int .i64 pos,.int .i32 b],E,u,?_,A,F,?_⟩
    ·simp [Instr.next,m,e,n,C,k,goInt]
    ·refine VR.qJ (VRs.cons (.bool _) (VRs.cons (.int _ _ ?_) (VRs.cons (.int _ _ ?_) VRs.nil)))
     ·unfold zc at l
      constructor <;> simp [IntKind.min,IntKind.max,IntKind.signed,IntKind.bits] <;> omega
     ·constructor <;> simp [IntKind.min,IntKind.max,IntKind.signed,IntKind.bits] <;> omega
   ·cases d
 ·have o:¬pos<f.size:=by omega
  exact ⟨.tuple #[.bool false],E,w,by simp [Instr.next,m,o],q,.refl _,VR.qJ (VRs.cons (.bool _) VRs.nil)⟩
theorem zRN {H:Heap} {nx nx' sz:Nat} {d y v:AV} {X B:Value} {H':Heap} {t u ty e:TypeId} (z:HR E H w) (W:VR E w d X) (S:VR E w y B) (A:P.underlying t=some (.slice e)) (I:zL P e=some sz) (h0:0<sz)
  (h:xcopy H nx d y sz=some (v,H',nx')):zGM P (Builtin.copy_ #[t,u] ty #[X,B]) E H w nx v H' nx':=by
 unfold xcopy at h;split at h
 ·cases h
 ·rename_i n ys b;obtain ⟨C,V,k2,T,k4,K,k6,k7⟩:=zDJ (P:=P) z S b;have first:∀m,m<=n->(Builtin.firstCells sz m B).run P w=.ok (C.take (m*sz)).toArray w:=λ m hm=>by
   rcases k7 with ⟨a,c,rfl,g⟩ | ⟨s,rfl,D⟩
   ·by_cases hz:n*sz=0
    ·have hn:n=0:=by
      rcases Nat.eq_zero_or_pos n with h | h
      ·exact h
      ·have:=Nat.mul_pos h h0;omega
     have F:m=0:=by omega
     subst F;cases a <;> simp [Builtin.firstCells,loadCells,loadCellsFrom]
    ·obtain ⟨ad,rfl,hc⟩:=g hz;refine run_firstCells_some w sz m ad _ _ (C.take (m*sz)) (by
      rw [Qm,T];exact Nat.min_eq_left (Nat.mul_le_mul_right _ hm)) λ j v x=>?_
     rw [List.getElem?_take] at x;split at x
     ·exact hc j v x
     ·cases x
   ·have R:=k6 w rfl;simp only [Builtin.firstCells,Sem.run_pure] at R ⊢;congr 1;have o:=congrArg (λ r=>match r with | Result.ok a _=>a.toList | _=>[]) R
    simp only at o;rw [←D,ByteArray.extract_zero_size] at o;rw [←o];apply Array.ext';have:sz=1:=by
     cases S with
     | str l _ _ _=>
      cases hq:Nat.beq sz 1 with
      | true=>exact zb hq
      | false=>
       rw [show content H sz (.str l)=none by simp [content,hq]] at b
       cases b
     | sym i _ _ _=>simp [content] at b
    subst this;rw [Array.toList_map,Array.toList_map,ByteArray.data_extract,Array.toList_extract,List.extract_eq_take_drop,←List.map_take];simp
  split at h
  ·cases h;cases W;refine ⟨.int .i64 0,E,w,?_,z,.refl _,.int _ _ (by constructor <;> simp [IntKind.min,IntKind.max,IntKind.signed,IntKind.bits])⟩
   have:=first 0 (QR _);simp [Builtin.copy_,run_underlying A,K,zA1 I,this,goInt]
  ·rename_i ac off len ab cp ex;split at h
   ·cases h
   rename_i M;have:=zb M;subst this;split at h
   ·rename_i st cs f;split at h
    ·rename_i J;have Q:=QM J;cases h;have k:Nat.min n len<=n:=Nat.min_le_left _ _;have p:Nat.min n len<=len:=Nat.min_le_right _ _;have ae:Nat.min n len*sz<=n*sz:=Nat.mul_le_mul_right _ k;have Y:Nat.min n len*sz<=len*sz:=Nat.mul_le_mul_right _ p;have L:VRs E w (ys.take (Nat.min n len*sz)) (C.take (Nat.min n len*sz)):=by
      have:=V.extract 0 (Nat.min n len*sz)
      simpa using this
     have hint:has .i64 ((Nat.min n len:Nat):Int):=by
      unfold zc at k4
      constructor <;> simp only [IntKind.min,IntKind.max,IntKind.signed,IntKind.bits] <;> simp <;> omega
     cases W with
     | wc _ _ _ _ a=>
      refine ⟨.int .i64 ((Nat.min n 0:Nat):Int),E,w,?_,?_,?_,.int _ _ hint⟩
      ·have:=first 0 (QR _);have q:Nat.min n 0=0:=Nat.min_zero _;simp only [Builtin.copy_,List.getElem?_toArray,List.getElem?_cons_zero,List.getElem?_cons_succ,Sem.run_bind,run_underlying A,Result.andThen_ok,K,zA1 I,q,this];simp [storeCells,goInt]
      ·have q:Nat.min n 0=0:=Nat.min_zero _;rw [q];simp only [Nat.zero_mul,List.take_zero,Nat.add_zero,zIn];rw [Heap.qq f];exact z
      ·have q:Nat.min n 0=0:=Nat.min_zero _;rw [q];simp only [Nat.zero_mul,List.take_zero,Nat.add_zero,zIn];rw [Heap.qq f];exact .refl _
     | row _ _ _ _ _ cap _ hD O N U aa ag af=>
      obtain ⟨w',r1,r2,r3⟩:=zF0 (P:=P) z f (off:=off) L (λ v hv=>k2 v (QP hv)) (.inl (by
       have h9:ys.length=n*sz:=by rw [V.1,T]
       rw [Qm,h9];omega)) nx
      refine ⟨.int .i64 ((Nat.min n len:Nat):Int),E,w',?_,r2,r3,.int _ _ hint⟩
      have:=first _ k;simp only [Builtin.copy_,List.getElem?_toArray,List.getElem?_cons_zero,List.getElem?_cons_succ,Sem.run_bind,run_underlying A,Result.andThen_ok,K,zA1 I,this,r1];rfl
    ·cases h
   ·cases h
  ·cases h
end
end Go.Sy
namespace Go.Sy
def Fresh (E:Env) (a b:Nat):Prop:=∀h,a<=h->h<b->¬E.D h
section
variable {P:Program} {G:Cx} {E:Env} {w:World} {fr:Fr} {a:Act} {nt:Nat} {H:Heap} {nx nx':Nat} {v:AV} {H':Heap}
theorem Done.qR {o:Oper} {s:Sem Value} (h:zGM P s E H w nx v H' nx') (e:∀r w',s.run P w=.ok r w'->(execOp a.eval o).run P w=.ok (.value r) w'):Done P E H w nx (execOp a.eval o) v H' nx':=by
 obtain ⟨i,b,w',f,c,g,d⟩:=h;exact ⟨i,b,w',c,g,d,.inl (e _ _ f)⟩
theorem Done.qo {o:Oper} {s:Sem Value} (d:HR E H w) (h:∃cv,s.run P w=.ok cv w/\VR E w v cv) (c:∀r w',s.run P w=.ok r w'->(execOp a.eval o).run P w=.ok (.value r) w'):Done P E H w nx (execOp a.eval o) v H nx:=by
 obtain ⟨cv,e,b⟩:=h;exact .pure d (c _ _ e) b
theorem Done.vw {o:Oper} {s:Sem Unit} (h:∃w',s.run P w=.ok () w'/\HR E H' w'/\Tr E H w E H' w' nx nx) (c:∀w',s.run P w=.ok () w'->(execOp a.eval o).run P w=.ok .skip w'):Done P E H w nx (execOp a.eval o) (.qf []) H' nx:=by
 obtain ⟨w',d,b,e⟩:=h;exact ⟨undef,E,w',b,e,VR.qJ VRs.nil,.inr ⟨c _ d,rfl⟩⟩
theorem zFa (d:FrR E w fr a nt) (e:GR G E w) {x:Option Operand} {y:Option XV} {u:Option AV} (hc:copdo x=some y) (b:evo G fr y=some u):OV E w u (x.map a.eval):=by
 cases x with
 | none=>
  simp [copdo] at hc;subst hc;simp [evo] at b;subst b
  trivial
 | some x=>
  simp only [copdo] at hc;split at hc
  ·rename_i z f;cases hc;simp only [evo] at b;split at b
   ·rename_i av c;cases b;exact zH d e f c
   ·cases b
  ·cases hc
theorem VR.ua {x:AV} {b:Value} (h:VR E w x b) (d:∀k n,x≠.int k n) (c:∀l,x≠.str l) (e:∀i,x≠.sym i):(∀k n,b≠.int k n)/\(∀k n,b≠.float k n)/\(∀k n m,b≠.complex k n m)/\∀s,b≠.string s:=by
 cases h <;> first
  | (exact absurd rfl (d _ _))
  | (exact absurd rfl (c _))
  | (exact absurd rfl (e _))
  | (refine ⟨?_,?_,?_,?_⟩ <;> intros <;> intro h <;> cases h)
theorem zUt {t:TypeId} {x:AV} {c d:Value} {b:Bool} (hx:VR E w x c) (f:∀k n,x≠.int k n) (e:∀l,x≠.str l) (o:∀i,x≠.sym i) (h:(Op.equalIn 10000 t c d).run P w=.ok b w):
  (binOp .eql t c d).run P w=.ok (.bool b) w/\(binOp .neq t c d).run P w=.ok (.bool (!b)) w:=by
 obtain ⟨q1,p,g,m⟩:=hx.ua f e o;exact zSF h (λ j a k b h=>q1 _ _ h.1) (λ j a k b h=>p _ _ h.1) (λ j a r k b q h=>g _ _ _ h.1) (λ a b h=>m _ h.1)
theorem zPJ {o:Oper} {op:BinOp} {t u:TypeId} {x y:Operand} (ho:o.op=.binOp op t x y u) {r:Value} (b:(eqGuard op t x y (a.eval x) (a.eval y)).run P w=.ok () w) (h:(binOp op t (a.eval x) (a.eval y)).run P w=.ok r w):
  (execOp a.eval o).run P w=.ok (.value r) w:=by
 simp only [execOp,ho,Sem.run_bind,b,Result.andThen_ok,h,Sem.run_pure]
theorem zQK {op:BinOp} {t:TypeId} {x y:Operand} {c e:Value} (d:op≠.eql) (b:op≠.neq):(eqGuard op t x y c e).run P w=.ok () w:=by
 cases op <;> first | exact absurd rfl d | exact absurd rfl b | rfl
theorem zMO {op:BinOp} {t:TypeId} {d e:Operand} {b h:Value} (g:∀u,b≠.agg u) (f:b=.nilIface->h=.nilIface->(zBv d||zBv e)=true):(eqGuard op t d e b h).run P w=.ok () w:=by
 by_cases c:op=.eql
 ·subst c;exact zSx g f
 ·by_cases i:op=.neq
  ·subst i;exact zSy g f
  ·exact zQK c i
theorem VR.vL {x:AV} {b:Value} (h:VR E w x b) (f:∀c,x≠.agg c):∀u,b≠.agg u:=by
 intro u g;subst g;cases h with
 | agg e _ _ _ _=>exact f e rfl
 | sym i _ _ d=>simp [Value.oneCell'] at d
theorem VR.va {x:AV} {b:Value} (h:VR E w x b) (c:x≠.qd) (e:∀i,x≠.sym i):b≠.nilIface:=by
 cases h <;> first | (exact absurd rfl c) | (exact absurd rfl (e _)) | (intro d;cases d)
theorem zOy {o:Oper} {op:BinOp} {t u:TypeId} {x y:Operand} {neg b:Bool} (d:HR E H w) (ho:o.op=.binOp op t x y u)
  (e:(binOp .eql t (a.eval x) (a.eval y)).run P w=.ok (.bool b) w/\(binOp .neq t (a.eval x) (a.eval y)).run P w=.ok (.bool (!b)) w) (c:(neg=false/\op=.eql)\/(neg=true/\op=.neq))
  (f:(eqGuard op t x y (a.eval x) (a.eval y)).run P w=.ok () w):Done P E H w nx (execOp a.eval o) (bneg neg b) H nx:=by
 have h:=zTP (P:=P) (E:=E) e c;exact h.elim λ g r=>.pure d (zPJ ho f r.1) r.2
theorem zRO {o:Oper} {op:BinOp} {t u:TypeId} {x y:Operand} {p q:AV} (g:HR E H w) (ho:o.op=.binOp op t x y u) (d:VR E w p (a.eval x)) (e:VR E w q (a.eval y)) (b:xbin op p q=some v):
  Done P E H w nx (execOp a.eval o) v H nx:=by
 obtain ⟨k,f,j⟩:=zSw (P:=P) (t:=t) d e b;refine .pure g (zPJ ho (zMO ?_ ?_) f) j
 ·refine d.vL λ c hc=>?_
  subst hc;simp [xbin] at b
 ·intro h;refine absurd h (d.va (λ hc=>?_) λ i hc=>?_)
  ·subst hc;simp [xbin] at b
  ·subst hc;simp [xbin] at b
theorem zES {o:Oper} {op:BinOp} {t u:TypeId} {x y:Operand} {p:AV} {neg b:Bool} (r:HR E H w) (ho:o.op=.binOp op t x y u) (d:VR E w p (a.eval x)) (h:∀k n,p≠.int k n) (s:∀l,p≠.str l) (j:∀c,p≠.agg c) (g:∀i,p≠.sym i)
  (q:p=.qd->a.eval y=.nilIface->(zBv x||zBv y)=true) (A:(Op.equalIn 10000 t (a.eval x) (a.eval y)).run P w=.ok b w) (m:(neg=false/\op=.eql)\/(neg=true/\op=.neq)):
  Done P E H w nx (execOp a.eval o) (bneg neg b) H nx:=by
 refine zOy r ho (zUt d h s g A) m (zMO (d.vL j) λ z f=>?_)
 by_cases e:p=.qd
 ·exact q e f
 ·exact absurd z (d.va e g)
theorem zTQ {o:Oper} {op:BinOp} {t u:TypeId} {x y:Operand} {p q:List AV} {d:List Kd} {neg b:Bool} (D:HR E H w) (ho:o.op=.binOp op t x y u) (k:VR E w (.agg p) (a.eval x)) (z:VR E w (.agg q) (a.eval y)) (A:zB7 P 6 t=some d)
  (e:agT P t=some true) (B:P.eqGuardType P.depth t=false) (h:eqs d p q=some b) (C:(neg=false/\op=.eql)\/(neg=true/\op=.neq)):Done P E H w nx (execOp a.eval o) (bneg neg b) H nx:=by
 obtain ⟨j,n,q1,_⟩:=k.qV;obtain ⟨m,l,r,_⟩:=z.qV;have g:p.length=d.length/\q.length=d.length/\eqbs d p q=some b:=by
  unfold eqs at h;split at h
  ·rename_i I J;exact ⟨zb I,zb J,h⟩
  ·cases h
 have F:=zHH (P:=P) (E:=E) (w:=w) A 9994 j.toList m.toList p q (a.eval x) (a.eval y) b q1 r (.inl ⟨e,by rw [n]⟩) (.inl ⟨e,by rw [l]⟩) (by rw [←q1.1];exact g.1) (by rw [←r.1];exact g.2.1) g.2.2
 refine zOy D ho (zUt k (λ _ _ h=>by cases h) (λ _ h=>by cases h) (λ _ h=>by cases h) F) C ?_
 rw [n,l];exact run_eqGuard_agg w op t x y j m B
theorem zTR (F:HR E H w) (T:FrR E w fr a nt) (S:GR G E w) {o:Oper} {op:BinOp} {t u:TypeId} {x y:Operand} {i:XO} {call:Sy.Call} (ho:o.op=.binOp op t x y u) (hc:zQ0 P op t x y=some i)
  (h:xoS G call fr H nx i=some (v,H',nx')):Done P E H w nx (execOp a.eval o) v H' nx':=by
 obtain ⟨D,R,hc⟩:=za hc;obtain ⟨I,M,hc⟩:=za hc;have j:∀{p:AV},D.ev G fr=some p->VR E w p (a.eval x):=λ h=>zH T S R h
 have l:∀{p:AV},I.ev G fr=some p->VR E w p (a.eval y):=λ h=>zH T S M h
 have C:i=.bin op D I->Done P E H w nx (execOp a.eval o) v H' nx':=by
  intro e;rw [e] at h;simp only [xoS] at h;split at h
  ·rename_i p q A z;split at h
   ·rename_i r L;cases h;exact zRO F ho (j A) (l z) L
   ·cases h
  ·cases h
 split at hc
 ·cases hc;exact C rfl
 ·cases hc;exact C rfl
 ·rename_i g;have key:∀{neg:Bool},i=.beq neg D I->((neg=false/\op=.eql)\/(neg=true/\op=.neq))->Done P E H w nx (execOp a.eval o) v H' nx':=by
   intro neg e B;rw [e] at h;simp only [xoS] at h;split at h
   ·rename_i p q A z;cases h;have s:=j A;have K:=l z;have X:=s.of_bool;have W:=K.of_bool;exact zES F ho s (λ _ _ h=>by cases h) (λ _ h=>by cases h) (λ _ h=>by cases h) (λ _ h=>by cases h) (λ h=>by cases h) (by rw [X,W];exact run_equalIn_bool w 9999 t p q g) B
   ·cases h
  split at hc
  ·cases hc;exact key rfl (.inl ⟨rfl,rfl⟩)
  ·cases hc;exact key rfl (.inr ⟨rfl,rfl⟩)
  ·cases hc
 ·rename_i e g;have key:∀{neg:Bool} {n:Nat},zL P e=some (n+1)->i=.vH neg D I->((neg=false/\op=.eql)\/(neg=true/\op=.neq))->Done P E H w nx (execOp a.eval o) v H' nx':=by
   intro neg n N e B;rw [e] at h;simp only [xoS] at h;split at h
   ·rename_i p q A z;split at h
    ·rename_i b f;cases h;have s:=j A;refine zES F ho s ?_ ?_ ?_ ?_ ?_ (zSE (d:=9999) F s (l z) f g N) B
     ·intro _ _ c;subst c;simp [xpeq] at f
     ·intro _ c;subst c;simp [xpeq] at f
     ·intro _ c;subst c;simp [xpeq] at f
     ·intro _ c;subst c;simp [xpeq] at f
     ·intro c;subst c;simp [xpeq] at f
    ·cases h
   ·cases h
  split at hc
  ·split at hc
   ·cases hc
   ·rename_i m J O;cases m with
    | zero=>exact absurd rfl J
    | succ m=>cases hc;exact key O rfl (.inl ⟨rfl,rfl⟩)
   ·cases hc
  ·split at hc
   ·cases hc
   ·rename_i m J O;cases m with
    | zero=>exact absurd rfl J
    | succ m=>cases hc;exact key O rfl (.inr ⟨rfl,rfl⟩)
   ·cases hc
  ·cases hc
 ·rename_i fs g;split at hc
  ·rename_i U V z;have key:∀{neg:Bool},i=.wC neg U D I->((neg=false/\op=.eql)\/(neg=true/\op=.neq))->Done P E H w nx (execOp a.eval o) v H' nx':=by
    intro neg e B;rw [e] at h;simp only [xoS] at h;split at h
    ·rename_i p q A Q;split at h
     ·rename_i b f;cases h;exact zTQ F ho (j A) (l Q) V (by simp [agT,g]) z f B
     ·cases h
    ·cases h
   split at hc
   ·cases hc;exact key rfl (.inl ⟨rfl,rfl⟩)
   ·cases hc;exact key rfl (.inr ⟨rfl,rfl⟩)
   ·cases hc
  ·cases hc
 ·rename_i Y g;have key:∀{neg:Bool},i=.vI neg (zBv x||zBv y) (zMb P) D I->((neg=false/\op=.eql)\/(neg=true/\op=.neq))->Done P E H w nx (execOp a.eval o) v H' nx':=by
   intro neg e B;rw [e] at h;simp only [xoS] at h;split at h
   ·rename_i p q A z;split at h
    ·rename_i b f;cases h;have s:=j A;have K:=l z;refine zES F ho s ?_ ?_ ?_ ?_ ?_ (zPd (d:=9998) s K f g) B
     ·intro _ _ c;subst c;simp [xieq] at f
     ·intro _ c;subst c;simp [xieq] at f
     ·intro _ c;subst c;simp [xieq] at f
     ·intro _ c;subst c;simp [xieq] at f
     ·intro c N;subst c;rw [N] at K;cases K
      case qd=>
       simp only [xieq] at f;split at f
       ·assumption
       ·cases f
      case sym=>simp [xieq] at f
    ·cases h
   ·cases h
  split at hc
  ·cases hc;exact key rfl (.inl ⟨rfl,rfl⟩)
  ·cases hc;exact key rfl (.inr ⟨rfl,rfl⟩)
  ·cases hc
 ·rename_i e g;have key:∀{neg:Bool},i=.seq neg D I->((neg=false/\op=.eql)\/(neg=true/\op=.neq))->Done P E H w nx (execOp a.eval o) v H' nx':=by
   intro neg e B;rw [e] at h;simp only [xoS] at h;split at h
   ·rename_i p q A z;split at h
    ·rename_i b f;cases h;have s:=j A;refine zES F ho s ?_ ?_ ?_ ?_ ?_ (zPc (d:=9999) s (l z) f g) B
     ·intro _ _ c;subst c;simp [xseq] at f
     ·intro _ c;subst c;simp [xseq] at f
     ·intro _ c;subst c;simp [xseq] at f
     ·intro _ c;subst c;simp [xseq] at f
     ·intro c;subst c;simp [xseq] at f
    ·cases h
   ·cases h
  split at hc
  ·cases hc;exact key rfl (.inl ⟨rfl,rfl⟩)
  ·cases hc;exact key rfl (.inr ⟨rfl,rfl⟩)
  ·cases hc
 ·rename_i k e g;have key:∀{neg:Bool},i=.vO neg D I->((neg=false/\op=.eql)\/(neg=true/\op=.neq))->Done P E H w nx (execOp a.eval o) v H' nx':=by
   intro neg e B;rw [e] at h;simp only [xoS] at h;split at h
   ·rename_i p q A z;split at h
    ·rename_i b f;cases h;have s:=j A;refine zES F ho s ?_ ?_ ?_ ?_ ?_ (zQE (d:=9999) s (l z) f g) B
     ·intro _ _ c;subst c;simp [xmeq] at f
     ·intro _ c;subst c;simp [xmeq] at f
     ·intro _ c;subst c;simp [xmeq] at f
     ·intro _ c;subst c;simp [xmeq] at f
     ·intro c;subst c;simp [xmeq] at f
    ·cases h
   ·cases h
  split at hc
  ·cases hc;exact key rfl (.inl ⟨rfl,rfl⟩)
  ·cases hc;exact key rfl (.inr ⟨rfl,rfl⟩)
  ·cases hc
 ·rename_i pp rr vv g;have key:∀{neg:Bool},i=.vN neg D I->((neg=false/\op=.eql)\/(neg=true/\op=.neq))->Done P E H w nx (execOp a.eval o) v H' nx':=by
   intro neg e B;rw [e] at h;simp only [xoS] at h;split at h
   ·rename_i p q A z;split at h
    ·rename_i b f;cases h;have s:=j A;refine zES F ho s ?_ ?_ ?_ ?_ ?_ (zPE (d:=9999) s (l z) f g) B
     ·intro _ _ c;subst c;simp [xfeq] at f
     ·intro _ c;subst c;simp [xfeq] at f
     ·intro _ c;subst c;simp [xfeq] at f
     ·intro _ c;subst c;simp [xfeq] at f
     ·intro c;subst c;simp [xfeq] at f
    ·cases h
   ·cases h
  split at hc
  ·cases hc;exact key rfl (.inl ⟨rfl,rfl⟩)
  ·cases hc;exact key rfl (.inr ⟨rfl,rfl⟩)
  ·cases hc
 ·cases hc
end
end Go.Sy
namespace Go.Sy
section
variable {P:Program} {G:Cx} {E:Env} {w:World} {fr:Fr} {a:Act} {nt:Nat} {H:Heap} {nx:Nat}
theorem zSJ {h:Nat} {st:Bool} {cs:List AV} (y:HR E H w) (s:H.get h=some (.cells st cs)) (off a:Nat):
  ∃w',(markStringish ⟨E.ρ h,off,none⟩).run P w=.ok () w'/\HR E (H.put h (.cells true cs)) w'/\Tr E H w E (H.put h (.cells true cs)) w' a a:=by
 obtain ⟨c,e,f,g,A,p⟩:=CR.wR (y.obj _ (Heap.qh s));obtain ⟨k,n,m⟩:∃k:Nat×Nat,(w.freeze ⟨E.ρ h,c.size,none⟩ 1).heap=w.heap.setIfInBounds (E.ρ h) (.cells c e k)/\c.size<=k.1:=by
  obtain ⟨r,o⟩:=f;refine ⟨if r==o then (c.size,c.size+1) else (min r c.size,max o (c.size+1)),?_,?_⟩
  ·apply Array.ext_getElem?;intro i;simp only [World.freeze,Nat.one_ne_zero,if_false,Array.getElem?_modify,Array.getElem?_setIfInBounds];have q:w.heap[E.ρ h]? = some (Obj.cells c e (r,o)):=g;obtain ⟨b,d⟩:=Array.getElem?_eq_some_iff.1 q;by_cases z:E.ρ h=i
   ·subst z;simp [d,b]
   ·simp [z]
  ·split
   ·exact QB _
   ·rename_i l;rcases A with j | ⟨_,j⟩
    ·simp only at j;subst j;simp at l
    ·simp only at j ⊢;omega
 have b:=(Array.getElem?_eq_some_iff.1 g).1;have u:(w.freeze ⟨E.ρ h,c.size,none⟩ 1).heap[E.ρ h]? = some (.cells c e k):=by rw [n,Array.getElem?_setIfInBounds,if_pos rfl,if_pos b]
 have t:∀x,x≠E.ρ h->(w.freeze ⟨E.ρ h,c.size,none⟩ 1).heap[x]? = w.heap[x]?:=λ x B=>by rw [n,Array.getElem?_setIfInBounds,if_neg (Ne.symm B)]
 have D:=Shapes.vJ g u rfl t;obtain ⟨m1,m2,_⟩:=zJ0 y s (w':=w.freeze ⟨E.ρ h,c.size,none⟩ 1) rfl rfl rfl (by rw [n,Array.size_setIfInBounds]) t D (o':=.cells true cs) (λ C=>CR.or (p.mono C) u (.inr ⟨rfl,m⟩)) a
 refine ⟨_,?_,m1,m2⟩
 simp [markStringish,World.shape?,g]
theorem zSK (F:HR E H w) (hf:FrR E w fr a nt) (hg:GR G E w) {v:AV} {H':Heap} {nx':Nat} {o:Oper} {s d:TypeId} {x:Operand} {V:XO} {call:Sy.Call} (ho:o.op=.convert s d x) (hc:zPz P s d x=some V)
  (ak:Fresh E nx nx') (h:xoS G call fr H nx V=some (v,H',nx')):Done P E H w nx (execOp a.eval o) v H' nx':=by
 obtain ⟨ax,ai,hc⟩:=za hc;have I:∀{p:AV},ax.ev G fr=some p->VR E w p (a.eval x):=λ h=>zH hf hg ai h
 have T:∀r U,(convert s d (a.eval x)).run P w=.ok r U->(execOp a.eval o).run P w=.ok (.value r) U:=λ r U h=>by simp only [execOp,ho,Sem.run_bind,h,Result.andThen_ok,Sem.run_pure]
 split at hc
 ·rename_i Y k2 u t;cases hc;simp only [xoS] at h;split at h
  ·rename_i k n hn;cases h;obtain ⟨A,_⟩:=(I hn).of_int;refine .qo (s:=convert s d (a.eval x)) F ?_ T
   rw [A];exact zIL (by simp [convert,run_underlying u,run_underlying t,Conv.intToInt])
  ·cases h
 ·rename_i u t;cases hc;simp only [xoS] at h;split at h
  ·rename_i l f;cases h;obtain ⟨j,A,hs,K⟩:=(I f).qX;refine .qo (s:=convert s d (a.eval x)) F ⟨.string j,?_,.str _ _ hs K⟩ T
   rw [A];simp [convert,run_underlying u,run_underlying t]
  ·cases h
 ·rename_i e u t;split at hc
  ·rename_i N;cases hc;simp only [xoS] at h;split at h
   ·rename_i l f;cases h;exact .qR (zSI (P:=P) F (ak nx (QB _) (by omega)) (I f) u t N) T
   ·cases h
  ·cases hc
 ·rename_i e u t;split at hc
  ·rename_i N;cases hc;simp only [xoS] at h;split at h
   ·cases h
   ·rename_i y al hy;split at h
    ·rename_i m D ah;split at h
     ·rename_i l f;cases h;obtain ⟨L,Y,k2,X,k4,k5,k6,k7⟩:=zDJ (P:=P) F (I hy) ah;have bytes:∀{D:List AV} {l:List Nat} {L:List Value},zAN D=some l->VRs E w D L->∃j:List UInt8,L=j.map (λ b=>Value.int .u8 b.toNat)/\j.map UInt8.toNat=l:=by
       intro D
       induction D with
       | nil=>
        intro l L f J;simp [zAN] at f;subst f;rw [J.of_nil];exact ⟨[],rfl,rfl⟩
       | cons c D ih=>
        intro l L f J;obtain ⟨v,au,rfl,ae,aj⟩:=J.of_cons;unfold zAN at f;split at f
        ·rename_i W;cases W
        rotate_left
        ·cases f
        rename_i b r W;cases W;split at f
        ·rename_i l' ao;cases f;obtain ⟨j,rfl,rfl⟩:=ih ao aj;obtain ⟨rfl,K⟩:=ae.of_int;have aw:b<=255:=by
          have:=K.2;simp [IntKind.max,IntKind.signed,IntKind.bits] at this;omega
         have R:(UInt8.ofNat b).toNat=b:=by simp;omega
         exact ⟨UInt8.ofNat b::j,by simp [R],by simp [R]⟩
        ·cases f
      obtain ⟨j,rfl,rfl⟩:=bytes f Y;refine .qo (s:=convert s d (a.eval x)) F ?_ T
      have g:j.length<=zc:=by simp at X;omega
      rcases k7 with ⟨S,c,A,af⟩ | ⟨bb,A,_⟩
      ·rw [A] at k6 ⊢;have z:=run_convert_bytes_string (P:=P) w s d e S m c u N t;rw [z];cases S with
       | none=>
        have q:=k6 w rfl;have ag:j=[]:=by
         simp only [Builtin.firstCells,Sem.run_pure,Result.ok.injEq,and_true] at q;have:=congrArg Array.size q;simp at this;exact List.eq_nil_of_length_eq_zero (by simpa using this.symm)
        subst ag;exact ⟨.string .empty,by simp [Conv.bytesToString],.str _ _ rfl (by simp)⟩
       | some S=>
        have q:=k6 w rfl;simp only [Builtin.firstCells,Nat.mul_one] at q;have:=run_bytesToString (P:=P) w S m c (j.map λ b=>(b.toNat:Int)) (by rw [q];simp [Function.comp_def])
        rw [foldl_push_byteCells] at this;refine ⟨_,this,.str _ _ ?_ (by simpa using g)⟩
        show ((#[]:Array UInt8)++j.toArray).toList.map UInt8.toNat=_
        simp
      ·have hx:=I hy;rw [A] at hx;cases hx with
       | str l _ _ _=>exact absurd rfl (al l)
       | sym i _ _ _=>simp [content] at *
     ·cases h
    ·cases h
   ·cases h
  ·cases hc
 ·rename_i W e u t;split at hc
  ·rename_i C;have C:=zb C;split at hc
   ·rename_i N;cases hc;simp only [xoS] at h;split at h
    ·rename_i hd off len sz cp ex f;split at h
     ·rename_i Q;have B:0<len:=by simpa [Ql] using Q
      split at h
      ·rename_i st D O;cases h;have J:=I f;obtain ⟨U,Y,k2,X⟩:=zSJ (P:=P) F O off nx;generalize ab:a.eval x=cx at J;cases J with
       | wc _ _ _ _ S=>exact absurd B (Nat.lt_irrefl _)
       | row _ _ _ _ _ cap _ hD g M ac aa aq K=>
        refine .qR (s:=convert s d (a.eval x)) ⟨.slice (some ⟨E.ρ hd,off,none⟩) len cap,E,U,?_,k2,X,?_⟩ T
        ·rw [ab];have ar:(s==d)=true:=by rw [C];simp
         simp [convert,run_underlying u,run_underlying t,run_underlying N,ar,Y]
        ·exact X.vr F (.row _ _ _ _ _ cap _ hD g M ac aa aq K)
      ·cases h
     ·cases h
    ·cases h
   ·cases hc
  ·cases hc
 ·cases hc
end
end Go.Sy
namespace Go.Sy
section
variable {P:Program} {G:Cx} {E:Env} {w:World} {fr:Fr} {a:Act} {nt:Nat} {H:Heap} {nx:Nat}
theorem zCA {o:Oper} {b:Builtin} {args:Array Operand} {ts:Array TypeId} (ho:o.op=.call { callee:=.builtin b,args:=args,argTypes:=ts }):
  (execOp a.eval o)=(builtin b ts o.type (args.map λ| .const _=>true | _=>false) (args.map a.eval)):=by
 simp only [execOp,ho,resolve,invoke];rfl
theorem zGt {α:Type} {l:Array α} {x:α} (h:l.toList=[x]):l=#[x]:=by cases l;simp_all
theorem zDh {α:Type} {l:Array α} {x y:α} (h:l.toList=[x,y]):l=#[x,y]:=by cases l;simp_all
theorem zIN {n:Nat} (h:n<=zc):has .i64 (n:Int):=by
 unfold zc at h
 constructor <;> simp [IntKind.min,IntKind.max,IntKind.signed,IntKind.bits] <;> omega
theorem zLt (M:HR E H w) (U:FrR E w fr a nt) (T:GR G E w) {v:AV} {H':Heap} {nx':Nat} {o:Oper} {b:Builtin} {args:Array Operand} {ts:Array TypeId} {aa:XO} {call:Sy.Call}
  (ho:o.op=.call { callee:=.builtin b,args:=args,argTypes:=ts }) (hc:zJ1 P b args.toList ts.toList=some aa)
  (bc:Fresh E nx nx') (h:xoS G call fr H nx aa=some (v,H',nx')):Done P E H w nx (execOp a.eval o) v H' nx':=by
 unfold zJ1 at hc;split at hc
 ·
  rename_i x t C B;have C:=zGt C;have B:=zGt B;subst C;subst B;obtain ⟨X,I,hc⟩:=za hc;have V:∀{p:AV},X.ev G fr=some p->VR E w p (a.eval x):=λ h=>zH U T I h
  have K:∀r A,(Builtin.len_ #[t] o.type #[a.eval x]).run P w=.ok r A->(execOp a.eval o).run P w=.ok (.value r) A:=λ r A h=>by rw [zCA ho];simp [builtin,h]
  have fixed:∀{n:Nat},n<=zc->aa=.wL n->(Builtin.len_ #[t] o.type #[a.eval x]).run P w=.ok (.int .i64 n) w->Done P E H w nx (execOp a.eval o) v H' nx':=by
   intro n hn e h1;rw [e] at h;cases h;exact .qo M ⟨_,h1,.int _ _ (zIN hn)⟩ K
  split at hc
  ·rename_i d;cases hc;simp only [xoS] at h;split at h
   ·rename_i l L;cases h;obtain ⟨bs,O,hs,hb⟩:=(V L).qX;refine .qo (s:=Builtin.len_ #[t] o.type #[a.eval x]) M ⟨.int .i64 (l.length:Int),?_,.int _ _ (zIN hb)⟩ K
    rw [O];simp [Builtin.len_,run_underlying d,goInt,zHq hs]
   ·cases h
  ·rename_i e d;cases hc;simp only [xoS] at h;have J:∀{n c:Nat} {ad:Option Addr},a.eval x=.slice ad n c->n<=zc->v=.int .i64 (n:Int)->H'=H->nx'=nx->Done P E H w nx (execOp a.eval o) v H' nx':=by
    intro n c ad O hn e2 e3 e4;rw [e2,e3,e4];refine .qo (s:=Builtin.len_ #[t] o.type #[a.eval x]) M ⟨.int .i64 (n:Int),?_,.int _ _ (zIN hn)⟩ K
    rw [O];simp [Builtin.len_,run_underlying d,goInt]
   split at h
   ·rename_i L;cases h;have F:=V L;generalize a.eval x=Y at *;cases F;exact J rfl (QR _) rfl rfl rfl
   ·rename_i z es L;cases h;have F:=V L;generalize g:a.eval x=Y at F;cases F with
    | wb _ ad c hc=>exact J g (QR _) rfl rfl rfl
    | qp _ b o' cap _ f hz S bn bm bi hc=>exact J g (by omega) rfl rfl rfl
   ·rename_i hd off len sz cp ex L;cases h;have F:=V L;generalize g:a.eval x=Y at F;cases F with
    | wc _ _ _ _ ad=>exact J g (QR _) rfl rfl rfl
    | row _ _ _ _ _ cap _ hD N S ab af ae au=>exact J g (by omega) rfl rfl rfl
   ·cases h
  ·rename_i k e d;cases hc;simp only [xoS] at h;split at h
   ·rename_i L;cases h;have F:=V L;generalize g:a.eval x=Y at F;cases F;refine .qo (s:=Builtin.len_ #[t] o.type #[a.eval x]) M ⟨.int .i64 0,?_,.int _ _ (zIN (n:=0) (QR _))⟩ K
    rw [g];simp [Builtin.len_,run_underlying d,goInt]
   ·rename_i hd L;split at h
    ·rename_i es D;split at h
     ·rename_i Q;cases h;obtain ⟨O,hD⟩:=(V L).of_map;obtain ⟨c,clock,hb,N,_,_⟩:=M.obj _ (Heap.qh D);have ac:(getObj (E.ρ hd)).run P w=.ok (.map c clock) w:=by simp [getObj,Sem.run,hb]
      refine .qo (s:=Builtin.len_ #[t] o.type #[a.eval x]) M ⟨.int .i64 (es.length:Int),?_,.int _ _ (zIN (QM Q))⟩ K
      rw [O];simp [Builtin.len_,run_underlying d,goInt,ac,N]
     ·cases h
    ·cases h
   ·cases h
  ·rename_i n e d;split at hc
   ·rename_i Q;cases hc;exact fixed (QM Q) rfl (by simp [Builtin.len_,run_underlying d,goInt])
   ·cases hc
  ·rename_i e d;split at hc
   ·rename_i n e' bg;split at hc
    ·rename_i Q;cases hc;exact fixed (QM Q) rfl (by simp [Builtin.len_,run_underlying d,run_underlying bg,goInt])
    ·cases hc
   ·cases hc
  ·cases hc
 ·
  rename_i x t C B;have C:=zGt C;have B:=zGt B;subst C;subst B;obtain ⟨X,I,hc⟩:=za hc;have V:∀{p:AV},X.ev G fr=some p->VR E w p (a.eval x):=λ h=>zH U T I h
  have K:∀r A,(Builtin.cap_ #[t] o.type #[a.eval x]).run P w=.ok r A->(execOp a.eval o).run P w=.ok (.value r) A:=λ r A h=>by rw [zCA ho];simp [builtin,h]
  split at hc
  ·rename_i e d;cases hc;have J:∀{n c:Nat} {ad:Option Addr},a.eval x=.slice ad n c->c<=zc->Done P E H w nx (execOp a.eval o) (.int .i64 (c:Int)) H nx:=by
    intro n c ad O hn;refine .qo (s:=Builtin.cap_ #[t] o.type #[a.eval x]) M ⟨.int .i64 (c:Int),?_,.int _ _ (zIN hn)⟩ K
    rw [O];simp [Builtin.cap_,run_underlying d,goInt]
   simp only [xoS] at h;split at h
   ·rename_i L;cases h;have F:=V L;generalize g:a.eval x=Y at F;cases F;exact J g (QR _)
   ·rename_i hd off len sz cp L;cases h;have F:=V L;generalize g:a.eval x=Y at F;cases F with
    | wc _ _ _ _ ad=>exact J g (QR _)
    | row _ _ _ _ _ cap _ hD N S ab af ae au=>
     have:=ae rfl;subst this;exact J g S
   ·cases h
  ·cases hc
 ·
  rename_i x y t u C B;have C:=zDh C;have B:=zDh B;subst C;subst B;obtain ⟨X,I,hc⟩:=za hc;obtain ⟨ay,R,hc⟩:=za hc;have K:∀r A,(Builtin.append_ #[t,u] o.type #[a.eval x,a.eval y]).run P w=.ok r A->(execOp a.eval o).run P w=.ok (.value r) A:=λ r A h=>by rw [zCA ho];simp [builtin,h]
  have J:∀{e:TypeId} {s n:Nat} {ah:List AV},P.underlying t=some (.slice e)->(∃e',P.underlying u=some (.slice e'))\/P.underlying u=some .string->zDP P e=some ah->zL P e=some s->zHR P e=some n->0<s →
    aa=.append X ay s n->Done P E H w nx (execOp a.eval o) v H' nx':=by
   intro e s n ah h1 h2 h3 h4 h5 h6 O;rw [O] at h;simp only [xoS] at h;split at h
   ·rename_i p q hp W;exact .qR (zPG (P:=P) M (zH U T I hp) (zH U T R W) h1 h2 h3 h4 h5 h6 bc h) K
   ·cases h
  split at hc
  ·rename_i e e' h1 h2;obtain ⟨s,hs,hc⟩:=za hc;obtain ⟨n,hn,hc⟩:=za hc;obtain ⟨z,hz,hc⟩:=za hc;split at hc
   ·cases hc
   ·cases hc;exact J h1 (.inl ⟨_,h2⟩) hz hs hn (Qx _) rfl
  ·rename_i e h1 h2;obtain ⟨s,hs,hc⟩:=za hc;obtain ⟨n,hn,hc⟩:=za hc;obtain ⟨z,hz,hc⟩:=za hc;split at hc
   ·cases hc;exact J h1 (.inr h2) hz hs hn (Qx _) rfl
   ·cases hc
  ·cases hc
 ·
  rename_i x y t u C B;have C:=zDh C;have B:=zDh B;subst C;subst B;obtain ⟨X,I,hc⟩:=za hc;obtain ⟨ay,R,hc⟩:=za hc;have K:∀r A,(Builtin.copy_ #[t,u] o.type #[a.eval x,a.eval y]).run P w=.ok r A->(execOp a.eval o).run P w=.ok (.value r) A:=λ r A h=>by rw [zCA ho];simp [builtin,h]
  split at hc
  ·rename_i e h1;obtain ⟨s,hs,hc⟩:=za hc;split at hc
   ·cases hc
   ·cases hc;simp only [xoS] at h;split at h
    ·rename_i p q hp W;exact .qR (zRN (P:=P) M (zH U T I hp) (zH U T R W) h1 hs (Qx _) h) K
    ·cases h
  ·cases hc
 ·
  rename_i x t C B;have C:=zGt C;have B:=zGt B;subst C;subst B;obtain ⟨X,I,hc⟩:=za hc;have V:∀{p:AV},X.ev G fr=some p->VR E w p (a.eval x):=λ h=>zH U T I h
  have K:∀r A,(Builtin.clear_ #[t] o.type #[a.eval x]).run P w=.ok r A->(execOp a.eval o).run P w=.ok (.value r) A:=λ r A h=>by rw [zCA ho];simp [builtin,h]
  split at hc
  ·rename_i e d;obtain ⟨s,hs,hc⟩:=za hc;obtain ⟨z,hz,hc⟩:=za hc;cases s with
   | zero=>cases hc
   | succ s=>
    cases hc;simp only [xoS] at h;split at h
    ·rename_i L;cases h;have F:=V L;generalize g:a.eval x=Y at F;cases F;refine .qo (s:=Builtin.clear_ #[t] o.type #[a.eval x]) M ⟨.tuple #[],?_,VR.qJ VRs.nil⟩ K
     rw [g];simp [Builtin.clear_,run_underlying d]
    ·rename_i hd off len bj cp ex L;split at h
     ·cases h
     rename_i bf;have:=zb bf;subst this;split at h
     ·rename_i st cs D;split at h
      ·rename_i Q;cases h;have bh:=QM Q;obtain ⟨i,cz,hi,a7,bk,ai,aw,h2,h3⟩:=VR.zero (P:=P) (E:=E) (w:=w) (z:=.bool true) (v:=.bool true) (n:=0) hz;have a1:i.size=s+1:=by rw [hs] at ai;simpa using ai.symm
       obtain ⟨m1,m2⟩:=zMZ h2 h3 len;have F:=V L;generalize g:a.eval x=Y at F;cases F with
       | wc _ _ _ _ ad=>
        simp only [rep,zIn];rw [Heap.qq D];refine .qo (s:=Builtin.clear_ #[t] o.type #[a.eval x]) M ⟨.tuple #[],?_,VR.qJ VRs.nil⟩ K
        rw [g];simp [Builtin.clear_,run_underlying d]
       | row _ _ _ _ _ cap _ hD N S ab af ae au=>
        obtain ⟨A,r1,r2,r3⟩:=zF0 (P:=P) M D (off:=off) m1 m2 (.inl (by rw [zNy,aw,a1];omega)) nx
        refine .qR (s:=Builtin.clear_ #[t] o.type #[a.eval x]) ⟨.tuple #[],E,A,?_,r2,r3,VR.qJ VRs.nil⟩ K
        rw [g];have az:(zeroValue e).run P w=.ok cz w:=by simp [zeroValue,typeInfo,hi,a7]
        have ba:(Builtin.zeroCells cz.cells len).toList=(madeCells cz.cells (len*cz.cells.size)).toList:=rfl;cases len with
        | zero=>
         have:(madeCells cz.cells (0*cz.cells.size)).toList=[]:=by simp [madeCells,Array.range_zero']
         rw [this] at r1;simp [storeCells] at r1;subst r1;simp [Builtin.clear_,run_underlying d]
        | succ len=>
         simp [Builtin.clear_,run_underlying d,az,ba,r1]
      ·cases h
     ·cases h
    ·cases h
  ·rename_i k e d;cases hc;simp only [xoS] at h;split at h
   ·rename_i L;cases h;have F:=V L;generalize g:a.eval x=Y at F;cases F;refine .qo (s:=Builtin.clear_ #[t] o.type #[a.eval x]) M ⟨.tuple #[],?_,VR.qJ VRs.nil⟩ K
    rw [g];simp [Builtin.clear_,run_underlying d]
   ·rename_i hd L;split at h
    ·rename_i es D;cases h;obtain ⟨O,hD⟩:=(V L).of_map;obtain ⟨c,clock,hb,N,_,_⟩:=M.obj _ (Heap.qh D);have ac:(getObj (E.ρ hd)).run P w=.ok (.map c clock) w:=by simp [getObj,Sem.run,hb]
     obtain ⟨A,s1,s2,s3,_⟩:=zEQ (P:=P) M D hb (λ _ _ _ h=>by cases h) (ob':=.map #[] clock) (o':=.map []) (λ A a8 hm=>⟨#[],clock,a8,rfl,λ i k x hi=>by simp at hi,λ i j m n hi=>by simp at hi⟩) nx
     refine .qR (s:=Builtin.clear_ #[t] o.type #[a.eval x]) ⟨.tuple #[],E,A,?_,s2,s3,VR.qJ VRs.nil⟩ K
     rw [O];simp [Builtin.clear_,run_underlying d,ac,s1]
    ·cases h
   ·cases h
  ·cases hc
 ·
  rename_i x y t u C B;have C:=zDh C;have B:=zDh B;subst C;subst B;obtain ⟨X,I,hc⟩:=za hc;obtain ⟨ay,R,hc⟩:=za hc;have K:∀r A,(Builtin.min_ #[t,u] o.type #[a.eval x,a.eval y]).run P w=.ok r A->(execOp a.eval o).run P w=.ok (.value r) A:=λ r A h=>by rw [zCA ho];simp [builtin,h]
  split at hc
  ·cases hc;simp only [xoS] at h;split at h
   ·rename_i k p k' q hp W;split at h
    ·rename_i hk;cases h;have:=zGh hk;subst this;obtain ⟨O,b1⟩:=(zH U T I hp).of_int;obtain ⟨e2,b2⟩:=(zH U T R W).of_int;refine .qo (s:=Builtin.min_ #[t,u] o.type #[a.eval x,a.eval y]) M ⟨_,by rw [O,e2];exact run_min_int2 w _ _ _ _ _ _,.int _ _ (by split <;> assumption)⟩ K
    ·cases h
   ·cases h
  ·cases hc
 ·
  rename_i x y t u C B;have C:=zDh C;have B:=zDh B;subst C;subst B;obtain ⟨X,I,hc⟩:=za hc;obtain ⟨ay,R,hc⟩:=za hc;have K:∀r A,(Builtin.max_ #[t,u] o.type #[a.eval x,a.eval y]).run P w=.ok r A->(execOp a.eval o).run P w=.ok (.value r) A:=λ r A h=>by rw [zCA ho];simp [builtin,h]
  split at hc
  ·cases hc;simp only [xoS] at h;split at h
   ·rename_i k p k' q hp W;split at h
    ·rename_i hk;cases h;have:=zGh hk;subst this;obtain ⟨O,b1⟩:=(zH U T I hp).of_int;obtain ⟨e2,b2⟩:=(zH U T R W).of_int;refine .qo (s:=Builtin.max_ #[t,u] o.type #[a.eval x,a.eval y]) M ⟨_,by rw [O,e2];exact run_max_int2 w _ _ _ _ _ _,.int _ _ (by split <;> assumption)⟩ K
    ·cases h
   ·cases h
  ·cases hc
 ·
  rename_i m k t u C B;have C:=zDh C;have B:=zDh B;subst C;subst B;obtain ⟨am,al,hc⟩:=za hc;obtain ⟨ak,be,hc⟩:=za hc;have K:∀r A,(Builtin.delete_ #[t,u] o.type #[a.eval m,a.eval k]).run P w=.ok r A->(execOp a.eval o).run P w=.ok (.value r) A:=λ r A h=>by rw [zCA ho];simp [builtin,h]
  split at hc
  ·rename_i kt et d;obtain ⟨q,W,hc⟩:=za hc;cases hc;unfold keyT at W;obtain ⟨ks,ar,W⟩:=za W;obtain ⟨ag,aq,W⟩:=za W;cases W;simp only [xoS] at h;split at h
   ·rename_i vm vk hm hk;split at h
    ·cases h
    rename_i aj;have ao:=zH U T be hk;split at h
    ·cases h;have F:=zH U T al hm;generalize g:a.eval m=Y at F;cases F;have a6:=zEd (P:=P) (em:=true) ar aq ao aj;refine .qo (s:=Builtin.delete_ #[t,u] o.type #[a.eval m,a.eval k]) M ⟨.tuple #[],?_,VR.qJ VRs.nil⟩ K
     rw [g];simp [Builtin.delete_,run_underlying d,a6]
    ·split at h
     ·rename_i es D;split at h
      ·rename_i bl bb;cases h;obtain ⟨A,r1,r2,r3⟩:=zSD (P:=P) (ts:=#[t,u]) (ty:=o.type) (nx:=nx) M d ar aq rfl (zH U T al hm) ao aj D bb;exact .qR (s:=Builtin.delete_ #[t,u] o.type #[a.eval m,a.eval k]) ⟨.tuple #[],E,A,r1,r2,r3,VR.qJ VRs.nil⟩ K
      ·cases h
     ·cases h
    ·cases h
   ·cases h
  ·cases hc
 ·cases hc
end
end Go.Sy
