/- A LIBRARY: WHAT A FUNCTION'S CODE RECKONS, AS A LEAN FUNCTION, AND THAT ITS WORD IS THE MODEL'S: part 1 of 6. No condition. -/
import Derived.Calls
import Derived.Orders
import Derived.Laws.Sem
import Derived.Laws.Strings
import Derived.Laws.Small
import Derived.Laws.Entries
import Derived.Laws.StructEq
import Derived.Laws.Externs
import Derived.Laws.Cells
import Derived.Laws.Pointers
import Derived.Laws.AppendOwn
import Derived.Laws.MakeOwn
import Derived.Laws.IdiomStrings
import Derived.Laws.RangeString
import Derived.Laws.IdiomRangeMap
set_option linter.unusedVariables false
set_option linter.unusedSimpArgs false
theorem qr:type_of% @Int.ofNat_eq_natCast:=@Int.ofNat_eq_natCast
theorem QA:type_of% @Nat.le_refl:=@Nat.le_refl
theorem QB:type_of% @Bool.and_eq_true:=@Bool.and_eq_true
theorem QC:type_of% @List.getElem?_eq_getElem:=@List.getElem?_eq_getElem
theorem QD:type_of% @List.getElem?_eq_some_iff:=@List.getElem?_eq_some_iff
theorem QE:type_of% @List.mem_of_getElem?:=@List.mem_of_getElem?
theorem QF:type_of% @List.all_eq_true:=@List.all_eq_true
theorem QG:type_of% @decide_eq_false:=@decide_eq_false
theorem QH:type_of% @List.length_append:=@List.length_append
theorem QI:type_of% @decide_eq_true:=@decide_eq_true
theorem QJ:type_of% @List.mem_cons:=@List.mem_cons
theorem QK:type_of% @List.mem_append:=@List.mem_append
theorem QL:type_of% @Option.some.injEq:=@Option.some.injEq
theorem QM:type_of% @Nat.le_of_ble_eq_true:=@Nat.le_of_ble_eq_true
theorem QN:type_of% @List.mem_of_mem_take:=@List.mem_of_mem_take
theorem QO:type_of% @List.length_map:=@List.length_map
theorem QP:type_of% @Nat.zero_le:=@Nat.zero_le
theorem QR:type_of% @Nat.zero_add:=@Nat.zero_add
theorem QS:type_of% @of_decide_eq_true:=@of_decide_eq_true
theorem QT:type_of% @List.length_cons:=@List.length_cons
theorem QU:type_of% @Bool.and_true:=@Bool.and_true
theorem QV:type_of% @Int.natCast_nonneg:=@Int.natCast_nonneg
theorem QW:type_of% @List.all_cons:=@List.all_cons
theorem QX:type_of% @Nat.lt_succ_self:=@Nat.lt_succ_self
theorem QY:type_of% @List.mem_of_mem_drop:=@List.mem_of_mem_drop
theorem QZ:type_of% @List.drop_eq_getElem_cons:=@List.drop_eq_getElem_cons
theorem Qa:type_of% @Nat.le_succ:=@Nat.le_succ
theorem Qb:type_of% @Nat.lt_of_lt_of_le:=@Nat.lt_of_lt_of_le
theorem Qc:type_of% @List.mem_singleton:=@List.mem_singleton
theorem Qd:type_of% @List.map_cons:=@List.map_cons
theorem Qe:type_of% @List.length_take:=@List.length_take
theorem Qf:type_of% @Array.getElem?_eq_getElem:=@Array.getElem?_eq_getElem
theorem Qg:type_of% @Option.some.inj:=@Option.some.inj
theorem Qh:type_of% @List.drop_eq_nil_of_le:=@List.drop_eq_nil_of_le
theorem Qi:type_of% @Int.ofNat_le:=@Int.ofNat_le
theorem Qj:type_of% @List.length_nil:=@List.length_nil
theorem Qk:type_of% @List.length_drop:=@List.length_drop
theorem Ql:type_of% @List.getElem?_map:=@List.getElem?_map
theorem Qm:type_of% @Nat.blt_eq:=@Nat.blt_eq
theorem Qn:type_of% @Nat.le_of_lt:=@Nat.le_of_lt
theorem Qo:type_of% @List.mem_map:=@List.mem_map
theorem Qp:type_of% @Nat.le_trans:=@Nat.le_trans
theorem Qq:type_of% @List.getElem_mem:=@List.getElem_mem
theorem Qr:type_of% @of_decide_eq_false:=@of_decide_eq_false
theorem Qs:type_of% @List.getElem?_eq_none:=@List.getElem?_eq_none
theorem Qt:type_of% @List.append_assoc:=@List.append_assoc
theorem Qu:type_of% @Nat.le_add_right:=@Nat.le_add_right
theorem Qv:type_of% @Nat.ble_eq:=@Nat.ble_eq
theorem Qw:type_of% @List.mem_append_right:=@List.mem_append_right
theorem Qx:type_of% @List.getElem?_append_left:=@List.getElem?_append_left
theorem Qy:type_of% @List.mem_append_left:=@List.mem_append_left
theorem Qz:type_of% @Nat.succ_pos:=@Nat.succ_pos
theorem ZA:type_of% @List.map_append:=@List.map_append
namespace Go.Sy
inductive AV where
 | bool (b:Bool)
 | int (k:IntKind) (n:Int)
 | str (s:List Nat)
 | qm
 | ptr (h off:Nat)
 | qf (e:AV) (off:Nat)
 | qa
 | ql (sz:Nat) (es:List AV)
 | row (h off len sz cp:Nat) (ex:Bool)
 | qj
 | map (h:Nat)
 | qi
 | func (fn:Fn) (first caps:List AV)
 | qe
 | iface (t:Nat) (v:AV)
 | agg (cs:List AV)
 | qc (vs:List AV)
 | sym (i:Nat)
inductive HO where
 | cells (str:Bool) (cs:List AV)
 | map (es:List (AV×AV))
 | wm (s:List Nat) (pos:Nat)
abbrev Heap:=List (Nat×HO)
def AV.cells:AV->List AV
 | .agg b=>b
 | v=>[v]
structure Env where
 ρ:Nat->Nat
 D:Nat->Prop
 Z:Nat->Prop
 σ:Nat->Value
def ze:Nat:=9223372036854775807
def has (k:IntKind) (n:Int):Prop:=k.min<=n/\n<=k.max
inductive VR (E:Env) (w:World):AV->Value->Prop where
 | bool (b:Bool):VR E w (.bool b) (.bool b)
 | int (k:IntKind) (n:Int) (h:has k n):VR E w (.int k n) (.int k n)
 | str (l:List Nat) (s:ByteArray) (h:s.data.toList.map UInt8.toNat=l) (hl:l.length<=ze):VR E w (.str l) (.string s)
 | qm:VR E w .qm (.pointer none)
 | ptr (h off:Nat) (hd:E.D h):VR E w (.ptr h off) (.pointer (some ⟨E.ρ h,off,none⟩))
 | qf (e:AV) (off b o:Nat) (cv:Value) (ua:(match e with | .qc _=>false | _=>true)=true) (hz:E.Z b) (hv:VR E w e cv)
   (hc:∀j c,cv.cells[j]? = some c->w.cell? ⟨b,o+j,none⟩=some c):VR E w (.qf e off) (.pointer (some ⟨b,o+off,none⟩))
 | qa:VR E w .qa (.slice none 0 0)
 | wo (sz:Nat) (a:Option Addr) (c:Nat) (hc:c<=ze):VR E w (.ql sz []) (.slice a 0 c)
 | ql (es:List AV) (b o cap sz:Nat) (f:Nat->Value) (hz:E.Z b) (hcap:es.length<=cap) (hcm:cap<=ze) (ua:∀(i:Nat) e,es[i]? = some e->(match e with | .qc _=>false | _=>true)=true)
   (hv:∀i e,es[i]? = some e->VR E w e (f i))
   (hc:∀i,i<es.length->(f i).cells.size=sz/\∀j c,(f i).cells[j]? = some c->w.cell? ⟨b,o+i*sz+j,none⟩=some c):
   VR E w (.ql sz es) (.slice (some ⟨b,o,none⟩) es.length cap)
 | row (h off len sz cp cap:Nat) (ex:Bool) (hd:E.D h) (hlen:len<=cap) (hcap:cap<=ze) (hsz:0<sz) (hcp:cp<=cap) (hex:ex=true->cap=cp)
   (hb:∃c e f,w.heap[E.ρ h]? = some (.cells c e f)/\off+cap*sz<=c.size):VR E w (.row h off len sz cp ex) (.slice (some ⟨E.ρ h,off,none⟩) len cap)
 | wb (h off sz:Nat) (ex:Bool) (a:Addr):VR E w (.row h off 0 sz 0 ex) (.slice (some a) 0 0)
 | qj:VR E w .qj (.map none)
 | map (h:Nat) (hd:E.D h):VR E w (.map h) (.map (some (E.ρ h)))
 | qi:VR E w .qi .nilFunc
 | func (fn:Fn) (f c:List AV) (vf vc:Array Value) (hf:f.length=vf.size) (hc:c.length=vc.size)
   (rf:∀(i:Nat) x v,f[i]? = some x->vf[i]? = some v->VR E w x v) (rc:∀(i:Nat) x v,c[i]? = some x->vc[i]? = some v->VR E w x v):
   VR E w (.func fn f c) (.func fn vf vc)
 | qe:VR E w .qe .nilIface
 | iface (t:Nat) (v:AV) (cv:Value) (h:VR E w v cv):VR E w (.iface t v) (.iface t cv)
 | agg (cs:List AV) (vs:Array Value) (hl:cs.length=vs.size) (h:∀(i:Nat) x v,cs[i]? = some x->vs[i]? = some v->VR E w x v)
   (h1:∀(i:Nat) v,vs[i]? = some v->v.oneCell'=true):VR E w (.agg cs) (.agg vs)
 | qc (cs:List AV) (vs:Array Value) (hl:cs.length=vs.size) (h:∀(i:Nat) x v,cs[i]? = some x->vs[i]? = some v->VR E w x v):
   VR E w (.qc cs) (.tuple vs)
 | sym (i:Nat) (cv:Value) (he:cv=E.σ i) (h1:cv.oneCell'=true):VR E w (.sym i) cv
def Shapes (w w':World):Prop:=
 ∀(b:Nat) (c:Array Value) (e:TypeId) (f:Nat×Nat),w.heap[b]? = some (Obj.cells c e f)->∃(d:Array Value) (g:Nat×Nat),w'.heap[b]? = some (Obj.cells d e g)/\d.size=c.size
theorem Shapes.refl (w:World):Shapes w w:=λ _ c _ f h=>⟨c,f,h,rfl⟩
theorem Shapes.trans {a b c:World} (h:Shapes a b) (k:Shapes b c):Shapes a c:=λ x y e f d=>
 let ⟨_,f1,h1,h2⟩:=h x y e f d
 let ⟨c',f',k1,k2⟩:=k x _ e f1 h1
 ⟨c',f',k1,k2.trans h2⟩
theorem zEg {w w':World} {b o:Nat} (h:w'.heap[b]? = w.heap[b]?):w'.cell? ⟨b,o,none⟩=w.cell? ⟨b,o,none⟩:=by
 simp only [World.cell?,h]
theorem VR.mono {E E':Env} {w w':World} (p:∀h,E.D h->E'.D h/\E'.ρ h=E.ρ h) (A:∀b,E.Z b->E'.Z b/\w'.heap[b]? = w.heap[b]?)
  (hS:Shapes w w') {v:AV} {cv:Value} (h:VR E w v cv) (V:E'.σ=E.σ:=by rfl):VR E' w' v cv:=by
 induction h with
 | bool b=>exact .bool b
 | int k n h=>exact .int k n h
 | str l s h y=>exact .str l s h y
 | qm=>exact .qm
 | ptr h off m=>rw [←(p h m).2];exact .ptr h off (p h m).1
 | qf e off b o cv r x _ hc g=>exact .qf e off b o cv r (A b x).1 g λ j c I=>by rw [zEg (A b x).2];exact hc j c I
 | qa=>exact .qa
 | wo q a c hc=>exact .wo q a c hc
 | ql S b o cap q f x d J r _ hc g=>
  exact .ql S b o cap q f (A b x).1 d J r g λ i N=>⟨(hc i N).1,λ j c I=>by rw [zEg (A b x).2];exact (hc i N).2 j c I⟩
 | row h off len q X cap L m u d F B M O=>
  obtain ⟨c,e,f,z,h2⟩:=O;obtain ⟨c',U,Y,k2⟩:=hS _ c e f z;rw [←(p h m).2];exact .row h off len q X cap L (p h m).1 u d F B M ⟨c',e,U,by rw [(p h m).2];exact Y,by omega⟩
 | wb h off q L a=>exact .wb h off q L a
 | qj=>exact .qj
 | map h m=>rw [←(p h m).2];exact .map h (p h m).1
 | qi=>exact .qi
 | func fn f c T vc R hc _ _ rf Q=>exact .func fn f c T vc R hc rf Q
 | qe=>exact .qe
 | iface t v cv _ g=>exact .iface t v cv g
 | agg K C y _ z g=>exact .agg K C y g z
 | qc K C y _ g=>exact .qc K C y g
 | sym i cv W z=>exact .sym i cv (W.trans (congrFun V i).symm) z
def VRs (E:Env) (w:World) (xs:List AV) (vs:List Value):Prop:=xs.length=vs.length/\∀(i:Nat) x v,xs[i]? = some x->vs[i]? = some v->VR E w x v
theorem VRs.nil {E:Env} {w:World}:VRs E w [] []:=⟨rfl,λ i x v h=>by simp at h⟩
theorem VRs.cons {E:Env} {w:World} {x:AV} {v:Value} {xs:List AV} {vs:List Value} (h:VR E w x v) (d:VRs E w xs vs):VRs E w (x::xs) (v::vs):=
 ⟨by simp [d.1],λ i y u b c=>by
  cases i with
  | zero=>simp at b c;subst b;subst c;exact h
  | succ i=>simp at b c;exact d.2 i y u b c⟩
theorem VRs.of_cons {E:Env} {w:World} {x:AV} {xs:List AV} {vs:List Value} (h:VRs E w (x::xs) vs):∃v b,vs=v::b/\VR E w x v/\VRs E w xs b:=by
 cases vs with
 | nil=>have:=h.1;simp at this
 | cons v vs=>exact ⟨v,vs,rfl,h.2 0 x v rfl rfl,by have:=h.1;simpa using this,λ i y u c d=>h.2 (i+1) y u (by simpa using c) (by simpa using d)⟩
theorem VRs.of_nil {E:Env} {w:World} {vs:List Value} (h:VRs E w [] vs):vs=[]:=by
 have:=h.1;cases vs <;> simp_all
theorem VRs.mono {E E':Env} {w w':World} (hm:∀{v cv},VR E w v cv->VR E' w' v cv) {xs:List AV} {vs:List Value} (h:VRs E w xs vs):VRs E' w' xs vs:=
 ⟨h.1,λ i x v c b=>hm (h.2 i x v c b)⟩
theorem VRs.append {E:Env} {w:World}:∀{xs:List AV} {vs:List Value} {c:List AV} {b:List Value},VRs E w xs vs->VRs E w c b->VRs E w (xs++c) (vs++b)
 | [],vs,c,b,h,k=>by rw [h.of_nil];simpa using k
 | x::xs,vs,c,b,h,k=>by
  obtain ⟨v,f,rfl,e,d⟩:=h.of_cons;exact .cons e (d.append k)
theorem VRs.getElem? {E:Env} {w:World} {xs:List AV} {vs:List Value} (h:VRs E w xs vs) {i:Nat} {x:AV} (hx:xs[i]? = some x):∃v,vs[i]? = some v/\VR E w x v:=by
 have d:i<xs.length:=by
  rcases Nat.lt_or_ge i xs.length with b | b
  ·exact b
  ·rw [Qs b] at hx;cases hx
 have c:vs[i]? = some (vs[i]'(h.1▸d)):=QC _
 exact ⟨_,c,h.2 i x _ hx c⟩
theorem VRs.extract {E:Env} {w:World} {xs:List AV} {vs:List Value} (h:VRs E w xs vs) (a n:Nat):VRs E w ((xs.drop a).take n) ((vs.drop a).take n):=
 ⟨by simp [h.1],λ i x v b c=>by
  rw [List.getElem?_take] at b c;split at b
  ·rename_i d;simp only [d,if_true,List.getElem?_drop] at b c;exact h.2 _ x v b c
  ·cases b⟩
theorem VR.qW {E:Env} {w:World} {cs:List AV} {cv:Value} (h:VR E w (.agg cs) cv):∃vs:Array Value,cv=.agg vs/\VRs E w cs vs.toList/\∀v∈vs.toList,v.oneCell'=true:=by
 cases h with
 | agg _ vs c h d=>
  refine ⟨vs,rfl,⟨by simpa using c,λ i x v f b=>h i x v f (by simpa using b)⟩,λ v b=>?_⟩
  obtain ⟨i,e⟩:=List.getElem?_of_mem b;exact d i v (by simpa using e)
theorem VR.qR {E:Env} {w:World} {cs:List AV} {vs:Array Value} (h:VRs E w cs vs.toList) (h1:∀v∈vs.toList,v.oneCell'=true):VR E w (.agg cs) (.agg vs):=
 .agg cs vs (by simpa using h.1) (λ i x v c b=>h.2 i x v c (by simpa using b)) λ i v b=>h1 v (by
  have:=QE (l:=vs.toList) (i:=i) (a:=v) (by simpa using b)
  exact this)
theorem VR.va {E:Env} {w:World} {cs:List AV} {cv:Value} (h:VR E w (.qc cs) cv):∃vs:Array Value,cv=.tuple vs/\VRs E w cs vs.toList:=by
 cases h with
 | qc _ vs c h=>exact ⟨vs,rfl,⟨by simpa using c,λ i x v d b=>h i x v d (by simpa using b)⟩⟩
theorem VR.qJ {E:Env} {w:World} {cs:List AV} {vs:Array Value} (h:VRs E w cs vs.toList):VR E w (.qc cs) (.tuple vs):=
 .qc cs vs (by simpa using h.1) λ i x v c b=>h.2 i x v c (by simpa using b)
def AV.one:AV->Bool
 | .agg _ | .qc _=>false
 | _=>true
theorem VR.wL {E:Env} {w:World} {v:AV} {cv:Value} (h:VR E w v cv) (h1:v.one=true):cv.oneCell'=true:=by
 cases h <;> simp_all [AV.one,Value.oneCell']
theorem VR.vY {E:Env} {w:World} {v:AV} {cv:Value} (h:VR E w v cv) (h1:v.one=true):cv.cells=#[cv]:=by
 have b:=h.wL h1;cases cv <;> simp_all [Value.cells,Value.oneCell']
def AV.flat:AV->Bool
 | .qc _=>false
 | _=>true
theorem VR.cells {E:Env} {w:World} {v:AV} {cv:Value} (h:VR E w v cv) (c:v.flat=true):VRs E w v.cells cv.cells.toList/\∀u∈cv.cells.toList,u.oneCell'=true:=by
 cases v with
 | agg i=>
  obtain ⟨d,rfl,b,g⟩:=h.qW;exact ⟨b,g⟩
 | qc d=>simp [AV.flat] at c
 | _=>
  have e:=h.vY rfl;have b:=h.wL rfl;rw [e];exact ⟨VRs.cons h VRs.nil,λ u f=>by
   have:u=cv:=by simpa using f
   rw [this];exact b⟩
def Heap.get:Heap->Nat->Option HO
 | [],_=>none
 | (k,o)::r,h=>match Nat.beq k h with
  | true=>some o
  | false=>Heap.get r h
def Heap.put:Heap->Nat->HO->Heap
 | [],_,_=>[]
 | (k,o)::r,h,n=>match Nat.beq k h with
  | true=>(k,n)::r
  | false=>(k,o)::Heap.put r h n
def Heap.del:Heap->Nat->Heap
 | [],_=>[]
 | (k,o)::r,h=>match Nat.beq k h with
  | true=>r
  | false=>(k,o)::Heap.del r h
def Heap.keys (H:Heap):List Nat:=H.map (·.1)
theorem zb {a b:Nat} (h:Nat.beq a b=true):a=b:=Nat.eq_of_beq_eq_true h
theorem zAH {a b:Nat} (h:Nat.beq a b=false):a≠b:=Nat.ne_of_beq_eq_false h
theorem Heap.qh:∀{H:Heap} {h:Nat} {o:HO},H.get h=some o->(h,o)∈H
 | (k,c)::r,h,o,e=>by
  simp only [Heap.get] at e;split at e
  ·rename_i b;cases e;rw [zb b];exact .head _
  ·exact .tail _ (Heap.qh e)
theorem Heap.wC:∀(H:Heap) (h:Nat) (o:HO),(H.put h o).keys=H.keys
 | [],_,_=>rfl
 | (k,b)::r,h,o=>by
  simp only [Heap.put];split
  ·rfl
  ·show k::(Heap.put r h o).keys=k::Heap.keys r
   rw [Heap.wC r h o]
theorem Heap.w7:∀{H:Heap} {h:Nat} {o:HO} {p:Nat×HO},H.keys.Nodup->p∈H.put h o->p=(h,o)\/(p∈H/\p.1≠h)
 | (k,i)::r,h,o,p,g,c=>by
  simp only [Heap.put] at c;have d:k ∉ Heap.keys r/\(Heap.keys r).Nodup:=List.nodup_cons.1 g;split at c
  ·rename_i f;have:=zb f;subst this;cases c with
   | head=>exact .inl rfl
   | tail _ c=>exact .inr ⟨.tail _ c,λ e=>d.1 (e▸List.mem_map_of_mem c)⟩
  ·rename_i f;cases c with
   | head=>exact .inr ⟨.head _,zAH f⟩
   | tail _ c=>exact (Heap.w7 d.2 c).imp id λ⟨a,b⟩=>⟨.tail _ a,b⟩
theorem Heap.wX:∀{H:Heap} {h:Nat} {p:Nat×HO},H.keys.Nodup->p∈H.del h->p∈H/\p.1≠h
 | (k,i)::r,h,p,g,c=>by
  simp only [Heap.del] at c;have d:k ∉ Heap.keys r/\(Heap.keys r).Nodup:=List.nodup_cons.1 g;split at c
  ·rename_i f;have:=zb f;subst this;exact ⟨.tail _ c,λ e=>d.1 (e▸List.mem_map_of_mem c)⟩
  ·rename_i f;cases c with
   | head=>exact ⟨.head _,zAH f⟩
   | tail _ c=>exact let ⟨a,b⟩:=Heap.wX d.2 c;⟨.tail _ a,b⟩
theorem Heap.wu:∀(H:Heap) (h:Nat),(H.del h).Sublist H
 | [],_=>.slnil
 | (k,o)::r,h=>by
  simp only [Heap.del];split
  ·exact List.sublist_cons_self _ _
  ·exact (Heap.wu r h).cons_cons _
def OR (E:Env) (w:World) (b:Nat):HO->Prop
 | .cells str g=>∃(c:Array Value) (e:TypeId) (f:Nat×Nat),w.heap[b]? = some (Obj.cells c e f)/\g.length<=c.size/\(f.2=f.1\/(str=true/\c.size<=f.1)) ∧
   ∀(i:Nat) x,g[i]? = some x->∃v,c[i]? = some v/\v.oneCell'=true/\VR E w x v
 | .map h=>∃(c:Array MapEntry) (clock:Nat),w.heap[b]? = some (Obj.map c clock)/\h.length=c.size ∧
   (∀(i:Nat) k x,h[i]? = some (k,x)->∃m,c[i]? = some m/\VR E w k m.key/\VR E w x m.val/\m.born<clock) ∧
   ∀(i j:Nat) m n,c[i]? = some m->c[j]? = some n->m.born=n.born->i=j
 | .wm s pos=>∃d:ByteArray,w.heap[b]? = some (Obj.stringIter d pos)/\d.data.toList.map UInt8.toNat=s
theorem OR.lt {E:Env} {w:World} {b:Nat} {o:HO} (h:OR E w b o):b<w.heap.size:=by
 cases o with
 | cells _ d=>obtain ⟨c,e,f,h,_⟩:=h;exact (Array.getElem?_eq_some_iff.1 h).1
 | map g=>obtain ⟨c,e,h,_⟩:=h;exact (Array.getElem?_eq_some_iff.1 h).1
 | wm s pos=>obtain ⟨c,h,_⟩:=h;exact (Array.getElem?_eq_some_iff.1 h).1
theorem OR.mono {E E':Env} {w w':World} {b:Nat} {o:HO} (l:w'.heap[b]? = w.heap[b]?) (hm:∀{v cv},VR E w v cv->VR E' w' v cv) (h:OR E w b o):OR E' w' b o:=by
 cases o with
 | cells _ t=>
  obtain ⟨c,e,f,j,g,p,n⟩:=h;exact ⟨c,e,f,l.trans j,g,p,λ i x q=>let ⟨v,a,b,d⟩:=n i x q;⟨v,a,b,hm d⟩⟩
 | map u=>
  obtain ⟨c,clock,j,g,p,n⟩:=h;exact ⟨c,clock,l.trans j,g,λ i k x q=>let ⟨m,a,b,d,e⟩:=p i k x q;⟨m,a,hm b,hm d,e⟩,n⟩
 | wm s pos=>
  obtain ⟨r,j,g⟩:=h;exact ⟨r,l.trans j,g⟩
structure HR (E:Env) (H:Heap) (w:World):Prop where
 nodup:H.keys.Nodup
 qC:∀p∈H,E.D p.1
 inj:∀p∈H,∀q∈H,E.ρ p.1=E.ρ q.1->p.1=q.1
 obj:∀p∈H,OR E w (E.ρ p.1) p.2
 nz:∀p∈H,¬E.Z (E.ρ p.1)
 we:∀b,E.Z b->b<w.heap.size
theorem HR.lt {E:Env} {H:Heap} {w:World} (h:HR E H w) {p:Nat×HO} (b:p∈H):E.ρ p.1<w.heap.size:=(h.obj p b).lt
theorem HR.sub {E:Env} {H H':Heap} {w:World} (h:HR E H w) (c:H'.Sublist H):HR E H' w:=
 ⟨h.nodup.sublist (c.map _),λ p b=>h.qC p (c.subset b),λ p b q d=>h.inj p (c.subset b) q (c.subset d),
  λ p b=>h.obj p (c.subset b),λ p b=>h.nz p (c.subset b),h.we⟩
structure Tr (E:Env) (H:Heap) (w:World) (E':Env) (H':Heap) (w':World) (a b:Nat):Prop where
 le:a<=b
 agree:∀h,E.D h->E'.ρ h=E.ρ h
 qC:∀h,E'.D h↔E.D h\/(a<=h/\h<b)
 qG:∀x,E.Z x->E'.Z x
 qM:∀x,E'.Z x->E.Z x\/(∃p∈H,E.ρ p.1=x)\/w.heap.size<=x
 own:∀p∈H',(∃q∈H,E.ρ q.1=E'.ρ p.1)\/w.heap.size<=E'.ρ p.1
 tape:w'.tape=w.tape
 os:w'.os=w.os
 output:w'.output=w.output
 size:w.heap.size<=w'.heap.size
 wh:∀x,x<w.heap.size->(∀p∈H,E.ρ p.1≠x)->w'.heap[x]? = w.heap[x]?
 qo:Shapes w w'
 sig:E'.σ=E.σ:=by rfl
theorem Tr.refl {E:Env} {H:Heap} {w:World} (a:Nat):Tr E H w E H w a a:=
 ⟨QA _,λ _ _=>rfl,λ h=>⟨.inl,λ h=>h.elim id λ⟨x,y⟩=>by omega⟩,λ _ h=>h,λ _ h=>.inl h,λ p b=>.inl ⟨p,b,rfl⟩,rfl,rfl,rfl,QA _,λ _ _ _=>rfl,.refl w,rfl⟩
theorem Tr.sub {E:Env} {H:Heap} {w:World} {E':Env} {H' H2:Heap} {w':World} {a b:Nat} (h:Tr E H w E' H' w' a b) (d:H2.Sublist H'):Tr E H w E' H2 w' a b:=
 { h with own:=λ p c=>h.own p (d.subset c) }
theorem Tr.vr {E:Env} {H:Heap} {w:World} {E':Env} {H':Heap} {w':World} {a b:Nat} (d:HR E H w) (h:Tr E H w E' H' w' a b) {v:AV} {cv:Value} (g:VR E w v cv):VR E' w' v cv:=
 g.mono (λ x c=>⟨(h.qC x).2 (.inl c),h.agree x c⟩)
  (λ x c=>⟨h.qG x c,h.wh x (d.we x c) λ p f e=>d.nz p f (e▸c)⟩) h.qo h.sig
theorem Tr.trans {E:Env} {H:Heap} {w:World} {n:Env} {m:Heap} {i:World} {E2:Env} {H2:Heap} {o:World} {a b c:Nat}
  (_:HR n m i) (h:Tr E H w n m i a b) (k:Tr n m i E2 H2 o b c):Tr E H w E2 H2 o a c where
 le:=Qp h.le k.le
 agree x d:=(k.agree x ((h.qC x).2 (.inl d))).trans (h.agree x d)
 qC x:=by
  rw [k.qC,h.qC];have:=h.le;have:=k.le
  constructor
  ·rintro ((h | h) | h)
   ·exact .inl h
   ·exact .inr ⟨by omega,by omega⟩
   ·exact .inr ⟨by omega,by omega⟩
  ·rintro (h | h)
   ·exact .inl (.inl h)
   ·by_cases d:x<b
    ·exact .inl (.inr ⟨by omega,d⟩)
    ·exact .inr ⟨by omega,by omega⟩
 qG x d:=k.qG x (h.qG x d)
 qM x d:=by
  rcases k.qM x d with f | ⟨p,g,rfl⟩ | f
  ·exact h.qM x f
  ·exact .inr (h.own p g)
  ·exact .inr (.inr (Qp h.size f))
 own p g:=by
  rcases k.own p g with ⟨q,l,e⟩ | f
  ·rw [←e];exact h.own q l
  ·exact .inr (Qp h.size f)
 tape:=k.tape.trans h.tape
 os:=k.os.trans h.os
 output:=k.output.trans h.output
 size:=Qp h.size k.size
 wh x d g:=by
  rw [k.wh x (Qb d h.size) λ p j e=>by
   rcases h.own p j with ⟨q,l,r⟩ | f
   ·exact g q l (r.trans e)
   ·omega]
  exact h.wh x d g
 qo:=h.qo.trans k.qo
 sig:=k.sig.trans h.sig
theorem Tr.frame {E:Env} {H R:Heap} {w:World} {E':Env} {H':Heap} {w':World} {a b:Nat}
  (k:HR E (H++R) w) (g:HR E' H' w') (h:Tr E H w E' H' w' a b):HR E' (H'++R) w'/\Tr E (H++R) w E' (H'++R) w' a b:=by
 have A:HR E H w:=k.sub (List.sublist_append_left _ _);have r:(H.map (·.1)++R.map (·.1)).Nodup:=by have:=k.nodup;simpa [Heap.keys] using this
 have j:∀p∈H,∀q∈R,E.ρ p.1≠E.ρ q.1:=λ p c q d e=>by
  have B:=k.inj p (Qy _ c) q (Qw _ d) e;exact (List.nodup_append.1 r).2.2 p.1 (List.mem_map_of_mem c) q.1 (List.mem_map_of_mem d) B
 have o:∀q∈R,E.D q.1:=λ q d=>k.qC q (Qw _ d)
 have i:∀q∈R,E.ρ q.1<w.heap.size:=λ q d=>k.lt (Qw _ d)
 have f:∀p∈H',∀q∈R,E'.ρ p.1≠E.ρ q.1:=λ p c q d e=>by
  rcases h.own p c with ⟨C,m,t⟩ | F
  ·exact j C m q d (t.trans e)
  ·have:=i q d;omega
 have l:∀q∈R,E'.ρ q.1=E.ρ q.1:=λ q d=>h.agree _ (o q d)
 refine ⟨⟨?_,?_,?_,?_,?_,g.we⟩,{ h with qM:=?_,own:=?_,wh:=?_ }⟩
 ·show ((H'++R).map (·.1)).Nodup
  rw [ZA,List.nodup_append];refine ⟨g.nodup,(List.nodup_append.1 r).2.1,?_⟩
  intro x s y z e;obtain ⟨p,c,rfl⟩:=Qo.1 s;obtain ⟨q,d,rfl⟩:=Qo.1 z;exact f p c q d (by rw [e];exact l q d)
 ·intro p c;rcases QK.1 c with c | c
  ·exact g.qC p c
  ·exact (h.qC _).2 (.inl (o p c))
 ·intro p c q d e;rcases QK.1 c with c | c <;> rcases QK.1 d with d | d
  ·exact g.inj p c q d e
  ·exact absurd (e.trans (l q d)) (f p c q d)
  ·exact absurd (e.symm.trans (l p c)) (f q d p c)
  ·rw [l p c,l q d] at e;exact k.inj p (Qw _ c) q (Qw _ d) e
 ·intro p c;rcases QK.1 c with c | c
  ·exact g.obj p c
  ·rw [l p c];exact (k.obj p (Qw _ c)).mono (h.wh _ (i p c) λ q d=>j q d p c) (h.vr A)
 ·intro p c;rcases QK.1 c with c | c
  ·exact g.nz p c
  ·rw [l p c];intro u;rcases h.qM _ u with n | ⟨q,d,e⟩ | n
   ·exact k.nz p (Qw _ c) n
   ·exact j q d p c e
   ·have:=i p c;omega
 ·intro x s;rcases h.qM x s with n | ⟨q,d,e⟩ | n
  ·exact .inl n
  ·exact .inr (.inl ⟨q,Qy _ d,e⟩)
  ·exact .inr (.inr n)
 ·intro p c;rcases QK.1 c with c | c
  ·exact (h.own p c).imp (λ⟨q,d,e⟩=>⟨q,Qy _ d,e⟩) id
  ·exact .inl ⟨p,Qw _ c,(l p c).symm⟩
 ·intro x s c;exact h.wh x s λ p m=>c p (Qy _ m)
theorem HR.perm {E:Env} {H H':Heap} {w:World} (h:HR E H w) (b:H.Perm H'):HR E H' w:=
 ⟨(b.map _).nodup_iff.1 h.nodup,λ p k=>h.qC p (b.mem_iff.2 k),λ p k q l=>h.inj p (b.mem_iff.2 k) q (b.mem_iff.2 l),
  λ p k=>h.obj p (b.mem_iff.2 k),λ p k=>h.nz p (b.mem_iff.2 k),h.we⟩
theorem Tr.perm {E:Env} {H H2:Heap} {w:World} {E':Env} {H' c:Heap} {w':World} {a b:Nat} (h:Tr E H w E' H' w' a b) (f:H.Perm H2) (d:H'.Perm c):Tr E H2 w E' c w' a b:=
 { h with
  qM:=λ x g=>(h.qM x g).imp id (Or.imp (λ⟨p,k,e⟩=>⟨p,f.mem_iff.1 k,e⟩) id)
  own:=λ p k=>(h.own p (d.mem_iff.2 k)).imp (λ⟨q,k,e⟩=>⟨q,f.mem_iff.1 k,e⟩) id
  wh:=λ x g k=>h.wh x g λ p i=>k p (f.mem_iff.1 i) }
theorem zHb {h:Array Obj} {o:Obj} {b:Nat} (c:b<h.size):(h.push o)[b]? = h[b]?:=by
 rw [Array.getElem?_push,if_neg (by omega)]
theorem zCy {h:Array Obj} {o:Obj}:(h.push o)[h.size]? = some o:=by
 rw [Array.getElem?_push,if_pos rfl]
def Env.add (E:Env) (a b:Nat):Env:=⟨λ h=>if h=a then b else E.ρ h,λ h=>E.D h\/h=a,E.Z,E.σ⟩
theorem Env.qx (E:Env) (a b:Nat):(E.add a b).ρ a=b:=by simp [Env.add]
theorem Env.wg {E:Env} {a b h:Nat} (c:h≠a):(E.add a b).ρ h=E.ρ h:=by simp [Env.add,c]
def World.vt (w w':World):Prop:=w'.heap=w.heap/\w'.tape=w.tape/\w'.os=w.os/\w'.output=w.output
theorem World.vt.refl (w:World):World.vt w w:=⟨rfl,rfl,rfl,rfl⟩
theorem World.vt.mk (w:World) (n:Nat):World.vt w { w with drawn:=n }:=⟨rfl,rfl,rfl,rfl⟩
theorem Shapes.of_heap {w w':World} (h:w'.heap=w.heap):Shapes w w':=λ b c e f d=>⟨c,f,by rw [h];exact d,rfl⟩
theorem zHy {E:Env} {H:Heap} {w w':World} (d:HR E H w) (f:World.vt w w') (a:Nat):HR E H w'/\Tr E H w E H w' a a:=by
 obtain ⟨c,g,l,j⟩:=f;have m:∀{v e},VR E w v e->VR E w' v e:=λ h=>h.mono (λ _ h=>⟨h,rfl⟩) (λ b h=>⟨h,by rw [c]⟩) (.of_heap c)
 refine ⟨⟨d.nodup,d.qC,d.inj,λ p k=>(d.obj p k).mono (by rw [c]) m,d.nz,λ b i=>by rw [c];exact d.we b i⟩,
  { Tr.refl (E:=E) (H:=H) (w:=w) a with tape:=g,os:=l,output:=j,size:=by rw [c];exact QA _,wh:=λ _ _ _=>by rw [c],qo:=.of_heap c }⟩
theorem zJS {E:Env} {H:Heap} {w:World} (g:HR E H w) {a:Nat} (y:¬E.D a) {o:Obj} {ho:HO}
  (r:∀w':World,w'.heap=w.heap.push o->Shapes w w'->(∀{v cv},VR E w v cv->VR (E.add a w.heap.size) w' v cv)->OR (E.add a w.heap.size) w' w.heap.size ho):
  HR (E.add a w.heap.size) ((a,ho)::H) { w with heap:=w.heap.push o } ∧
  Tr E H w (E.add a w.heap.size) ((a,ho)::H) { w with heap:=w.heap.push o } a (a+1) ∧
  ∀{v cv},VR E w v cv->VR (E.add a w.heap.size) { w with heap:=w.heap.push o } v cv:=by
 have i:∀{h},E.D h->h≠a:=λ h e=>y (e▸h)
 have s:Shapes w { w with heap:=w.heap.push o }:=λ b c e f k=>⟨c,f,by
  have:=(Array.getElem?_eq_some_iff.1 k).1;show (w.heap.push o)[b]? = _
  rw [zHb this];exact k,rfl⟩
 have m:∀{v cv},VR E w v cv->VR (E.add a w.heap.size) { w with heap:=w.heap.push o } v cv:=λ h=>
  h.mono (λ x n=>⟨Or.inl n,Env.wg (i n)⟩) (λ b k=>⟨k,zHb (g.we b k)⟩) s
 have l:∀p∈H,(E.add a w.heap.size).ρ p.1=E.ρ p.1:=λ p d=>Env.wg (i (g.qC p d))
 refine ⟨⟨?_,?_,?_,?_,?_,?_⟩,⟨by omega,λ h u=>Env.wg (i u),?_,λ _ h=>h,λ _ h=>.inl h,?_,rfl,rfl,rfl,by simp,λ x n _=>zHb n,s,rfl⟩,m⟩
 ·show (a::Heap.keys H).Nodup
  refine List.nodup_cons.2 ⟨λ m=>?_,g.nodup⟩
  obtain ⟨p,d,e⟩:=Qo.1 m;exact i (g.qC p d) e
 ·intro p d;cases d with
  | head=>exact .inr rfl
  | tail _ d=>exact .inl (g.qC p d)
 ·intro p d q j e;cases d with
  | head=>
   cases j with
   | head=>rfl
   | tail _ j=>
    rw [l q j,Env.qx] at e;have:=g.lt j;omega
  | tail _ d=>
   cases j with
   | head=>
    rw [l p d,Env.qx] at e;have:=g.lt d;omega
   | tail _ j=>
    rw [l p d,l q j] at e;exact g.inj p d q j e
 ·intro p d;cases d with
  | head=>rw [Env.qx];exact r _ rfl s m
  | tail _ d=>
   rw [l p d];exact (g.obj p d).mono (zHb (g.lt d)) m
 ·intro p d;cases d with
  | head=>
   rw [Env.qx];intro t;have:=g.we _ t;omega
  | tail _ d=>rw [l p d];exact g.nz p d
 ·intro b k;have:=g.we b k;simp;omega
 ·intro h;show E.D h\/h=a↔_
  constructor
  ·rintro (h | h)
   ·exact .inl h
   ·exact .inr (by omega)
  ·rintro (h | h)
   ·exact .inl h
   ·exact .inr (by omega)
 ·intro p d;cases d with
  | head=>rw [Env.qx];exact .inr (QA _)
  | tail _ d=>exact .inl ⟨p,d,(l p d).symm⟩
theorem zLy {E:Env} {H:Heap} {w w':World} (g:HR E H w) {h:Nat} {o o':HO} (D:H.get h=some o)
  (h1:w'.tape=w.tape) (C:w'.os=w.os) (I:w'.output=w.output) (F:w'.heap.size=w.heap.size) (r:∀b,b≠E.ρ h->w'.heap[b]? = w.heap[b]?)
  (B:Shapes w w') (n:(∀{v cv},VR E w v cv->VR E w' v cv)->OR E w' (E.ρ h) o') (a:Nat):
  HR E (H.put h o') w'/\Tr E H w E (H.put h o') w' a a/\∀{v cv},VR E w v cv->VR E w' v cv:=by
 have f:=Heap.qh D;have k:∀b,E.Z b->b≠E.ρ h:=λ b j e=>g.nz _ f (e▸j)
 have u:∀{v cv},VR E w v cv->VR E w' v cv:=λ J=>J.mono (λ _ s=>⟨s,rfl⟩) (λ b j=>⟨j,r b (k b j)⟩) B
 have c:∀p∈H.put h o',∃q∈H,q.1=p.1:=λ p d=>by
  rcases Heap.w7 g.nodup d with rfl | ⟨d,_⟩
  ·exact ⟨_,f,rfl⟩
  ·exact ⟨p,d,rfl⟩
 refine ⟨⟨by rw [Heap.wC];exact g.nodup,?_,?_,?_,?_,λ b j=>by rw [F];exact g.we b j⟩,⟨QA _,λ _ _=>rfl,?_,λ _ h=>h,λ _ h=>.inl h,?_,h1,C,I,by omega,?_,B,rfl⟩,u⟩
 ·intro p d;obtain ⟨q,i,e⟩:=c p d;rw [←e];exact g.qC q i
 ·intro p d q i e;obtain ⟨K,m,A⟩:=c p d;obtain ⟨L,t,z⟩:=c q i;rw [←A,←z] at e;rw [←A,←z];exact g.inj K m L t e
 ·intro p d;rcases Heap.w7 g.nodup d with rfl | ⟨d,l⟩
  ·exact n u
  ·exact (g.obj p d).mono (r _ λ e=>l (g.inj p d _ f e)) u
 ·intro p d;obtain ⟨q,i,e⟩:=c p d;rw [←e];exact g.nz q i
 ·exact λ h=>⟨.inl,λ h=>h.elim id λ⟨x,y⟩=>by omega⟩
 ·intro p d;obtain ⟨q,i,e⟩:=c p d;exact .inl ⟨q,i,by rw [e]⟩
 ·intro x _ s;exact r x λ e=>s _ f e.symm
theorem zST {E:Env} {H:Heap} {w:World} (f:HR E H w) {h a:Nat} {o:HO} (z:H.get h=some o) (C:¬E.D a):
  HR (E.add a (E.ρ h)) ((a,o)::H.del h) w/\Tr E H w (E.add a (E.ρ h)) ((a,o)::H.del h) w a (a+1)/\∀{v cv},VR E w v cv->VR (E.add a (E.ρ h)) w v cv:=by
 have d:=Heap.qh z;have g:∀{h},E.D h->h≠a:=λ h e=>C (e▸h)
 have r:∀{v cv},VR E w v cv->VR (E.add a (E.ρ h)) w v cv:=λ B=>
  B.mono (λ x u=>⟨Or.inl u,Env.wg (g u)⟩) (λ b y=>⟨y,rfl⟩) (.refl w)
 have i:∀p∈H.del h,(E.add a (E.ρ h)).ρ p.1=E.ρ p.1/\p∈H/\p.1≠h:=λ p c=>
  let ⟨k,n⟩:=Heap.wX f.nodup c
  ⟨Env.wg (g (f.qC p k)),k,n⟩
 refine ⟨⟨?_,?_,?_,?_,?_,f.we⟩,⟨by omega,λ h A=>Env.wg (g A),?_,λ _ h=>h,λ _ h=>.inl h,?_,rfl,rfl,rfl,QA _,λ _ _ _=>rfl,.refl w,rfl⟩,r⟩
 ·show (a::Heap.keys (H.del h)).Nodup
  refine List.nodup_cons.2 ⟨λ r=>?_,f.nodup.sublist ((Heap.wu H h).map _)⟩
  obtain ⟨p,c,e⟩:=Qo.1 r;exact g (f.qC p (i p c).2.1) e
 ·intro p c;cases c with
  | head=>exact .inr rfl
  | tail _ c=>exact .inl (f.qC p (i p c).2.1)
 ·intro p c q l e;cases c with
  | head=>
   cases l with
   | head=>rfl
   | tail _ l=>
    obtain ⟨t,k,n⟩:=i q l;rw [t,Env.qx] at e;exact absurd (f.inj _ d q k e).symm n
  | tail _ c=>
   obtain ⟨j,m,s⟩:=i p c;cases l with
   | head=>
    rw [j,Env.qx] at e;exact absurd (f.inj p m _ d e) s
   | tail _ l=>
    obtain ⟨t,k,n⟩:=i q l;rw [j,t] at e;exact f.inj p m q k e
 ·intro p c;cases c with
  | head=>rw [Env.qx];exact (f.obj _ d).mono rfl r
  | tail _ c=>
   obtain ⟨j,m,s⟩:=i p c;rw [j];exact (f.obj p m).mono rfl r
 ·intro p c;cases c with
  | head=>rw [Env.qx];exact f.nz _ d
  | tail _ c=>
   obtain ⟨j,m,s⟩:=i p c;rw [j];exact f.nz p m
 ·intro h;show E.D h\/h=a↔_
  constructor
  ·rintro (h | h)
   ·exact .inl h
   ·exact .inr (by omega)
  ·rintro (h | h)
   ·exact .inl h
   ·exact .inr (by omega)
 ·intro p c;cases c with
  | head=>rw [Env.qx];exact .inl ⟨_,d,rfl⟩
  | tail _ c=>exact .inl ⟨p,(i p c).2.1,(i p c).1.symm⟩
inductive XV where
 | t (n:Nat)
 | c (v:AV)
 | g (n:Nat)
inductive Kd where
 | b
 | i
 | s
inductive XO where
 | bad
 | vu (x:XV)
 | pick (c a b:XV)
 | bin (op:BinOp) (x y:XV)
 | beq (neg:Bool) (x y:XV)
 | vJ (neg:Bool) (x y:XV)
 | wF (neg:Bool) (ks:List Kd) (x y:XV)
 | vK (neg lit:Bool) (kt:Nat->Option Kd) (x y:XV)
 | seq (neg:Bool) (x y:XV)
 | vQ (neg:Bool) (x y:XV)
 | vP (neg:Bool) (x y:XV)
 | un (op:UnOp) (x:XV)
 | conv (k:IntKind) (x:XV)
 | vw (x:XV)
 | ve (x:XV)
 | vX (x:XV)
 | mark (x:XV)
 | w5 (x c:XV)
 | w6 (x c:XV)
 | vU (x:XV) (off sz:Nat) (ag:Bool)
 | ext (x:XV) (i:Nat)
 | wI (x i:XV)
 | qZ (x i:XV) (len sz:Nat) (ag:Bool)
 | box (x:XV) (sz:Nat)
 | alloc (z:List AV)
 | build (z:List AV) (ps:List (Nat×Nat×XV))
 | qD (len sz:Nat) (z:List AV) (ps:List (Nat×Nat×XV))
 | load (x:XV) (sz:Nat) (ag:Bool)
 | store (a x:XV) (sz:Nat)
 | wq (x:XV)
 | qP (x:XV) (off:Nat)
 | qB (x i:XV) (sz:Nat)
 | qy (x i:XV) (len sz:Nat)
 | wD (x:XV) (lo hi:Option XV)
 | wv (x:XV) (lo hi mx:Option XV) (sz:Nat)
 | vC (x:XV) (lo hi:Option XV) (len sz:Nat)
 | w9 (x:XV)
 | wi (x:XV)
 | vF (x:XV)
 | wN (n:Nat)
 | cap (x:XV)
 | append (x y:XV) (sz bytes:Nat)
 | copy (x y:XV) (sz:Nat)
 | vO (x:XV) (sz:Nat) (z:List AV)
 | vR (x:XV)
 | min (x y:XV)
 | max (x y:XV)
 | qK (l c:XV) (sz bytes:Nat) (z:List AV)
 | wj
 | lookup (ag:Bool) (ks:List Kd) (m k:XV) (z:AV) (ok:Bool)
 | wE (ag:Bool) (ks:List Kd) (m k v:XV)
 | del (ag:Bool) (ks:List Kd) (m k:XV)
 | wa (fn:Fn) (first caps:List XV)
 | wO (t:Nat) (x:XV)
 | vH (x:XV) (t:Nat) (ok:Bool) (z:AV)
 | vD (x:XV)
 | vj (x:XV)
 | call (f:Nat) (args:List XV)
 | qL (f:XV) (args:List XV)
 | invoke (r:XV) (m:String) (args:List XV)
structure XOper where
 dst:Option Nat
 op:XO
 guard:Option (Nat×Bool)
structure XD where
 qd:Nat
 looks:List Nat
inductive XC where
 | skip
 | wG (ops:List XOper)
 | draw (ops:List XOper) (ds:List XD)
 | seq (a b:XC)
 | cond (c:XV) (a b:XC)
 | block (id:Nat) (b:XC)
 | loop (b:XC)
 | exit (id:Nat)
 | ret
 | wP (m:XV) (it:Nat) (D:List Nat) (en W id1:Nat) (rest:List XOper) (body:XC)
inductive XR where
 | t (n:Nat)
 | cell (n sz:Nat) (ag:Bool)
structure XF where
 np:Nat
 nt:Nat
 body:XC
 res:List XR
abbrev Fr:=List (Nat×AV)
def Fr.get:Fr->Nat->Option AV
 | [],_=>none
 | (k,v)::r,n=>match Nat.beq k n with
  | true=>some v
  | false=>Fr.get r n
def Fr.put:Fr->Nat->AV->Fr
 | [],n,v=>[(n,v)]
 | (k,u)::r,n,v=>match Nat.beq k n with
  | true=>(n,v)::r
  | false=>(k,u)::Fr.put r n v
abbrev Out:=AV×Heap×Nat
structure Cx where
 wJ:Nat->Option AV
 ui:Nat->String->Option Nat
def XV.ev (G:Cx) (fr:Fr):XV->Option AV
 | .t n=>fr.get n
 | .c v=>some v
 | .g n=>G.wJ n
def evs (G:Cx) (fr:Fr):List XV->Option (List AV)
 | []=>some []
 | x::r=>match x.ev G fr with
  | some v=>match evs G fr r with
   | some b=>some (v::b)
   | none=>none
  | none=>none
def evo (G:Cx) (fr:Fr):Option XV->Option (Option AV)
 | none=>some none
 | some x=>match x.ev G fr with
  | some v=>some (some v)
  | none=>none
def ksame:IntKind->IntKind->Bool
 | .i8,.i8=>true | .i16,.i16=>true | .i32,.i32=>true | .i64,.i64=>true
 | .u8,.u8=>true | .u16,.u16=>true | .u32,.u32=>true | .u64,.u64=>true
 | _,_=>false
def wrapx (k:IntKind):Int->Int
 | .ofNat m=>match k with
  | .i64=>cond (Nat.ble m 9223372036854775807) (.ofNat m) (IntKind.i64.wrap (.ofNat m))
  | .u64=>cond (Nat.ble m 18446744073709551615) (.ofNat m) (IntKind.u64.wrap (.ofNat m))
  | .u8=>cond (Nat.ble m 255) (.ofNat m) (IntKind.u8.wrap (.ofNat m))
  | .u32=>cond (Nat.ble m 4294967295) (.ofNat m) (IntKind.u32.wrap (.ofNat m))
  | .i32=>cond (Nat.ble m 2147483647) (.ofNat m) (IntKind.i32.wrap (.ofNat m))
  | .i8=>IntKind.i8.wrap (.ofNat m)
  | .i16=>IntKind.i16.wrap (.ofNat m)
  | .u16=>IntKind.u16.wrap (.ofNat m)
 | .negSucc m=>match k with
  | .i64=>cond (Nat.ble m 9223372036854775807) (.negSucc m) (IntKind.i64.wrap (.negSucc m))
  | k=>k.wrap (.negSucc m)
def slt:List Nat->List Nat->Bool
 | _,[]=>false
 | [],_::_=>true
 | a::x,b::y=>match Nat.blt a b with
  | true=>true
  | false=>match Nat.beq a b with
   | true=>slt x y
   | false=>false
def seqb:List Nat->List Nat->Bool
 | [],[]=>true
 | a::x,b::y=>match Nat.beq a b with
  | true=>seqb x y
  | false=>false
 | _,_=>false
def xcmp (op:BinOp) (a b:Int):Option AV:=
 match op with
 | .eql=>some (.bool (a==b))
 | .neq=>some (.bool (a != b))
 | .lss=>some (.bool (decide (a<b)))
 | .leq=>some (.bool (decide (a<=b)))
 | .gtr=>some (.bool (decide (a > b)))
 | .geq=>some (.bool (decide (a>=b)))
 | _=>none
def xbits (op:BinOp) (k:IntKind) (x y:Int):Option AV:=
 match op with
 | .and=>some (.int k (k.wrap (BitVec.ofInt k.bits x &&& BitVec.ofInt k.bits y).toNat))
 | .or=>some (.int k (k.wrap (BitVec.ofInt k.bits x ||| BitVec.ofInt k.bits y).toNat))
 | .xor=>some (.int k (k.wrap (BitVec.ofInt k.bits x ^^^ BitVec.ofInt k.bits y).toNat))
 | .andNot=>some (.int k (k.wrap (BitVec.ofInt k.bits x &&& ~~~(BitVec.ofInt k.bits y)).toNat))
 | _=>none
def xbin (op:BinOp):AV->AV->Option AV
 | .int k a,.int c b=>
  match op with
  | .shl=>match decide (b<0) with
   | true=>none
   | false=>some (.int k (wrapx k (a*2 ^ (Min.min b.toNat k.bits))))
  | .shr=>match decide (b<0) with
   | true=>none
   | false=>some (.int k (a.fdiv (2 ^ (Min.min b.toNat k.bits))))
  | op=>match ksame k c with
   | false=>none
   | true=>match op with
    | .add=>some (.int k (wrapx k (a+b)))
    | .sub=>some (.int k (wrapx k (a-b)))
    | .mul=>some (.int k (wrapx k (a*b)))
    | .quo=>match b==0 with
     | true=>none
     | false=>some (.int k (wrapx k (a.tdiv b)))
    | .rem=>match b==0 with
     | true=>none
     | false=>some (.int k (a.tmod b))
    | .and | .or | .xor | .andNot=>xbits op k a b
    | op=>xcmp op a b
 | .str a,.str b=>
  match op with
  | .add=>match Nat.ble (a.length+b.length) ze with
   | true=>some (.str (a++b))
   | false=>none
  | .eql=>some (.bool (seqb a b))
  | .neq=>some (.bool (!seqb a b))
  | .lss=>some (.bool (slt a b))
  | .leq=>some (.bool (slt a b||seqb a b))
  | .gtr=>some (.bool (!(slt a b||seqb a b)))
  | .geq=>some (.bool (!slt a b))
  | _=>none
 | _,_=>none
def bneg (neg b:Bool):AV:=.bool (match neg with | true=>!b | false=>b)
def zN1:Option HO->Bool
 | some (.cells false _)=>true
 | _=>false
def xpeq (H:Heap):AV->AV->Option Bool
 | .qm,.qm=>some true
 | .qm,.ptr _ _=>some false
 | .ptr _ _,.qm=>some false
 | .qm,.qf _ _=>some false
 | .qf _ _,.qm=>some false
 | .ptr h o,.ptr b c=>match zN1 (H.get h) with
  | true=>match zN1 (H.get b) with
   | true=>some (Nat.beq h b&&Nat.beq o c)
   | false=>none
  | false=>none
 | _,_=>none
def eqb:Kd->AV->AV->Option Bool
 | .b,.bool a,.bool b=>some (a==b)
 | .i,.int k a,.int d b=>match ksame k d with
  | true=>some (a==b)
  | false=>none
 | .s,.str a,.str b=>some (seqb a b)
 | _,_,_=>none
def eqbs:List Kd->List AV->List AV->Option Bool
 | [],[],[]=>some true
 | k::ks,a::x,b::y=>match eqb k a b with
  | some true=>eqbs ks x y
  | some false=>some false
  | none=>none
 | _,_,_=>none
def eqs (d:List Kd) (a b:List AV):Option Bool:=
 match Nat.beq a.length d.length,Nat.beq b.length d.length with
 | true,true=>eqbs d a b
 | _,_=>none
def eqk (e:Bool) (d:List Kd):AV->AV->Option Bool
 | .agg a,.agg b=>match e with
  | true=>eqs d a b
  | false=>none
 | a,b=>match e with
  | true=>none
  | false=>match d with
   | [k]=>eqb k a b
   | _=>none
def xieq (lit:Bool) (d:Nat->Option Kd):AV->AV->Option Bool
 | .qe,.qe=>match lit with | true=>some true | false=>none
 | .qe,.iface _ _=>some false
 | .iface _ _,.qe=>some false
 | .iface t a,.iface u b=>match Nat.beq t u with
  | false=>some false
  | true=>match d t with
   | some k=>eqb k a b
   | none=>none
 | _,_=>none
def xseq:AV->AV->Option Bool
 | .qa,.qa=>some true
 | .qa,.row _ _ _ _ _ _=>some false
 | .row _ _ _ _ _ _,.qa=>some false
 | .qa,.ql _ (_::_)=>some false
 | .ql _ (_::_),.qa=>some false
 | _,_=>none
def xmeq:AV->AV->Option Bool
 | .qj,.qj=>some true
 | .qj,.map _=>some false
 | .map _,.qj=>some false
 | _,_=>none
def xfeq:AV->AV->Option Bool
 | .qi,.qi=>some true
 | .qi,.func _ _ _=>some false
 | .func _ _ _,.qi=>some false
 | _,_=>none
def xun (op:UnOp):AV->Option AV
 | .int k n=>match op with
  | .neg=>some (.int k (wrapx k (0-n)))
  | .xor=>xbits .xor k n (if k.signed then -1 else k.max)
  | _=>none
 | .bool b=>match op with
  | .not=>some (.bool !b)
  | _=>none
 | _=>none
def part (cs:List AV) (off sz:Nat) (b:Bool):Option AV:=
 match b with
 | true=>match Nat.ble (off+sz) cs.length with
  | true=>some (.agg ((cs.drop off).take sz))
  | false=>none
 | false=>cs[off]?
def qk (cs:List AV) (off:Nat) (new:List AV):List AV:=cs.take off++new++cs.drop (off+new.length)
def cellsOf (v:AV) (sz:Nat):Option (List AV):=
 match v.flat with
 | true=>match Nat.beq v.cells.length sz with
  | true=>some v.cells
  | false=>none
 | false=>none
def fillx (G:Cx) (fr:Fr) (cs:List AV):List (Nat×Nat×XV)->Option (List AV)
 | []=>some cs
 | (off,b,x)::r=>match x.ev G fr with
  | some v=>match cellsOf v b with
   | some new=>match Nat.ble (off+b) cs.length with
    | true=>fillx G fr (qk cs off new) r
    | false=>none
   | none=>none
  | none=>none
def flatten (sz:Nat):List AV->Option (List AV)
 | []=>some []
 | e::r=>match cellsOf e sz with
  | some c=>match flatten sz r with
   | some b=>some (c++b)
   | none=>none
  | none=>none
def content (H:Heap) (sz:Nat):AV->Option (Nat×List AV)
 | .qa=>some (0,[])
 | .ql c e=>match Nat.beq sz c with
  | true=>match flatten sz e with
   | some d=>some (e.length,d)
   | none=>none
  | false=>none
 | .row h off len c _ _=>match Nat.beq sz c with
  | true=>match H.get h with
   | some (.cells _ d)=>match Nat.ble (off+len*sz) d.length with
    | true=>some (len,(d.drop off).take (len*sz))
    | false=>none
   | _=>none
  | false=>none
 | .str s=>match Nat.beq sz 1 with
  | true=>some (s.length,s.map λ b=>.int .u8 (.ofNat b))
  | false=>none
 | _=>none
def zd:Nat:=70368744177664
def xappend (H:Heap) (nx:Nat) (s y:AV) (sz bytes:Nat):Option Out:=
 match content H sz y with
 | none=>none
 | some (n,c)=>
  match s with
  | .qa=>match n with
   | 0=>some (.qa,H,nx)
   | n+1=>match Nat.ble ((n+1)*bytes) zd with
    | true=>some (.row nx 0 (n+1) sz (n+1) false,(nx,.cells false c)::H,nx+1)
    | false=>none
  | .row h off len d f e=>match Nat.beq sz d with
   | false=>none
   | true=>match H.get h with
    | some (.cells str b)=>match Nat.ble (off+len*sz) b.length with
     | false=>none
     | true=>match Nat.ble ((len+n)*bytes) zd&&Nat.ble (len+n) zd with
      | false=>none
      | true=>match Nat.ble (len+n) f with
       | true=>some (.row h off (len+n) sz f e,H.put h (.cells str (qk b (off+len*sz) c)),nx)
       | false=>match e with
        | true=>some (.row nx 0 (len+n) sz (len+n) false,(nx,.cells false ((b.drop off).take (len*sz)++c))::H,nx+1)
        | false=>match n with
         | 0=>some (s,H,nx)
         | _=>match off with
          | 0=>some (.row nx 0 (len+n) sz (len+n) false,(nx,.cells str (b.take (len*sz)++c))::H.del h,nx+1)
          | _=>none
    | _=>none
  | .ql z g=>match n with
   | 0=>some (.ql z g,H,nx)
   | _=>none
  | _=>none
def zEl (d:Bool) (e:List Kd):AV->Bool
 | .agg a=>d&&Nat.beq a.length e.length
 | .bool _ | .int _ _ | .str _=>!d&&Nat.beq e.length 1
 | _=>false
def mfind (e:Bool) (d:List Kd) (k:AV):List (AV×AV)->Option (Option AV)
 | []=>some none
 | (j,v)::r=>match eqk e d k j with
  | some true=>some (some v)
  | some false=>mfind e d k r
  | none=>none
def mput (e:Bool) (d:List Kd) (k v:AV):List (AV×AV)->Option (List (AV×AV))
 | []=>some [(k,v)]
 | (j,u)::r=>match eqk e d k j with
  | some true=>some ((k,v)::r)
  | some false=>match mput e d k v r with
   | some g=>some ((j,u)::g)
   | none=>none
  | none=>none
def mdel (e:Bool) (d:List Kd) (k:AV):List (AV×AV)->Option (List (AV×AV))
 | []=>some []
 | (j,u)::r=>match eqk e d k j with
  | some true=>some r
  | some false=>match mdel e d k r with
   | some g=>some ((j,u)::g)
   | none=>none
  | none=>none
def bnd (v:Option AV) (b top:Nat):Option Nat:=
 match v with
 | none=>some b
 | some (.int _ (.ofNat n))=>match Nat.ble n top with
  | true=>some n
  | false=>none
 | _=>none
def xslice (sz:Nat) (lo c d:Option AV):AV->Option AV
 | .qa=>match bnd d 0 0 with
  | some m=>match bnd c 0 m with
   | some h=>match bnd lo 0 h with
    | some _=>some .qa
    | none=>none
   | none=>none
  | none=>none
 | .ql b e=>match Nat.beq sz b with
  | false=>none
  | true=>match d with
   | some _=>none
   | none=>match bnd c e.length e.length with
    | some h=>match bnd lo 0 h with
     | some l=>some (.ql sz ((e.take h).drop l))
     | none=>none
    | none=>none
 | .row h off len b f g=>match Nat.beq sz b with
  | false=>none
  | true=>match d with
   | some m=>match bnd (some m) 0 f with
    | some m=>match bnd c len m with
     | some t=>match bnd lo 0 t with
      | some l=>some (.row h (off+l*sz) (t-l) sz (m-l) true)
      | none=>none
     | none=>none
    | none=>none
   | none=>match bnd c len (Nat.max len f) with
    | some t=>match bnd lo 0 t with
     | some l=>some (.row h (off+l*sz) (t-l) sz (Nat.max len f-l) g)
     | none=>none
    | none=>none
 | _=>none
def xload (H:Heap) (sz:Nat) (b:Bool):AV->Option AV
 | .ptr h off=>match H.get h with
  | some (.cells _ c)=>part c off sz b
  | _=>none
 | .qf e off=>part e.cells off sz b
 | _=>none
def idx (es:List AV):AV->Option AV
 | .int _ (.ofNat n)=>es[n]?
 | _=>none
def zFX (n:Nat):AV->Option Nat
 | .int _ (.ofNat i)=>match Nat.blt i n with
  | true=>some i
  | false=>none
 | _=>none
def xcopy (H:Heap) (nx:Nat) (d y:AV) (sz:Nat):Option Out:=
 match content H sz y with
 | none=>none
 | some (n,e)=>match d with
  | .qa=>some (.int .i64 0,H,nx)
  | .row h off len b _ _=>match Nat.beq sz b with
   | false=>none
   | true=>match H.get h with
    | some (.cells str c)=>match Nat.ble (off+len*sz) c.length with
     | true=>some (.int .i64 (.ofNat (Nat.min n len)),H.put h (.cells str (qk c off (e.take (Nat.min n len*sz)))),nx)
     | false=>none
    | _=>none
  | _=>none
def rep (n:Nat) (z:List AV):List AV:=match n with
 | 0=>[]
 | n+1=>z++rep n z
def zBg:List AV->Option (List Nat)
 | []=>some []
 | .int .u8 (.ofNat b)::r=>match zBg r with
  | some s=>some (b::s)
  | none=>none
 | _=>none
def rune (s:List Nat) (pos:Nat):Option Nat:=
 match s[pos]? with
 | some b=>match Nat.blt b 128 with
  | true=>some b
  | false=>none
 | none=>none
abbrev Call:=Nat->List AV->Heap->Nat->Option Out
def applyf (call:Call) (H:Heap) (nx:Nat) (args:List AV):AV->Option Out
 | .func (.func f) first b=>call f (first++args++b) H nx
 | _=>none
def bidx (b:Nat):Nat->List Nat->Int
 | _,[]=>-1
 | i,a::r=>match Nat.beq a b with
  | true=>.ofNat i
  | false=>bidx b (i+1) r
def bcnt (b:Nat):List Nat->Nat
 | []=>0
 | a::r=>match Nat.beq a b with
  | true=>bcnt b r+1
  | false=>bcnt b r
def xoS (G:Cx) (call:Call) (fr:Fr) (H:Heap) (nx:Nat):XO->Option Out
 | .bad=>none
 | .vu x=>match x.ev G fr with
  | some v=>some (v,H,nx)
  | none=>none
 | .pick c a b=>match c.ev G fr with
  | some (.bool true)=>match a.ev G fr with
   | some v=>some (v,H,nx)
   | none=>none
  | some (.bool false)=>match b.ev G fr with
   | some v=>some (v,H,nx)
   | none=>none
  | _=>none
 | .bin op x y=>match x.ev G fr,y.ev G fr with
  | some a,some b=>match xbin op a b with
   | some v=>some (v,H,nx)
   | none=>none
  | _,_=>none
 | .beq neg x y=>match x.ev G fr,y.ev G fr with
  | some (.bool a),some (.bool b)=>some (bneg neg (a==b),H,nx)
  | _,_=>none
 | .vJ neg x y=>match x.ev G fr,y.ev G fr with
  | some a,some b=>match xpeq H a b with
   | some v=>some (bneg neg v,H,nx)
   | none=>none
  | _,_=>none
 | .wF neg D x y=>match x.ev G fr,y.ev G fr with
  | some (.agg a),some (.agg b)=>match eqs D a b with
   | some v=>some (bneg neg v,H,nx)
   | none=>none
  | _,_=>none
 | .vK neg lit O x y=>match x.ev G fr,y.ev G fr with
  | some a,some b=>match xieq lit O a b with
   | some v=>some (bneg neg v,H,nx)
   | none=>none
  | _,_=>none
 | .seq neg x y=>match x.ev G fr,y.ev G fr with
  | some a,some b=>match xseq a b with
   | some v=>some (bneg neg v,H,nx)
   | none=>none
  | _,_=>none
 | .vQ neg x y=>match x.ev G fr,y.ev G fr with
  | some a,some b=>match xmeq a b with
   | some v=>some (bneg neg v,H,nx)
   | none=>none
  | _,_=>none
 | .vP neg x y=>match x.ev G fr,y.ev G fr with
  | some a,some b=>match xfeq a b with
   | some v=>some (bneg neg v,H,nx)
   | none=>none
  | _,_=>none
 | .un op x=>match x.ev G fr with
  | some a=>match xun op a with
   | some v=>some (v,H,nx)
   | none=>none
  | none=>none
 | .conv k x=>match x.ev G fr with
  | some (.int _ n)=>some (.int k (wrapx k n),H,nx)
  | _=>none
 | .vw x=>match x.ev G fr with
  | some (.str s)=>some (.row nx 0 s.length 1 s.length false,(nx,.cells true (s.map λ b=>.int .u8 (.ofNat b)))::H,nx+1)
  | _=>none
 | .ve x=>match x.ev G fr with
  | some (.str _)=>none
  | some v=>match content H 1 v with
   | some (_,j)=>match zBg j with
    | some s=>some (.str s,H,nx)
    | none=>none
   | none=>none
  | none=>none
 | .vX x=>match x.ev G fr with
  | some (.str s)=>some (.str s,H,nx)
  | _=>none
 | .mark x=>match x.ev G fr with
  | some (.row h off len g M N)=>match Nat.blt 0 len with
   | true=>match H.get h with
    | some (.cells _ j)=>some (.row h off len g M N,H.put h (.cells true j),nx)
    | _=>none
   | false=>none
  | _=>none
 | .w5 x c=>match x.ev G fr,c.ev G fr with
  | some (.str s),some (.int .u8 (.ofNat b))=>some (.int .i64 (bidx b 0 s),H,nx)
  | _,_=>none
 | .w6 x c=>match x.ev G fr,c.ev G fr with
  | some (.str s),some (.int .u8 (.ofNat b))=>some (.int .i64 (.ofNat (bcnt b s)),H,nx)
  | _,_=>none
 | .vU x off g q=>match x.ev G fr with
  | some (.agg j)=>match part j off g q with
   | some v=>some (v,H,nx)
   | none=>none
  | _=>none
 | .ext x i=>match x.ev G fr with
  | some (.qc F)=>match F[i]? with
   | some v=>some (v,H,nx)
   | none=>none
  | _=>none
 | .wI x i=>match x.ev G fr,i.ev G fr with
  | some (.str s),some (.int _ (.ofNat n))=>match s[n]? with
   | some b=>some (.int .u8 (.ofNat b),H,nx)
   | none=>none
  | _,_=>none
 | .qZ x i len g q=>match x.ev G fr,i.ev G fr with
  | some (.agg j),some i=>match zFX len i with
   | some n=>match part j (n*g) g q with
    | some v=>some (v,H,nx)
    | none=>none
   | none=>none
  | _,_=>none
 | .box x g=>match x.ev G fr with
  | some v=>match cellsOf v g with
   | some j=>some (.ptr nx 0,(nx,.cells false j)::H,nx+1)
   | none=>none
  | none=>none
 | .alloc z=>some (.ptr nx 0,(nx,.cells false z)::H,nx+1)
 | .build z J=>match fillx G fr z J with
  | some j=>some (.agg j,H,nx)
  | none=>none
 | .qD len g z J=>match fillx G fr z J with
  | some j=>some (.row nx 0 len g len true,(nx,.cells false j)::H,nx+1)
  | none=>none
 | .load x g q=>match x.ev G fr with
  | some a=>match xload H g q a with
   | some v=>some (v,H,nx)
   | none=>none
  | none=>none
 | .store a x g=>match a.ev G fr,x.ev G fr with
  | some (.ptr h off),some v=>match H.get h with
   | some (.cells str j)=>match cellsOf v g with
    | some new=>match Nat.ble (off+g) j.length with
     | true=>some (.qc [],H.put h (.cells str (qk j off new)),nx)
     | false=>none
    | none=>none
   | _=>none
  | _,_=>none
 | .wq x=>match x.ev G fr with
  | some (.ptr h o)=>some (.ptr h o,H,nx)
  | some (.qf e o)=>some (.qf e o,H,nx)
  | some (.iface t v)=>some (.iface t v,H,nx)
  | some (.func (.func f) a b)=>some (.func (.func f) a b,H,nx)
  | _=>none
 | .qP x off=>match x.ev G fr with
  | some (.ptr h o)=>some (.ptr h (o+off),H,nx)
  | some (.qf e o)=>some (.qf e (o+off),H,nx)
  | _=>none
 | .qB x i g=>match x.ev G fr,i.ev G fr with
  | some (.ql A p),some i=>match Nat.beq g A with
   | true=>match idx p i with
    | some e=>some (.qf e 0,H,nx)
    | none=>none
   | false=>none
  | some (.row h off len A _ _),some i=>match Nat.beq g A with
   | true=>match zFX len i with
    | some n=>some (.ptr h (off+n*g),H,nx)
    | none=>none
   | false=>none
  | _,_=>none
 | .qy x i len g=>match x.ev G fr,i.ev G fr with
  | some (.ptr h o),some i=>match zFX len i with
   | some n=>some (.ptr h (o+n*g),H,nx)
   | none=>none
  | some (.qf e o),some i=>match zFX len i with
   | some n=>some (.qf e (o+n*g),H,nx)
   | none=>none
  | _,_=>none
 | .wD x C B=>match x.ev G fr,evo G fr C,evo G fr B with
  | some (.str s),some C,some B=>match bnd B s.length s.length with
   | some h=>match bnd C 0 h with
    | some l=>some (.str ((s.take h).drop l),H,nx)
    | none=>none
   | none=>none
  | _,_,_=>none
 | .wv x C B K g=>match x.ev G fr,evo G fr C,evo G fr B,evo G fr K with
  | some v,some C,some B,some K=>match xslice g C B K v with
   | some v=>some (v,H,nx)
   | none=>none
  | _,_,_,_=>none
 | .vC x C B len g=>match x.ev G fr,evo G fr C,evo G fr B with
  | some (.ptr h off),some C,some B=>match H.get h with
   | some (.cells _ j)=>match Nat.ble (off+len*g) j.length with
    | true=>match bnd B len len with
     | some t=>match bnd C 0 t with
      | some l=>some (.row h (off+l*g) (t-l) g (len-l) true,H,nx)
      | none=>none
     | none=>none
    | false=>none
   | _=>none
  | _,_,_=>none
 | .w9 x=>match x.ev G fr with
  | some (.str s)=>some (.int .i64 (.ofNat s.length),H,nx)
  | _=>none
 | .wi x=>match x.ev G fr with
  | some .qa=>some (.int .i64 (.ofNat 0),H,nx)
  | some (.ql _ p)=>some (.int .i64 (.ofNat p.length),H,nx)
  | some (.row _ _ len _ _ _)=>some (.int .i64 (.ofNat len),H,nx)
  | _=>none
 | .vF x=>match x.ev G fr with
  | some .qj=>some (.int .i64 (.ofNat 0),H,nx)
  | some (.map h)=>match H.get h with
   | some (.map p)=>match Nat.ble p.length ze with
    | true=>some (.int .i64 (.ofNat p.length),H,nx)
    | false=>none
   | _=>none
  | _=>none
 | .wN n=>some (.int .i64 (.ofNat n),H,nx)
 | .cap x=>match x.ev G fr with
  | some .qa=>some (.int .i64 (.ofNat 0),H,nx)
  | some (.row _ _ _ _ M true)=>some (.int .i64 (.ofNat M),H,nx)
  | _=>none
 | .append x y g bytes=>match x.ev G fr,y.ev G fr with
  | some s,some y=>xappend H nx s y g bytes
  | _,_=>none
 | .copy x y g=>match x.ev G fr,y.ev G fr with
  | some d,some y=>xcopy H nx d y g
  | _,_=>none
 | .vO x g z=>match x.ev G fr with
  | some .qa=>some (.qc [],H,nx)
  | some (.row h off len A _ _)=>match Nat.beq g A with
   | false=>none
   | true=>match H.get h with
    | some (.cells str j)=>match Nat.ble (off+len*g) j.length with
     | true=>some (.qc [],H.put h (.cells str (qk j off (rep len z))),nx)
     | false=>none
    | _=>none
  | _=>none
 | .vR x=>match x.ev G fr with
  | some .qj=>some (.qc [],H,nx)
  | some (.map h)=>match H.get h with
   | some (.map _)=>some (.qc [],H.put h (.map []),nx)
   | _=>none
  | _=>none
 | .min x y=>match x.ev G fr,y.ev G fr with
  | some (.int k a),some (.int L b)=>match ksame k L with
   | true=>some (.int k (if b<a then b else a),H,nx)
   | false=>none
  | _,_=>none
 | .max x y=>match x.ev G fr,y.ev G fr with
  | some (.int k a),some (.int L b)=>match ksame k L with
   | true=>some (.int k (if b > a then b else a),H,nx)
   | false=>none
  | _,_=>none
 | .qK l c g bytes z=>match l.ev G fr,c.ev G fr with
  | some (.int _ (.ofNat l)),some (.int _ (.ofNat c))=>match Nat.ble l c with
   | true=>match Nat.ble (c*bytes) zd with
    | true=>match Nat.ble c zd with
     | true=>some (.row nx 0 l g c true,(nx,.cells false (rep c z))::H,nx+1)
     | false=>none
    | false=>none
   | false=>none
  | _,_=>none
 | .wj=>some (.map nx,(nx,.map [])::H,nx+1)
 | .lookup q D m k z ok=>match m.ev G fr,k.ev G fr with
  | some m,some k=>match zEl q D k with
   | false=>none
   | true=>match m with
    | .qj=>some (match ok with | true=>.qc [z,.bool false] | false=>z,H,nx)
    | .map h=>match H.get h with
     | some (.map p)=>match mfind q D k p with
      | some (some v)=>some (match ok with | true=>.qc [v,.bool true] | false=>v,H,nx)
      | some none=>some (match ok with | true=>.qc [z,.bool false] | false=>z,H,nx)
      | none=>none
     | _=>none
    | _=>none
  | _,_=>none
 | .wE q D m k v=>match m.ev G fr,k.ev G fr,v.ev G fr with
  | some (.map h),some k,some v=>match zEl q D k with
   | false=>none
   | true=>match H.get h with
    | some (.map p)=>match mput q D k v p with
     | some p=>some (.qc [],H.put h (.map p),nx)
     | none=>none
    | _=>none
  | _,_,_=>none
 | .del q D m k=>match m.ev G fr,k.ev G fr with
  | some m,some k=>match zEl q D k with
   | false=>none
   | true=>match m with
    | .qj=>some (.qc [],H,nx)
    | .map h=>match H.get h with
     | some (.map p)=>match mdel q D k p with
      | some p=>some (.qc [],H.put h (.map p),nx)
      | none=>none
     | _=>none
    | _=>none
  | _,_=>none
 | .wa fn first I=>match evs G fr first,evs G fr I with
  | some a,some b=>some (.func fn a b,H,nx)
  | _,_=>none
 | .wO t x=>match x.ev G fr with
  | some v=>some (.iface t v,H,nx)
  | none=>none
 | .vH x t ok z=>match x.ev G fr with
  | some (.iface u v)=>match Nat.beq u t with
   | true=>some (match ok with | true=>.qc [v,.bool true] | false=>v,H,nx)
   | false=>match ok with
    | true=>some (.qc [z,.bool false],H,nx)
    | false=>none
  | some .qe=>match ok with
   | true=>some (.qc [z,.bool false],H,nx)
   | false=>none
  | _=>none
 | .vD x=>match x.ev G fr with
  | some (.str s)=>some (.ptr nx 0,(nx,.wm s 0)::H,nx+1)
  | _=>none
 | .vj x=>match x.ev G fr with
  | some (.ptr h 0)=>match H.get h with
   | some (.wm s pos)=>match Nat.ble s.length ze with
    | true=>match Nat.blt pos s.length with
     | true=>match rune s pos with
      | some b=>some (.qc [.bool true,.int .i64 (.ofNat pos),.int .i32 (.ofNat b)],H.put h (.wm s (pos+1)),nx)
      | none=>none
     | false=>some (.qc [.bool false],H,nx)
    | false=>none
   | _=>none
  | _=>none
 | .call f args=>match evs G fr args with
  | some F=>call f F H nx
  | none=>none
 | .qL f args=>match f.ev G fr,evs G fr args with
  | some Q,some F=>applyf call H nx F Q
  | _,_=>none
 | .invoke r m args=>match r.ev G fr,evs G fr args with
  | some (.iface t v),some F=>match G.ui t m with
   | some f=>call f (v::F) H nx
   | none=>none
  | _,_=>none
def zPl  :Option Out:=
 none
def zYh (G:Cx) (fr:Fr) (H:Heap) (nx:Nat) (x:XV):Option Out:=
 match x.ev G fr with
 | some v=>some (v,H,nx)
 | none=>none
def zW1 (G:Cx) (fr:Fr) (H:Heap) (nx:Nat) (c:XV) (a:XV) (b:XV):Option Out:=
 match c.ev G fr with
 | some (.bool true)=>match a.ev G fr with
  | some v=>some (v,H,nx)
  | none=>none
 | some (.bool false)=>match b.ev G fr with
  | some v=>some (v,H,nx)
  | none=>none
 | _=>none
def zYi (G:Cx) (fr:Fr) (H:Heap) (nx:Nat) (op:BinOp) (x:XV) (y:XV):Option Out:=
 match x.ev G fr,y.ev G fr with
 | some a,some b=>match xbin op a b with
  | some v=>some (v,H,nx)
  | none=>none
 | _,_=>none
def zYj (G:Cx) (fr:Fr) (H:Heap) (nx:Nat) (neg:Bool) (x:XV) (y:XV):Option Out:=
 match x.ev G fr,y.ev G fr with
 | some (.bool a),some (.bool b)=>some (bneg neg (a==b),H,nx)
 | _,_=>none
def zYk (G:Cx) (fr:Fr) (H:Heap) (nx:Nat) (neg:Bool) (x:XV) (y:XV):Option Out:=
 match x.ev G fr,y.ev G fr with
 | some a,some b=>match xpeq H a b with
  | some v=>some (bneg neg v,H,nx)
  | none=>none
 | _,_=>none
def zYl (G:Cx) (fr:Fr) (H:Heap) (nx:Nat) (neg:Bool) (d:List Kd) (x:XV) (y:XV):Option Out:=
 match x.ev G fr,y.ev G fr with
 | some (.agg a),some (.agg b)=>match eqs d a b with
  | some v=>some (bneg neg v,H,nx)
  | none=>none
 | _,_=>none
def zYm (G:Cx) (fr:Fr) (H:Heap) (nx:Nat) (neg:Bool) (lit:Bool) (d:Nat->Option Kd) (x:XV) (y:XV):Option Out:=
 match x.ev G fr,y.ev G fr with
 | some a,some b=>match xieq lit d a b with
  | some v=>some (bneg neg v,H,nx)
  | none=>none
 | _,_=>none
def zYn (G:Cx) (fr:Fr) (H:Heap) (nx:Nat) (neg:Bool) (x:XV) (y:XV):Option Out:=
 match x.ev G fr,y.ev G fr with
 | some a,some b=>match xseq a b with
  | some v=>some (bneg neg v,H,nx)
  | none=>none
 | _,_=>none
def zYo (G:Cx) (fr:Fr) (H:Heap) (nx:Nat) (neg:Bool) (x:XV) (y:XV):Option Out:=
 match x.ev G fr,y.ev G fr with
 | some a,some b=>match xmeq a b with
  | some v=>some (bneg neg v,H,nx)
  | none=>none
 | _,_=>none
def zYp (G:Cx) (fr:Fr) (H:Heap) (nx:Nat) (neg:Bool) (x:XV) (y:XV):Option Out:=
 match x.ev G fr,y.ev G fr with
 | some a,some b=>match xfeq a b with
  | some v=>some (bneg neg v,H,nx)
  | none=>none
 | _,_=>none
def zY1 (G:Cx) (fr:Fr) (H:Heap) (nx:Nat) (op:UnOp) (x:XV):Option Out:=
 match x.ev G fr with
 | some a=>match xun op a with
  | some v=>some (v,H,nx)
  | none=>none
 | none=>none
def zW2 (G:Cx) (fr:Fr) (H:Heap) (nx:Nat) (k:IntKind) (x:XV):Option Out:=
 match x.ev G fr with
 | some (.int _ n)=>some (.int k (wrapx k n),H,nx)
 | _=>none
def zYq (G:Cx) (fr:Fr) (H:Heap) (nx:Nat) (x:XV):Option Out:=
 match x.ev G fr with
 | some (.str s)=>some (.row nx 0 s.length 1 s.length false,(nx,.cells true (s.map λ b=>.int .u8 (.ofNat b)))::H,nx+1)
 | _=>none
def zYr (G:Cx) (fr:Fr) (H:Heap) (nx:Nat) (x:XV):Option Out:=
 match x.ev G fr with
 | some (.str _)=>none
 | some v=>match content H 1 v with
  | some (_,b)=>match zBg b with
   | some s=>some (.str s,H,nx)
   | none=>none
  | none=>none
 | none=>none
def zYs (G:Cx) (fr:Fr) (H:Heap) (nx:Nat) (x:XV):Option Out:=
 match x.ev G fr with
 | some (.str s)=>some (.str s,H,nx)
 | _=>none
def zW3 (G:Cx) (fr:Fr) (H:Heap) (nx:Nat) (x:XV):Option Out:=
 match x.ev G fr with
 | some (.row h off len c e b)=>match Nat.blt 0 len with
  | true=>match H.get h with
   | some (.cells _ d)=>some (.row h off len c e b,H.put h (.cells true d),nx)
   | _=>none
  | false=>none
 | _=>none
def zW4 (G:Cx) (fr:Fr) (H:Heap) (nx:Nat) (x:XV) (c:XV):Option Out:=
 match x.ev G fr,c.ev G fr with
 | some (.str s),some (.int .u8 (.ofNat b))=>some (.int .i64 (bidx b 0 s),H,nx)
 | _,_=>none
def zW5 (G:Cx) (fr:Fr) (H:Heap) (nx:Nat) (x:XV) (c:XV):Option Out:=
 match x.ev G fr,c.ev G fr with
 | some (.str s),some (.int .u8 (.ofNat b))=>some (.int .i64 (.ofNat (bcnt b s)),H,nx)
 | _,_=>none
def zYt (G:Cx) (fr:Fr) (H:Heap) (nx:Nat) (x:XV) (off:Nat) (sz:Nat) (c:Bool):Option Out:=
 match x.ev G fr with
 | some (.agg b)=>match part b off sz c with
  | some v=>some (v,H,nx)
  | none=>none
 | _=>none
def zYu (G:Cx) (fr:Fr) (H:Heap) (nx:Nat) (x:XV) (i:Nat):Option Out:=
 match x.ev G fr with
 | some (.qc b)=>match b[i]? with
  | some v=>some (v,H,nx)
  | none=>none
 | _=>none
def zW6 (G:Cx) (fr:Fr) (H:Heap) (nx:Nat) (x:XV) (i:XV):Option Out:=
 match x.ev G fr,i.ev G fr with
 | some (.str s),some (.int _ (.ofNat n))=>match s[n]? with
  | some b=>some (.int .u8 (.ofNat b),H,nx)
  | none=>none
 | _,_=>none
def zW7 (G:Cx) (fr:Fr) (H:Heap) (nx:Nat) (x:XV) (i:XV) (len:Nat) (sz:Nat) (c:Bool):Option Out:=
 match x.ev G fr,i.ev G fr with
 | some (.agg b),some i=>match zFX len i with
  | some n=>match part b (n*sz) sz c with
   | some v=>some (v,H,nx)
   | none=>none
  | none=>none
 | _,_=>none
def zYv (G:Cx) (fr:Fr) (H:Heap) (nx:Nat) (x:XV) (sz:Nat):Option Out:=
 match x.ev G fr with
 | some v=>match cellsOf v sz with
  | some b=>some (.ptr nx 0,(nx,.cells false b)::H,nx+1)
  | none=>none
 | none=>none
def zVT (H:Heap) (nx:Nat) (z:List AV):Option Out:=
 some (.ptr nx 0,(nx,.cells false z)::H,nx+1)
def zVU (G:Cx) (fr:Fr) (H:Heap) (nx:Nat) (z:List AV) (ps:List (Nat×Nat×XV)):Option Out:=
 match fillx G fr z ps with
 | some b=>some (.agg b,H,nx)
 | none=>none
def zUz (G:Cx) (fr:Fr) (H:Heap) (nx:Nat) (len:Nat) (sz:Nat) (z:List AV) (ps:List (Nat×Nat×XV)):Option Out:=
 match fillx G fr z ps with
 | some b=>some (.row nx 0 len sz len true,(nx,.cells false b)::H,nx+1)
 | none=>none
def zW8 (G:Cx) (fr:Fr) (H:Heap) (nx:Nat) (x:XV) (sz:Nat) (b:Bool):Option Out:=
 match x.ev G fr with
 | some a=>match xload H sz b a with
  | some v=>some (v,H,nx)
  | none=>none
 | none=>none
def zVV (G:Cx) (fr:Fr) (H:Heap) (nx:Nat) (a:XV) (x:XV) (sz:Nat):Option Out:=
 match a.ev G fr,x.ev G fr with
 | some (.ptr h off),some v=>match H.get h with
  | some (.cells str b)=>match cellsOf v sz with
   | some new=>match Nat.ble (off+sz) b.length with
    | true=>some (.qc [],H.put h (.cells str (qk b off new)),nx)
    | false=>none
   | none=>none
  | _=>none
 | _,_=>none
def zUA (G:Cx) (fr:Fr) (H:Heap) (nx:Nat) (x:XV):Option Out:=
 match x.ev G fr with
 | some (.ptr h o)=>some (.ptr h o,H,nx)
 | some (.qf e o)=>some (.qf e o,H,nx)
 | some (.iface t v)=>some (.iface t v,H,nx)
 | some (.func (.func f) a b)=>some (.func (.func f) a b,H,nx)
 | _=>none
def zVW (G:Cx) (fr:Fr) (H:Heap) (nx:Nat) (x:XV) (off:Nat):Option Out:=
 match x.ev G fr with
 | some (.ptr h o)=>some (.ptr h (o+off),H,nx)
 | some (.qf e o)=>some (.qf e (o+off),H,nx)
 | _=>none
def zUB (G:Cx) (fr:Fr) (H:Heap) (nx:Nat) (x:XV) (i:XV) (sz:Nat):Option Out:=
 match x.ev G fr,i.ev G fr with
 | some (.ql b c),some i=>match Nat.beq sz b with
  | true=>match idx c i with
   | some e=>some (.qf e 0,H,nx)
   | none=>none
  | false=>none
 | some (.row h off len b _ _),some i=>match Nat.beq sz b with
  | true=>match zFX len i with
   | some n=>some (.ptr h (off+n*sz),H,nx)
   | none=>none
  | false=>none
 | _,_=>none
def zUC (G:Cx) (fr:Fr) (H:Heap) (nx:Nat) (x:XV) (i:XV) (len:Nat) (sz:Nat):Option Out:=
 match x.ev G fr,i.ev G fr with
 | some (.ptr h o),some i=>match zFX len i with
  | some n=>some (.ptr h (o+n*sz),H,nx)
  | none=>none
 | some (.qf e o),some i=>match zFX len i with
  | some n=>some (.qf e (o+n*sz),H,nx)
  | none=>none
 | _,_=>none
def zW9 (G:Cx) (fr:Fr) (H:Heap) (nx:Nat) (x:XV) (lo:Option XV) (b:Option XV):Option Out:=
 match x.ev G fr,evo G fr lo,evo G fr b with
 | some (.str s),some lo,some b=>match bnd b s.length s.length with
  | some h=>match bnd lo 0 h with
   | some l=>some (.str ((s.take h).drop l),H,nx)
   | none=>none
  | none=>none
 | _,_,_=>none
def zXa (G:Cx) (fr:Fr) (H:Heap) (nx:Nat) (x:XV) (lo:Option XV) (c:Option XV) (b:Option XV) (sz:Nat):Option Out:=
 match x.ev G fr,evo G fr lo,evo G fr c,evo G fr b with
 | some v,some lo,some c,some b=>match xslice sz lo c b v with
  | some v=>some (v,H,nx)
  | none=>none
 | _,_,_,_=>none
def zXb (G:Cx) (fr:Fr) (H:Heap) (nx:Nat) (x:XV) (lo:Option XV) (b:Option XV) (len:Nat) (sz:Nat):Option Out:=
 match x.ev G fr,evo G fr lo,evo G fr b with
 | some (.ptr h off),some lo,some b=>match H.get h with
  | some (.cells _ c)=>match Nat.ble (off+len*sz) c.length with
   | true=>match bnd b len len with
    | some t=>match bnd lo 0 t with
     | some l=>some (.row h (off+l*sz) (t-l) sz (len-l) true,H,nx)
     | none=>none
    | none=>none
   | false=>none
  | _=>none
 | _,_,_=>none
def zXc (G:Cx) (fr:Fr) (H:Heap) (nx:Nat) (x:XV):Option Out:=
 match x.ev G fr with
 | some (.str s)=>some (.int .i64 (.ofNat s.length),H,nx)
 | _=>none
def zXd (G:Cx) (fr:Fr) (H:Heap) (nx:Nat) (x:XV):Option Out:=
 match x.ev G fr with
 | some .qa=>some (.int .i64 (.ofNat 0),H,nx)
 | some (.ql _ b)=>some (.int .i64 (.ofNat b.length),H,nx)
 | some (.row _ _ len _ _ _)=>some (.int .i64 (.ofNat len),H,nx)
 | _=>none
def zXe (G:Cx) (fr:Fr) (H:Heap) (nx:Nat) (x:XV):Option Out:=
 match x.ev G fr with
 | some .qj=>some (.int .i64 (.ofNat 0),H,nx)
 | some (.map h)=>match H.get h with
  | some (.map b)=>match Nat.ble b.length ze with
   | true=>some (.int .i64 (.ofNat b.length),H,nx)
   | false=>none
  | _=>none
 | _=>none
def zXf (H:Heap) (nx:Nat) (n:Nat):Option Out:=
 some (.int .i64 (.ofNat n),H,nx)
def zYw (G:Cx) (fr:Fr) (H:Heap) (nx:Nat) (x:XV):Option Out:=
 match x.ev G fr with
 | some .qa=>some (.int .i64 (.ofNat 0),H,nx)
 | some (.row _ _ _ _ b true)=>some (.int .i64 (.ofNat b),H,nx)
 | _=>none
def zUD (G:Cx) (fr:Fr) (H:Heap) (nx:Nat) (x:XV) (y:XV) (sz:Nat) (bytes:Nat):Option Out:=
 match x.ev G fr,y.ev G fr with
 | some s,some y=>xappend H nx s y sz bytes
 | _,_=>none
def zXg (G:Cx) (fr:Fr) (H:Heap) (nx:Nat) (x:XV) (y:XV) (sz:Nat):Option Out:=
 match x.ev G fr,y.ev G fr with
 | some d,some y=>xcopy H nx d y sz
 | _,_=>none
def zXh (G:Cx) (fr:Fr) (H:Heap) (nx:Nat) (x:XV) (sz:Nat) (z:List AV):Option Out:=
 match x.ev G fr with
 | some .qa=>some (.qc [],H,nx)
 | some (.row h off len b _ _)=>match Nat.beq sz b with
  | false=>none
  | true=>match H.get h with
   | some (.cells str c)=>match Nat.ble (off+len*sz) c.length with
    | true=>some (.qc [],H.put h (.cells str (qk c off (rep len z))),nx)
    | false=>none
   | _=>none
 | _=>none
def zXi (G:Cx) (fr:Fr) (H:Heap) (nx:Nat) (x:XV):Option Out:=
 match x.ev G fr with
 | some .qj=>some (.qc [],H,nx)
 | some (.map h)=>match H.get h with
  | some (.map _)=>some (.qc [],H.put h (.map []),nx)
  | _=>none
 | _=>none
def zYx (G:Cx) (fr:Fr) (H:Heap) (nx:Nat) (x:XV) (y:XV):Option Out:=
 match x.ev G fr,y.ev G fr with
 | some (.int k a),some (.int c b)=>match ksame k c with
  | true=>some (.int k (if b<a then b else a),H,nx)
  | false=>none
 | _,_=>none
def zYy (G:Cx) (fr:Fr) (H:Heap) (nx:Nat) (x:XV) (y:XV):Option Out:=
 match x.ev G fr,y.ev G fr with
 | some (.int k a),some (.int c b)=>match ksame k c with
  | true=>some (.int k (if b > a then b else a),H,nx)
  | false=>none
 | _,_=>none
def zTO (G:Cx) (fr:Fr) (H:Heap) (nx:Nat) (l:XV) (c:XV) (sz:Nat) (bytes:Nat) (z:List AV):Option Out:=
 match l.ev G fr,c.ev G fr with
 | some (.int _ (.ofNat l)),some (.int _ (.ofNat c))=>match Nat.ble l c with
  | true=>match Nat.ble (c*bytes) zd with
   | true=>match Nat.ble c zd with
    | true=>some (.row nx 0 l sz c true,(nx,.cells false (rep c z))::H,nx+1)
    | false=>none
   | false=>none
  | false=>none
 | _,_=>none
def zVX (H:Heap) (nx:Nat) :Option Out:=
 some (.map nx,(nx,.map [])::H,nx+1)
def zUE (G:Cx) (fr:Fr) (H:Heap) (nx:Nat) (e:Bool) (d:List Kd) (m:XV) (k:XV) (z:AV) (ok:Bool):Option Out:=
 match m.ev G fr,k.ev G fr with
 | some m,some k=>match zEl e d k with
  | false=>none
  | true=>match m with
   | .qj=>some (match ok with | true=>.qc [z,.bool false] | false=>z,H,nx)
   | .map h=>match H.get h with
    | some (.map g)=>match mfind e d k g with
     | some (some v)=>some (match ok with | true=>.qc [v,.bool true] | false=>v,H,nx)
     | some none=>some (match ok with | true=>.qc [z,.bool false] | false=>z,H,nx)
     | none=>none
    | _=>none
   | _=>none
 | _,_=>none
def zXj (G:Cx) (fr:Fr) (H:Heap) (nx:Nat) (g:Bool) (e:List Kd) (m:XV) (k:XV) (v:XV):Option Out:=
 match m.ev G fr,k.ev G fr,v.ev G fr with
 | some (.map h),some k,some v=>match zEl g e k with
  | false=>none
  | true=>match H.get h with
   | some (.map d)=>match mput g e k v d with
    | some d=>some (.qc [],H.put h (.map d),nx)
    | none=>none
   | _=>none
 | _,_,_=>none
def zYz (G:Cx) (fr:Fr) (H:Heap) (nx:Nat) (g:Bool) (e:List Kd) (m:XV) (k:XV):Option Out:=
 match m.ev G fr,k.ev G fr with
 | some m,some k=>match zEl g e k with
  | false=>none
  | true=>match m with
   | .qj=>some (.qc [],H,nx)
   | .map h=>match H.get h with
    | some (.map d)=>match mdel g e k d with
     | some d=>some (.qc [],H.put h (.map d),nx)
     | none=>none
    | _=>none
   | _=>none
 | _,_=>none
def zUF (G:Cx) (fr:Fr) (H:Heap) (nx:Nat) (fn:Fn) (first:List XV) (c:List XV):Option Out:=
 match evs G fr first,evs G fr c with
 | some a,some b=>some (.func fn a b,H,nx)
 | _,_=>none
def zXk (G:Cx) (fr:Fr) (H:Heap) (nx:Nat) (t:Nat) (x:XV):Option Out:=
 match x.ev G fr with
 | some v=>some (.iface t v,H,nx)
 | none=>none
def zYA (G:Cx) (fr:Fr) (H:Heap) (nx:Nat) (x:XV) (t:Nat) (ok:Bool) (z:AV):Option Out:=
 match x.ev G fr with
 | some (.iface u v)=>match Nat.beq u t with
  | true=>some (match ok with | true=>.qc [v,.bool true] | false=>v,H,nx)
  | false=>match ok with
   | true=>some (.qc [z,.bool false],H,nx)
   | false=>none
 | some .qe=>match ok with
  | true=>some (.qc [z,.bool false],H,nx)
  | false=>none
 | _=>none
def zXl (G:Cx) (fr:Fr) (H:Heap) (nx:Nat) (x:XV):Option Out:=
 match x.ev G fr with
 | some (.str s)=>some (.ptr nx 0,(nx,.wm s 0)::H,nx+1)
 | _=>none
def zVY (G:Cx) (fr:Fr) (H:Heap) (nx:Nat) (x:XV):Option Out:=
 match x.ev G fr with
 | some (.ptr h 0)=>match H.get h with
  | some (.wm s pos)=>match Nat.ble s.length ze with
   | true=>match Nat.blt pos s.length with
    | true=>match rune s pos with
     | some b=>some (.qc [.bool true,.int .i64 (.ofNat pos),.int .i32 (.ofNat b)],H.put h (.wm s (pos+1)),nx)
     | none=>none
    | false=>some (.qc [.bool false],H,nx)
   | false=>none
  | _=>none
 | _=>none
def zXm (G:Cx) (call:Call) (fr:Fr) (H:Heap) (nx:Nat) (f:Nat) (args:List XV):Option Out:=
 match evs G fr args with
 | some b=>call f b H nx
 | none=>none
def zVZ (G:Cx) (call:Call) (fr:Fr) (H:Heap) (nx:Nat) (f:XV) (args:List XV):Option Out:=
 match f.ev G fr,evs G fr args with
 | some c,some b=>applyf call H nx b c
 | _,_=>none
def zUG (G:Cx) (call:Call) (fr:Fr) (H:Heap) (nx:Nat) (r:XV) (m:String) (args:List XV):Option Out:=
 match r.ev G fr,evs G fr args with
 | some (.iface t v),some b=>match G.ui t m with
  | some f=>call f (v::b) H nx
  | none=>none
 | _,_=>none
def xo (G:Cx) (call:Call) (fr:Fr) (H:Heap) (nx:Nat):XO->Option Out
 | .bad=>zPl
 | .vu x=>zYh G fr H nx x
 | .pick c a b=>zW1 G fr H nx c a b
 | .bin op x y=>zYi G fr H nx op x y
 | .beq neg x y=>zYj G fr H nx neg x y
 | .vJ neg x y=>zYk G fr H nx neg x y
 | .wF neg g x y=>zYl G fr H nx neg g x y
 | .vK neg lit q x y=>zYm G fr H nx neg lit q x y
 | .seq neg x y=>zYn G fr H nx neg x y
 | .vQ neg x y=>zYo G fr H nx neg x y
 | .vP neg x y=>zYp G fr H nx neg x y
 | .un op x=>zY1 G fr H nx op x
 | .conv k x=>zW2 G fr H nx k x
 | .vw x=>zYq G fr H nx x
 | .ve x=>zYr G fr H nx x
 | .vX x=>zYs G fr H nx x
 | .mark x=>zW3 G fr H nx x
 | .w5 x c=>zW4 G fr H nx x c
 | .w6 x c=>zW5 G fr H nx x c
 | .vU x off d e=>zYt G fr H nx x off d e
 | .ext x i=>zYu G fr H nx x i
 | .wI x i=>zW6 G fr H nx x i
 | .qZ x i len d e=>zW7 G fr H nx x i len d e
 | .box x d=>zYv G fr H nx x d
 | .alloc z=>zVT H nx z
 | .build z p=>zVU G fr H nx z p
 | .qD len d z p=>zUz G fr H nx len d z p
 | .load x d e=>zW8 G fr H nx x d e
 | .store a x d=>zVV G fr H nx a x d
 | .wq x=>zUA G fr H nx x
 | .qP x off=>zVW G fr H nx x off
 | .qB x i d=>zUB G fr H nx x i d
 | .qy x i len d=>zUC G fr H nx x i len d
 | .wD x o h=>zW9 G fr H nx x o h
 | .wv x o h s d=>zXa G fr H nx x o h s d
 | .vC x o h len d=>zXb G fr H nx x o h len d
 | .w9 x=>zXc G fr H nx x
 | .wi x=>zXd G fr H nx x
 | .vF x=>zXe G fr H nx x
 | .wN n=>zXf H nx n
 | .cap x=>zYw G fr H nx x
 | .append x y d bytes=>zUD G fr H nx x y d bytes
 | .copy x y d=>zXg G fr H nx x y d
 | .vO x d z=>zXh G fr H nx x d z
 | .vR x=>zXi G fr H nx x
 | .min x y=>zYx G fr H nx x y
 | .max x y=>zYy G fr H nx x y
 | .qK l c d bytes z=>zTO G fr H nx l c d bytes z
 | .wj=>zVX H nx
 | .lookup e g m k z ok=>zUE G fr H nx e g m k z ok
 | .wE e g m k v=>zXj G fr H nx e g m k v
 | .del e g m k=>zYz G fr H nx e g m k
 | .wa fn first j=>zUF G fr H nx fn first j
 | .wO t x=>zXk G fr H nx t x
 | .vH x t ok z=>zYA G fr H nx x t ok z
 | .vD x=>zXl G fr H nx x
 | .vj x=>zVY G fr H nx x
 | .call f args=>zXm G call fr H nx f args
 | .qL f args=>zVZ G call fr H nx f args
 | .invoke r m args=>zUG G call fr H nx r m args
theorem zHZ {G:Cx} {call:Call} {fr:Fr} {H:Heap} {nx:Nat} {o:XO}:xo G call fr H nx o=xoS G call fr H nx o:=by cases o <;> rfl
def qv (fr:Fr) (d:Option Nat) (v:AV):Fr:=
 match d with
 | some n=>fr.put n v
 | none=>fr
def wantx (fr:Fr):Option (Nat×Bool)->Option Bool
 | none=>some true
 | some (s,b)=>match fr.get s with
  | some (.bool c)=>some (match c,b with | true,true=>true | false,false=>true | _,_=>false)
  | some (.qc [])=>some false
  | _=>none
def zUH (G:Cx) (call:Call):List XOper->Fr->Heap->Nat->Option (Fr×Heap×Nat)
 | [],fr,H,nx=>some (fr,H,nx)
 | o::r,fr,H,nx=>match wantx fr o.guard with
  | some true=>match xo G call fr H nx o.op with
   | some (v,H',nx')=>zUH G call r (qv fr o.dst v) H' nx'
   | none=>none
  | some false=>zUH G call r (qv fr o.dst (.qc [])) H nx
  | none=>none
inductive Ext where
 | normal
 | exit (id:Nat)
 | ret
abbrev St:=Fr×Heap×Nat
def allb (f:AV->AV->Bool):List AV->List AV->Bool
 | [],[]=>true
 | a::x,b::y=>match f a b with
  | true=>allb f x y
  | false=>false
 | _,_=>false
def wF:Nat->AV->AV->Bool
 | 0,_,_=>false
 | d+1,a,b=>match a,b with
  | .bool a,.bool b=>a==b
  | .int k a,.int B b=>match ksame k B with | true=>a==b | false=>false
  | .str a,.str b=>seqb a b
  | .qm,.qm=>true
  | .ptr h o,.ptr p u=>Nat.beq h p&&Nat.beq o u
  | .qf e o,.qf r u=>wF d e r&&Nat.beq o u
  | .qa,.qa=>true
  | .ql n a,.ql m b=>Nat.beq n m&&allb (wF d) a b
  | .row a b c e f g,.row q l y r s A=>Nat.beq a q&&Nat.beq b l&&Nat.beq c y&&Nat.beq e r&&Nat.beq f s&&g==A
  | .qj,.qj=>true
  | .map h,.map p=>Nat.beq h p
  | .qi,.qi=>true
  | .func (.func f) a b,.func (.func s) q l=>Nat.beq f s&&allb (wF d) a q&&allb (wF d) b l
  | .qe,.qe=>true
  | .iface t v,.iface z x=>Nat.beq t z&&wF d v x
  | .agg a,.agg b=>allb (wF d) a b
  | .qc a,.qc b=>allb (wF d) a b
  | .sym i,.sym j=>Nat.beq i j
  | _,_=>false
def z0:XO->Nat
 | .vu _ | .pick _ _ _ | .bin _ _ _ | .beq _ _ _ | .wF _ _ _ _ | .vK _ _ _ _ _ | .w5 _ _ | .w6 _ _ | .seq _ _ _ | .vQ _ _ _ | .vP _ _ _ | .un _ _ | .conv _ _ | .vX _ | .vU _ _ _ _ | .ext _ _ | .wI _ _ | .qZ _ _ _ _ _ | .build _ _ | .wq _
 | .qP _ _ | .qB _ _ _ | .qy _ _ _ _ | .wD _ _ _ | .wv _ _ _ _ _ | .w9 _ | .wi _ | .wN _ | .cap _ | .min _ _ | .max _ _ | .wa _ _ _ | .wO _ _ | .vH _ _ _ _=>0
 | .vJ _ _ _ | .ve _ | .load _ _ _ | .vC _ _ _ _ _ | .vF _ | .lookup _ _ _ _ _ _=>1
 | .vw _ | .box _ _ | .alloc _ | .qD _ _ _ _ | .qK _ _ _ _ _ | .wj | .vD _=>2
 | _=>3
structure DRead where
 i:Nat
 op:XO
 fr:Fr
 qd:Nat
 v:AV
structure DS where
 fr:Fr
 nx:Nat
 ms:List (Heap×Nat)
 ch:List (Nat×Nat)
 al:List (Nat×Nat×HO)
 rd:List DRead
 tr:List (Nat×Option Nat×AV)
def within (f:Nat->Bool):List (Nat×Nat×HO)->Heap
 | []=>[]
 | (i,h,o)::r=>match f i with
  | true=>(h,o)::within f r
  | false=>within f r
def zB9 (mask:Nat):List (Nat×Nat×HO)->Nat
 | []=>0
 | (i,_,_)::r=>match mask.testBit i with
  | true=>2 ^ i ||| zB9 mask r
  | false=>zB9 mask r
def but (mask inc:Nat) (i:Nat):Bool:=mask.testBit i&&!inc.testBit i
def zg:Call:=λ _ _ _ _=>none
def only:List Nat->Fr->Fr
 | [],_=>[]
 | t::ts,fr=>match fr.get t with
  | some v=>(t,v)::only ts fr
  | none=>only ts fr
def zDL (G:Cx) (call:Call) (i:Nat) (o:XOper) (d:XD) (s:DS):Option DS:=
 let fr:=only d.looks s.fr
 match wantx fr o.guard with
 | some false=>some { s with fr:=qv s.fr o.dst (.qc []),tr:=(i,o.dst,.qc [])::s.tr }
 | some true=>match z0 o.op with
  | 0=>match xo G zg fr [] s.nx o.op with
   | some (v,[],n)=>match Nat.beq n s.nx with
    | true=>some { s with fr:=qv s.fr o.dst v,tr:=(i,o.dst,v)::s.tr }
    | false=>none
   | _=>none
  | 1=>match s.ms with
   | (m,inc)::_=>match xo G zg fr (within (but d.qd inc) s.al++m) s.nx o.op with
    | some (v,_,_)=>some { s with fr:=qv s.fr o.dst v,rd:=⟨i,o.op,fr,d.qd,v⟩::s.rd,tr:=(i,o.dst,v)::s.tr }
    | none=>none
   | []=>none
  | 2=>match xo G zg fr [] s.nx o.op with
   | some (v,[(h,ob)],n)=>match Nat.beq n (h+1) with
    | true=>match Nat.beq h s.nx with
     | true=>some { s with fr:=qv s.fr o.dst v,nx:=n,al:=(i,h,ob)::s.al,tr:=(i,o.dst,v)::s.tr }
     | false=>none
    | false=>none
   | some (v,[],n)=>match Nat.beq n s.nx with
    | true=>some { s with fr:=qv s.fr o.dst v,tr:=(i,o.dst,v)::s.tr }
    | false=>none
   | _=>none
  | _=>match s.ms with
   | (m,inc)::_=>match s.ch.all λ c=>d.qd.testBit c.1 with
    | true=>match xo G call fr (within (but d.qd inc) s.al++m) s.nx o.op with
     | some (v,b,n)=>some { s with fr:=qv s.fr o.dst v,nx:=n,ms:=(b,inc ||| zB9 d.qd s.al)::s.ms,ch:=(i,d.qd)::s.ch,tr:=(i,o.dst,v)::s.tr }
     | none=>none
    | false=>none
   | []=>none
 | none=>none
def zCa (G:Cx) (call:Call):Nat->List XOper->List XD->DS->Option DS
 | _,[],_,s=>some s
 | i,o::r,d::ds,s=>match zDL G call i o d s with
  | some b=>zCa G call (i+1) r ds b
  | none=>none
 | _,_::_,[],_=>none
open Classical in
noncomputable def eqC (a b:AV):Bool:=decide (a=b)
open Classical in
theorem zRH (a:AV):eqC a a=true:=QI rfl
open Classical in
theorem zYB {a b:AV} (h:eqC a b=true):a=b:=QS h
noncomputable section
def zEO (G:Cx) (al:List (Nat×Nat×HO)) (nx:Nat) (r:DRead) (m:Heap) (inc:Nat):Bool:=
 match xo G zg r.fr (within (but r.qd inc) al++m) nx r.op with
 | some (v,_,_)=>eqC v r.v
 | none=>false
def zCU (G:Cx) (al:List (Nat×Nat×HO)) (nx:Nat) (r:DRead):List (Nat×Nat)->List (Heap×Nat)->Bool
 | (c,p)::ch,(m,inc)::ms=>
  match r.qd.testBit c with
  | true=>zEO G al nx r m inc
  | false=>match p.testBit r.i with
   | true=>zCU G al nx r ch ms
   | false=>match zEO G al nx r m inc with
    | true=>zCU G al nx r ch ms
    | false=>false
 | [],(m,inc)::_=>zEO G al nx r m inc
 | _,[]=>false
def zN2 (G:Cx) (call:Call) (ops:List XOper) (ds:List XD) (st:St):Option St:=
 match zCa G call 0 ops ds ⟨st.1,st.2.2,[(st.2.1,0)],[],[],[],[]⟩ with
 | some s=>match s.rd.all λ r=>zCU G s.al s.nx r s.ch s.ms with
  | true=>match s.ms with
   | (m,inc)::_=>some (s.fr,within (λ i=>!inc.testBit i) s.al++m,s.nx)
   | []=>none
  | false=>none
 | none=>none
def inN (n:Nat):List Nat->Bool
 | []=>false
 | a::r=>match Nat.beq n a with
  | true=>true
  | false=>inN n r
def zRs (H:Heap) (fr:Fr):XR->Option AV
 | .t n=>fr.get n
 | .cell n b c=>match fr.get n with
  | some a=>xload H b c a
  | none=>none
def ress (H:Heap) (fr:Fr):List XR->Option (List AV)
 | []=>some []
 | r::rs=>match zRs H fr r with
  | some v=>match ress H fr rs with
   | some b=>some (v::b)
   | none=>none
  | none=>none
def zC4:List AV->AV
 | [v]=>v
 | b=>.qc b
def qF (n:Nat):List AV->Fr
 | []=>[]
 | v::r=>(n,v)::qF (n+1) r
def chunks (sz:Nat):Nat->List AV->List AV
 | 0,_=>[]
 | n+1,b=>(match sz with
  | 1=>match b with
   | c::_=>c
   | []=>.qc []
  | _=>.agg (b.take sz))::chunks sz n (b.drop sz)
end
end Go.Sy
namespace Go.Sy
def cavs (f:Value->Option AV):List Value->Option (List AV)
 | []=>some []
 | v::r=>match f v with
  | some a=>match cavs f r with
   | some as=>some (a::as)
   | none=>none
  | none=>none
def inr:IntKind->Int->Bool
 | .i64,.ofNat m=>Nat.ble m 9223372036854775807
 | .i64,.negSucc m=>Nat.ble m 9223372036854775807
 | .i32,.ofNat m=>Nat.ble m 2147483647
 | .i32,.negSucc m=>Nat.ble m 2147483647
 | .i16,.ofNat m=>Nat.ble m 32767
 | .i16,.negSucc m=>Nat.ble m 32767
 | .i8,.ofNat m=>Nat.ble m 127
 | .i8,.negSucc m=>Nat.ble m 127
 | .u64,.ofNat m=>Nat.ble m 18446744073709551615
 | .u32,.ofNat m=>Nat.ble m 4294967295
 | .u16,.ofNat m=>Nat.ble m 65535
 | .u8,.ofNat m=>Nat.ble m 255
 | _,.negSucc _=>false
def cav:Nat->Value->Option AV
 | 0,_=>none
 | d+1,v=>match v with
  | .bool b=>some (.bool b)
  | .int k n=>match inr k n with
   | true=>some (.int k n)
   | false=>none
  | .string s=>match Nat.ble s.data.toList.length ze with
   | true=>some (.str (s.data.toList.map UInt8.toNat))
   | false=>none
  | .pointer none=>some .qm
  | .slice none 0 0=>some .qa
  | .map none=>some .qj
  | .nilFunc=>some .qi
  | .nilIface=>some .qe
  | .func (.func f) a b=>match a.toList,b.toList with
   | [],[]=>some (.func (.func f) [] [])
   | _,_=>none
  | .agg c=>match cavs (cav d) c.toList with
   | some l=>match l.all AV.one with
    | true=>some (.agg l)
    | false=>none
   | none=>none
  | _=>none
def copd:Operand->Option XV
 | .tmp t=>some (.t t)
 | .const v=>match cav 3 v with
  | some a=>some (.c a)
  | none=>none
 | .global g=>some (.g g)
 | .func f=>some (.c (.func (.func f) [] []))
def copds:List Operand->Option (List XV)
 | []=>some []
 | x::r=>match copd x,copds r with
  | some y,some s=>some (y::s)
  | _,_=>none
def copdo:Option Operand->Option (Option XV)
 | none=>some none
 | some x=>match copd x with
  | some y=>some (some y)
  | none=>none
def zM (P:Program) (t:TypeId):Option Nat:=(P.info? t).map (·.size)
def zJd (P:Program) (t:TypeId):Option Nat:=(P.info? t).map (·.bytes)
def agT (P:Program) (t:TypeId):Option Bool:=match P.underlying t with
 | some (.struct _) | some (.array _ _)=>some true
 | some _=>some false
 | none=>none
def zMi (P:Program) (t:TypeId):Option AV:=match P.info? t with
 | some i=>match i.zero with
  | some v=>cav 3 v
  | none=>none
 | none=>none
def zEm (P:Program) (t:TypeId):Option (List AV):=match zMi P t with
 | some v=>match v.flat,zM P t with
  | true,some n=>match Nat.beq v.cells.length n with
   | true=>some v.cells
   | false=>none
  | _,_=>none
 | none=>none
def zKq (P:Program) (f:TypeId->Option (List Kd)):Nat->List Field->Option (List Kd)
 | _,[]=>some []
 | n,x::r=>match x.name == "_",Nat.beq x.offset n,f x.type,zM P x.type with
  | false,true,some d,some s=>match Nat.beq d.length s with
   | true=>match zKq P f (n+s) r with
    | some rs=>some (d++rs)
    | none=>none
   | false=>none
  | _,_,_,_=>none
def zCh (P:Program):Nat->TypeId->Option (List Kd)
 | 0,_=>none
 | d+1,t=>match P.underlying t with
  | some .bool=>some [.b]
  | some (.int _)=>some [.i]
  | some .string=>some [.s]
  | some (.struct e)=>match P.stoodInHeld t with
   | true=>none
   | false=>zKq P (zCh P d) 0 e.toList
  | _=>none
def zN3 (P:Program) (t:TypeId):Option Kd:=match P.info? t with
 | some i=>match i.comparable with
  | true=>match P.underlying t with
   | some .bool=>some .b
   | some (.int _)=>some .i
   | some .string=>some .s
   | _=>none
  | false=>none
 | none=>none
def extK (fn:Func) (as:List XV):Option XO:=match fn.origin == "",as with
 | true,[x,y]=>match fn.name == "internal/bytealg.IndexByteString" with
  | true=>some (.w5 x y)
  | false=>match fn.name == "internal/bytealg.CountString" with
   | true=>some (.w6 x y)
   | false=>none
 | _,_=>none
def zBG:Operand->Bool
 | .const _=>true
 | _=>false
def cparts (place:Nat->Option (Nat×Nat)):List (Nat×Operand)->Option (List (Nat×Nat×XV))
 | []=>some []
 | (i,x)::r=>match place i,copd x,cparts place r with
  | some (off,b),some y,some s=>some ((off,b,y)::s)
  | _,_,_=>none
def cfields (P:Program) (t:TypeId):Option (Array Field):=match P.underlying t with
 | some (.struct b)=>some b
 | _=>none
def obind {α β:Type} (x:Option α) (f:α->Option β):Option β:=match x with
 | some a=>f a
 | none=>none
def zTd (P:Program) (op:BinOp) (t:TypeId) (x y:Operand):Option XO:=
 obind (copd x) λ a=>obind (copd y) λ b=>
 match P.underlying t with
 | some (.int _) | some .string=>some (.bin op a b)
 | some .bool=>match op with
  | .eql=>some (.beq false a b)
  | .neq=>some (.beq true a b)
  | _=>none
 | some (.pointer e)=>match op with
  | .eql=>match zM P e with | some 0=>none | some _=>some (.vJ false a b) | none=>none
  | .neq=>match zM P e with | some 0=>none | some _=>some (.vJ true a b) | none=>none
  | _=>none
 | some (.struct _)=>match zCh P 6 t,P.eqGuardType P.depth t with
  | some c,false=>match op with
   | .eql=>some (.wF false c a b)
   | .neq=>some (.wF true c a b)
   | _=>none
  | _,_=>none
 | some (.interface _)=>match op with
  | .eql=>some (.vK false (zBG x||zBG y) (zN3 P) a b)
  | .neq=>some (.vK true (zBG x||zBG y) (zN3 P) a b)
  | _=>none
 | some (.slice _)=>match op with
  | .eql=>some (.seq false a b)
  | .neq=>some (.seq true a b)
  | _=>none
 | some (.map _ _)=>match op with
  | .eql=>some (.vQ false a b)
  | .neq=>some (.vQ true a b)
  | _=>none
 | some (.func _ _ _)=>match op with
  | .eql=>some (.vP false a b)
  | .neq=>some (.vP true a b)
  | _=>none
 | _=>none
def zRI (P:Program) (s d:TypeId) (x:Operand):Option XO:=
 obind (copd x) λ a=>
 match P.underlying s,P.underlying d with
 | some (.int _),some (.int k)=>some (.conv k a)
 | some .string,some .string=>some (.vX a)
 | some .string,some (.slice e)=>match P.underlying e with
  | some (.int .u8)=>some (.vw a)
  | _=>none
 | some (.slice e),some .string=>match P.underlying e with
  | some (.int .u8)=>some (.ve a)
  | _=>none
 | some (.slice _),some (.slice e)=>match Nat.beq s d with
  | true=>match P.underlying e with
   | some (.int .u8)=>some (.mark a)
   | _=>none
  | false=>none
 | _,_=>none
def keyT (P:Program) (t:TypeId):Option (Bool×List Kd):=obind (zCh P 6 t) λ d=>obind (agT P t) λ g=>some (g,d)
def zLz (P:Program) (b:Builtin) (args:List Operand) (ts:List TypeId):Option XO:=
 match b,args,ts with
 | .len,[x],[t]=>obind (copd x) λ a=>match P.underlying t with
  | some .string=>some (.w9 a)
  | some (.slice _)=>some (.wi a)
  | some (.map _ _)=>some (.vF a)
  | some (.array n _)=>match Nat.ble n ze with
   | true=>some (.wN n)
   | false=>none
  | some (.pointer e)=>match P.underlying e with
   | some (.array n _)=>match Nat.ble n ze with
    | true=>some (.wN n)
    | false=>none
   | _=>none
  | _=>none
 | .cap,[x],[t]=>obind (copd x) λ a=>match P.underlying t with
  | some (.slice _)=>some (.cap a)
  | _=>none
 | .append,[x,y],[t,u]=>obind (copd x) λ a=>obind (copd y) λ b=>match P.underlying t,P.underlying u with
  | some (.slice e),some (.slice _)=>obind (zM P e) λ s=>obind (zJd P e) λ n=>obind (zEm P e) λ _=>match s with | 0=>none | s+1=>some (.append a b (s+1) n)
  | some (.slice e),some .string=>obind (zM P e) λ s=>obind (zJd P e) λ n=>obind (zEm P e) λ _=>match s with | 1=>some (.append a b 1 n) | _=>none
  | _,_=>none
 | .copy,[x,y],[t,_]=>obind (copd x) λ a=>obind (copd y) λ b=>match P.underlying t with
  | some (.slice e)=>obind (zM P e) λ s=>match s with | 0=>none | s+1=>some (.copy a b (s+1))
  | _=>none
 | .clear,[x],[t]=>obind (copd x) λ a=>match P.underlying t with
  | some (.slice e)=>obind (zM P e) λ s=>obind (zEm P e) λ z=>match s with | 0=>none | s+1=>some (.vO a (s+1) z)
  | some (.map _ _)=>some (.vR a)
  | _=>none
 | .min,[x,y],[t,_]=>obind (copd x) λ a=>obind (copd y) λ b=>match P.underlying t with
  | some (.int _)=>some (.min a b)
  | _=>none
 | .max,[x,y],[t,_]=>obind (copd x) λ a=>obind (copd y) λ b=>match P.underlying t with
  | some (.int _)=>some (.max a b)
  | _=>none
 | .delete,[m,k],[t,_]=>obind (copd m) λ a=>obind (copd k) λ b=>match P.underlying t with
  | some (.map c _)=>obind (keyT P c) λ k=>some (.del k.1 k.2 a b)
  | _=>none
 | _,_,_=>none
def zCb (P:Program):Op->Option XO
 | .move x | .assign x=>obind (copd x) λ a=>some (.vu a)
 | .pick c a b=>obind (copd c) λ c=>obind (copd a) λ a=>obind (copd b) λ b=>some (.pick c a b)
 | .alloc e=>obind (zEm P e) λ z=>some (.alloc z)
 | .box e v=>obind (copd v) λ a=>obind (zM P e) λ s=>some (.box a s)
 | .build t h=>obind (zEm P t) λ z=>match P.underlying t with
  | some (.struct o)=>match o.toList.all λ f=>(zM P f.type).isSome with
   | true=>obind (cparts (λ i=>obind (o[i]?) λ f=>obind (zM P f.type) λ s=>some (f.offset,s)) h.toList) λ h=>some (.build z h)
   | false=>none
  | some (.array _ e)=>obind (zM P e) λ s=>obind (cparts (λ i=>some (i*s,s)) h.toList) λ h=>some (.build z h)
  | _=>none
 | .buildSlice t n h=>match P.underlying t with
  | some (.slice e)=>obind (zM P e) λ s=>obind (zEm P e) λ z=>match s with
   | 0=>none
   | s+1=>match Nat.ble (n*(s+1)) 16777216 with
    | true=>obind (cparts (λ i=>some (i*(s+1),s+1)) h.toList) λ h=>some (.qD n (s+1) (rep n z) h)
    | false=>none
  | _=>none
 | .load t a=>obind (copd a) λ a=>obind (zM P t) λ s=>obind (agT P t) λ g=>some (.load a s g)
 | .store t a v=>obind (copd a) λ a=>obind (copd v) λ v=>obind (zM P t) λ s=>some (.store a v s)
 | .nilCheck x=>obind (copd x) λ a=>some (.wq a)
 | .binOp op t x y _=>zTd P op t x y
 | .unOp op _ x=>obind (copd x) λ a=>some (.un op a)
 | .convert s d x=>zRI P s d x
 | .makeInterface t x=>obind (copd x) λ a=>match P.underlying t with
  | some (.interface _)=>none
  | some _=>some (.wO t a)
  | none=>none
 | .makeFunc fn a b=>obind (copds a.toList) λ a=>obind (copds b.toList) λ b=>some (.wa fn a b)
 | .makeMap t r=>match P.underlying t,r with
  | some (.map _ _),none=>some .wj
  | _,_=>none
 | .makeSlice t l c=>match P.underlying t with
  | some (.slice e)=>obind (copd l) λ l=>obind (copd c) λ c=>obind (zM P e) λ s=>obind (zJd P e) λ n=>obind (zEm P e) λ z=>match s with
   | 0=>none
   | s+1=>some (.qK l c (s+1) n z)
  | _=>none
 | .slice t x u p j=>obind (copd x) λ x=>obind (copdo u) λ u=>obind (copdo p) λ p=>obind (copdo j) λ j=>match P.underlying t with
  | some .string=>match j with
   | none=>some (.wD x u p)
   | some _=>none
  | some (.slice e)=>obind (zM P e) λ s=>match s with | 0=>none | s+1=>match j,p with
   | some _,none=>none
   | _,_=>some (.wv x u p j (s+1))
  | some (.array n e)=>obind (zM P e) λ s=>match s with | 0=>none | s+1=>match j with
   | none=>match Nat.ble n ze with
    | true=>some (.vC x u p n (s+1))
    | false=>none
   | some _=>none
  | _=>none
 | .fieldAddr t x f=>obind (copd x) λ a=>obind (cfields P t) λ o=>obind (o[f]?) λ f=>obind (zM P f.type) λ s=>match s with
  | 0=>none
  | _+1=>some (.qP a f.offset)
 | .field t x f=>obind (copd x) λ a=>obind (cfields P t) λ o=>obind (o[f]?) λ f=>obind (zM P f.type) λ s=>obind (agT P f.type) λ g=>some (.vU a f.offset s g)
 | .indexAddr t x i=>obind (copd x) λ a=>obind (copd i) λ i=>match P.underlying t with
  | some (.slice e)=>obind (zM P e) λ s=>match s with | 0=>none | s+1=>some (.qB a i (s+1))
  | some (.array n e)=>obind (zM P e) λ s=>match s with | 0=>none | s+1=>some (.qy a i n (s+1))
  | _=>none
 | .index t x i=>obind (copd x) λ a=>obind (copd i) λ i=>match P.underlying t with
  | some .string=>some (.wI a i)
  | some (.array n e)=>obind (zM P e) λ s=>obind (agT P e) λ g=>some (.qZ a i n s g)
  | _=>none
 | .lookup t x i ok=>obind (copd x) λ a=>obind (copd i) λ k=>match P.underlying t with
  | some (.map A e)=>obind (keyT P A) λ q=>obind (zMi P e) λ z=>some (.lookup q.1 q.2 a k z ok)
  | _=>none
 | .mapUpdate t m k v | .insert t m k v=>obind (copd m) λ m=>obind (copd k) λ k=>obind (copd v) λ v=>match P.underlying t with
  | some (.map A _)=>obind (keyT P A) λ q=>some (.wE q.1 q.2 m k v)
  | _=>none
 | .range t x=>obind (copd x) λ a=>match P.underlying t with
  | some .string=>some (.vD a)
  | _=>none
 | .next B true=>obind (copd B) λ a=>some (.vj a)
 | .typeAssert x _ t ok=>obind (copd x) λ a=>obind (zMi P t) λ z=>match P.underlying t with
  | some (.interface _)=>none
  | some _=>some (.vH a t ok z)
  | none=>none
 | .extract t i=>obind (copd t) λ a=>some (.ext a i)
 | .call c=>match c.callee with
  | .builtin b=>zLz P b c.args.toList c.argTypes.toList
  | .value (.func f)=>match P.funcs[f]? with
   | some fn=>match fn.body with
    | some _=>obind (copds c.args.toList) λ as=>some (.call f as)
    | none=>obind (copds c.args.toList) λ as=>extK fn as
   | none=>none
  | .value x=>obind (copd x) λ x=>obind (copds c.args.toList) λ as=>some (.qL x as)
  | .invoke r m=>obind (copd r) λ r=>obind (copds c.args.toList) λ as=>some (.invoke r m as)
 | _=>none
def zq (P:Program) (ops:Array Oper) (o:Oper):XOper:=
 match o.guard with
 | none=>⟨o.dst,(zCb P o.op).getD .bad,none⟩
 | some (j,b)=>match (ops[j]?).bind (·.dst) with
  | some s=>⟨o.dst,(zCb P o.op).getD .bad,some (s,b)⟩
  | none=>⟨o.dst,.bad,none⟩
def zPm:List Operand->List Nat
 | []=>[]
 | .tmp t::r=>t::zPm r
 | _::r=>zPm r
def zXn (x:XOper) (o:Oper):List Nat:=match x.guard with
 | some (s,_)=>s::zPm o.op.operands.toList
 | none=>zPm o.op.operands.toList
def memb (n:Nat):List Nat->Bool
 | []=>false
 | a::r=>match Nat.beq n a with
  | true=>true
  | false=>memb n r
def zH0 (x:Option Nat) (c:XD) (y:Option Nat) (b:XD):Bool:=
 (match x with | some d=>!memb d b.looks | none=>true)&&(match y with | some d=>!memb d c.looks | none=>true) &&
 (match x,y with | some d,some e=>!Nat.beq d e | _,_=>true)
def zLN:Nat->List (Nat×Option Nat×XD)->List XOper->List XD->Bool
 | _,_,[],_=>true
 | _,_,_::_,[]=>false
 | i,b,x::r,d::ds=>(b.all λ e=>d.qd.testBit e.1||zH0 e.2.1 e.2.2 x.dst d)&&zLN (i+1) ((i,x.dst,d)::b) r ds
def zN4:Nat->List Oper->Bool
 | _,[]=>true
 | i,o::r=>(o.after.toList.all λ e=>!Region.binds .any e||Nat.blt e.on i)&&zN4 (i+1) r
def zipD (ops:Array Oper) (P:Program):List Oper->List Nat->List XD
 | o::r,m::ms=>⟨m,zXn (zq P ops o) o⟩::zipD ops P r ms
 | _,_=>[]
def zJ (P:Program):Code->Option XC
 | .skip=>some .skip
 | .region _ d draw=>match draw with
  | false=>some (.wG (d.toList.map (zq P d)))
  | true=>
   let f:=d.toList.map (zq P d)
   let e:=zipD d P d.toList (Region.before d).toList
   match zN4 0 d.toList with
   | true=>match zLN 0 [] f e with
    | true=>some (.draw f e)
    | false=>none
   | false=>none
 | .seq a b=>obind (zJ P a) λ a=>obind (zJ P b) λ b=>some (.seq a b)
 | .cond c a b=>obind (copd c) λ c=>obind (zJ P a) λ a=>obind (zJ P b) λ b=>some (.cond c a b)
 | .block i b=>obind (zJ P b) λ b=>some (.block i b)
 | .loop b=>obind (zJ P b) λ b=>some (.loop b)
 | .exit i=>some (.exit i)
 | .ret=>some .ret
 | .scope b=>zJ P b
 | .label _=>some .skip
 | .refuse _=>some (.cond (.c .qm) .skip .skip)
 | _=>none
def zN5:List Oper->List Nat
 | []=>[]
 | o::r=>match o.dst,o.op with
  | some _,.assign _=>zN5 r
  | some d,_=>d::zN5 r
  | none,_=>zN5 r
def zRJ:List Oper->List Nat
 | []=>[]
 | o::r=>match o.dst with
  | some d=>d::zRJ r
  | none=>zRJ r
def zPn:Code->List Nat
 | .region _ c _=>zN5 c.toList
 | .seq a b | .cond _ a b=>zPn a++zPn b
 | .block _ b | .loop b | .scope b=>zPn b
 | _=>[]
def zQC:List Oper->Option (List Oper×Oper)
 | []=>none
 | [o]=>some ([],o)
 | o::r=>match zQC r with
  | some (a,l)=>some (o::a,l)
  | none=>none
def mpat (P:Program):Code->Code->Option XC
 | .region _ c false,.block f (.loop (.seq (.region _ o false) (.seq (.cond (.tmp ok) .skip (.exit idx)) (.block g (.seq (.region _ n false) b)))))=>
  match zQC c.toList,o.toList,n.toList with
  | some (pre,⟨some e,.range t m,_,_,_,none⟩),[⟨some nx,.next (.tmp h) false,_,_,_,none⟩,⟨some j,.extract (.tmp l) 0,_,_,_,none⟩],⟨some k,.entry (.tmp i),_,_,_,none⟩::rest=>
   match Nat.beq e h&&Nat.beq e i&&Nat.beq nx l&&Nat.beq ok j&&Nat.beq f idx&&!Nat.beq f g&&!Nat.beq nx e&&!Nat.beq ok e&&!Nat.beq k e&&!Nat.beq ok nx,P.underlying t with
   | true,some (.map _ _)=>obind (copd m) λ m=>obind (zJ P b) λ d=>
    some (.seq (.wG (pre.map (zq P c))) (.wP m e (nx::ok::k::zRJ rest++zPn b) k 100000 g (rest.map (zq P n)) d))
   | _,_=>none
  | _,_,_=>none
 | _,_=>none
def zKh (P:Program):Code->Option XC
 | .seq a b=>match mpat P a b with
  | some x=>some x
  | none=>obind (zKh P a) λ a=>obind (zKh P b) λ b=>some (.seq a b)
 | c=>zJ P c
def zEK (nt:Nat):XC->Bool
 | .wP _ g D h _ _ f e=>Nat.blt g nt&&Nat.blt h nt&&(D.all λ d=>Nat.blt d nt)&&(f.all λ o=>match o.dst with | some d=>Nat.blt d nt | none=>true)&&zEK nt e
 | .wG c | .draw c _=>c.all λ o=>match o.dst with | some d=>Nat.blt d nt | none=>true
 | .seq a b | .cond _ a b=>zEK nt a&&zEK nt b
 | .block _ b | .loop b=>zEK nt b
 | _=>true
def zQg (P:Program):ResultVar->Option XR
 | .tmp t=>some (.t t)
 | .cell a t=>obind (zM P t) λ s=>obind (agT P t) λ g=>some (.cell a s g)
def zIO (P:Program):List ResultVar->Option (List XR)
 | []=>some []
 | r::rs=>match zQg P r,zIO P rs with
  | some x,some b=>some (x::b)
  | _,_=>none
def zPo (P:Program) (fn:Func):Option XF:=
 obind fn.body λ b=>obind (zKh P b) λ b=>obind (zIO P fn.results.toList) λ rs=>
 match zEK fn.ntmps b&&Nat.ble (fn.params.size+fn.nfree) fn.ntmps with
 | true=>some ⟨fn.params.size+fn.nfree,fn.ntmps,b,rs⟩
 | false=>none
theorem zHk {a b:IntKind} (h:ksame a b=true):a=b:=by cases a <;> cases b <;> first | rfl | (simp [ksame] at h)
theorem zXo (k:IntKind) (n:Int) (h:has k n):k.wrap n=n:=by
 obtain ⟨c,b⟩:=h;cases k <;> simp [IntKind.min,IntKind.max,IntKind.signed,IntKind.bits] at c b <;> simp [IntKind.wrap,IntKind.bits,IntKind.signed] <;> omega
theorem zHl (k:IntKind) (n:Int):has k (k.wrap n):=by
 cases k <;> simp [has,IntKind.min,IntKind.max,IntKind.wrap,IntKind.bits,IntKind.signed] <;> omega
theorem zTe {k:IntKind} {n:Int} (h:inr k n=true):has k n:=by
 cases k <;> cases n <;> simp [inr,has,IntKind.min,IntKind.max,IntKind.signed,IntKind.bits] at h ⊢ <;> omega
theorem zRK (k:IntKind) (n:Int) (b:Bool) (h:b=true->inr k n=true):cond b n (k.wrap n)=k.wrap n:=by
 cases b with
 | false=>rfl
 | true=>exact (zXo _ _ (zTe (h rfl))).symm
theorem zRL (k:IntKind) (n:Int):wrapx k n=k.wrap n:=by
 cases n with
 | ofNat m=>cases k <;> simp only [wrapx] <;> exact zRK _ _ _ λ h=>h
 | negSucc m=>cases k <;> simp only [wrapx] <;> exact zRK _ _ _ λ h=>h
theorem zPp {E:Env} {w:World} {f:Value->Option AV} (c:∀v a,f v=some a->VR E w a v):∀{l:List Value} {as:List AV},cavs f l=some as->VRs E w as l
 | [],as,h=>by simp [cavs] at h;subst h;exact VRs.nil
 | v::r,as,h=>by
  simp only [cavs] at h;split at h
  ·rename_i a d;split at h
   ·rename_i e b;cases h;exact VRs.cons (c _ _ d) (zPp c b)
   ·cases h
  ·cases h
theorem zK6 {E:Env} {w:World}:∀{d:Nat} {v:Value} {a:AV},cav d v=some a->VR E w a v
 | 0,_,_,h=>by simp [cav] at h
 | d+1,v,a,h=>by
  unfold cav at h;split at h
  ·cases h;exact .bool _
  ·split at h
   ·rename_i f;cases h;exact .int _ _ (zTe f)
   ·cases h
  ·split at h
   ·rename_i f;cases h;exact .str _ _ rfl (by simpa using f)
   ·cases h
  ·cases h;exact .qm
  ·cases h;exact .qa
  ·cases h;exact .qj
  ·cases h;exact .qi
  ·cases h;exact .qe
  ·split at h
   ·rename_i o k;cases h;exact .func _ _ _ _ _ (by rw [←Array.length_toList,o];rfl) (by rw [←Array.length_toList,k];rfl) (λ i x v e=>by simp at e) (λ i x v e=>by simp at e)
   ·cases h
  ·split at h
   ·rename_i l m;split at h
    ·rename_i c;cases h;have g:VRs E w l _:=zPp (λ v a=>zK6 (d:=d)) m
     refine VR.qR g λ v n=>?_
     obtain ⟨i,j⟩:=List.getElem?_of_mem n;have b:i<l.length:=by
      rw [g.1];exact (QD.1 j).1
     have e:l[i]? = some l[i]:=QC b;exact (g.2 i _ v e j).wL (QF.1 c _ (Qq b))
    ·cases h
   ·cases h
  ·cases h
structure FrR (E:Env) (w:World) (fr:Fr) (a:Act) (nt:Nat):Prop where
 size:a.tmps.size=nt
 get:∀t v,fr.get t=some v->VR E w v (a.tmps.getD t undef)
def zFn (w:World) (g:Nat) (v:AV):Prop:=∀b n,v=.qf (.agg b) n->∃c t e,w.heap[g]? = some (.cells c t e)/\c.size=b.length
theorem zFn.mono {w w':World} {g:Nat} {v:AV} (h:Shapes w w') (k:zFn w g v):zFn w' g v:=λ b n e=>
 let ⟨c,t,f,h1,h2⟩:=k b n e
 let ⟨c',f',k1,k2⟩:=h g c t f h1
 ⟨c',t,f',k1,k2.trans h2⟩
def GR (G:Cx) (E:Env) (w:World):Prop:=∀g v,G.wJ g=some v->VR E w v (.pointer (some ⟨g,0,none⟩))/\zFn w g v
def Done (P:Program) (E:Env) (H:Heap) (w:World) (nx:Nat) (s:Sem Next) (v:AV) (H':Heap) (nx':Nat):Prop:=
 ∃d c b,HR c H' b/\Tr E H w c H' b nx nx'/\VR c b v d/\(s.run P w=.ok (.value d) b\/(s.run P w=.ok .skip b/\d=undef))
theorem Done.pure {P:Program} {E:Env} {H:Heap} {w:World} {nx:Nat} {s:Sem Next} {v:AV} {cv:Value} (c:HR E H w)
  (h:s.run P w=.ok (.value cv) w) (b:VR E w v cv):Done P E H w nx s v H nx:=
 ⟨cv,E,w,c,.refl nx,b,.inl h⟩
section
variable {P:Program} {G:Cx} {E:Env} {w:World} {fr:Fr} {a:Act} {nt:Nat}
theorem zH (k:FrR E w fr a nt) (j:GR G E w) {x:Operand} {y:XV} {v:AV} (hc:copd x=some y) (d:y.ev G fr=some v):VR E w v (a.eval x):=by
 cases x with
 | tmp t=>simp [copd] at hc;subst hc;exact k.get t v d
 | const c=>
  simp only [copd] at hc;split at hc
  ·rename_i b h;cases hc;simp only [XV.ev,QL] at d;subst d;exact zK6 h
  ·cases hc
 | global g=>simp [copd] at hc;subst hc;exact (j g v d).1
 | func f=>
  simp [copd] at hc;subst hc;simp only [XV.ev,QL] at d;subst d;exact .func _ _ _ _ _ rfl rfl (λ i x v e=>by simp at e) (λ i x v e=>by simp at e)
theorem zEC (e:FrR E w fr a nt) (f:GR G E w):∀{xs:List Operand} {c:List XV} {vs:List AV},copds xs=some c->evs G fr c=some vs->VRs E w vs (xs.map a.eval)
 | [],c,vs,hc,b=>by
  simp [copds] at hc;subst hc;simp [evs] at b;subst b;exact VRs.nil
 | x::r,c,vs,hc,b=>by
  simp only [copds] at hc;split at hc
  ·rename_i y s h i;cases hc;simp only [evs] at b;split at b
   ·rename_i v g;split at b
    ·rename_i j d;cases b;exact VRs.cons (zH e f h g) (zEC e f i d)
    ·cases b
   ·cases b
  ·cases hc
theorem VR.of_bool {b:Bool} {cv:Value} (h:VR E w (.bool b) cv):cv=.bool b:=by cases h;rfl
theorem VR.of_int {k:IntKind} {n:Int} {cv:Value} (h:VR E w (.int k n) cv):cv=.int k n/\has k n:=by cases h;exact ⟨rfl,by assumption⟩
theorem VR.qY {l:List Nat} {cv:Value} (h:VR E w (.str l) cv):∃s:ByteArray,cv=.string s/\s.data.toList.map UInt8.toNat=l/\l.length<=ze:=by
 cases h with | str _ s h b=>exact ⟨s,rfl,h,b⟩
theorem VR.wx {x o:Nat} {cv:Value} (h:VR E w (.ptr x o) cv):cv=.pointer (some ⟨E.ρ x,o,none⟩)/\E.D x:=by cases h;exact ⟨rfl,by assumption⟩
theorem VR.wK {e:AV} {o:Nat} {cv:Value} (h:VR E w (.qf e o) cv):∃b c u,cv=.pointer (some ⟨b,c+o,none⟩)/\e.flat=true/\E.Z b/\VR E w e u/\∀(j:Nat) x,u.cells[j]? = some x->w.cell? ⟨b,c+j,none⟩=some x:=by
 cases h with | qf _ _ b c u d g f hc=>exact ⟨b,c,u,rfl,d,g,f,hc⟩
theorem zIP {s:ByteArray} {l:List Nat} (h:s.data.toList.map UInt8.toNat=l):s.size=l.length:=by
 subst h;rw [QO,Array.length_toList];rfl
theorem zRM:∀(a b:List UInt8),seqb (a.map UInt8.toNat) (b.map UInt8.toNat)=(a==b)
 | [],[]=>rfl
 | [],b::y=>rfl
 | a::x,[]=>rfl
 | a::x,b::y=>by
  simp only [Qd,seqb];have c:=zRM x y;split
  ·rename_i h;have:a=b:=UInt8.toNat_inj.1 (zb h);subst this;rw [c];simp
  ·rename_i h;have:a≠b:=λ e=>zAH h (by rw [e])
   symm
   simp [this]
set_option maxRecDepth 2000 in
theorem zTf:∀(a b:List UInt8),slt (a.map UInt8.toNat) (b.map UInt8.toNat)=Op.bytesLess a b
 | _,[]=>by simp [slt,Op.bytesLess]
 | [],b::y=>by simp [slt,Op.bytesLess]
 | a::x,b::y=>by
  simp only [Qd,slt,Op.bytesLess];have g:=zTf x y;rcases Nat.lt_trichotomy a.toNat b.toNat with h | h | h
  ·have d:Nat.blt a.toNat b.toNat=true:=by rw [Qm];exact h
   have f:a<b:=UInt8.lt_iff_toNat_lt.2 h;simp [d,f]
  ·have e:a=b:=UInt8.toNat_inj.1 h;subst e;have d:Nat.blt a.toNat a.toNat=false:=by rw [Bool.eq_false_iff];intro c;exact Nat.lt_irrefl _ (Qm▸c)
   simp [d,g]
  ·have d:Nat.blt a.toNat b.toNat=false:=by rw [Bool.eq_false_iff];intro c;rw [Qm] at c;omega
   have f:¬a<b:=λ c=>by have:=UInt8.lt_iff_toNat_lt.1 c;omega
   have j:a≠b:=λ e=>by rw [e] at h;omega
   have i:Nat.beq a.toNat b.toNat=false:=by rw [Bool.eq_false_iff];intro c;have:=zb c;omega
   simp [d,f,j,i]
theorem zUI {a b:ByteArray} {l m:List Nat} (c:a.data.toList.map UInt8.toNat=l) (d:b.data.toList.map UInt8.toNat=m):(a.toList==b.toList)=seqb l m:=by
 subst c;subst d;rw [zRM,ByteArray.toList_eq,ByteArray.toList_eq]
theorem zYC {a b:ByteArray} {l m:List Nat} (c:a.data.toList.map UInt8.toNat=l) (d:b.data.toList.map UInt8.toNat=m):Op.bytesLess a.toList b.toList=slt l m:=by
 subst c;subst d;rw [zTf,ByteArray.toList_eq,ByteArray.toList_eq]
theorem zV0 (k:IntKind) (a b:Int) (d:has k a):has k (a.tmod b):=by
 obtain ⟨g,f⟩:=d;have h:(a.tmod b).natAbs<=a.natAbs:=by rw [Int.natAbs_tmod];exact Nat.mod_le _ _
 rcases Int.le_total 0 a with c | c
 ·have e:0<=a.tmod b:=Int.tmod_nonneg _ c
  constructor
  ·have:k.min<=0:=by cases k <;> simp [IntKind.min,IntKind.signed,IntKind.bits]
   omega
  ·omega
 ·have e:a.tmod b<=0:=by
   have:=Int.tmod_nonneg (b:=b) (a:=-a) (by omega)
   rw [Int.neg_tmod] at this;omega
  constructor
  ·omega
  ·have:0<=k.max:=by cases k <;> simp [IntKind.max,IntKind.signed,IntKind.bits]
   omega
theorem zV1 (k:IntKind) (a:Int) (n:Nat) (e:has k a):has k (a.fdiv (2 ^ n)):=by
 obtain ⟨i,g⟩:=e;have b:(0:Int)<2 ^ n:=by exact_mod_cast Nat.two_pow_pos n
 have d:k.min<=0:=by cases k <;> simp [IntKind.min,IntKind.signed,IntKind.bits]
 have f:0<=k.max:=by cases k <;> simp [IntKind.max,IntKind.signed,IntKind.bits]
 rw [Int.fdiv_eq_ediv_of_nonneg _ (Int.le_of_lt b)];rcases Int.le_total 0 a with c | c
 ·have:=Int.ediv_nonneg c (Int.le_of_lt b);have:=Int.ediv_le_self (2 ^ n) c
  constructor <;> omega
 ·have j:a / 2 ^ n<=0:=by
   have:=Int.ediv_le_ediv b c
   simpa using this
  have h:a<=a / 2 ^ n:=by
   apply (Int.le_ediv_iff_mul_le b).2;have:(1:Int)<=2 ^ n:=b;have:a*2 ^ n<=a*1:=Int.mul_le_mul_of_nonpos_left c this;omega
  constructor <;> omega
theorem zLO {s:Sem Value} {k:IntKind} {z:Int} (h:s.run P w=.ok (.int k z) w) (b:has k z):∃cv,s.run P w=.ok cv w/\VR E w (.int k z) cv:=⟨_,h,.int _ _ b⟩
theorem zKi {s:Sem Value} {k:IntKind} {z:Int} (h:s.run P w=.ok (.int k (k.wrap z)) w):∃cv,s.run P w=.ok cv w/\VR E w (.int k (wrapx k z)) cv:=
 ⟨_,h,by rw [zRL];exact .int _ _ (zHl _ _)⟩
theorem zHz {s:Sem Value} {b:Bool} (h:s.run P w=.ok (.bool b) w):∃cv,s.run P w=.ok cv w/\VR E w (.bool b) cv:=⟨_,h,.bool _⟩
theorem zUJ {op:BinOp} {t:TypeId} {x y:AV} {q o:Value} {v:AV} (hx:VR E w x q) (r:VR E w y o) (h:xbin op x y=some v)
  :
  ∃cv,(binOp op t q o).run P w=.ok cv w/\VR E w v cv:=by
 unfold xbin at h;split at h
 ·
  rename_i k m J n;obtain ⟨rfl,z⟩:=hx.of_int;obtain ⟨rfl,K⟩:=r.of_int;split at h
  ·split at h
   ·cases h
   ·rename_i d;cases h;have b:¬n<0:=by simpa using d
    exact ⟨.int k (k.wrap (m*2 ^ (min n.toNat k.bits))),by simp [binOp,Op.shift,b],by rw [zRL];exact .int _ _ (zHl _ _)⟩
  ·split at h
   ·cases h
   ·rename_i d;cases h;have b:¬n<0:=by simpa using d
    exact ⟨.int k (m.fdiv (2 ^ (min n.toNat k.bits))),by simp [binOp,Op.shift,b],.int _ _ (zV1 _ _ _ z)⟩
  ·rename_i p A;split at h
   ·cases h
   ·rename_i B;have:=zHk B;subst this;split at h
    ·cases h;exact zKi (by simp [binOp,Op.intArith])
    ·cases h;exact zKi (by simp [binOp,Op.intArith])
    ·cases h;exact zKi (by simp [binOp,Op.intArith])
    ·split at h
     ·cases h
     ·rename_i d;cases h;have b:¬n=0:=by simpa using d
      exact zKi (by simp [binOp,Op.intDiv,b])
    ·split at h
     ·cases h
     ·rename_i d;cases h;have b:¬n=0:=by simpa using d
      exact zLO (by simp [binOp,Op.intDiv,b]) (zV0 _ _ _ z)
    ·cases h;exact zLO (by simp [binOp,Op.intBits]) (zHl _ _)
    ·cases h;exact zLO (by simp [binOp,Op.intBits]) (zHl _ _)
    ·cases h;exact zLO (by simp [binOp,Op.intBits]) (zHl _ _)
    ·cases h;exact zLO (by simp [binOp,Op.intBits]) (zHl _ _)
    ·cases op <;> simp_all [xcmp] <;> (subst h;exact zHz (by simp [binOp,Op.intCmp]))
 ·
  rename_i l m;obtain ⟨s,rfl,g,D⟩:=hx.qY;obtain ⟨u,rfl,f,C⟩:=r.qY;have i:=zUI g f;have e:=zYC g f;have F:=zIP g;have I:=zIP f;cases op with
  | add=>
   simp only at h;split at h
   ·rename_i j;cases h;have c:l.length+m.length<=ze:=QM j;refine ⟨.string (s++u),?_,.str _ _ (by rw [←g,←f];simp) (by simpa using c)⟩
    have:¬(((s.size+u.size:Nat):Int) > IntKind.i64.max):=by
     rw [F,I];have:IntKind.i64.max=9223372036854775807:=rfl;unfold ze at c;omega
    simp only [binOp,Op.stringOp,this,if_false];rfl
   ·cases h
  | eql=>cases h;exact zHz (by simp [binOp,Op.stringOp,i])
  | neq=>cases h;exact zHz (by simp [binOp,Op.stringOp,i])
  | lss=>cases h;exact zHz (by simp [binOp,Op.stringOp,e])
  | leq=>cases h;exact zHz (by simp [binOp,Op.stringOp,i,e])
  | gtr=>cases h;exact zHz (by simp [binOp,Op.stringOp,i,e])
  | geq=>cases h;exact zHz (by simp [binOp,Op.stringOp,e])
  | _=>cases h
 ·cases h
end
end Go.Sy
namespace Go.Sy
section
variable {P:Program} {G:Cx} {E:Env} {w:World}
theorem za {α β:Type} {x:Option α} {f:α->Option β} {b:β} (h:obind x f=some b):∃a,x=some a/\f a=some b:=by
 cases x with
 | none=>cases h
 | some a=>exact ⟨a,rfl,h⟩
theorem zRk {t:TypeId} {i:TypeInfo} (h:P.info? t=some i):(typeInfo t).run P w=.ok i w:=by simp [typeInfo,h]
theorem zA8 {t:TypeId} {n:Nat} (h:zM P t=some n):(sizeOf t).run P w=.ok n w:=by
 unfold zM at h;cases hi:P.info? t with
 | none=>simp [hi] at h
 | some i=>simp [hi] at h;simp [sizeOf,typeInfo,hi,h]
theorem zHA {t:TypeId} {b:Bool} (h:agT P t=some b):(isAgg t).run P w=.ok b w:=by
 unfold agT at h;cases hu:P.underlying t with
 | none=>simp [hu] at h
 | some d=>
  simp only [hu] at h;cases d <;> simp at h <;> subst h <;> simp [isAgg,run_underlying hu]
theorem zMR {α:Type} (c:Array α) (a n:Nat):(c.extract a (a+n)).toList=(c.toList.drop a).take n:=by
 rw [Array.toList_extract,List.extract_eq_take_drop];congr 1;omega
theorem zPq {cs:List AV} {vs:Array Value} (g:VRs E w cs vs.toList) (h1:∀v∈vs.toList,v.oneCell'=true) {t:TypeId} {off sz:Nat} {f:Bool} {v:AV}
  (c:zM P t=some sz) (b:agT P t=some f) (h:part cs off sz f=some v):∃cv,(Go.part t vs off).run P w=.ok cv w/\VR E w v cv:=by
 unfold part at h;cases f with
 | true=>
  simp only at h;split at h
  ·cases h;refine ⟨.agg (vs.extract off (off+sz)),by simp [Go.part,zHA b,zA8 c],?_⟩
   have e:=zMR vs off sz;refine VR.qR ?_ ?_
   ·rw [e];exact g.extract off sz
   ·rw [e];intro u d;exact h1 u (QY (QN d))
  ·cases h
 | false=>
  obtain ⟨u,d,i⟩:=g.getElem? h;refine ⟨u,?_,i⟩
  have:vs[off]? = some u:=by rw [←Array.getElem?_toList];exact d
  simp [Go.part,zHA b,this]
theorem zV2 {op:UnOp} {x:AV} {b:Value} {v:AV} (hx:VR E w x b) (h:xun op x=some v):∃cv,(Op.unary op b).run P w=.ok cv w/\VR E w v cv:=by
 unfold xun at h;split at h
 ·rename_i k n;obtain ⟨rfl,c⟩:=hx.of_int;split at h
  ·cases h;exact zKi (by simp [Op.unary,Op.intArith])
  ·cases h;exact zLO (by simp [Op.unary,Op.intBits,Nat.xor_comm]) (zHl _ _)
  ·cases h
 ·obtain rfl:=hx.of_bool;split at h
  ·cases h;exact zHz (by simp [Op.unary])
  ·cases h
 ·cases h
theorem zUK {t:TypeId} {c d:Operand} {b e:Value} (h1:∀u,b≠.agg u) (f:b=.nilIface->e=.nilIface->(zBG c||zBG d)=true):
  (eqGuard .eql t c d b e).run P w=.ok () w:=by
 cases b <;> first
  | (exact absurd rfl (h1 _))
  | (simp only [eqGuard];rfl)
  | (cases e <;> first
    | (simp only [eqGuard];rfl)
    | (have:=f rfl rfl;cases c <;> cases d <;> first | (simp [zBG] at this;done) | (simp [eqGuard];done)))
theorem zUL {t:TypeId} {c d:Operand} {b e:Value} (h1:∀u,b≠.agg u) (f:b=.nilIface->e=.nilIface->(zBG c||zBG d)=true):
  (eqGuard .neq t c d b e).run P w=.ok () w:=by
 cases b <;> first
  | (exact absurd rfl (h1 _))
  | (simp only [eqGuard];rfl)
  | (cases e <;> first
    | (simp only [eqGuard];rfl)
    | (have:=f rfl rfl;cases c <;> cases d <;> first | (simp [zBG] at this;done) | (simp [eqGuard];done)))
theorem VR.wM {sz:Nat} {es:List AV} {e:AV} {cv:Value} (h:VR E w (.ql sz (e::es)) cv):∃a n c,cv=.slice (some a) n c:=by
 cases h with | ql _ b o cap sz f=>exact ⟨_,_,_,rfl⟩
theorem VR.vh {h o l s c:Nat} {x:Bool} {cv:Value} (h:VR E w (.row h o l s c x) cv):∃a n c,cv=.slice (some a) n c:=by
 cases h <;> exact ⟨_,_,_,rfl⟩
theorem VR.wH {f:Fn} {a b:List AV} {cv:Value} (h:VR E w (.func f a b) cv):∃u v,cv=.func f u v:=by
 cases h;exact ⟨_,_,rfl⟩
theorem zRl {d:Nat} {x y:AV} {g i:Value} {b:Bool} {t e:TypeId} (hx:VR E w x g) (c:VR E w y i) (h:xseq x y=some b)
  (f:P.underlying t=some (.slice e)):(Op.equalIn (d+1) t g i).run P w=.ok b w:=by
 unfold xseq at h;split at h
 ·cases h;cases hx;cases c;simp [Op.equalIn,run_underlying f]
 ·cases h;cases hx;obtain ⟨_,_,_,rfl⟩:=c.vh;simp [Op.equalIn,run_underlying f]
 ·cases h;cases c;obtain ⟨_,_,_,rfl⟩:=hx.vh;simp [Op.equalIn,run_underlying f]
 ·cases h;cases hx;obtain ⟨_,_,_,rfl⟩:=c.wM;simp [Op.equalIn,run_underlying f]
 ·cases h;cases c;obtain ⟨_,_,_,rfl⟩:=hx.wM;simp [Op.equalIn,run_underlying f]
 ·cases h
theorem zSU {d:Nat} {x y:AV} {g i:Value} {b:Bool} {t k e:TypeId} (hx:VR E w x g) (c:VR E w y i) (h:xmeq x y=some b)
  (f:P.underlying t=some (.map k e)):(Op.equalIn (d+1) t g i).run P w=.ok b w:=by
 unfold xmeq at h;split at h
 ·cases h;cases hx;cases c;simp [Op.equalIn,run_underlying f]
 ·cases h;cases hx;cases c;simp [Op.equalIn,run_underlying f]
 ·cases h;cases hx;cases c;simp [Op.equalIn,run_underlying f]
 ·cases h
theorem zRN {d:Nat} {x y:AV} {f g:Value} {b:Bool} {t:TypeId} {p r:Array TypeId} {i:Bool} (hx:VR E w x f) (c:VR E w y g) (h:xfeq x y=some b)
  (e:P.underlying t=some (.func p r i)):(Op.equalIn (d+1) t f g).run P w=.ok b w:=by
 unfold xfeq at h;split at h
 ·cases h;cases hx;cases c;simp [Op.equalIn,run_underlying e]
 ·cases h;cases hx;obtain ⟨_,_,rfl⟩:=c.wH;simp [Op.equalIn,run_underlying e]
 ·cases h;cases c;obtain ⟨_,_,rfl⟩:=hx.wH;simp [Op.equalIn,run_underlying e]
 ·cases h
end
end Go.Sy
namespace Go.Sy
section
variable {P:Program} {E:Env} {w:World}
def zTP (P:Program) (t:TypeId):Kd->Prop
 | .b=>P.underlying t=some .bool
 | .i=>∃q,P.underlying t=some (.int q)
 | .s=>P.underlying t=some .string
theorem zQD {d:Nat} {k:Kd} {x y:AV} {l j:Value} {b:Bool} {t:TypeId} (hx:VR E w x l) (g:VR E w y j) (h:eqb k x y=some b) (e:zTP P t k):(Op.equalIn (d+1) t l j).run P w=.ok b w:=by
 unfold eqb at h;split at h
 ·cases h;obtain rfl:=hx.of_bool;obtain rfl:=g.of_bool;exact run_equalIn_bool w d t _ _ e
 ·split at h
  ·rename_i m;cases h;have:=zHk m;subst this;obtain ⟨rfl,_⟩:=hx.of_int;obtain ⟨rfl,_⟩:=g.of_int;obtain ⟨q,n⟩:=e;exact run_equalIn_int w d t _ q _ _ n
  ·cases h
 ·cases h;obtain ⟨s,rfl,r,_⟩:=hx.qY;obtain ⟨u,rfl,o,_⟩:=g.qY;rw [run_equalIn_string w d t _ _ e,zUI r o]
 ·cases h
theorem zTQ {t:TypeId} {k:Kd} (h:zN3 P t=some k):∃i,P.info? t=some i/\i.comparable=true/\zTP P t k:=by
 unfold zN3 at h;split at h
 ·rename_i i e;split at h
  ·rename_i hc;refine ⟨i,e,hc,?_⟩
   split at h
   ·rename_i d;cases h;exact d
   ·rename_i q d;cases h;exact ⟨q,d⟩
   ·rename_i d;cases h;exact d
   ·cases h
  ·cases h
 ·cases h
theorem zRm {d:Nat} {lit:Bool} {x y:AV} {l j:Value} {b:Bool} {t:TypeId} {ms:Array (String×TypeId)} (hx:VR E w x l) (f:VR E w y j) (h:xieq lit (zN3 P) x y=some b)
  (c:P.underlying t=some (.interface ms)):(Op.equalIn (d+2) t l j).run P w=.ok b w:=by
 unfold xieq at h;split at h
 ·split at h
  ·cases h;cases hx;cases f;simp [Op.equalIn,run_underlying c]
  ·cases h
 ·cases h;cases hx;cases f;simp [Op.equalIn,run_underlying c]
 ·cases h;cases hx;cases f;simp [Op.equalIn,run_underlying c]
 ·rename_i t1 p B q;cases hx with
  | iface _ _ D u=>
   cases f with
   | iface _ _ C o=>
    split at h
    ·rename_i g;cases h;have e:=zAH g;unfold Op.equalIn;simp [run_underlying c,e]
    ·rename_i A;have:=zb A;subst this;split at h
     ·rename_i k n;obtain ⟨i,s,m,z⟩:=zTQ n;have r:=zQD (d:=d) u o h z;unfold Op.equalIn;simp [run_underlying c,zRk s,m,r]
     ·cases h
 ·cases h
theorem zOy:∀{d e:List Kd} {x y:List AV} {b:Bool},eqbs (d++e) x y=some b →
  ∃c,eqbs d (x.take d.length) (y.take d.length)=some c/\(c=false->b=false)/\(c=true->eqbs e (x.drop d.length) (y.drop d.length)=some b)
 | [],e,x,y,b,h=>⟨true,by simp [eqbs],(λ h=>by cases h),λ _=>by simpa using h⟩
 | k::d,e,x,y,b,h=>by
  cases x with
  | nil=>simp [eqbs] at h
  | cons a x=>
   cases y with
   | nil=>simp [eqbs] at h
   | cons c y=>
    simp only [List.cons_append,eqbs] at h;simp only [QT,List.take_succ_cons,List.drop_succ_cons,eqbs];cases he:eqb k a c with
    | none=>simp [he] at h
    | some r=>
     cases r with
     | true=>simp only [he] at h;exact zOy h
     | false=>
      simp only [he] at h;cases h;exact ⟨false,rfl,λ _=>rfl,(λ h=>by cases h)⟩
def shaped (P:Program) (t:TypeId) (vs:List Value) (v:Value):Prop:=
 (agT P t=some true/\v=.agg vs.toArray)\/(agT P t=some false/\vs=[v])
theorem zLA {xs:Array Value} {t:TypeId} {off sz:Nat} {g:Bool} (d:agT P t=some g) (f:zM P t=some sz) (c:g=false->sz=1) (h:off+sz<=xs.size):
  ∃v,(Go.part t xs off).run P w=.ok v w/\shaped P t ((xs.toList.drop off).take sz) v:=by
 cases g with
 | true=>
  refine ⟨.agg (xs.extract off (off+sz)),by simp [Go.part,zHA d,zA8 f],.inl ⟨d,?_⟩⟩
  rw [←zMR]
 | false=>
  have:=c rfl;subst this;have b:off<xs.size:=by omega
  refine ⟨xs[off],by simp [Go.part,zHA d,b],.inr ⟨d,?_⟩⟩
  have e:off<xs.toList.length:=by simpa using b
  rw [QZ e];simp
theorem zRO {d:Nat} {t:TypeId} {j:List Kd} (h:zCh P d t=some j):∃g,agT P t=some g/\(g=false->j.length=1):=by
 cases d with
 | zero=>simp [zCh] at h
 | succ d=>
  unfold zCh at h;unfold agT;split at h <;> first
   | (rename_i e;simp only [e];cases h;exact ⟨false,rfl,λ _=>rfl⟩)
   | (rename_i e;simp only [e];exact ⟨true,rfl,λ h=>by cases h⟩)
   | cases h
theorem zI4:∀{d:Nat} {t:TypeId} {B:List Kd},zCh P d t=some B->∀(D:Nat) (vs J:List Value) (cs ds:List AV) (cv U:Value) (b:Bool),VRs E w cs vs->VRs E w ds J →
  shaped P t vs cv->shaped P t J U->vs.length=B.length->J.length=B.length->eqbs B cs ds=some b->(Op.equalIn (D+d) t cv U).run P w=.ok b w
 | 0,t,B,h=>by simp [zCh] at h
 | d+1,t,B,h=>by
  intro D vs J cs ds cv U b F C sv su lv lu A;have base:∀k:Kd,zTP P t k->B=[k]->agT P t=some false →
    (Op.equalIn (D+(d+1)) t cv U).run P w=.ok b w:=by
   intro k hk e q;subst e;rcases sv with ⟨o,_⟩ | ⟨_,rfl⟩
   ·rw [q] at o;cases o
   rcases su with ⟨o,_⟩ | ⟨_,rfl⟩
   ·rw [q] at o;cases o
   match cs,ds,F,C,A with
   | [x],[y],F,C,A=>
    obtain ⟨_,_,e,hx,_⟩:=F.of_cons;cases e;obtain ⟨_,_,e,hy,_⟩:=C.of_cons;cases e;have:eqb k x y=some b:=by
     simp only [eqbs] at A;split at A <;> simp_all
    exact zQD hx hy this hk
   | [],_,F,_,_=>have:=F.1;simp at this
   | _::_::_,_,F,_,_=>have:=F.1;simp at this
   | [_],[],_,C,_=>have:=C.1;simp at this
   | [_],_::_::_,_,C,_=>have:=C.1;simp at this
  unfold zCh at h;split at h
  ·rename_i j;cases h;exact base .b j rfl (by simp [agT,j])
  ·rename_i j;cases h;exact base .i ⟨_,j⟩ rfl (by simp [agT,j])
  ·rename_i j;cases h;exact base .s j rfl (by simp [agT,j])
  ·rename_i fs j;split at h
   ·cases h
   ·rename_i W;have q:agT P t=some true:=by simp [agT,j]
    rcases sv with ⟨_,rfl⟩ | ⟨o,_⟩
    rotate_left
    ·rw [q] at o;cases o
    rcases su with ⟨_,rfl⟩ | ⟨o,_⟩
    rotate_left
    ·rw [q] at o;cases o
    have L:P.fieldsOf t=fs:=by simp [Program.fieldsOf,j]
    rw [←Nat.add_assoc,run_equalIn_struct w (D+d) t _ _ (by rw [L];exact j) W,L]
    have key:∀(l:List Field) (n:Nat) (K:List Kd),zKq P (zCh P d) n l=some K->n+K.length=vs.length->n+K.length=J.length->eqbs K (cs.drop n) (ds.drop n)=some b →
      (Op.eqFields (D+d) vs.toArray J.toArray l).run P w=.ok b w:=by
     intro l
     induction l with
     | nil=>
      intro n K z n1 n2 A;simp only [zKq] at z;cases z;have:b=true:=by
       unfold eqbs at A;split at A <;> simp_all
      subst this;rfl
     | cons f r ih=>
      intro n K z n1 n2 A;simp only [zKq] at z;split at z
      ·rename_i kf s ac T O Q;split at z
       ·rename_i M;split at z
        ·rename_i rs X;cases z;have m:kf.length=s:=zb M;have I:f.offset=n:=zb T;obtain ⟨c,o,h2,h3⟩:=zOy A;obtain ⟨g,hg,N⟩:=zRO O;have ad:(kf++rs).length=s+rs.length:=by rw [QH,m]
         obtain ⟨pv,aa,Y⟩:=zLA (P:=P) (w:=w) (xs:=vs.toArray) (t:=f.type) (off:=n) (sz:=s) hg Q (λ h=>by rw [←m];exact N h) (by simp;omega)
         obtain ⟨pu,ab,V⟩:=zLA (P:=P) (w:=w) (xs:=J.toArray) (t:=f.type) (off:=n) (sz:=s) hg Q (λ h=>by rw [←m];exact N h) (by simp;omega)
         rw [m] at o h3;have e1:=zI4 O D _ _ _ _ _ _ _ (F.extract n s) (C.extract n s) Y V (by simp;omega) (by simp;omega) o
         have R:f.name ≠ "_":=by simpa using ac
         simp only [Op.eqFields,R,ne_eq,not_false_eq_true,if_true,I,Sem.run_bind,aa,ab,Result.andThen_ok,e1];cases c with
         | false=>rw [h2 rfl];simp
         | true=>
          have S:=h3 rfl;rw [List.drop_drop,List.drop_drop] at S;simp only [Bool.not_true,Bool.false_eq_true,if_false];exact ih (n+s) rs X (by omega) (by omega) S
        ·cases z
       ·cases z
      ·cases z
    exact key fs.toList 0 B h (by omega) (by omega) (by simpa using A)
  ·cases h
end
end Go.Sy
namespace Go.Sy
def CR (E:Env) (w:World) (cs:List AV) (c:List Value):Prop:=
 cs.length<=c.length/\∀(i:Nat) x,cs[i]? = some x->∃v,c[i]? = some v/\v.oneCell'=true/\VR E w x v
theorem CR.wT {E:Env} {w:World} {b:Nat} {s:Bool} {cs:List AV} (h:OR E w b (.cells s cs)):
  ∃(c:Array Value) (e:TypeId) (f:Nat×Nat),w.heap[b]? = some (Obj.cells c e f)/\(f.2=f.1\/(s=true/\c.size<=f.1))/\CR E w cs c.toList:=by
 obtain ⟨c,e,f,k,g,l,j⟩:=h;exact ⟨c,e,f,k,l,by simpa using g,λ i x m=>let ⟨v,a,b,d⟩:=j i x m;⟨v,by simpa using a,b,d⟩⟩
theorem CR.or {E:Env} {w:World} {b:Nat} {s:Bool} {cs:List AV} {c:Array Value} {e:TypeId} {f:Nat×Nat} (h:CR E w cs c.toList) (j:w.heap[b]? = some (Obj.cells c e f))
  (g:f.2=f.1\/(s=true/\c.size<=f.1)):OR E w b (.cells s cs):=
 ⟨c,e,f,j,by simpa using h.1,g,λ i x k=>let ⟨v,a,b,d⟩:=h.2 i x k;⟨v,by simpa using a,b,d⟩⟩
section
variable {P:Program} {E:Env} {w:World}
theorem CR.mono {E':Env} {w':World} (hm:∀{v cv},VR E w v cv->VR E' w' v cv) {cs:List AV} {c:List Value} (h:CR E w cs c):CR E' w' cs c:=
 ⟨h.1,λ i x e=>let ⟨v,a,b,d⟩:=h.2 i x e;⟨v,a,b,hm d⟩⟩
theorem CR.wQ {cs:List AV} {c:List Value} (h:VRs E w cs c) (h1:∀v∈c,v.oneCell'=true):CR E w cs c:=
 ⟨Nat.le_of_eq h.1,λ i x d=>let ⟨v,a,b⟩:=h.getElem? d;⟨v,a,h1 v (QE a),b⟩⟩
theorem CR.part {cs:List AV} {c:List Value} (h:CR E w cs c) {a n:Nat} (t:a+n<=cs.length):
  VRs E w ((cs.drop a).take n) ((c.drop a).take n)/\∀v∈(c.drop a).take n,v.oneCell'=true:=by
 have s:=h.1;have key:∀(i:Nat),i<n->∃x v,cs[a+i]? = some x/\c[a+i]? = some v/\v.oneCell'=true/\VR E w x v:=λ i b=>by
  have d:cs[a+i]? = some (cs[a+i]'(by omega)):=QC _
  obtain ⟨v,o,m,q⟩:=h.2 _ _ d;exact ⟨_,v,d,o,m,q⟩
 refine ⟨⟨by simp;omega,λ i x v d e=>?_⟩,λ v e=>?_⟩
 ·rw [List.getElem?_take] at d e;split at d
  ·rename_i b;simp only [b,if_true,List.getElem?_drop] at d e;obtain ⟨p,l,j,g,_,k⟩:=key i b;rw [j] at d;cases d;rw [g] at e;cases e;exact k
  ·cases d
 ·obtain ⟨i,b⟩:=List.getElem?_of_mem e;rw [List.getElem?_take] at b;split at b
  ·rename_i f;rw [List.getElem?_drop] at b;obtain ⟨p,l,j,g,r,k⟩:=key i f;rw [g] at b;cases b;exact r
  ·cases b
theorem zC5 {α:Type} (c:List α) (off:Nat) (new:List α) (h:off<=c.length) (i:Nat):
  (c.take off++new++c.drop (off+new.length))[i]? = if i<off then c[i]? else if i<off+new.length then new[i-off]? else c[i]?:=by
 rw [Qt,List.getElem?_append,Qe,Nat.min_eq_left h];split
 ·rw [List.getElem?_take];simp [*]
 ·rw [List.getElem?_append];by_cases b:i<off+new.length
  ·rw [if_pos (by omega),if_pos b]
  ·rw [if_neg (by omega),if_neg b,List.getElem?_drop]
   congr 1;omega
theorem CR.qk {cs:List AV} {c:List Value} (h:CR E w cs c) {off:Nat} {new:List AV} {e:List Value} (j:VRs E w new e) (h1:∀v∈e,v.oneCell'=true)
  (l:off<=cs.length) (hc:off+e.length<=c.length):CR E w (qk cs off new) (c.take off++e++c.drop (off+e.length)):=by
 have m:=h.1;have k:=j.1;refine ⟨by simp [Sy.qk];omega,λ i x d=>?_⟩
 unfold Sy.qk at d;rw [zC5 _ _ _ l] at d;rw [zC5 _ _ _ (by omega)]
 split at d
 ·rename_i g;rw [if_pos g];exact h.2 i x d
 ·rename_i g;rw [if_neg g];split at d
  ·rename_i f;rw [if_pos (by omega)]
   obtain ⟨v,a,b⟩:=j.getElem? d;exact ⟨v,a,h1 v (QE a),b⟩
  ·rename_i f;rw [if_neg (by omega)]
   exact h.2 i x d
theorem zBH (b o j:Nat):(⟨b,o,none⟩:Addr).add j=⟨b,o+j,none⟩:=by
 unfold Addr.add;split
 ·rename_i h;subst h;rfl
 ·rfl
theorem zQh {b o:Nat} {c:Array Value} {e:TypeId} {f:Nat×Nat} (h:w.heap[b]? = some (.cells c e f)):w.cell? ⟨b,o,none⟩=c[o]?:=by
 simp [World.cell?,h]
theorem zUM {b o:Nat} {c:Array Value} {e:TypeId} {f:Nat×Nat} {s:Prop} (h:w.heap[b]? = some (.cells c e f)) (d:f.2=f.1\/(s/\c.size<=f.1)) (ho:o<c.size):w.frozen? ⟨b,o,none⟩=false:=by
 obtain ⟨i,j⟩:=f;simp [World.frozen?,h];intro g;rcases d with d | ⟨_,d⟩ <;> simp at d <;> omega
theorem zUN {b o:Nat} {vs:List Value} (h:∀(j:Nat) v,vs[j]? = some v->w.cell? ⟨b,o+j,none⟩=some v):(loadCells ⟨b,o,none⟩ vs.length).run P w=.ok vs.toArray w:=
 run_loadCells_list w ⟨b,o,none⟩ vs λ j v c=>by rw [zBH];exact h j v c
theorem zKr {b o off sz:Nat} {t:TypeId} {m:Bool} {cs:List AV} {v:AV} {c:List Value} (e:CR E w cs c) (d:∀(j:Nat) v,c[j]? = some v->w.cell? ⟨b,o+j,none⟩=some v)
  (s:zM P t=some sz) (p:agT P t=some m) (h:part cs off sz m=some v):∃cv,(loadVar t ⟨b,o+off,none⟩).run P w=.ok cv w/\VR E w v cv:=by
 unfold Sy.part at h;cases m with
 | true=>
  simp only at h;split at h
  ·rename_i l;cases h;have g:off+sz<=cs.length:=QM l;obtain ⟨k,n⟩:=e.part g;have x:=e.1;have f:((c.drop off).take sz).length=sz:=by simp;omega
   refine ⟨.agg ((c.drop off).take sz).toArray,?_,VR.qR (by simpa using k) (by simpa using n)⟩
   have q:=zUN (P:=P) (w:=w) (b:=b) (o:=o+off) (vs:=(c.drop off).take sz) λ j v i=>by
    rw [List.getElem?_take] at i;split at i
    ·rw [List.getElem?_drop] at i;rw [Nat.add_assoc];exact d _ _ i
    ·cases i
   rw [f] at q;simp [loadVar,zHA p,zA8 s,q]
  ·cases h
 | false=>
  obtain ⟨u,k,n,r⟩:=e.2 _ _ h;refine ⟨u,?_,r⟩
  simp [loadVar,zHA p,d _ _ k]
theorem zPr {H:Heap} {t:TypeId} {sz:Nat} {r:Bool} {x v:AV} {p:Value} (A:HR E H w) (hx:VR E w x p) (q:zM P t=some sz) (n:agT P t=some r)
  (h:xload H sz r x=some v):∃a cv,p=.pointer (some a)/\(loadVar t a).run P w=.ok cv w/\VR E w v cv:=by
 unfold xload at h;split at h
 ·rename_i s off;obtain ⟨rfl,D⟩:=hx.wx;split at h
  ·rename_i K F d;obtain ⟨c,e,f,y,J,l⟩:=CR.wT (A.obj _ (Heap.qh d));obtain ⟨cv,g,i⟩:=zKr (P:=P) (b:=E.ρ s) (o:=0) l (λ j v m=>by rw [zQh y,QR,←Array.getElem?_toList];exact m) q n h
   rw [QR] at g;exact ⟨_,cv,rfl,g,i⟩
  ·cases h
 ·rename_i e off;obtain ⟨b,c,u,rfl,k,I,C,hc⟩:=hx.wK;obtain ⟨g,i⟩:=C.cells k;obtain ⟨cv,B,z⟩:=zKr (P:=P) (b:=b) (o:=c) (CR.wQ g i) (λ j v m=>hc j v (by rw [←Array.getElem?_toList];exact m)) q n h
  exact ⟨_,cv,rfl,B,z⟩
 ·cases h
theorem zPs {b:Nat} {e:TypeId} {f:Nat×Nat} {s:Prop}:∀(vs:List Value) (off i:Nat) (w:World) (c:Array Value),w.heap[b]? = some (.cells c e f)->(f.2=f.1\/(s/\c.size<=f.1)) →
  (∀v∈vs,v.oneCell'=true)->off+i+vs.length<=c.size →
  ∃w',(storeCells ⟨b,off,none⟩ vs i).run P w=.ok () w'/\w'.tape=w.tape/\w'.os=w.os/\w'.output=w.output/\w'.heap.size=w.heap.size/\(∀x,x≠b->w'.heap[x]? = w.heap[x]?) ∧
   w'.heap[b]? = some (.cells (c.toList.take (off+i)++vs++c.toList.drop (off+i+vs.length)).toArray e f)
 | [],off,i,w,c,h,_,_,_=>⟨w,by simp [storeCells],rfl,rfl,rfl,rfl,λ _ _=>rfl,by rw [h];simp⟩
 | v::vs,off,i,w,c,h,p,k,o=>by
  have d:off+i<c.size:=by simp at o;omega
  have g:w.cell? ⟨b,off+i,none⟩=some c[off+i]:=by rw [zQh h];simp [d]
  have n:=zUM h p d;have K:=k v (.head _);have D:(w.setCell ⟨b,off+i,none⟩ v).heap[b]? = some (.cells (c.setIfInBounds (off+i) v) e f):=by
   simp [World.setCell,Array.getElem?_modify,h]
  obtain ⟨w',y,J,r,A,C,z,B⟩:=zPs (s:=s) vs off (i+1) (w.setCell ⟨b,off+i,none⟩ v) (c.setIfInBounds (off+i) v) D (by simpa using p) (λ u I=>k u (.tail _ I)) (by simp at o ⊢;omega)
  refine ⟨w',?_,J,r,A,by rw [C];simp [World.setCell],λ x q=>by rw [z x q];simp only [World.setCell,Array.getElem?_modify];rw [if_neg (Ne.symm q)],?_⟩
  ·simp only [storeCells,Sem.run_bind,zBH,run_store P w _ v _ K,g,n,Bool.false_eq_true,if_false,Result.andThen_ok];exact y
  ·rw [B];congr 3;apply List.ext_getElem?;intro j;have F:off+i+1+vs.length<=c.toList.length:=by simp at o ⊢;omega
   rw [zC5 _ _ _ (by simp;omega)]
   have:=zC5 c.toList (off+i) (v::vs) (by simp;omega) j
   rw [this];have l:(v::vs).length=vs.length+1:=rfl;rw [l];have m:(c.setIfInBounds (off+i) v).toList=c.toList.set (off+i) v:=by simp
   rw [m];by_cases k:j<off+i
   ·rw [if_pos (by omega),if_pos k,List.getElem?_set,if_neg (by omega)]
   ·by_cases t:j=off+i
    ·subst t;rw [if_pos (by omega),if_neg (by omega),if_pos (by omega),List.getElem?_set]
     simp [d]
    ·rw [if_neg (by omega),if_neg k]
     by_cases L:j<off+i+1+vs.length
     ·rw [if_pos (by omega),if_pos (by omega)]
      have:j-(off+i)=(j-(off+(i+1)))+1:=by omega
      rw [this,List.getElem?_cons_succ]
     ·rw [if_neg (by omega),if_neg (by omega),List.getElem?_set,if_neg (by omega)]
theorem Shapes.vL {w w':World} {b:Nat} {c g:Array Value} {e:TypeId} {f i:Nat×Nat} (k:w.heap[b]? = some (.cells c e f)) (d:w'.heap[b]? = some (.cells g e i)) (l:g.size=c.size)
  (ho:∀x,x≠b->w'.heap[x]? = w.heap[x]?):Shapes w w':=λ x c0 m f0 h=>by
 by_cases j:x=b
 ·subst j;rw [k] at h;cases h;exact ⟨g,i,d,l⟩
 ·exact ⟨c0,f0,by rw [ho x j];exact h,rfl⟩
theorem zG1 {H:Heap} (q:HR E H w) {h:Nat} {st:Bool} {cs:List AV} (n:H.get h=some (.cells st cs)) {off:Nat} {new:List AV} {b:List Value}
  (r:VRs E w new b) (h1:∀v∈b,v.oneCell'=true) (m:off+new.length<=cs.length\/(off<=cs.length/\∃(c:Array Value) (e:TypeId) (f:Nat×Nat),w.heap[E.ρ h]? = some (Obj.cells c e f)/\off+new.length<=c.size)) (a:Nat):
  ∃w',(storeCells ⟨E.ρ h,off,none⟩ b).run P w=.ok () w'/\HR E (H.put h (.cells st (qk cs off new))) w'/\Tr E H w E (H.put h (.cells st (qk cs off new))) w' a a:=by
 obtain ⟨c,e,f,k,p,i⟩:=CR.wT (q.obj _ (Heap.qh n));have B:=r.1;have K:cs.length<=c.size:=by have:=i.1;simpa using this
 have d:off<=cs.length/\off+b.length<=c.size:=by
  rcases m with m | ⟨m,J,L,M,j,C⟩
  ·omega
  ·rw [k] at j;cases j;omega
 obtain ⟨w',u,D,t,z,A,o,l⟩:=zPs (P:=P) (s:=st=true) b off 0 w c k p h1 (by omega)
 rw [Nat.add_zero] at l;have g:(c.toList.take off++b++c.toList.drop (off+b.length)).toArray.size=c.size:=by simp;omega
 have I:=Shapes.vL k l g o;obtain ⟨m1,m2,_⟩:=zLy q n D t z A o I (o':=.cells st (qk cs off new)) (λ F=>by
  refine CR.or (c:=(c.toList.take off++b++c.toList.drop (off+b.length)).toArray) ?_ l (p.imp id λ⟨x,y⟩=>⟨x,by rw [g];exact y⟩)
  exact (i.qk r h1 d.1 (by simpa using d.2)).mono F) a
 exact ⟨w',u,m1,m2⟩
theorem zHc {v:AV} {cv:Value} {sz:Nat} {cs:List AV} (e:VR E w v cv) (h:cellsOf v sz=some cs):v.flat=true/\cs=v.cells/\cs.length=sz/\VRs E w cs cv.cells.toList/\(∀u∈cv.cells.toList,u.oneCell'=true)/\cv.cells.size=sz:=by
 unfold cellsOf at h;split at h
 ·rename_i c;split at h
  ·rename_i f;cases h;obtain ⟨d,g⟩:=e.cells c;have b:=zb f;exact ⟨c,rfl,b,d,g,by rw [←Array.length_toList,←d.1];exact b⟩
  ·cases h
 ·cases h
theorem zSV {H:Heap} {t:TypeId} {sz:Nat} {h off:Nat} {v:AV} {cv:Value} {st:Bool} {cs new:List AV} (g:HR E H w) (l:VR E w v cv) (j:zM P t=some sz)
  (d:H.get h=some (.cells st cs)) (hc:cellsOf v sz=some new) (n:off+sz<=cs.length) (a:Nat):
  ∃w',(storeVar t ⟨E.ρ h,off,none⟩ cv).run P w=.ok () w'/\HR E (H.put h (.cells st (qk cs off new))) w'/\Tr E H w E (H.put h (.cells st (qk cs off new))) w' a a:=by
 obtain ⟨_,rfl,m,i,e,f⟩:=zHc l hc;obtain ⟨w',c,k,b⟩:=zG1 (P:=P) g d i e (off:=off) (.inl (by omega)) a
 refine ⟨w',?_,k,b⟩
 simp only [storeVar,Sem.run_bind,zA8 j,Result.andThen_ok];simp [f,c]
end
end Go.Sy
namespace Go.Sy
section
variable {P:Program} {E:Env} {w:World}
theorem zMS {sz:Nat}:∀{es:List AV} {cs:List AV},flatten sz es=some cs->∀(f:Nat->Value),(∀i e,es[i]? = some e->VR E w e (f i))->(∀i,i<es.length->(f i).cells.size=sz) →
  ∃vs:List Value,VRs E w cs vs/\(∀v∈vs,v.oneCell'=true)/\vs.length=es.length*sz/\∀(k:Nat) v,vs[k]? = some v->∃i j,i<es.length/\k=i*sz+j/\(f i).cells[j]? = some v
 | [],cs,h,f,_,_=>by
  simp [flatten] at h;subst h;exact ⟨[],VRs.nil,λ v b=>by simp at b,by simp,λ k v b=>by simp at b⟩
 | e::r,cs,h,f,l,z=>by
  simp only [flatten] at h;split at h
  ·rename_i c hc;split at h
   ·rename_i u d;cases h;obtain ⟨_,_,F,y,q,s⟩:=zHc (l 0 e rfl) hc;obtain ⟨vs,o,B,p,D⟩:=zMS d (λ i=>f (i+1)) (λ i x A=>l (i+1) x (by simpa using A)) (λ i n=>z (i+1) (by simpa using n))
    have m:(f 0).cells.toList.length=sz:=by rw [Array.length_toList];exact s
    refine ⟨(f 0).cells.toList++vs,y.append o,?_,?_,?_⟩
    ·intro v b;rcases QK.1 b with b | b
     ·exact q v b
     ·exact B v b
    ·rw [QH,m,p,QT,Nat.add_mul,Nat.one_mul,Nat.add_comm]
    ·intro k v b;rw [List.getElem?_append] at b;split at b
     ·rename_i g;exact ⟨0,k,by simp,by omega,by rw [←Array.getElem?_toList];exact b⟩
     ·rename_i g;obtain ⟨i,j,n,C,t⟩:=D _ _ b;refine ⟨i+1,j,by simp;omega,?_,t⟩
      rw [m] at C g;rw [Nat.add_mul,Nat.one_mul];omega
   ·cases h
  ·cases h
theorem zEh {H:Heap} {sz n:Nat} {y:AV} {t:Value} {X:List AV} (hr:HR E H w) (l:VR E w y t) (h:content H sz y=some (n,X)):
  ∃vs:List Value,VRs E w X vs/\(∀v∈vs,v.oneCell'=true)/\vs.length=n*sz/\n<=ze/\(Builtin.lenOf t).run P w=.ok n w ∧
   (∀w':World,w'.heap=w.heap->(Builtin.firstCells sz n t).run P w'=.ok vs.toArray w') ∧
   ((∃a c,t=.slice a n c/\(n*sz≠0->∃B,a=some B/\∀(j:Nat) v,vs[j]? = some v->w.cell? (B.add j)=some v))\/∃s:ByteArray,t=.string s/\s.size=n):=by
 unfold content at h;have zero:∀(a:Option Addr) (c:Nat),∃vs:List Value,VRs E w [] vs/\(∀v∈vs,v.oneCell'=true)/\vs.length=0*sz/\0<=ze/\(Builtin.lenOf (.slice a 0 c)).run P w=.ok 0 w ∧
   (∀w':World,w'.heap=w.heap->(Builtin.firstCells sz 0 (.slice a 0 c)).run P w'=.ok vs.toArray w') ∧
   ((∃U c',Value.slice a 0 c=.slice U 0 c'/\(0*sz≠0->∃B,U=some B/\∀(j:Nat) v,vs[j]? = some v->w.cell? (B.add j)=some v))\/∃s:ByteArray,Value.slice a 0 c=.string s/\s.size=0):=λ a c=>
  ⟨[],VRs.nil,λ v l=>by simp at l,by simp,QP _,by simp [Builtin.lenOf],λ w' _=>by cases a <;> simp [Builtin.firstCells,loadCells,loadCellsFrom],.inl ⟨a,c,rfl,λ h=>by simp at h⟩⟩
 split at h
 ·cases h;cases l;exact zero _ _
 ·rename_i J es;split at h
  rotate_left
  ·cases h
  rename_i Q;have:=zb Q;subst this;split at h
  ·rename_i V r;cases h;cases l with
   | wo _ a c _=>simp [flatten] at r;subst r;exact zero _ _
   | ql _ b o cap _ f hz m N aa S hc=>
    obtain ⟨vs,k1,k2,T,k4⟩:=zMS r f S (λ i O=>(hc i O).1)
    have d:∀(j:Nat) v,vs[j]? = some v->w.cell? ((⟨b,o,none⟩:Addr).add j)=some v:=λ j v p=>by
     obtain ⟨i,k,O,e1,e2⟩:=k4 j v p;rw [zBH,e1,←Nat.add_assoc];exact (hc i O).2 k v e2
    refine ⟨vs,k1,k2,T,Qp m N,by simp [Builtin.lenOf],λ w' q=>?_,.inl ⟨_,_,rfl,λ _=>⟨_,rfl,d⟩⟩⟩
    exact run_firstCells_some w' sz _ _ _ _ vs T λ j v p=>by
     have:=d j v p;rw [zBH] at this ⊢;simp only [World.cell?,q] at this ⊢;exact this
  ·cases h
 ·rename_i hd off len J cp ex;split at h
  ·rename_i g;have:=zb g;subst this;split at h
   ·rename_i st V A;split at h
    ·rename_i M;simp only [QL,Prod.mk.injEq] at h;obtain ⟨rfl,rfl⟩:=h;have z:off+len*sz<=V.length:=QM M;obtain ⟨c,e,f,F,S,D⟩:=CR.wT (hr.obj _ (Heap.qh A));obtain ⟨p1,p2⟩:=D.part z;cases l with
     | wb _ _ _ _ a=>simpa using zero (some a) 0
     | row _ _ _ _ _ cap _ hD u m W Y ac ab=>
      have R:=D.1;have C:((c.toList.drop off).take (len*sz)).length=len*sz:=by simp at R ⊢;omega
      have d:∀(j:Nat) v,((c.toList.drop off).take (len*sz))[j]? = some v->w.cell? ((⟨E.ρ hd,off,none⟩:Addr).add j)=some v:=λ j v p=>by
       rw [zBH,zQh F,←Array.getElem?_toList];rw [List.getElem?_take] at p;split at p
       ·rw [List.getElem?_drop] at p;exact p
       ·cases p
      refine ⟨_,p1,p2,C,Qp u m,by simp [Builtin.lenOf],λ w' q=>?_,.inl ⟨_,_,rfl,λ _=>⟨_,rfl,d⟩⟩⟩
      exact run_firstCells_some w' sz _ _ _ _ _ C λ j v p=>by
       have:=d j v p;rw [zBH] at this ⊢;simp only [World.cell?,q] at this ⊢;exact this
    ·cases h
   ·cases h
  ·cases h
 ·rename_i s;split at h
  ·rename_i g;have:=zb g;subst this;cases h;obtain ⟨K,rfl,L,hl⟩:=l.qY;have g:=zIP L;refine ⟨K.data.toList.map λ b=>.int .u8 b.toNat,?_,?_,?_,hl,?_,?_,.inr ⟨K,rfl,g⟩⟩
   ·subst L;refine ⟨by simp,λ i x v I l=>?_⟩
    simp only [Ql,Option.map_map] at I l;cases F:K.data.toList[i]? with
    | none=>simp [F] at I
    | some b=>
     simp [F] at I l;subst I;subst l;refine .int _ _ ?_
     have:=b.toNat_lt
     constructor <;> simp [IntKind.min,IntKind.max,IntKind.signed,IntKind.bits] <;> omega
   ·intro v l;obtain ⟨b,_,rfl⟩:=Qo.1 l;rfl
   ·subst L;simp
   ·simp [Builtin.lenOf,g]
   ·intro w' _;simp only [Builtin.firstCells,Sem.run_pure];congr 1;rw [←g,ByteArray.extract_zero_size];apply Array.ext';rw [Array.toList_map]
  ·cases h
 ·cases h
end
end Go.Sy
namespace Go.Sy
section
variable {P:Program} {E:Env} {w:World}
theorem zNb {H:Heap} (i:HR E H w) {nx:Nat} (g:¬E.D nx) {st:Bool} {cs:List AV} {c:Array Value} {e:TypeId} (d:CR E w cs c.toList):
  HR (E.add nx w.heap.size) ((nx,.cells st cs)::H) { w with heap:=w.heap.push (.cells c e) } ∧
  Tr E H w (E.add nx w.heap.size) ((nx,.cells st cs)::H) { w with heap:=w.heap.push (.cells c e) } nx (nx+1):=
 have h:=zJS i g (o:=.cells c e) (ho:=.cells st cs) λ j b _ f=>(d.mono f).or (by rw [b];exact zCy) (.inl rfl)
 ⟨h.1,h.2.1⟩
theorem zHm {α:Type} {P:α->Prop} {a b:α} {l:List α} (h1:P b) (d:∀x∈a::l,P x):∀x∈b::l,P x:=λ x c=>by
 cases c with
 | head=>exact h1
 | tail _ c=>exact d x (.tail _ c)
theorem HR.qX {H:Heap} {h:Nat} {o o':HO} (b:HR E ((h,o)::H) w) (ho:OR E w (E.ρ h) o->OR E w (E.ρ h) o'):HR E ((h,o')::H) w:=
 ⟨b.nodup,zHm (P:=λ(p:Nat×HO)=>E.D p.1) (b.qC (h,o) (.head _)) b.qC,
  zHm (P:=λ(p:Nat×HO)=>∀q∈(h,o')::H,E.ρ p.1=E.ρ q.1->p.1=q.1)
   (zHm (P:=λ(q:Nat×HO)=>E.ρ h=E.ρ q.1->h=q.1) (λ _=>rfl) (b.inj (h,o) (.head _)))
   (λ p c=>zHm (P:=λ(q:Nat×HO)=>E.ρ p.1=E.ρ q.1->p.1=q.1) (b.inj p c (h,o) (.head _)) (b.inj p c)),
  zHm (P:=λ(p:Nat×HO)=>OR E w (E.ρ p.1) p.2) (ho (b.obj (h,o) (.head _))) b.obj,
  zHm (P:=λ(p:Nat×HO)=>¬E.Z (E.ρ p.1)) (b.nz (h,o) (.head _)) b.nz,b.we⟩
theorem Tr.qX {c:Heap} {w0:World} {E0:Env} {H:Heap} {h:Nat} {o o':HO} {a b:Nat} (d:Tr E0 c w0 E ((h,o)::H) w a b):Tr E0 c w0 E ((h,o')::H) w a b:=
 { d with own:=zHm (P:=λ(p:Nat×HO)=>(∃q∈c,E0.ρ q.1=E.ρ p.1)\/w0.heap.size<=E.ρ p.1) (d.own (h,o) (.head _)) d.own }
theorem CR.take {cs:List AV} {c:List Value} (h:CR E w cs c) (k:Nat):CR E w (cs.take k) c:=
 ⟨by have:=h.1;simp;omega,λ i x b=>by
  rw [List.getElem?_take] at b;split at b
  ·exact h.2 i x b
  ·cases b⟩
theorem VR.zero {z:AV} {v:Value} {n:Nat} {P:Program} {t:TypeId} {cs:List AV} (h:zEm P t=some cs):∃i z,P.info? t=some i/\i.zero=some z/\z.cells.size=i.size/\zM P t=some i.size/\cs.length=i.size/\VRs E w cs z.cells.toList/\∀v∈z.cells.toList,v.oneCell'=true:=by
 unfold zEm at h;split at h
 ·rename_i v b;split at h
  ·rename_i n l d;split at h
   ·rename_i m;cases h;unfold zMi at b;split at b
    ·rename_i i g;split at b
     ·rename_i z k;have e:VR E w v z:=zK6 b;obtain ⟨f,j⟩:=e.cells l;have o:n=i.size:=by unfold zM at d;rw [g] at d;simpa using d.symm
      have c:=zb m;subst o;exact ⟨i,z,g,k,by rw [←Array.length_toList,←f.1,c],d,c,f,j⟩
     ·cases b
    ·cases b
   ·cases h
  ·cases h
 ·cases h
theorem zTR (z:Array Value) (n:Nat):(Builtin.zeroCells z n).size=n*z.size:=by simp [Builtin.zeroCells]
set_option maxRecDepth 20000 in
theorem zQi {t u ty e:TypeId} {i:TypeInfo} {z:Value} (B:P.underlying t=some (.slice e)) (l:(∃q,P.underlying u=some (.slice q))\/P.underlying u=some .string) (F:P.info? e=some i) (D:i.zero=some z)
  {b:Option Addr} {sLen sCap n:Nat} {o:Value} {c d:List Value} (f:∀w':World,w'.heap=w.heap->(Builtin.firstCells i.size sLen (.slice b sLen sCap)).run P w'=.ok c.toArray w')
  (g:(Builtin.lenOf o).run P w=.ok n w) (h:∀w':World,w'.heap=w.heap->(Builtin.firstCells i.size n o).run P w'=.ok d.toArray w')
  (C:sCap<sLen+n) (j:sLen+n<=ze) (k:(sLen+n)*i.bytes<=140737488355328):
  ∃cap w',sLen+n<=cap/\cap<=ze/\w'.heap=w.heap.push (.cells (c.toArray++d.toArray++Builtin.zeroCells z.cells (cap-(sLen+n))) e)/\w'.tape=w.tape/\w'.os=w.os/\w'.output=w.output ∧
   (Builtin.append_ #[t,u] ty #[.slice b sLen sCap,o]).run P w=.ok (.slice (some ⟨w.heap.size,0,none⟩) (sLen+n) cap) w':=by
 have I:¬(sLen+n<=sCap):=by omega
 have s:¬(9223372036854775807<((sLen:Int)+(n:Int))):=by unfold ze at j;omega
 have x:=growslice_fits C k;have A:¬(281474976710656<Builtin.nextslicecap (sLen+n) sCap*i.bytes):=by omega
 refine ⟨grownCap w (sLen+n) sCap e,w.drew.alloc (.cells (c.toArray++d.toArray++Builtin.zeroCells z.cells (grownCap w (sLen+n) sCap e-(sLen+n))) e),grownCap_ge w _ _ _,?_,?_,?_,?_,?_,?_⟩
 rotate_left 5
 ·have y:=f w.drew rfl;have r:=h w.drew rfl;have p:¬(((sLen+n:Nat):Int) > IntKind.i64.max):=by
   have:IntKind.i64.max=9223372036854775807:=rfl;rw [this];omega
  have m:¬(Builtin.nextslicecap (sLen+n) sCap*i.bytes > 2 ^ 48):=by
   have:(2:Nat) ^ 48=281474976710656:=rfl;omega
  rcases l with ⟨q,l⟩ | l
  all_goals
   simp only [Builtin.append_,Sem.run_bind,run_underlying B,run_underlying l,sizeOf,typeInfo,run_program,zeroValue,F,D,g,I,p,m,y,r,newRow,grownCap,
    Result.andThen_ok,Sem.run_pure,Sem.run_ite,run_choose,run_askRoom,run_newObj,List.getElem?_toArray,List.getElem?_cons_zero,List.getElem?_cons_succ,Bool.false_eq_true,if_false,false_and,Bool.not_false,if_true]
   rw [show (Question.appendCap (sLen+n) sCap e).forced=false from rfl]
   simp only [Bool.false_eq_true,if_false,Result.andThen_ok];rw [show ({ heap:=w.heap,tape:=w.tape,drawn:=w.drawn+1,os:=w.os,output:=w.output }:World)=w.drew from rfl,y,Result.andThen_ok,r,Result.andThen_ok]
   rfl
 ·exact grownCap_le_maxLen w _ _ _ (by unfold ze at j;simp only [maxLen];omega)
 ·rfl
 ·rfl
 ·rfl
 ·rfl
def zH1 (P:Program) (s:Sem Value) (E:Env) (H:Heap) (w:World) (nx:Nat) (v:AV) (H':Heap) (nx':Nat):Prop:=
 ∃d c b,s.run P w=.ok d b/\HR c H' b/\Tr E H w c H' b nx nx'/\VR c b v d
theorem zFo {t u ty e:TypeId} {i:TypeInfo} (k:P.underlying t=some (.slice e)) (f:(∃j,P.underlying u=some (.slice j))\/P.underlying u=some .string) (m:P.info? e=some i)
  {a:Addr} {sLen sCap n:Nat} {g:Value} {b:List Value} (c:(Builtin.lenOf g).run P w=.ok n w) (d:(Builtin.firstCells i.size n g).run P w=.ok b.toArray w) (l:sLen+n<=sCap)
  {w':World} (h:(storeCells (a.add (sLen*i.size)) b).run P w=.ok () w'):
  (Builtin.append_ #[t,u] ty #[.slice (some a) sLen sCap,g]).run P w=.ok (.slice (some a) (sLen+n) sCap) w':=by
 rcases f with ⟨j,f⟩ | f
 all_goals
  simp only [Builtin.append_,Sem.run_bind,run_underlying k,run_underlying f,sizeOf,typeInfo,run_program,m,c,l,d,h,
   Result.andThen_ok,Sem.run_pure,Sem.run_ite,List.getElem?_toArray,List.getElem?_cons_zero,List.getElem?_cons_succ,Bool.false_eq_true,if_false,Bool.not_false,if_true]
theorem zJT (cs:List AV) (k:Nat):qk cs k []=cs:=by simp [qk]
theorem Heap.qq:∀{H:Heap} {h:Nat} {o:HO},H.get h=some o->H.put h o=H
 | (k,b)::r,h,o,e=>by
  simp only [Heap.get] at e;simp only [Heap.put];split at e
  ·cases e;rfl
  ·rw [Heap.qq e]
theorem zRP {H:Heap} {nx nx':Nat} {s y v:AV} {a6:List AV} {cs' cy:Value} {sz bytes:Nat} {H':Heap} {t u ty e:TypeId} (S:HR E H w) (hs:VR E w s cs') (hy:VR E w y cy)
  (T:P.underlying t=some (.slice e)) (F:(∃M,P.underlying u=some (.slice M))\/P.underlying u=some .string) (hz:zEm P e=some a6) (az:zM P e=some sz) (ad:zJd P e=some bytes) (aa:0<sz)
  (d:∀h,nx<=h->h<nx'->¬E.D h) (h:xappend H nx s y sz bytes=some (v,H',nx')):zH1 P (Builtin.append_ #[t,u] ty #[cs',cy]) E H w nx v H' nx':=by
 obtain ⟨i,z,R,bj,a8,ak,_,_,_⟩:=VR.zero (P:=P) (E:=E) (w:=w) (z:=.bool true) (v:=.bool true) (n:=0) hz;have:i.size=sz:=by rw [az] at ak;simpa using ak.symm
 subst this;have hb:i.bytes=bytes:=by unfold zJd at ad;rw [R] at ad;simpa using ad
 subst hb;unfold xappend at h;split at h
 ·cases h
 ·rename_i n J af;obtain ⟨vs,k1,k2,k3,k4,U,k6,_⟩:=zEh (P:=P) S hy af;have X:=k6 w rfl;have room:∀{m:Nat},m*i.bytes<=zd->m*i.bytes<=140737488355328:=λ h=>by unfold zd at h;omega
  have O:∀{a:Option Addr} {sLen sCap:Nat} {r:List AV} {B:List Value},VRs E w r B->(∀v∈B,v.oneCell'=true)->B.length=sLen*i.size →
    (∀w':World,w'.heap=w.heap->(Builtin.firstCells i.size sLen (.slice a sLen sCap)).run P w'=.ok B.toArray w')->sCap<sLen+n->sLen+n<=ze->(sLen+n)*i.bytes<=140737488355328->¬E.D nx →
    ∃cap w',(Builtin.append_ #[t,u] ty #[.slice a sLen sCap,cy]).run P w=.ok (.slice (some ⟨w.heap.size,0,none⟩) (sLen+n) cap) w' ∧
     HR (E.add nx w.heap.size) ((nx,.cells false (r++J))::H) w'/\Tr E H w (E.add nx w.heap.size) ((nx,.cells false (r++J))::H) w' nx (nx+1) ∧
     VR (E.add nx w.heap.size) w' (.row nx 0 (sLen+n) i.size (sLen+n) false) (.slice (some ⟨w.heap.size,0,none⟩) (sLen+n) cap):=by
   intro a sLen sCap r B ho bf ba bg ac V au A;obtain ⟨cap,w',c1,c2,c3,c4,c5,c6,c7⟩:=zQi (P:=P) (ty:=ty) T F R bj bg U k6 ac V au;have bk:CR E w (r++J) (B.toArray++vs.toArray++Builtin.zeroCells z.cells (cap-(sLen+n))).toList:=by
    have h1:=CR.wQ (ho.append k1) (λ v hv=>(QK.1 hv).elim (bf v) (k2 v))
    refine ⟨by have:=h1.1;simp at this ⊢;omega,λ i x hx=>?_⟩
    obtain ⟨u,a1,a2,a3⟩:=h1.2 i x hx;refine ⟨u,?_,a2,a3⟩
    have ay:i<(B++vs).length:=(QD.1 a1).1;simp only [Array.toList_append];rw [Qx (by simpa using ay)]
    exact a1
   obtain ⟨n1,n2⟩:=zNb (st:=false) (e:=e) S A bk;obtain ⟨d1,d2⟩:=zHy (w':=w') n1 ⟨by rw [c3],c4,c5,c6⟩ (nx+1)
   refine ⟨cap,w',c7,d1,n2.trans n1 d2,?_⟩
   have:=VR.row (E:=E.add nx w.heap.size) (w:=w') nx 0 (sLen+n) i.size (sLen+n) cap false (.inr rfl) c1 c2 aa c1 (λ h=>by cases h)
    ⟨_,e,(0,0),by rw [Env.qx,c3];exact zCy,by simp [zTR,ba,k3,a8];rw [←Nat.add_mul,←Nat.add_mul];exact Nat.mul_le_mul_right _ (by omega)⟩
   rw [Env.qx] at this;exact this
  split at h
  ·
   cases hs;split at h
   ·cases h;have I:vs=[]:=List.eq_nil_of_length_eq_zero (by simpa using k3)
    refine ⟨.slice none 0 0,E,w,?_,S,.refl _,.qa⟩
    rcases F with ⟨M,F⟩ | F
    ·simp [Builtin.append_,run_underlying T,run_underlying F,sizeOf,typeInfo,R,U,X]
    ·simp [Builtin.append_,run_underlying T,run_underlying F,sizeOf,typeInfo,R,U,X]
   ·split at h
    ·rename_i m _ g;cases h;obtain ⟨cap,w',g1,g2,g3,g4⟩:=O (a:=none) (sLen:=0) (sCap:=0) VRs.nil (λ v hv=>by simp at hv) (by simp) (λ w' _=>by simp [Builtin.firstCells]) (by omega) (by omega)
      (by have:=room (QM g);simpa using this) (d nx (QA _) (by omega))
     simp only [QR,List.nil_append] at g1 g2 g3 g4;exact ⟨_,_,w',g1,g2,g3,g4⟩
    ·cases h
  ·
   rename_i q off len a7 cp ex;split at h
   ·cases h
   ·rename_i bi;have:=zb bi;subst this;split at h
    rotate_left
    ·cases h
    rename_i st C K;split at h
    ·cases h
    rename_i aw;have Y:off+len*i.size<=C.length:=QM aw;split at h
    ·cases h
    rename_i g;simp only [QB] at g;have L:=room (QM g.1);have V:len+n<=ze:=by
     have:=QM g.2;unfold zd at this;unfold ze;omega
    have ah:content H i.size (.row q off len i.size cp ex)=some (len,(C.drop off).take (len*i.size)):=by
     simp only [content,Nat.beq_refl,K,aw]
    obtain ⟨os,o1,o2,o3,o4,o5,o6,o7⟩:=zEh (P:=P) S hs ah;have ao:∀{a:Option Addr} {cap:Nat},cs'=.slice a len cap->∀w':World,w'.heap=w.heap->(Builtin.firstCells i.size len (.slice a len cap)).run P w'=.ok os.toArray w':=λ e w' h=>e▸o6 w' h
    cases hs with
    | wb _ _ _ _ a=>
     split at h
     ·rename_i k;have ar:n=0:=by have:=QM k;omega
      subst ar;have I:vs=[]:=List.eq_nil_of_length_eq_zero (by simpa using k3)
      have bh:J=[]:=List.eq_nil_of_length_eq_zero (by rw [k1.1,I];rfl)
      subst I;subst bh;cases h;rw [zJT,Heap.qq K];refine ⟨_,E,w,zFo (P:=P) T F R U X (by omega) (by simp [storeCells]),S,.refl _,?_⟩
      exact .wb q off _ _ a
     ·rename_i k;have ar:0<n:=by
       rcases Nat.eq_zero_or_pos n with h0 | h0
       ·subst h0;simp at k
       ·exact h0
      have j:=λ A=>O (a:=some a) (sCap:=0) o1 o2 o3 (ao rfl) (by omega) V L A
      split at h
      ·cases h;obtain ⟨cap,w',g1,g2,g3,g4⟩:=j (d nx (QA _) (by omega))
       exact ⟨_,_,w',g1,g2,g3,g4⟩
      ·split at h
       ·omega
       ·split at h
        ·cases h;obtain ⟨cap,w',g1,g2,g3,g4⟩:=j (d nx (QA _) (by omega))
         have p:((nx,HO.cells false ((C.drop 0).take (0*i.size)++J))::H.del q).Sublist ((nx,HO.cells false ((C.drop 0).take (0*i.size)++J))::H):=(Heap.wu H q).cons_cons _;refine ⟨_,_,w',g1,(g2.sub p).qX ?_,(g3.sub p).qX,g4⟩
         rintro ⟨c,M,f,a1,a2,a3,a4⟩
         exact ⟨c,M,f,a1,by simpa using a2,a3.imp id (λ⟨x,_⟩=>by cases x),λ i' x hx=>a4 i' x (by simpa using hx)⟩
        ·cases h
    | row _ _ _ _ _ cap _ hD aj l N ai ag W=>
     have Q:n+len<=cap->∃w',(storeCells ((⟨E.ρ q,off,none⟩:Addr).add (len*i.size)) vs).run P w=.ok () w'/\HR E (H.put q (.cells st (qk C (off+len*i.size) J))) w' ∧
       Tr E H w E (H.put q (.cells st (qk C (off+len*i.size) J))) w' nx nx:=λ k=>by
      rw [zBH];obtain ⟨c,M,f,b1,b2⟩:=W;refine zG1 S K k1 k2 (.inr ⟨Y,c,M,f,b1,?_⟩) nx
      rw [k1.1,k3];have:len*i.size+n*i.size<=cap*i.size:=by rw [←Nat.add_mul];exact Nat.mul_le_mul_right _ (by omega)
      omega
     have j:=λ ac A=>O (a:=some ⟨E.ρ q,off,none⟩) (sCap:=cap) o1 o2 o3 (ao rfl) ac V L A
     split at h
     ·rename_i k;have al:len+n<=cp:=QM k;cases h;obtain ⟨w',r1,r2,r3⟩:=Q (by omega)
      obtain ⟨c,M,f,b1,b2⟩:=W;obtain ⟨c',f',s1,s2⟩:=r3.qo _ _ _ _ b1;exact ⟨_,E,w',zFo (P:=P) T F R U X (by omega) r1,r2,r3,.row q off (len+n) _ cp cap ex hD (by omega) l N ai ag ⟨c',M,f',s1,by omega⟩⟩
     ·rename_i k;have al:¬len+n<=cp:=λ h=>by rw [Nat.ble_eq_true_of_le h] at k;cases k
      split at h
      ·cases h;have:=ag rfl;obtain ⟨aq,w',g1,g2,g3,g4⟩:=j (by omega) (d nx (QA _) (by omega))
       exact ⟨_,_,w',g1,g2,g3,g4⟩
      ·split at h
       ·cases h;have I:vs=[]:=List.eq_nil_of_length_eq_zero (by simpa using k3)
        subst I;refine ⟨_,E,w,zFo (P:=P) T F R U X (by omega) (by simp [storeCells]),S,.refl _,?_⟩
        exact .row q off len _ cp cap false hD aj l N ai ag W
       ·split at h
        ·cases h;have A:=d nx (QA _) (by omega)
         by_cases hc:len+n<=cap
         ·obtain ⟨q1,q2,q3⟩:=zST S K A;obtain ⟨c,M,f,b1,b2⟩:=W;have bb:Heap.get ((nx,HO.cells st C)::H.del q) nx=some (.cells st C):=by simp [Heap.get,Nat.beq_refl]
          have hρ:=Env.qx E nx (E.ρ q);obtain ⟨w',r1,r2,r3⟩:=zG1 (P:=P) q1 bb (off:=0+len*i.size) (k1.mono q3) k2 (.inr ⟨Y,c,M,f,by rw [hρ];exact b1,by
           rw [k1.1,k3];have:len*i.size+n*i.size<=cap*i.size:=by rw [←Nat.add_mul];exact Nat.mul_le_mul_right _ (by omega)
           omega⟩) (nx+1)
          rw [hρ,←zBH] at r1;have ax:Heap.put ((nx,HO.cells st C)::H.del q) nx (.cells st (qk C (0+len*i.size) J))=(nx,HO.cells st (qk C (0+len*i.size) J))::H.del q:=by simp [Heap.put,Nat.beq_refl]
          rw [ax] at r2 r3;obtain ⟨c',f',s1,s2⟩:=(q2.trans q1 r3).qo _ _ _ _ b1;have ab:C.take (len*i.size)++J=(qk C (0+len*i.size) J).take (len*i.size+J.length):=by
           unfold qk;rw [QR];exact (List.take_left' (by simp;omega)).symm
          refine ⟨_,_,w',zFo (P:=P) T F R U X hc r1,r2.qX ?_,(q2.trans q1 r3).qX,?_⟩
          ·intro ho;obtain ⟨cc,ee,ff,a1,a2,a3⟩:=CR.wT ho;rw [ab];exact (a3.take _).or a1 a2
          ·have:=VR.row (E:=E.add nx (E.ρ q)) (w:=w') nx 0 (len+n) i.size (len+n) cap false (.inr rfl) hc l aa hc (λ h=>by cases h) ⟨c',M,f',by rw [hρ];exact s1,by omega⟩
           rw [hρ] at this;exact this
         ·obtain ⟨aq,w',g1,g2,g3,g4⟩:=j (by omega) A
          have p:((nx,HO.cells false ((C.drop 0).take (len*i.size)++J))::H.del q).Sublist ((nx,HO.cells false ((C.drop 0).take (len*i.size)++J))::H):=(Heap.wu H q).cons_cons _;refine ⟨_,_,w',g1,(g2.sub p).qX ?_,(g3.sub p).qX,g4⟩
          rintro ⟨c,M,f,a1,a2,a3,a4⟩
          exact ⟨c,M,f,a1,by simpa using a2,a3.imp id (λ⟨x,_⟩=>by cases x),λ i' x hx=>a4 i' x (by simpa using hx)⟩
        ·cases h
  ·
   rename_i zz es;split at h
   ·cases h;have I:vs=[]:=List.eq_nil_of_length_eq_zero (by simpa using k3)
    subst I;cases hs with
    | wo _ a c ae=>
     refine ⟨.slice a 0 c,E,w,?_,S,.refl _,.wo _ a c ae⟩
     rcases F with ⟨M,F⟩ | F <;> cases a <;>
      simp [Builtin.append_,run_underlying T,run_underlying F,sizeOf,typeInfo,R,U,X,storeCells]
    | ql _ b o cap a7 f be l ae bc hf hc=>
     refine ⟨_,E,w,zFo (P:=P) T F R U X (by omega) (by simp [storeCells]),S,.refl _,?_⟩
     exact .ql es b o cap _ f be l ae bc hf hc
   ·cases h
  ·cases h
end
end Go.Sy
namespace Go.Sy
section
variable {P:Program} {E:Env} {w:World}
theorem zKj:∀{a b:List Nat},seqb a b=true->a=b
 | [],[],_=>rfl
 | a::x,b::y,h=>by
  simp only [seqb] at h;split at h
  ·rename_i c;rw [zb c,zKj h]
  ·cases h
 | [],_::_,h=>by simp [seqb] at h
 | _::_,[],h=>by simp [seqb] at h
theorem zUO {k:Kd} {x y:AV} (h:eqb k x y=some true):x=y:=by
 unfold eqb at h;split at h
 ·simp at h;rw [h]
 ·split at h
  ·rename_i d;rw [zHk d];simp at h;rw [h]
  ·cases h
 ·simp only [QL] at h;rw [zKj h]
 ·cases h
theorem zTg:∀{d:List Kd} {x y:List AV},eqbs d x y=some true->x=y
 | [],[],[],_=>rfl
 | k::d,a::x,b::y,h=>by
  simp only [eqbs] at h;split at h
  ·rename_i e;rw [zUO e,zTg h]
  ·cases h
  ·cases h
 | [],_::_,_,h=>by simp [eqbs] at h
 | [],[],_::_,h=>by simp [eqbs] at h
 | _::_,[],_,h=>by simp [eqbs] at h
 | _::_,_::_,[],h=>by simp [eqbs] at h
theorem zUP {e:Bool} {d:List Kd} {x y:AV} (h:eqk e d x y=some true):x=y:=by
 unfold eqk at h;split at h
 ·split at h
  ·unfold eqs at h;split at h
   ·rw [zTg h]
   ·cases h
  ·cases h
 ·split at h
  ·cases h
  ·split at h
   ·exact zUO h
   ·cases h
theorem zE1 {r:Bool} {l:List Kd} {e:TypeId} {x y:AV} {o j:Value} {b:Bool} (m:zCh P 6 e=some l) (d:agT P e=some r) (hx:VR E w x o) (q:VR E w y j)
  (h:eqk r l x y=some b):(Op.equal e o j).run P w=.ok b w:=by
 unfold eqk at h;split at h
 ·split at h
  ·unfold eqs at h;split at h
   ·rename_i z A;obtain ⟨B,rfl,g,_⟩:=hx.qW;obtain ⟨C,rfl,n,_⟩:=q.qW;exact zI4 m 9994 _ _ _ _ _ _ _ g n (.inl ⟨d,rfl⟩) (.inl ⟨d,rfl⟩) (by rw [←g.1];exact zb z) (by rw [←n.1];exact zb A) h
   ·cases h
  ·cases h
 ·split at h
  ·cases h
  ·split at h
   ·rename_i k;have t:eqbs [k] [x] [y]=some b:=by
     simp only [eqbs,h];cases b <;> rfl
    exact zI4 m 9994 _ _ _ _ _ _ _ (VRs.cons hx VRs.nil) (VRs.cons q VRs.nil) (.inr ⟨d,rfl⟩) (.inr ⟨d,rfl⟩) rfl rfl t
   ·cases h
theorem zIQ:∀{d:Nat} {t:TypeId} {q:List Kd},zCh P d t=some q->∀(em:Bool) (D:Nat) (vs:List Value) (cv:Value),shaped P t vs cv->vs.length=q.length →
  (Instr.checkKey em (D+d) t cv).run P w=.ok () w
 | 0,t,q,h=>by simp [zCh] at h
 | d+1,t,q,h=>by
  intro em D vs cv T lv;unfold zCh at h;have base:(∃k,P.underlying t=some (.int k))\/P.underlying t=some .bool\/P.underlying t=some .string->(Instr.checkKey em (D+(d+1)) t cv).run P w=.ok () w:=by
   rw [←Nat.add_assoc]
   rintro (⟨k,hu⟩ | hu | hu) <;> simp [Instr.checkKey,run_underlying hu]
  split at h
  ·rename_i e;exact base (.inr (.inl e))
  ·rename_i e;exact base (.inl ⟨_,e⟩)
  ·rename_i e;exact base (.inr (.inr e))
  ·rename_i U e;split at h
   ·cases h
   ·have C:agT P t=some true:=by simp [agT,e]
    rcases T with ⟨_,rfl⟩ | ⟨O,_⟩
    rotate_left
    ·rw [C] at O;cases O
    rw [←Nat.add_assoc];simp only [Instr.checkKey,Sem.run_bind,run_underlying e,Result.andThen_ok];rw [←Array.forIn_toList];have key:∀(l:List Field) (n:Nat) (B:List Kd),zKq P (zCh P d) n l=some B->n+B.length=vs.length →
      ((forIn l PUnit.unit λ f r=>do
       if f.name ≠ "_" then do
         let r ←Go.part f.type vs.toArray f.offset
         let r ←Instr.checkKey em (D+d) f.type r
         pure (ForInStep.yield PUnit.unit)
        else do
         pure (ForInStep.yield PUnit.unit):Sem PUnit)).run P w=.ok PUnit.unit w:=by
     intro l
     induction l with
     | nil=>intro n B _ _;simp
     | cons f r W=>
      intro n B m n1;simp only [zKq] at m;split at m
      ·rename_i Q s N z A K;split at m
       ·rename_i x;split at m
        ·rename_i rs F;cases m;have j:Q.length=s:=zb x;have o:f.offset=n:=zb z;obtain ⟨g,R,J⟩:=zRO A;have X:(Q++rs).length=s+rs.length:=by rw [QH,j]
         obtain ⟨Y,M,L⟩:=zLA (P:=P) (w:=w) (xs:=vs.toArray) (t:=f.type) (off:=n) (sz:=s) R K (λ h=>by rw [←j];exact J h) (by simp;omega)
         have V:=zIQ A em D _ _ L (by simp;omega)
         have y:f.name ≠ "_":=by simpa using N
         have I:=W (n+s) rs F (by omega)
         simp only [List.forIn_cons,y,ne_eq,not_false_eq_true,if_true,o,Sem.run_bind,M,Result.andThen_ok,V,Sem.run_pure];exact I
        ·cases m
       ·cases m
      ·cases m
    have S:=key U.toList 0 q h (by omega)
    rw [S];rfl
  ·cases h
theorem zEP {m:Bool} {j:List Kd} {g:TypeId} {k:AV} {d:Value} {em:Bool} (n:zCh P 6 g=some j) (o:agT P g=some m) (r:VR E w k d) (h:zEl m j k=true):
  (Instr.checkKey em 10000 g d).run P w=.ok () w:=by
 have one:m=false->j.length=1->(Instr.checkKey em 10000 g d).run P w=.ok () w:=λ e l=>
  zIQ n em 9994 [d] d (.inr ⟨e▸o,rfl⟩) (by rw [l];rfl)
 unfold zEl at h;split at h
 ·simp only [QB] at h;obtain ⟨q,rfl,t,_⟩:=r.qW;exact zIQ n em 9994 q.toList _ (.inl ⟨h.1▸o,by simp⟩) (by rw [←t.1];exact zb h.2)
 ·simp only [QB,Bool.not_eq_true'] at h;exact one h.1 (zb h.2)
 ·simp only [QB,Bool.not_eq_true'] at h;exact one h.1 (zb h.2)
 ·simp only [QB,Bool.not_eq_true'] at h;exact one h.1 (zb h.2)
 ·cases h
theorem zMT {c:TypeId} {kind:TypeDesc} (d:P.underlying c=some kind) {x y:Value} {b:Bool} (h:Instr.sameNow kind x y=some b):(Op.equal c x y).run P w=.ok b w:=by
 unfold Instr.sameNow at h;split at h
 ·split at h
  ·rename_i e;subst e;cases h;exact run_equalIn_int w 9999 c _ _ _ _ d
  ·cases h
 ·cases h;exact (run_equalIn_string w 9999 c _ _ d).trans (by rw [beq_toListBytes])
 ·cases h;exact run_equalIn_bool w 9999 c _ _ d
 ·cases h
theorem zLP {d:TypeId} {kind:TypeDesc} (b:P.underlying d=some kind) {k:Value}:∀{es:List MapEntry} {i:Nat} {r:Option (Nat×Value)},Instr.findNow kind k es i=some r->(Instr.findAsking d k es i).run P w=.ok r w
 | [],i,r,h=>by simp [Instr.findNow] at h;subst h;simp [Instr.findAsking]
 | e::es,i,r,h=>by
  simp only [Instr.findNow] at h;split at h
  ·rename_i c;cases h;simp [Instr.findAsking,zMT (P:=P) (w:=w) b c]
  ·rename_i c;have:=zLP b h;simp [Instr.findAsking,zMT (P:=P) (w:=w) b c,this]
  ·cases h
theorem zFC {c:TypeId} {k:Value} {es:List MapEntry} {r:Option (Nat×Value)} (b:∃kind,P.underlying c=some kind) (h:(Instr.findAsking c k es).run P w=.ok r w):(Instr.findKey c k es).run P w=.ok r w:=by
 obtain ⟨kind,b⟩:=b;simp only [Instr.findKey,Sem.run_bind,run_underlying b,Result.andThen_ok];split
 ·rename_i e d;have:=zLP (w:=w) b d;rw [h] at this;cases this;rfl
 ·exact h
def ER (E:Env) (w:World) (es:List (AV×AV)) (c:List MapEntry):Prop:=
 es.length=c.length/\∀(i:Nat) k x,es[i]? = some (k,x)->∃m,c[i]? = some m/\VR E w k m.key/\VR E w x m.val
theorem ER.of_cons {k x:AV} {es:List (AV×AV)} {c:List MapEntry} (h:ER E w ((k,x)::es) c):∃m d,c=m::d/\VR E w k m.key/\VR E w x m.val/\ER E w es d:=by
 cases c with
 | nil=>have:=h.1;simp at this
 | cons m c=>
  obtain ⟨j,b,e,f⟩:=h.2 0 k x rfl;simp at b;subst b;exact ⟨m,c,rfl,e,f,by have:=h.1;simpa using this,λ i k x g=>by have:=h.2 (i+1) k x (by simpa using g);simpa using this⟩
theorem zPt {B:Bool} {x:List Kd} {o:TypeId} {k:AV} {z:Value} (n:zCh P 6 o=some x) (l:agT P o=some B) (t:VR E w k z):∀{es:List (AV×AV)} {c:List MapEntry} {i:Nat} {r:Option AV},
  ER E w es c->mfind B x k es=some r->∃d:Option (Nat×Value),(Instr.findAsking o z c i).run P w=.ok d w ∧
   (match r with | none=>d=none | some v=>∃j cv,d=some (i+j,cv)/\VR E w v cv/\∃g,es[j]? = some (g,v)/\g=k)
 | [],c,i,r,q,h=>by
  have:c=[]:=by have:=q.1;cases c <;> simp_all
  subst this;simp [mfind] at h;subst h;exact ⟨none,by simp [Instr.findAsking],rfl⟩
 | (j,v)::es,c,i,r,q,h=>by
  obtain ⟨m,N,rfl,y,D,J⟩:=q.of_cons;simp only [mfind] at h;split at h
  ·rename_i e;cases h;refine ⟨some (i,m.val),by simp [Instr.findAsking,zE1 n l t y e],0,m.val,rfl,D,j,rfl,(zUP e).symm⟩
  ·rename_i e;obtain ⟨d,F,A⟩:=zPt n l t (i:=i+1) J h;refine ⟨d,by simp [Instr.findAsking,zE1 n l t y e,F],?_⟩
   cases r with
   | none=>exact A
   | some v=>
    obtain ⟨C,cv,K,I,g,L,M⟩:=A;exact ⟨C+1,cv,by rw [K];congr 2;omega,I,g,by simpa using L,M⟩
  ·cases h
theorem zOz {t:TypeId} {z:AV} (h:zMi P t=some z):∃b,(zeroValue t).run P w=.ok b w/\∀{E:Env} {w':World},VR E w' z b:=by
 unfold zMi at h;split at h
 ·rename_i i d;split at h
  ·rename_i v c;exact ⟨v,by simp [zeroValue,typeInfo,d,c],λ{E w'}=>zK6 h⟩
  ·cases h
 ·cases h
theorem VR.of_map {h:Nat} {cv:Value} (b:VR E w (.map h) cv):cv=.map (some (E.ρ h))/\E.D h:=by cases b;exact ⟨rfl,by assumption⟩
theorem zKk {v:AV} {cv:Value} {b:Bool} (h:VR E w v cv):VR E w (.qc [v,.bool b]) (.tuple #[cv,.bool b]):=
 VR.qJ (VRs.cons h (VRs.cons (.bool b) VRs.nil))
theorem zRQ {H:Heap} {N ok:Bool} {K:List Kd} {t D R:TypeId} {m k z v:AV} {O J:Value} (hr:HR E H w) (o:P.underlying t=some (.map D R)) (L:zCh P 6 D=some K) (q:agT P D=some N)
  (W:zMi P R=some z) (hm:VR E w m O) (M:VR E w k J) (A:zEl N K k=true)
  (h:(m=.qj/\v=(match ok with | true=>.qc [z,.bool false] | false=>z))\/∃C es r,m=.map C/\H.get C=some (.map es)/\mfind N K k es=some r ∧
   v=(match r with | some v=>(match ok with | true=>.qc [v,.bool true] | false=>v) | none=>(match ok with | true=>.qc [z,.bool false] | false=>z))):
  ∃cv,(Instr.lookup t O J ok).run P w=.ok cv w/\VR E w v cv:=by
 obtain ⟨F,I,z2⟩:=zOz (w:=w) W;have l:∃kind,P.underlying D=some kind:=by
  unfold agT at q;split at q <;> first | exact ⟨_,by assumption⟩ | cases q
 rcases h with ⟨rfl,rfl⟩ | ⟨C,es,r,rfl,B,X,rfl⟩
 ·cases hm;have g:=zEP (P:=P) (em:=true) L q M A;have e:=zFC (P:=P) (w:=w) (k:=J) (es:=[]) (r:=none) l (by simp [Instr.findAsking])
  cases ok
  ·exact ⟨F,by simp [Instr.lookup,run_underlying o,g,e,I],z2⟩
  ·exact ⟨.tuple #[F,.bool false],by simp [Instr.lookup,run_underlying o,g,e,I],zKk z2⟩
 ·obtain ⟨rfl,hD⟩:=hm.of_map;obtain ⟨c,clock,V,Y,y,_⟩:=hr.obj _ (Heap.qh B);have he:ER E w es c.toList:=⟨by simpa using Y,λ i k x hx=>let ⟨m,a,b,d,_⟩:=y i k x hx;⟨m,by simpa using a,b,d⟩⟩
  obtain ⟨T,U,S⟩:=zPt (P:=P) (i:=0) L q M he X;have g:=zEP (P:=P) (em:=c.isEmpty) L q M A;have e:=zFC (P:=P) (w:=w) (k:=J) (es:=c.toList) (r:=T) l U;have n:(getObj (E.ρ C)).run P w=.ok (.map c clock) w:=by simp [getObj,Sem.run,V]
  cases r with
  | none=>
   subst S;cases ok
   ·exact ⟨F,by simp [Instr.lookup,run_underlying o,n,g,e,I],z2⟩
   ·exact ⟨.tuple #[F,.bool false],by simp [Instr.lookup,run_underlying o,n,g,e,I],zKk z2⟩
  | some v=>
   obtain ⟨j,cv,rfl,Q,_⟩:=S;cases ok
   ·exact ⟨cv,by simp [Instr.lookup,run_underlying o,n,g,e],Q⟩
   ·exact ⟨.tuple #[cv,.bool true],by simp [Instr.lookup,run_underlying o,n,g,e],zKk Q⟩
theorem zFD {H:Heap} (n:HR E H w) {h:Nat} {o o':HO} (m:H.get h=some o) {ob ob':Obj} (j:w.heap[E.ρ h]? = some ob) (l:∀c e f,ob≠.cells c e f)
  (k:∀w':World,w'.heap[E.ρ h]? = some ob'->(∀{v cv},VR E w v cv->VR E w' v cv)->OR E w' (E.ρ h) o') (a:Nat):
  ∃w',(setObj (E.ρ h) ob').run P w=.ok () w'/\HR E (H.put h o') w'/\Tr E H w E (H.put h o') w' a a/\∀{v cv},VR E w v cv->VR E w' v cv:=by
 have g:=(Array.getElem?_eq_some_iff.1 j).1;refine ⟨{ w with heap:=w.heap.setIfInBounds (E.ρ h) ob' },?_,?_⟩
 ·cases ob <;> first | exact absurd rfl (l _ _ _) | simp only [setObj,Sem.run,j]
 ·refine zLy (w':={ w with heap:=w.heap.setIfInBounds (E.ρ h) ob' }) n m rfl rfl rfl (by simp) (λ b i=>?_) (λ b c e f d=>?_) (λ p=>k _ ?_ p) a
  ·show (w.heap.setIfInBounds (E.ρ h) ob')[b]? = _
   rw [Array.getElem?_setIfInBounds,if_neg (Ne.symm i)]
  ·refine ⟨c,f,?_,rfl⟩
   show (w.heap.setIfInBounds (E.ρ h) ob')[b]? = _
   rw [Array.getElem?_setIfInBounds];split
   ·rename_i e;subst e;rw [j] at d;cases d;exact absurd rfl (l _ _ _)
   ·exact d
  ·show (w.heap.setIfInBounds (E.ρ h) ob')[E.ρ h]? = _
   rw [Array.getElem?_setIfInBounds,if_pos rfl,if_pos g]
theorem zPu {D:Bool} {C:List Kd} {n:TypeId} {k x:AV} {z:Value} (l:zCh P 6 n=some C) (g:agT P n=some D) (o:VR E w k z):∀{es d:List (AV×AV)} {c:List MapEntry} {i:Nat},
  ER E w es c->mput D C k x es=some d →
  ((Instr.findAsking n z c i).run P w=.ok none w/\d=es++[(k,x)])\/∃j cv y,(Instr.findAsking n z c i).run P w=.ok (some (i+j,cv)) w/\es[j]? = some (k,y)/\d=es.set j (k,x)
 | [],d,c,i,B,h=>by
  have:c=[]:=by have:=B.1;cases c <;> simp_all
  subst this;simp [mput] at h;subst h;exact .inl ⟨by simp [Instr.findAsking],rfl⟩
 | (j,v)::es,d,c,i,B,h=>by
  obtain ⟨m,L,rfl,t,K,I⟩:=B.of_cons;simp only [mput] at h;split at h
  ·rename_i e;cases h;exact .inr ⟨0,m.val,v,by simp [Instr.findAsking,zE1 l g o t e],by rw [zUP e];rfl,rfl⟩
  ·rename_i e;split at h
   ·rename_i J r;cases h;rcases zPu l g o (i:=i+1) I r with ⟨A,rfl⟩ | ⟨q,cv,y,A,F,rfl⟩
    ·exact .inl ⟨by simp [Instr.findAsking,zE1 l g o t e,A],rfl⟩
    ·refine .inr ⟨q+1,cv,y,?_,by simpa using F,rfl⟩
     have:i+(q+1)=i+1+q:=by omega
     rw [this];simp [Instr.findAsking,zE1 l g o t e,A]
   ·cases h
  ·cases h
theorem zPv {B:Bool} {A:List Kd} {l:TypeId} {k:AV} {x:Value} (g:zCh P 6 l=some A) (e:agT P l=some B) (o:VR E w k x):∀{es d:List (AV×AV)} {c:List MapEntry} {i:Nat},
  ER E w es c->mdel B A k es=some d →
  ((Instr.findAsking l x c i).run P w=.ok none w/\d=es)\/∃j cv,(Instr.findAsking l x c i).run P w=.ok (some (i+j,cv)) w/\j<es.length/\d=es.eraseIdx j
 | [],d,c,i,z,h=>by
  have:c=[]:=by have:=z.1;cases c <;> simp_all
  subst this;simp [mdel] at h;subst h;exact .inl ⟨by simp [Instr.findAsking],rfl⟩
 | (j,v)::es,d,c,i,z,h=>by
  obtain ⟨m,I,rfl,t,F,C⟩:=z.of_cons;simp only [mdel] at h;split at h
  ·rename_i n;cases h;exact .inr ⟨0,m.val,by simp [Instr.findAsking,zE1 g e o t n],by simp,rfl⟩
  ·rename_i n;split at h
   ·rename_i D r;cases h;rcases zPv g e o (i:=i+1) C r with ⟨y,rfl⟩ | ⟨q,cv,y,J,rfl⟩
    ·exact .inl ⟨by simp [Instr.findAsking,zE1 g e o t n,y],rfl⟩
    ·refine .inr ⟨q+1,cv,?_,by simp;omega,rfl⟩
     have:i+(q+1)=i+1+q:=by omega
     rw [this];simp [Instr.findAsking,zE1 g e o t n,y]
   ·cases h
  ·cases h
theorem zOP {k:AV} {b c2:Value} (h1:VR E w k b) (d:VR E w k c2):∃c w',(Instr.keyThatStays b c2).run P w=.ok c w'/\World.vt w w'/\VR E w k c:=by
 unfold Instr.keyThatStays;split
 ·exact ⟨c2,w,rfl,.refl w,d⟩
 ·simp only [Sem.run_bind,run_choose];have pick:∀(n:Nat),VR E w k (if n=0 then c2 else b):=λ n=>by split <;> assumption
  split
  ·exact ⟨_,w,rfl,.refl w,pick 0⟩
  ·exact ⟨_,_,rfl,.mk w _,pick _⟩
theorem zN6 {w':World} (c:World.vt w w') {v:AV} {cv:Value} (h:VR E w v cv):VR E w' v cv:=
 h.mono (λ _ h=>⟨h,rfl⟩) (λ b h=>⟨h,by rw [c.1]⟩) (.of_heap c.1)
theorem zTS {H:Heap} {nx:Nat} {ag:Bool} {ks:List Kd} {t X et:TypeId} {K:Nat} {k x:AV} {cm Q C:Value} {es F:List (AV×AV)} (hr:HR E H w) (ht:P.underlying t=some (.map X et)) (hk:zCh P 6 X=some ks) (O:agT P X=some ag)
  (hm:VR E w (.map K) cm) (Y:VR E w k Q) (hx:VR E w x C) (aa:zEl ag ks k=true) (q:H.get K=some (.map es)) (h:mput ag ks k x es=some F):
  ∃w',(Instr.mapUpdate t cm Q C).run P w=.ok () w'/\HR E (H.put K (.map F)) w'/\Tr E H w E (H.put K (.map F)) w' nx nx:=by
 obtain ⟨rfl,hD⟩:=hm.of_map;obtain ⟨c,clock,hb,T,l,r⟩:=hr.obj _ (Heap.qh q);have o:∃kind,P.underlying X=some kind:=by
  unfold agT at O;split at O <;> first | exact ⟨_,by assumption⟩ | cases O
 have he:ER E w es c.toList:=⟨by simpa using T,λ i k x hx=>let ⟨m,a,b,d,_⟩:=l i k x hx;⟨m,by simpa using a,b,d⟩⟩
 have M:=zEP (P:=P) (em:=false) hk O Y aa;have U:(getObj (E.ρ K)).run P w=.ok (.map c clock) w:=by simp [getObj,Sem.run,hb]
 rcases zPu (P:=P) (i:=0) hk O Y he h with ⟨e1,rfl⟩ | ⟨j,cv,x',e1,e2,rfl⟩
 ·have A:=zFC o e1;obtain ⟨w',s1,s2,s3,_⟩:=zFD (P:=P) hr q hb (λ _ _ _ h=>by cases h) (ob':=.map (c.push { key:=Q,val:=C,born:=clock }) (clock+1)) (o':=.map (es++[(k,x)])) (λ w' I hm=>by
   refine ⟨_,_,I,by simp [T],λ i k' v' g=>?_,λ i j m n g D z=>?_⟩
   ·rw [List.getElem?_append] at g;split at g
    ·rename_i N;obtain ⟨m,R,a2,a3,a4⟩:=l i k' v' g;exact ⟨m,by rw [Array.getElem?_push,if_neg (by omega)];exact R,hm a2,hm a3,by omega⟩
    ·rename_i ae;have ab:i=es.length:=by
      have:=(QD.1 g).1;simp at this;omega
     subst ab;simp at g;obtain ⟨rfl,rfl⟩:=g;exact ⟨{ key:=Q,val:=C,born:=clock },by rw [Array.getElem?_push,if_pos T],hm Y,hm hx,QX _⟩
   ·have L:∀{i:Nat} {m:MapEntry},c[i]? = some m->m.born<clock:=λ{i m} g=>by
     have N:i<es.length:=by rw [T];exact (Array.getElem?_eq_some_iff.1 g).1
     obtain ⟨V,W,_,_,b4⟩:=l i (es[i]).1 (es[i]).2 (by simp [N])
     rw [g] at W;cases W;exact b4
    rw [Array.getElem?_push] at g D;split at g <;> split at D
    ·omega
    ·cases g;have:=L D;simp at z;omega
    ·cases D;have:=L g;simp at z;omega
    ·exact r i j m n g D z) nx
  exact ⟨w',by simp [Instr.mapUpdate,run_underlying ht,U,M,A,s1],s2,s3⟩
 ·have A:=zFC o e1;rw [QR] at A;obtain ⟨m,R,a2,a3,a4⟩:=l j k x' e2;obtain ⟨kk,w1,q1,J,q3⟩:=zOP (P:=P) a2 Y;obtain ⟨d1,d2⟩:=zHy hr J nx;have ac:w1.heap[E.ρ K]? = some (.map c clock):=by rw [J.1];exact hb
  have ad:j<c.size:=(Array.getElem?_eq_some_iff.1 R).1;obtain ⟨w',s1,s2,s3,_⟩:=zFD (P:=P) d1 q ac (λ _ _ _ h=>by cases h) (ob':=.map (c.modify j λ e=>{ e with key:=kk,val:=C }) clock) (o':=.map (es.set j (k,x))) (λ w' I hm=>by
   refine ⟨_,_,I,by simp [T],λ i k' v' g=>?_,λ i i' m1 n1 g D z=>?_⟩
   ·rw [List.getElem?_set] at g;rw [Array.getElem?_modify];split at g
    ·rename_i e;subst e;split at g
     ·cases g;exact ⟨{ m with key:=kk,val:=C },by simp [R],hm (zN6 J q3),hm (zN6 J hx),a4⟩
     ·cases g
    ·rename_i e;obtain ⟨V,W,b2,b3,b4⟩:=l i k' v' g;exact ⟨V,by rw [if_neg e];exact W,hm (zN6 J b2),hm (zN6 J b3),b4⟩
   ·have B:∀{i:Nat} {m:MapEntry},(c.modify j λ e=>{ e with key:=kk,val:=C })[i]? = some m->∃V,c[i]? = some V/\V.born=m.born:=λ{i m} g=>by
     rw [Array.getElem?_modify] at g;split at g
     ·cases hc:c[i]? with
      | none=>simp [hc] at g
      | some y=>simp [hc] at g;exact ⟨y,rfl,by rw [←g]⟩
     ·exact ⟨m,g,rfl⟩
    obtain ⟨p1,p2,p3⟩:=B g;obtain ⟨r1,r2,r3⟩:=B D;exact r i i' p1 r1 p2 r2 (by omega)) nx
  refine ⟨w',?_,s2,d2.trans d1 s3⟩
  have S:((c[j]?).map (·.key)).getD Q=m.key:=by simp [R]
  simp [Instr.mapUpdate,run_underlying ht,U,M,A,S,q1,s1]
theorem zUQ {H:Heap} {nx:Nat} {X:Bool} {N:List Kd} {t L et ty:TypeId} {ts:Array TypeId} {C:Nat} {k:AV} {cm ck:Value} {es y:List (AV×AV)} (R:HR E H w) (Y:P.underlying t=some (.map L et)) (hk:zCh P 6 L=some N) (D:agT P L=some X)
  (J:ts[0]? = some t) (hm:VR E w (.map C) cm) (hv:VR E w k ck) (U:zEl X N k=true) (o:H.get C=some (.map es)) (h:mdel X N k es=some y):
  ∃w',(Builtin.delete_ ts ty #[cm,ck]).run P w=.ok (.tuple #[]) w'/\HR E (H.put C (.map y)) w'/\Tr E H w E (H.put C (.map y)) w' nx nx:=by
 obtain ⟨rfl,hD⟩:=hm.of_map;obtain ⟨c,clock,M,Q,l,g⟩:=R.obj _ (Heap.qh o);have n:∃kind,P.underlying L=some kind:=by
  unfold agT at D;split at D <;> first | exact ⟨_,by assumption⟩ | cases D
 have he:ER E w es c.toList:=⟨by simpa using Q,λ i k x T=>let ⟨m,a,b,d,_⟩:=l i k x T;⟨m,by simpa using a,b,d⟩⟩
 have K:=zEP (P:=P) (em:=c.isEmpty) hk D hv U;have I:(getObj (E.ρ C)).run P w=.ok (.map c clock) w:=by simp [getObj,Sem.run,M]
 rcases zPv (P:=P) (i:=0) hk D hv he h with ⟨W,rfl⟩ | ⟨j,cv,W,e2,rfl⟩
 ·have z:=zFC n W;obtain ⟨w',S,O,V,_⟩:=zFD (P:=P) R o M (λ _ _ _ h=>by cases h) (ob':=.map c clock) (o':=.map y) (λ w' A hm=>
   ⟨c,clock,A,Q,λ i k x T=>let ⟨m,a,b,d,e⟩:=l i k x T;⟨m,a,hm b,hm d,e⟩,g⟩) nx
  exact ⟨w',by simp [Builtin.delete_,J,run_underlying Y,I,K,z,S],O,V⟩
 ·have z:=zFC n W;rw [QR] at z;have F:∀(i:Nat),(c.eraseIdxIfInBounds j)[i]? = if i<j then c[i]? else c[i+1]?:=λ i=>by
   rw [←Array.getElem?_toList,Array.toList_eraseIdxIfInBounds,List.getElem?_eraseIdx];split <;> simp
  obtain ⟨w',S,O,V,_⟩:=zFD (P:=P) R o M (λ _ _ _ h=>by cases h) (ob':=.map (c.eraseIdxIfInBounds j) clock) (o':=.map (es.eraseIdx j)) (λ w' A hm=>by
   refine ⟨_,_,A,?_,λ i k' v' q=>?_,λ i i' m1 n1 q B r=>?_⟩
   ·have e3:(c.eraseIdxIfInBounds j).size=(c.toList.eraseIdx j).length:=by rw [←Array.length_toList,Array.toList_eraseIdxIfInBounds]
    have e4:c.toList.length=es.length:=by rw [Q];rfl
    rw [e3,List.length_eraseIdx,List.length_eraseIdx,e4]
   ·rw [List.getElem?_eraseIdx] at q;rw [F];split at q
    ·obtain ⟨m,a,b,d,e⟩:=l _ _ _ q;exact ⟨m,by rw [if_pos (by assumption)];exact a,hm b,hm d,e⟩
    ·obtain ⟨m,a,b,d,e⟩:=l _ _ _ q;exact ⟨m,by rw [if_neg (by assumption)];exact a,hm b,hm d,e⟩
   ·rw [F] at q B;split at q <;> split at B
    ·exact g _ _ _ _ q B r
    ·have:=g _ _ _ _ q B r;omega
    ·have:=g _ _ _ _ q B r;omega
    ·have:=g _ _ _ _ q B r;omega) nx
  exact ⟨w',by simp [Builtin.delete_,J,run_underlying Y,I,K,z,S],O,V⟩
end
end Go.Sy
namespace Go.Sy
section
variable {P:Program} {E:Env} {w:World}
theorem zNc {b:Nat} {c:Array Value} {e:TypeId} {f:Nat×Nat} (h:w.heap[b]? = some (.cells c e f)):(viewAt b).run P w=.ok none w:=by
 simp [viewAt,World.shape?,h]
theorem zK7 {b o:Nat} {c:Array Value} {e:TypeId} {f:Nat×Nat} (h:w.heap[b]? = some (.cells c e f)) (d:f.2=f.1):w.frozen? ⟨b,o,none⟩=false:=by
 obtain ⟨g,i⟩:=f;simp [World.frozen?,h];simp at d;omega
theorem zNd {b o:Nat} {c:Array Value} {e:TypeId} {f:Nat×Nat} (h:w.heap[b]? = some (.cells c e f)) (d:f.2=f.1):(stringish ⟨b,o,none⟩).run P w=.ok false w:=by
 have i:w.frozen? ⟨b,o,none⟩=false:=zK7 h d;have g:w.frozen? { block:=b,off:=c.size }=false:=zK7 h d;simp [stringish,i,World.shape?,h,g]
theorem zOA {H:Heap} (i:HR E H w) {h:Nat} (b:zN1 (H.get h)=true):∃(c:Array Value) (e:TypeId) (f:Nat×Nat),w.heap[E.ρ h]? = some (Obj.cells c e f)/\f.2=f.1/\∃o,(h,o)∈H:=by
 unfold zN1 at b;split at b
 ·rename_i m j;have d:=Heap.qh j;obtain ⟨c,e,f,g,l,k,_⟩:=i.obj _ d;exact ⟨c,e,f,g,k.elim id (λ⟨x,_⟩=>by cases x),_,d⟩
 ·cases b
theorem zUR {H:Heap} {x y:AV} {B A:Value} {b:Bool} {t e:TypeId} {n d:Nat} (z:HR E H w) (hx:VR E w x B) (f:VR E w y A) (h:xpeq H x y=some b) (c:P.underlying t=some (.pointer e))
  (M:zM P e=some (n+1)):(Op.equalIn (d+1) t B A).run P w=.ok b w:=by
 unfold xpeq at h;split at h
 ·cases h;cases hx;cases f;simp [Op.equalIn,run_underlying c]
 ·cases h;cases hx;cases f;simp [Op.equalIn,run_underlying c]
 ·cases h;cases hx;cases f;simp [Op.equalIn,run_underlying c]
 ·cases h;cases hx;cases f;simp [Op.equalIn,run_underlying c]
 ·cases h;cases hx;cases f;simp [Op.equalIn,run_underlying c]
 ·rename_i j l i k;split at h
  ·rename_i i1;split at h
   ·rename_i i2;obtain ⟨rfl,_⟩:=hx.wx;obtain ⟨rfl,_⟩:=f.wx;obtain ⟨K,N,f1,m,a2,Q,m1⟩:=zOA z i1;obtain ⟨c2,J,f2,g,C,O,m2⟩:=zOA z i2;simp only [QL] at h;have q:(n+1≠0):=by omega
    simp only [Op.equalIn,Sem.run_bind,run_underlying c,Result.andThen_ok,zA8 M,q,ne_eq,not_false_eq_true,if_true];unfold sameAddr;by_cases r:j=i
    ·subst r;simp only [BEq.rfl,if_true,Sem.run_pure];subst h;congr 1;rw [Nat.beq_refl,Bool.true_and];by_cases s:l=k
     ·subst s;simp
     ·have:Nat.beq l k=false:=by rw [Bool.eq_false_iff];exact λ u=>s (zb u)
      rw [this];simp [s]
    ·have p:E.ρ j≠E.ρ i:=λ e=>r (z.inj _ m1 _ m2 e)
     have D:Nat.beq j i=false:=by rw [Bool.eq_false_iff];exact λ u=>r (zb u)
     rw [D,Bool.false_and] at h;subst h;have g1:=zK7 (o:=l) m a2;have v1:=zNc (P:=P) m;have v2:=zNc (P:=P) g;have L:=zNd (P:=P) (o:=l) m a2;have F:=zNd (P:=P) (o:=k) g C;have I:w.shape? (E.ρ j)=some (N,K.size):=by simp [World.shape?,m]
     have z2:w.shape? (E.ρ i)=some (J,c2.size):=by simp [World.shape?,g]
     have g2:=zK7 (o:=k) g C;simp [p,g1,g2,noView,v1,v2,mayBeOne,L,F,I,z2]
   ·cases h
  ·cases h
 ·cases h
theorem zUS {t:TypeId} {c d:Value} {b:Bool} (h:(Op.equalIn 10000 t c d).run P w=.ok b w) (h1:∀j a k b,¬(c=.int j a/\d=.int k b)) (e:∀j a k b,¬(c=.float j a/\d=.float k b))
  (m:∀j a f k b l,¬(c=.complex j a f/\d=.complex k b l)) (g:∀a b,¬(c=.string a/\d=.string b)):
  (binOp .eql t c d).run P w=.ok (.bool b) w/\(binOp .neq t c d).run P w=.ok (.bool (!b)) w:=by
 have i:(Op.equal t c d).run P w=.ok b w:=h;cases c <;> cases d <;> first
  | (exact absurd ⟨rfl,rfl⟩ (h1 _ _ _ _))
  | (exact absurd ⟨rfl,rfl⟩ (e _ _ _ _))
  | (exact absurd ⟨rfl,rfl⟩ (m _ _ _ _ _ _))
  | (exact absurd ⟨rfl,rfl⟩ (g _ _))
  | (constructor <;> simp [binOp,i])
theorem zV3 {neg:Bool} {t:TypeId} {op:BinOp} {c d:Value} {b:Bool} (h:(binOp .eql t c d).run P w=.ok (.bool b) w/\(binOp .neq t c d).run P w=.ok (.bool (!b)) w)
  (e:(neg=false/\op=.eql)\/(neg=true/\op=.neq)):∃cv,(binOp op t c d).run P w=.ok cv w/\VR E w (bneg neg b) cv:=by
 rcases e with ⟨rfl,rfl⟩ | ⟨rfl,rfl⟩
 ·exact ⟨_,h.1,.bool _⟩
 ·exact ⟨_,h.2,.bool _⟩
end
end Go.Sy
namespace Go.Sy
section
variable {P:Program} {E:Env} {w:World}
theorem zLB {n i:Nat} {x:AV} {c:Value} (hx:VR E w x c) (h:zFX n x=some i):∃k,c=.int k (i:Int)/\i<n:=by
 unfold zFX at h;split at h
 ·rename_i k m;split at h
  ·rename_i b;cases h;obtain ⟨rfl,_⟩:=hx.of_int;exact ⟨k,rfl,by rw [Qm] at b;exact b⟩
  ·cases h
 ·cases h
theorem zUT {es:List AV} {e x:AV} {b:Value} (hx:VR E w x b) (h:idx es x=some e):∃k i,b=.int k ((i:Nat):Int)/\es[i]? = some e:=by
 unfold idx at h;split at h
 ·rename_i k m;obtain ⟨rfl,_⟩:=hx.of_int;exact ⟨k,m,rfl,h⟩
 ·cases h
theorem zQE {d top n:Nat} {x:AV} {c:Value} (hx:VR E w x c) (h:bnd (some x) d top=some n):∃k,c=.int k (n:Int)/\n<=top:=by
 unfold bnd at h;split at h
 ·rename_i e;cases e
 ·rename_i k m e;cases e;split at h
  ·rename_i b;cases h;obtain ⟨rfl,_⟩:=hx.of_int;exact ⟨k,rfl,QM b⟩
  ·cases h
 ·cases h
theorem zNe {k:IntKind} {n top:Nat} (h:n<=top) (code:BoundsCode):(Instr.sliceBound (.int k (n:Int)) top code).run P w=.ok n w:=by
 simp [Instr.sliceBound,asIntOf,h]
def OV (E:Env) (w:World):Option AV->Option Value->Prop
 | none,none=>True
 | some x,some v=>VR E w x v
 | _,_=>False
theorem zCu {d top n:Nat} {x:Option AV} {b:Option Value} (hx:OV E w x b) (h:bnd x d top=some n):(b=none/\n=d)\/∃k,b=some (.int k (n:Int))/\n<=top:=by
 cases x with
 | none=>
  cases b with
  | none=>simp [bnd] at h;exact .inl ⟨rfl,h.symm⟩
  | some v=>exact hx.elim
 | some x=>
  cases b with
  | none=>exact hx.elim
  | some v=>
   obtain ⟨k,rfl,c⟩:=zQE hx h;exact .inr ⟨k,rfl,c⟩
theorem zFE {sl:Bool} {len cap t l top:Nat} {lo j:Option AV} {c b:Option Value} (h1:OV E w j b) (d:OV E w lo c) (m:bnd j len top=some t) (f:bnd lo 0 t=some l) (g:len<=cap) (n:top<=cap):
  (Instr.sliceBounds sl len cap c b none).run P w=.ok (l,t,cap) w/\l<=t/\t<=cap:=by
 have e:t<=cap:=by
  rcases zCu h1 m with ⟨_,rfl⟩ | ⟨k,_,h⟩ <;> omega
 have i:l<=t:=by
  rcases zCu d f with ⟨_,rfl⟩ | ⟨k,_,h⟩ <;> omega
 refine ⟨?_,i,e⟩
 rcases zCu h1 m with ⟨rfl,rfl⟩ | ⟨k,rfl,_⟩ <;> rcases zCu d f with ⟨rfl,rfl⟩ | ⟨o,rfl,_⟩ <;>
  simp [Instr.sliceBounds,zNe,i,e]
theorem zSW {len cap m t l top:Nat} {lo p:Option AV} {j:AV} {c b:Option Value} {e:Value} (h1:OV E w p b) (g:OV E w lo c) (s:VR E w j e) (r:bnd (some j) 0 top=some m) (u:bnd p len m=some t)
  (n:bnd lo 0 t=some l) (f:b≠none) (q:top<=cap):(Instr.sliceBounds true len cap c b (some e)).run P w=.ok (l,t,m) w/\l<=t/\t<=m/\m<=cap:=by
 obtain ⟨k,rfl,z⟩:=zQE s r;have d:m<=cap:=by omega
 rcases zCu h1 u with ⟨rfl,_⟩ | ⟨x,rfl,i⟩
 ·exact absurd rfl f
 ·have o:l<=t:=by
   rcases zCu g n with ⟨_,rfl⟩ | ⟨k,_,h⟩ <;> omega
  refine ⟨?_,o,i,d⟩
  rcases zCu g n with ⟨rfl,rfl⟩ | ⟨y,rfl,_⟩ <;> simp [Instr.sliceBounds,zNe,o,i,d]
theorem zSX {sz:Nat} {t e:TypeId} {lo D mx:Option AV} {x v:AV} {s q p:Option Value} {O:Value} (ht:P.underlying t=some (.slice e)) (hs:zM P e=some sz) (ae:0<sz)
  (hx:VR E w x O) (h1:OV E w D q) (J:OV E w lo s) (Q:OV E w mx p) (T:p≠none->q≠none) (h:xslice sz lo D mx x=some v):
  ∃cv,(Instr.sliceAt t O s q p).run P w=.ok cv w/\VR E w v cv:=by
 have r:∀{a:Option Addr} {len cap l g m:Nat},O=.slice a len cap->(Instr.sliceBounds true len cap s q p).run P w=.ok (l,g,m) w →
   (Instr.sliceAt t O s q p).run P w=.ok (.slice (if m=l then a else a.map (·.add (l*sz))) (g-l) (m-l)) w:=by
  intro a len cap l g m e1 C;subst e1;simp [Instr.sliceAt,Instr.slice,run_underlying ht,C,zA8 hs]
 unfold xslice at h;split at h
 ·
  cases hx;split at h
  ·rename_i m Y;split at h
   ·rename_i g n;split at h
    ·rename_i l A;cases h;have ab:m=0:=by rcases zCu Q Y with ⟨_,rfl⟩ | ⟨_,_,h⟩ <;> omega
     subst ab;have M:g=0:=by rcases zCu h1 n with ⟨_,rfl⟩ | ⟨_,_,h⟩ <;> omega
     subst M;have K:l=0:=by rcases zCu J A with ⟨_,rfl⟩ | ⟨_,_,h⟩ <;> omega
     subst K;have C:(Instr.sliceBounds true 0 0 s q p).run P w=.ok (0,0,0) w:=by
      rcases zCu Q Y with ⟨rfl,_⟩ | ⟨k,rfl,_⟩
      ·exact (zFE (P:=P) h1 J n A (QA _) (QA _)).1
      ·rcases zCu h1 n with ⟨rfl,_⟩ | ⟨k1,rfl,_⟩
       ·exact absurd rfl (T (by simp))
       ·rcases zCu J A with ⟨rfl,_⟩ | ⟨k2,rfl,_⟩ <;> simp [Instr.sliceBounds,zNe,Instr.sliceBound,asIntOf]
     refine ⟨_,r rfl C,?_⟩
     simp;exact .qa
    ·cases h
   ·cases h
  ·cases h
 ·
  rename_i aa R;split at h
  ·cases h
  rename_i N;have:=zb N;subst this;split at h
  ·cases h
  cases p with
  | some _=>exact Q.elim
  | none=>
   split at h
   ·rename_i g n;split at h
    ·rename_i l A;cases h;cases hx with
     | wo _ a c hc=>
      have M:g=0:=by rcases zCu h1 n with ⟨_,h⟩ | ⟨_,_,h⟩ <;> simpa using h
      subst M;have K:l=0:=by rcases zCu J A with ⟨_,h⟩ | ⟨_,_,h⟩ <;> omega
      subst K;obtain ⟨C,_,_⟩:=zFE (P:=P) (sl:=true) (cap:=c) h1 J n A (by simp) (by simp)
      refine ⟨_,r rfl C,?_⟩
      simp only [List.take_zero,List.drop_nil,Nat.sub_self];exact .wo _ _ _ (by omega)
     | ql _ b o cap _ f hz z ah ac hf hc=>
      obtain ⟨C,ag,af⟩:=zFE (P:=P) (sl:=true) h1 J n A z z;have aj:g<=R.length:=by rcases zCu h1 n with ⟨_,rfl⟩ | ⟨_,_,h⟩ <;> omega
      refine ⟨_,r rfl C,?_⟩
      have d:((R.take g).drop l).length=g-l:=by simp;omega
      by_cases X:cap=l
      ·have:(R.take g).drop l=[]:=List.eq_nil_of_length_eq_zero (by omega)
       rw [this,if_pos X];have:g-l=0:=by omega
       rw [this];exact .wo _ _ _ (by omega)
      ·rw [if_neg X];simp only [Option.map_some,zBH];have get:∀(i:Nat),i<g-l->((R.take g).drop l)[i]? = R[l+i]?:=λ i D=>by
        rw [List.getElem?_drop,List.getElem?_take,if_pos (by omega)]
       have:=VR.ql (E:=E) (w:=w) ((R.take g).drop l) b (o+l*sz) (cap-l) sz (λ i=>f (l+i)) hz (by omega) (by omega)
        (λ i e F=>by
         have D:i<g-l:=by rw [←d];exact (QD.1 F).1
         rw [get i D] at F;exact ac _ _ F)
        (λ i e F=>by
         have D:i<g-l:=by rw [←d];exact (QD.1 F).1
         rw [get i D] at F;exact hf _ _ F)
        (λ i D=>by
         rw [d] at D;obtain ⟨q1,q2⟩:=hc (l+i) (by omega)
         refine ⟨q1,λ j c hj=>?_⟩
         have:=q2 j c hj;rw [Nat.add_mul] at this;have e3:o+l*sz+i*sz+j=o+(l*sz+i*sz)+j:=by omega
         rw [e3];exact this)
       rw [d] at this;exact this
    ·cases h
   ·cases h
 ·
  rename_i hd off len aa cp ex;split at h
  ·cases h
  rename_i N;have:=zb N;subst this;have S:∀{m g l:Nat} {L:Bool} {u:Nat},(∀{a:Option Addr} {cap:Nat},O=.slice a len cap->cp<=cap->(ex=true->cap=cp)->len<=cap →
    ∃B,(Instr.sliceBounds true len cap s q p).run P w=.ok (l,g,B) w/\l<=g/\g<=B/\B<=cap/\u<=B-l/\(L=true->B-l=u)) →
    ∃cv,(Instr.sliceAt t O s q p).run P w=.ok cv w/\VR E w (.row hd (off+l*sz) (g-l) sz u L) cv:=by
   intro m g l L u C;cases hx with
   | wb _ _ _ _ a=>
    obtain ⟨B,b1,b2,b3,b4,b5,b6⟩:=C rfl (QA _) (λ _=>rfl) (QA _)
    refine ⟨_,r rfl b1,?_⟩
    have:B=0:=by omega
    subst this;have:l=0:=by omega
    subst this;have:g=0:=by omega
    subst this;have:u=0:=by omega
    subst this;simp;exact .wb _ _ _ _ _
   | row _ _ _ _ _ cap _ hD d z V y I ad=>
    obtain ⟨B,b1,b2,b3,b4,b5,b6⟩:=C rfl y I d;refine ⟨_,r rfl b1,?_⟩
    by_cases U:B=l
    ·subst U;have:g-B=0:=by omega
     rw [this,if_pos rfl];have:u=0:=by omega
     subst this;rw [Nat.sub_self];exact .wb _ _ _ _ _
    ·rw [if_neg U];simp only [Option.map_some,zBH];obtain ⟨c,e',f,a1,a2⟩:=ad;refine .row _ _ _ _ _ _ _ hD (by omega) (by omega) V b5 b6 ⟨c,e',f,a1,?_⟩
     have:l*sz+(B-l)*sz<=cap*sz:=by rw [←Nat.add_mul];exact Nat.mul_le_mul_right _ (by omega)
     omega
  split at h
  ·rename_i mv;cases p with
   | none=>exact Q.elim
   | some ai=>
    split at h
    ·rename_i m Y;split at h
     ·rename_i g n;split at h
      ·rename_i l A;cases h;refine S (m:=m) λ{a cap} e1 y I d=>?_
       obtain ⟨c1,c2,c3,c4⟩:=zSW (P:=P) (cap:=cap) h1 J Q Y n A (T (by simp)) y
       exact ⟨m,c1,c2,c3,c4,QA _,λ _=>rfl⟩
      ·cases h
     ·cases h
    ·cases h
  ·cases p with
   | some _=>exact Q.elim
   | none=>
    split at h
    ·rename_i g n;split at h
     ·rename_i l A;cases h;refine S (m:=0) λ{a cap} e1 y I d=>?_
      have W:Nat.max len cp<=cap:=Nat.max_le.2 ⟨d,y⟩;obtain ⟨c1,c2,c3⟩:=zFE (P:=P) (sl:=true) (cap:=cap) h1 J n A d W;refine ⟨cap,c1,c2,c3,QA _,by omega,λ F=>?_⟩
      have:=I F;have:Nat.max len cp=cap:=by rw [this];exact Nat.max_eq_right (by omega)
      omega
     ·cases h
    ·cases h
 ·cases h
theorem zTT {t:TypeId} {s:List Nat} {lo h:Option AV} {c b:Option Value} {f:Value} {h' l:Nat} (k:P.underlying t=some .string) (hx:VR E w (.str s) f) (h1:OV E w h b) (j:OV E w lo c)
  (o:bnd h s.length s.length=some h') (n:bnd lo 0 h'=some l):∃cv,(Instr.sliceAt t f c b none).run P w=.ok cv w/\VR E w (.str ((s.take h').drop l)) cv:=by
 obtain ⟨e,rfl,g,q⟩:=hx.qY;have d:=zIP g;obtain ⟨m,p,r⟩:=zFE (P:=P) (sl:=false) (cap:=e.size) (w:=w) h1 j (d▸o) n (QA _) (QA _)
 refine ⟨.string (e.extract l h'),by simp [Instr.sliceAt,Instr.slice,run_underlying k,m],.str _ _ ?_ ?_⟩
 ·rw [←g,ByteArray.data_extract,Array.toList_extract,List.extract_eq_take_drop,←List.map_take,←List.map_drop,List.drop_take]
 ·have:=Qk (i:=l) (l:=s.take h');simp;omega
theorem zTU {t:TypeId} {s:List Nat} {b n:Nat} {g:Value} {k:IntKind} (i:P.underlying t=some .string) (hx:VR E w (.str s) g) (h:s[n]? = some b):
  ∃cv,(Instr.index t g (.int k (n:Int))).run P w=.ok cv w/\VR E w (.int .u8 (b:Int)) cv:=by
 obtain ⟨d,rfl,l,m⟩:=hx.qY;subst l;rw [Ql] at h;cases hb:d.data.toList[n]? with
 | none=>simp [hb] at h
 | some c=>
  simp only [hb,Option.map_some,QL] at h;subst h;have j:d[n]? = some c:=by
   have f:n<d.data.toList.length:=(QD.1 hb).1;have e:n<d.size:=f;rw [getElem?_pos d n e];have:=(QD.1 hb).2;simp at this;rw [←this];rfl
  refine ⟨.int .u8 c.toNat,by simp [Instr.index,run_underlying i,asIntOf,j],.int _ _ ?_⟩
  have:=c.toNat_lt
  constructor <;> simp [IntKind.min,IntKind.max,IntKind.signed,IntKind.bits] <;> omega
theorem zTV {t e:TypeId} {n sz i:Nat} {f:Bool} {cs:List AV} {x v:AV} {c ci:Value} (j:P.underlying t=some (.array n e)) (d:zM P e=some sz) (l:agT P e=some f) (hx:VR E w (.agg cs) c)
  (m:VR E w x ci) (h1:zFX n x=some i) (h:part cs (i*sz) sz f=some v):∃cv,(Instr.index t c ci).run P w=.ok cv w/\VR E w v cv:=by
 obtain ⟨k,rfl,b⟩:=zLB m h1;obtain ⟨q,rfl,q1,p⟩:=hx.qW;obtain ⟨cv,g,o⟩:=zPq q1 p d l h;exact ⟨cv,by simp [Instr.index,run_underlying j,asIntOf,zA8 d,b,g],o⟩
theorem zNf {t e:TypeId} {n sz i:Nat} {x:AV} {ci:Value} {a:Addr} (c:P.underlying t=some (.array n e)) (d:zM P e=some sz) (f:VR E w x ci) (h1:zFX n x=some i):
  (Instr.indexAt t (.pointer (some a)) ci).run P w=.ok (.pointer (some (a.add (i*sz)))) w:=by
 obtain ⟨k,rfl,b⟩:=zLB f h1;simp [Instr.indexAt,run_underlying c,asIntOf,zA8 d,b,Instr.sureAddr]
theorem zNg {t e:TypeId} {sz:Nat} {x i v:AV} {s ci:Value} (r:P.underlying t=some (.slice e)) (A:zM P e=some sz) (hx:VR E w x s) (B:VR E w i ci)
  (h:(∃c es y,x=.ql c es/\Nat.beq sz c=true/\idx es i=some y/\v=.qf y 0)\/∃l off len c cp ex n,x=.row l off len c cp ex/\Nat.beq sz c=true/\zFX len i=some n/\v=.ptr l (off+n*sz)):
  ∃cv,(Instr.indexAt t s ci).run P w=.ok cv w/\VR E w v cv:=by
 rcases h with ⟨c,es,y,rfl,g,m,rfl⟩ | ⟨l,off,len,c,cp,ex,n,rfl,g,m,rfl⟩
 ·have:=zb g;subst this;obtain ⟨k,n,rfl,q⟩:=zUT B m;have d:n<es.length:=(QD.1 q).1;cases hx with
  | wo=>simp at d
  | ql _ b o cap _ f I j D p J hc=>
   refine ⟨.pointer (some ⟨b,o+n*sz,none⟩),by simp [Instr.indexAt,run_underlying r,asIntOf,zA8 A,d,zBH],?_⟩
   exact .qf y 0 b (o+n*sz) (f n) (p n y q) I (J n y q) (hc n d).2
 ·have:=zb g;subst this;obtain ⟨k,rfl,d⟩:=zLB B m;cases hx with
  | wb=>omega
  | row _ _ _ _ _ cap _ F u j z C L K=>
   exact ⟨.pointer (some ⟨E.ρ l,off+n*sz,none⟩),by simp [Instr.indexAt,run_underlying r,asIntOf,zA8 A,d,zBH],.ptr _ _ F⟩
theorem zOB {s:TypeId} {c:Array Field} {f:Field} {i n:Nat} {b o:Nat} (e:P.underlying s=some (.struct c)) (d:c[i]? = some f) (g:zM P f.type=some (n+1)):
  (Instr.fieldAt s (.pointer (some ⟨b,o,none⟩)) i).run P w=.ok (.pointer (some ⟨b,o+f.offset,none⟩)) w:=by
 simp [Instr.fieldAt,run_underlying e,d,Instr.sureAddr,fieldPlace,zA8 g,zBH]
theorem zOC (off:Nat):∀(vs:List Value) (j:Nat) (cells:Array Value),off+j+vs.length<=cells.size →
  ((vs.zipIdx j).foldl (λ cs x=>cs.setIfInBounds (off+x.2) x.1) cells).toList=cells.toList.take (off+j)++vs++cells.toList.drop (off+j+vs.length)
 | [],j,cells,_=>by simp
 | v::vs,j,cells,h=>by
  simp only [List.zipIdx_cons,List.foldl_cons];rw [zOC off vs (j+1) _ (by simp at h ⊢;omega)]
  have d:off+j<cells.toList.length:=by simp at h ⊢;omega
  have g:off+j+(vs.length+1)<=cells.toList.length:=by simpa using h
  apply List.ext_getElem?;intro i;rw [zC5 _ _ _ (by simp at h ⊢;omega),zC5 _ _ _ (by omega)]
  have c:(cells.setIfInBounds (off+j) v).toList=cells.toList.set (off+j) v:=by simp
  have b:(v::vs).length=vs.length+1:=rfl;rw [c,b];by_cases e:i<off+j
  ·rw [if_pos (by omega),if_pos e,List.getElem?_set,if_neg (by omega)]
  ·by_cases f:i=off+j
   ·subst f;rw [if_pos (by omega),if_neg (by omega),if_pos (by omega),List.getElem?_set]
    simp
    simpa using d
   ·rw [if_neg (by omega),if_neg e]
    by_cases k:i<off+j+1+vs.length
    ·rw [if_pos (by omega),if_pos (by omega)]
     have:i-(off+j)=(i-(off+(j+1)))+1:=by omega
     rw [this,List.getElem?_cons_succ]
    ·rw [if_neg (by omega),if_neg (by omega),List.getElem?_set,if_neg (by omega)]
theorem zMj {G:Cx} {fr:Fr} {a:Act} {nt:Nat} (B:FrR E w fr a nt) (u:GR G E w) {place:Nat->Option (Nat×Nat)}:∀{ps:List (Nat×Operand)} {m:List (Nat×Nat×XV)} {cs out:List AV} {cells:Array Value},
  cparts place ps=some m->fillx G fr cs m=some out->VRs E w cs cells.toList->(∀v∈cells.toList,v.oneCell'=true) →
  ∃b,Instr.fill place cells (ps.map λ(i,x)=>(i,a.eval x))=some b/\VRs E w out b.toList/\(∀v∈b.toList,v.oneCell'=true)/\b.size=cells.size
 | [],m,cs,out,cells,f,e,n,h=>by
  simp [cparts] at f;subst f;simp [fillx] at e;subst e;exact ⟨cells,rfl,n,h,rfl⟩
 | (i,x)::r,m,cs,out,cells,f,e,n,h=>by
  simp only [cparts] at f;split at f
  ·rename_i off U y s O L Q;cases f;simp only [fillx] at e;split at e
   ·rename_i v d;split at e
    ·rename_i new j;split at e
     ·rename_i q;have C:=QM q;have o:=zH B u L d;obtain ⟨_,_,R,S,A,l⟩:=zHc o j;have t:=n.1;have z:cs.length=cells.size:=by simpa using t
      have c:=zOC off (a.eval x).cells.toList 0 cells (by simp [l];omega)
      have k:(a.eval x).cells.zipIdx.foldl (λ cs (x:Value×Nat)=>cs.setIfInBounds (off+x.2) x.1) cells=(((a.eval x).cells.toList.zipIdx 0).foldl (λ cs x=>cs.setIfInBounds (off+x.2) x.1) cells):=by
       rw [←Array.foldl_toList,Array.toList_zipIdx]
      rw [Nat.add_zero] at c;have p:=CR.qk (CR.wQ n h) S A (off:=off) (by omega) (by simp [l];omega)
      have g:(cells.toList.take off++(a.eval x).cells.toList++cells.toList.drop (off+(a.eval x).cells.toList.length)).length=cells.size:=by simp [l];omega
      obtain ⟨b,I,N,D,K⟩:=zMj B u (cells:=((a.eval x).cells.toList.zipIdx 0).foldl (λ cs x=>cs.setIfInBounds (off+x.2) x.1) cells) Q e
       (by
        rw [c];refine ⟨by rw [g];simp [qk,R];omega,λ i x v M d=>?_⟩
        obtain ⟨T,F,V,J⟩:=p.2 i x M;rw [F] at d;cases d;exact J)
       (by
        rw [c];intro v d;rcases QK.1 d with d | d
        ·rcases QK.1 d with d | d
         ·exact h v (QN d)
         ·exact A v d
        ·exact h v (QY d))
      refine ⟨b,?_,N,D,?_⟩
      ·simp only [Qd,Instr.fill,O,l];rw [if_neg (by simp;omega),k]
       exact I
      ·rw [K,←Array.length_toList,c,g]
     ·cases e
    ·cases e
   ·cases e
  ·cases f
end
end Go.Sy
namespace Go.Sy
section
variable {P:Program} {E:Env} {w:World}
theorem zPw (n:Nat) (z:List AV):(rep n z).length=n*z.length:=by
 induction n with
 | zero=>simp [rep]
 | succ n b=>simp [rep,b,Nat.add_mul,Nat.add_comm]
theorem zNh (z:List AV):∀(n i:Nat),i<n*z.length->(rep n z)[i]? = z[i % z.length]?
 | 0,i,h=>by simp at h
 | n+1,i,h=>by
  simp only [rep];rw [List.getElem?_append];split
  ·rename_i b;rw [Nat.mod_eq_of_lt b]
  ·rename_i b;have c:i-z.length<n*z.length:=by rw [Nat.add_mul] at h;omega
   rw [zNh z n _ c];have:i=(i-z.length)+z.length:=by omega
   conv=>rhs;rw [this,Nat.add_mod_right]
theorem zOQ {z:List AV} {b:Array Value} (k:VRs E w z b.toList) (h1:∀v∈b.toList,v.oneCell'=true) (n:Nat):
  VRs E w (rep n z) (madeCells b (n*b.size)).toList/\∀v∈(madeCells b (n*b.size)).toList,v.oneCell'=true:=by
 have j:z.length=b.size:=by have:=k.1;simpa using this
 have key:∀(i:Nat),i<n*b.size->(madeCells b (n*b.size)).toList[i]? = b.toList[i % b.size]?:=λ i d=>by
  have e:0<b.size:=Nat.pos_of_ne_zero λ h=>by rw [h] at d;simp at d
  have m:i % b.size<b.size:=Nat.mod_lt _ e;simp [madeCells,d,m]
 have c:(madeCells b (n*b.size)).toList.length=n*b.size:=by rw [Array.length_toList,size_madeCells]
 refine ⟨⟨by rw [zPw,j,c],λ i x v l f=>?_⟩,λ v f=>?_⟩
 ·have d:i<n*b.size:=by rw [←c];exact (QD.1 f).1
  rw [zNh _ _ _ (by rw [j];exact d),j] at l
  rw [key i d] at f;exact k.2 _ x v l f
 ·obtain ⟨i,d⟩:=List.getElem?_of_mem f;have g:i<n*b.size:=by rw [←c];exact (QD.1 d).1
  rw [key i g] at d;exact h1 v (QE d)
theorem zQj {H:Heap} (g:HR E H w) {nx:Nat} (b:¬E.D nx) {cs:List AV} {vs:List Value} {e:TypeId} (d:VRs E w cs vs) (h1:∀v∈vs,v.oneCell'=true):
  ∃w',(newRow e vs.toArray).run P w=.ok ⟨w.heap.size,0,none⟩ w'/\w'.heap[w.heap.size]? = some (.cells vs.toArray e (0,0))/\HR (E.add nx w.heap.size) ((nx,.cells false cs)::H) w' ∧
   Tr E H w (E.add nx w.heap.size) ((nx,.cells false cs)::H) w' nx (nx+1):=by
 obtain ⟨f,h⟩:=zNb (st:=false) (e:=e) (c:=vs.toArray) g b (by simpa using CR.wQ d h1)
 exact ⟨_,by simp [newRow],zCy,f,h⟩
theorem newptr {nx b off:Nat} {w':World}:VR (E.add nx b) w' (.ptr nx off) (.pointer (some ⟨b,off,none⟩)):=by
 have:=VR.ptr (E:=E.add nx b) (w:=w') nx off (.inr rfl);rw [Env.qx] at this;exact this
theorem newrow {nx b len sz:Nat} {w':World} {c:Array Value} {e:TypeId} {f:Nat×Nat} (h:w'.heap[b]? = some (.cells c e f)) {cp cap:Nat} {ex:Bool} (h0:0<sz) (h1:len<=cap) (d:cap<=ze) (j:cap*sz<=c.size) (g:cp<=cap) (i:ex=true->cap=cp):
  VR (E.add nx b) w' (.row nx 0 len sz cp ex) (.slice (some ⟨b,0,none⟩) len cap):=by
 have:=VR.row (E:=E.add nx b) (w:=w') nx 0 len sz cp cap ex (.inr rfl) h1 d h0 g i ⟨c,e,f,by rw [Env.qx];exact h,by omega⟩
 rw [Env.qx] at this;exact this
theorem zUU {H:Heap} {nx sz:Nat} {e:TypeId} {v:AV} {cv:Value} {cs:List AV} (i:HR E H w) (l:¬E.D nx) (k:VR E w v cv) (h:cellsOf v sz=some cs):
  zH1 P (Instr.box e cv) E H w nx (.ptr nx 0) ((nx,.cells false cs)::H) (nx+1):=by
 obtain ⟨_,_,_,d,j,_⟩:=zHc k h;obtain ⟨c,f,m,b,g⟩:=zQj (P:=P) (e:=e) i l d j;exact ⟨_,_,c,by simp only [Instr.box,newVar,Sem.run_bind];rw [show newRow e cv.cells=newRow e cv.cells.toList.toArray by simp,f];rfl,b,g,newptr⟩
theorem zSY {H:Heap} {nx:Nat} {e:TypeId} {cs:List AV} (l:HR E H w) (p:¬E.D nx) (h:zEm P e=some cs):
  zH1 P (Instr.alloc e true (.tuple #[])) E H w nx (.ptr nx 0) ((nx,.cells false cs)::H) (nx+1):=by
 obtain ⟨i,z,o,k,_,_,_,f,m⟩:=VR.zero (P:=P) (E:=E) (w:=w) (z:=.bool true) (v:=.bool true) (n:=0) h;obtain ⟨d,g,q,c,j⟩:=zQj (P:=P) (e:=e) l p f m;refine ⟨_,_,d,?_,c,j,newptr⟩
 have b:(zeroValue e).run P w=.ok z w:=by simp [zeroValue,typeInfo,o,k]
 simp only [Instr.alloc,newVar,Sem.run_bind,b,Result.andThen_ok];rw [show newRow e z.cells=newRow e z.cells.toList.toArray by simp,g]
 rfl
theorem zRn {H:Heap} {nx l c sz bytes:Nat} {t e:TypeId} {kl kc:IntKind} {z:List AV} (A:HR E H w) (F:¬E.D nx) (x:P.underlying t=some (.slice e)) (C:zM P e=some sz) (o:zJd P e=some bytes) (y:zEm P e=some z)
  (h0:0<sz) (q:l<=c) (h:c*bytes<=zd) (b:c<=zd):
  zH1 P (Instr.makeSlice t (.int kl (l:Int)) (.int kc (c:Int))) E H w nx (.row nx 0 l sz c true) ((nx,.cells false (rep c z))::H) (nx+1):=by
 obtain ⟨i,j,s,r,m,k,_,u,B⟩:=VR.zero (P:=P) (E:=E) (w:=w) (z:=.bool true) (v:=.bool true) (n:=0) y;have:i.size=sz:=by rw [C] at k;simpa using k.symm
 subst this;have p:i.bytes=bytes:=by unfold zJd at o;rw [s] at o;simpa using o
 subst p;obtain ⟨m1,m2⟩:=zOQ u B c;have g:=run_make (P:=P) w t e i j x s r kl kc (l:Int) (c:Int) (by omega) (by omega) (by
  have:(i.bytes:Int)*(c:Int)=((c*i.bytes:Nat):Int):=by rw [Nat.mul_comm];simp
  rw [this];unfold zd at h;omega) (by unfold zd at b;omega)
 rw [Int.toNat_natCast,Int.toNat_natCast] at g;have d:=zNb (st:=false) (e:=e) (c:=madeCells j.cells (c*j.cells.size)) A F (CR.wQ m1 m2);rw [←m] at g;refine ⟨_,_,_,g,d.1,d.2,?_⟩
 exact newrow (c:=madeCells j.cells (c*j.cells.size)) (e:=e) (f:=(0,0)) zCy h0 q (by unfold zd at b;unfold ze;omega) (by rw [size_madeCells,m];exact QA _) (QA _) (λ _=>rfl)
theorem zRR {G:Cx} {fr:Fr} {a:Act} {nt:Nat} (L:FrR E w fr a nt) (C:GR G E w) {H:Heap} {nx len sz:Nat} {t e:TypeId} {z cs:List AV} {ps:List (Nat×Operand)} {r:List (Nat×Nat×XV)} (N:HR E H w) (U:¬E.D nx)
  (B:P.underlying t=some (.slice e)) (s:zM P e=some sz) (J:zEm P e=some z) (h0:0<sz) (q:len*sz<=16777216)
  (K:cparts (λ i=>some (i*sz,sz)) ps=some r) (h:fillx G fr (rep len z) r=some cs):
  zH1 P (Instr.buildSlice t len (ps.map λ(i,x)=>(i,a.eval x)).toArray) E H w nx (.row nx 0 len sz len true) ((nx,.cells false cs)::H) (nx+1):=by
 obtain ⟨i,g,R,o,l,k,_,A,Q⟩:=VR.zero (P:=P) (E:=E) (w:=w) (z:=.bool true) (v:=.bool true) (n:=0) J;have:i.size=sz:=by rw [s] at k;simpa using k.symm
 subst this;obtain ⟨m1,m2⟩:=zOQ A Q len;obtain ⟨b,p,S,u,F⟩:=zMj L C K h m1 m2;obtain ⟨y,q1,V,I,M⟩:=zQj (P:=P) (e:=e) N U S u;have f:¬(len*i.size > 2 ^ 24):=by omega
 have m:(zeroValue e).run P w=.ok g w:=by simp [zeroValue,typeInfo,R,o]
 have O:len<=len*i.size:=Nat.le_mul_of_pos_right _ h0;refine ⟨_,_,y,?_,I,M,newrow V h0 (QA _) (by unfold ze;omega) (by simp [F,size_madeCells,l]) (QA _) (λ _=>rfl)⟩
 have c:Instr.fill (λ j=>some (j*i.size,i.size)) (madeCells g.cells (len*i.size)) (ps.map λ(i,x)=>(i,a.eval x))=some b:=by rw [←l] at p ⊢;exact p
 simp only [Instr.buildSlice,Sem.run_bind,run_underlying B,Result.andThen_ok,zA8 s,if_neg f,Sem.run_ite];by_cases d:len*i.size=0
 ·have T:madeCells g.cells (len*i.size)=(Array.range (len*i.size)).map ((#[]:Array Value)[· % (#[]:Array Value).size]!):=by
   rw [d];simp [madeCells,Array.range_zero']
  rw [if_pos d];simp only [Sem.run_pure,Result.andThen_ok];rw [←T,c];simp only [Sem.run_bind];rw [show newRow e b=newRow e b.toList.toArray by simp,q1]
  rfl
 ·rw [if_neg d];simp only [Sem.run_bind,m,Result.andThen_ok,Sem.run_pure];rw [show (Array.range (len*i.size)).map (λ x=>g.cells[x % g.cells.size]!)=madeCells g.cells (len*i.size) from rfl,c]
  simp only [Sem.run_bind];rw [show newRow e b=newRow e b.toList.toArray by simp,q1]
  rfl
theorem zUV {H:Heap} {nx:Nat} {s d e:TypeId} {l:List Nat} {t:Value} (u:HR E H w) (I:¬E.D nx) (hx:VR E w (.str l) t) (B:P.underlying s=some .string) (y:P.underlying d=some (.slice e)) (J:P.underlying e=some (.int .u8)):
  zH1 P (convert s d t) E H w nx (.row nx 0 l.length 1 l.length false) ((nx,.cells true (l.map λ b=>.int .u8 (.ofNat b)))::H) (nx+1):=by
 obtain ⟨K,Q,M,R,N,O,L⟩:=zEh (P:=P) (sz:=1) u hx (show content H 1 (.str l)=some (l.length,_) from rfl)
 obtain ⟨c,rfl,q,A⟩:=hx.qY;have m:=zIP q;have f:=run_bytes_of_string (P:=P) w s d e c B y J;have g:=grownCap_ge w c.size 0 e;have n:=grownCap_le_maxLen w c.size 0 e (by rw [m];unfold ze at A;simp only [maxLen];omega)
 have k:(bytesRow c (grownCap w c.size 0 e)).size=grownCap w c.size 0 e:=by
  simp [bytesRow];have:c.data.size=c.size:=rfl;omega
 have r:CR E w (l.map λ b=>AV.int .u8 (.ofNat b)) (bytesRow c (grownCap w c.size 0 e)).toList:=by
  refine ⟨by simp [bytesRow,←q],λ i x hx=>?_⟩
  subst q;simp only [Ql,Option.map_map] at hx;cases hc:c.data.toList[i]? with
  | none=>simp [hc] at hx
  | some b=>
   simp [hc] at hx;subst hx;have C:i<c.data.toList.length:=(QD.1 hc).1;have z:=b.toNat_lt;refine ⟨.int .u8 b.toNat,?_,rfl,.int _ _ (by constructor <;> simp [IntKind.min,IntKind.max,IntKind.signed,IntKind.bits] <;> omega)⟩
   simp only [bytesRow,Array.toList_append,Array.toList_map];rw [Qx (by simpa using C),Ql,hc]
   rfl
 have j:=zJS u I (o:=.cells (bytesRow c (grownCap w c.size 0 e)) e ((bytesRow c (grownCap w c.size 0 e)).size,(bytesRow c (grownCap w c.size 0 e)).size+1))
  (ho:=.cells true (l.map λ b=>.int .u8 (.ofNat b))) λ w' p _ F=>(r.mono F).or (by rw [p];exact zCy) (.inr ⟨rfl,QA _⟩)
 obtain ⟨d1,d2⟩:=zHy (w':=w.drew.alloc (.cells (bytesRow c (grownCap w c.size 0 e)) e ((bytesRow c (grownCap w c.size 0 e)).size,(bytesRow c (grownCap w c.size 0 e)).size+1))) j.1 ⟨rfl,rfl,rfl,rfl⟩ (nx+1);refine ⟨_,_,_,f,d1,j.2.1.trans j.1 d2,?_⟩
 rw [m] at g n k f ⊢;exact newrow zCy (by omega) g (by unfold ze;simp only [maxLen] at n;omega) (by rw [Nat.mul_one];exact Nat.le_of_eq k.symm) g (λ h=>by cases h)
theorem zSZ {H:Heap} {nx:Nat} {t:TypeId} (f:HR E H w) (e:¬E.D nx):zH1 P (Instr.makeMap t none) E H w nx (.map nx) ((nx,.map [])::H) (nx+1):=by
 have b:=zJS f e (o:=.map #[] 0) (ho:=.map []) λ h c _ g=>⟨#[],0,by rw [c];exact zCy,rfl,λ i k x d=>by simp at d,λ i j m n d=>by simp at d⟩
 refine ⟨.map (some w.heap.size),_,_,by simp [Instr.makeMap],b.1,b.2.1,?_⟩
 have:=VR.map (E:=E.add nx w.heap.size) (w:={ w with heap:=w.heap.push (.map #[] 0) }) nx (.inr rfl)
 rw [Env.qx] at this;exact this
theorem zTW {H:Heap} {nx:Nat} {t:TypeId} {s:List Nat} {d:Value} (g:HR E H w) (f:¬E.D nx) (hx:VR E w (.str s) d) (h:P.underlying t=some .string):
  zH1 P (Instr.range t d) E H w nx (.ptr nx 0) ((nx,.wm s 0)::H) (nx+1):=by
 obtain ⟨e,rfl,i,l⟩:=hx.qY;have b:=zJS g f (o:=.stringIter e 0) (ho:=.wm s 0) λ k c _ j=>⟨e,by rw [c];exact zCy,i⟩
 exact ⟨_,_,_,by simp [Instr.range,run_underlying h],b.1,b.2.1,newptr⟩
theorem zOD {H:Heap} {nx:Nat} {ty:TypeId} {s:List Nat} {j pos:Nat} {v:AV} {H':Heap} (q:HR E H w) (I:E.D j) (i:H.get j=some (.wm s pos)) (l:s.length<=ze)
  (h:(pos<s.length/\∃b,rune s pos=some b/\v=.qc [.bool true,.int .i64 (.ofNat pos),.int .i32 (.ofNat b)]/\H'=H.put j (.wm s (pos+1)))\/(¬pos<s.length/\v=.qc [.bool false]/\H'=H)):
  zH1 P (Instr.next (.pointer (some ⟨E.ρ j,0,none⟩)) true ty) E H w nx v H' nx:=by
 obtain ⟨f,x,r⟩:=q.obj _ (Heap.qh i);have B:=zIP r;have m:(getObj (E.ρ j)).run P w=.ok (.stringIter f pos) w:=by simp [getObj,Sem.run,x]
 rcases h with ⟨z,b,d,rfl,rfl⟩ | ⟨y,rfl,rfl⟩
 ·have e:pos<f.size:=by omega
  obtain ⟨u,C,A,F,_⟩:=zFD (P:=P) q i x (λ _ _ _ h=>by cases h) (ob':=.stringIter f (pos+1)) (o':=.wm s (pos+1)) (λ u t J=>⟨f,t,r⟩) nx
  unfold rune at d;cases hc:s[pos]? with
  | none=>simp [hc] at d
  | some c=>
   simp only [hc] at d;split at d
   ·rename_i g;cases d;rw [Qm] at g;have k:(f[pos]'e).toNat=b:=by
     subst r;rw [Ql] at hc;have p:pos<f.data.toList.length:=e;rw [QC p] at hc;simp at hc;rw [←hc];rfl
    have n:=decode_ascii f pos e (by rw [k];exact g)
    refine ⟨.tuple #[.bool true,.int .i64 pos,.int .i32 b],E,u,?_,A,F,?_⟩
    ·simp [Instr.next,m,e,n,C,k,goInt]
    ·refine VR.qJ (VRs.cons (.bool _) (VRs.cons (.int _ _ ?_) (VRs.cons (.int _ _ ?_) VRs.nil)))
     ·unfold ze at l
      constructor <;> simp [IntKind.min,IntKind.max,IntKind.signed,IntKind.bits] <;> omega
     ·constructor <;> simp [IntKind.min,IntKind.max,IntKind.signed,IntKind.bits] <;> omega
   ·cases d
 ·have o:¬pos<f.size:=by omega
  exact ⟨.tuple #[.bool false],E,w,by simp [Instr.next,m,o],q,.refl _,VR.qJ (VRs.cons (.bool _) VRs.nil)⟩
theorem zTX {H:Heap} {nx nx' sz:Nat} {d y v:AV} {X B:Value} {H':Heap} {t u ty e:TypeId} (z:HR E H w) (W:VR E w d X) (S:VR E w y B) (A:P.underlying t=some (.slice e)) (I:zM P e=some sz) (h0:0<sz)
  (h:xcopy H nx d y sz=some (v,H',nx')):zH1 P (Builtin.copy_ #[t,u] ty #[X,B]) E H w nx v H' nx':=by
 unfold xcopy at h;split at h
 ·cases h
 ·rename_i n ys b;obtain ⟨C,V,k2,T,k4,K,k6,k7⟩:=zEh (P:=P) z S b;have first:∀m,m<=n->(Builtin.firstCells sz m B).run P w=.ok (C.take (m*sz)).toArray w:=λ m hm=>by
   rcases k7 with ⟨a,c,rfl,g⟩ | ⟨s,rfl,D⟩
   ·by_cases hz:n*sz=0
    ·have hn:n=0:=by
      rcases Nat.eq_zero_or_pos n with h | h
      ·exact h
      ·have:=Nat.mul_pos h h0;omega
     have F:m=0:=by omega
     subst F;cases a <;> simp [Builtin.firstCells,loadCells,loadCellsFrom]
    ·obtain ⟨ad,rfl,hc⟩:=g hz;refine run_firstCells_some w sz m ad _ _ (C.take (m*sz)) (by
      rw [Qe,T];exact Nat.min_eq_left (Nat.mul_le_mul_right _ hm)) λ j v x=>?_
     rw [List.getElem?_take] at x;split at x
     ·exact hc j v x
     ·cases x
   ·have R:=k6 w rfl;simp only [Builtin.firstCells,Sem.run_pure] at R ⊢;congr 1;have o:=congrArg (λ r=>match r with | Result.ok a _=>a.toList | _=>[]) R
    simp only at o;rw [←D,ByteArray.extract_zero_size] at o;rw [←o];apply Array.ext';have:sz=1:=by
     cases S with
     | str l _ _ _=>
      cases hq:Nat.beq sz 1 with
      | true=>exact zb hq
      | false=>
       rw [show content H sz (.str l)=none by simp [content,hq]] at b
       cases b
     | sym i _ _ _=>simp [content] at b
    subst this;rw [Array.toList_map,Array.toList_map,ByteArray.data_extract,Array.toList_extract,List.extract_eq_take_drop,←List.map_take];simp
  split at h
  ·cases h;cases W;refine ⟨.int .i64 0,E,w,?_,z,.refl _,.int _ _ (by constructor <;> simp [IntKind.min,IntKind.max,IntKind.signed,IntKind.bits])⟩
   have:=first 0 (QP _);simp [Builtin.copy_,run_underlying A,K,zA8 I,this,goInt]
  ·rename_i ac off len ab cp ex;split at h
   ·cases h
   rename_i M;have:=zb M;subst this;split at h
   ·rename_i st cs f;split at h
    ·rename_i J;have Q:=QM J;cases h;have k:Nat.min n len<=n:=Nat.min_le_left _ _;have p:Nat.min n len<=len:=Nat.min_le_right _ _;have ae:Nat.min n len*sz<=n*sz:=Nat.mul_le_mul_right _ k;have Y:Nat.min n len*sz<=len*sz:=Nat.mul_le_mul_right _ p;have L:VRs E w (ys.take (Nat.min n len*sz)) (C.take (Nat.min n len*sz)):=by
      have:=V.extract 0 (Nat.min n len*sz)
      simpa using this
     have hint:has .i64 ((Nat.min n len:Nat):Int):=by
      unfold ze at k4
      constructor <;> simp only [IntKind.min,IntKind.max,IntKind.signed,IntKind.bits] <;> simp <;> omega
     cases W with
     | wb _ _ _ _ a=>
      refine ⟨.int .i64 ((Nat.min n 0:Nat):Int),E,w,?_,?_,?_,.int _ _ hint⟩
      ·have:=first 0 (QP _);have q:Nat.min n 0=0:=Nat.min_zero _;simp only [Builtin.copy_,List.getElem?_toArray,List.getElem?_cons_zero,List.getElem?_cons_succ,Sem.run_bind,run_underlying A,Result.andThen_ok,K,zA8 I,q,this];simp [storeCells,goInt]
      ·have q:Nat.min n 0=0:=Nat.min_zero _;rw [q];simp only [Nat.zero_mul,List.take_zero,Nat.add_zero,zJT];rw [Heap.qq f];exact z
      ·have q:Nat.min n 0=0:=Nat.min_zero _;rw [q];simp only [Nat.zero_mul,List.take_zero,Nat.add_zero,zJT];rw [Heap.qq f];exact .refl _
     | row _ _ _ _ _ cap _ hD O N U aa ag af=>
      obtain ⟨w',r1,r2,r3⟩:=zG1 (P:=P) z f (off:=off) L (λ v hv=>k2 v (QN hv)) (.inl (by
       have h9:ys.length=n*sz:=by rw [V.1,T]
       rw [Qe,h9];omega)) nx
      refine ⟨.int .i64 ((Nat.min n len:Nat):Int),E,w',?_,r2,r3,.int _ _ hint⟩
      have:=first _ k;simp only [Builtin.copy_,List.getElem?_toArray,List.getElem?_cons_zero,List.getElem?_cons_succ,Sem.run_bind,run_underlying A,Result.andThen_ok,K,zA8 I,this,r1];rfl
    ·cases h
   ·cases h
  ·cases h
end
end Go.Sy
namespace Go.Sy
def Fresh (E:Env) (a b:Nat):Prop:=∀h,a<=h->h<b->¬E.D h
section
variable {P:Program} {G:Cx} {E:Env} {w:World} {fr:Fr} {a:Act} {nt:Nat} {H:Heap} {nx nx':Nat} {v:AV} {H':Heap}
theorem Done.qS {o:Oper} {s:Sem Value} (h:zH1 P s E H w nx v H' nx') (e:∀r w',s.run P w=.ok r w'->(execOp a.eval o).run P w=.ok (.value r) w'):Done P E H w nx (execOp a.eval o) v H' nx':=by
 obtain ⟨i,b,w',f,c,g,d⟩:=h;exact ⟨i,b,w',c,g,d,.inl (e _ _ f)⟩
theorem Done.qp {o:Oper} {s:Sem Value} (d:HR E H w) (h:∃cv,s.run P w=.ok cv w/\VR E w v cv) (c:∀r w',s.run P w=.ok r w'->(execOp a.eval o).run P w=.ok (.value r) w'):Done P E H w nx (execOp a.eval o) v H nx:=by
 obtain ⟨cv,e,b⟩:=h;exact .pure d (c _ _ e) b
theorem Done.vz {o:Oper} {s:Sem Unit} (h:∃w',s.run P w=.ok () w'/\HR E H' w'/\Tr E H w E H' w' nx nx) (c:∀w',s.run P w=.ok () w'->(execOp a.eval o).run P w=.ok .skip w'):Done P E H w nx (execOp a.eval o) (.qc []) H' nx:=by
 obtain ⟨w',d,b,e⟩:=h;exact ⟨undef,E,w',b,e,VR.qJ VRs.nil,.inr ⟨c _ d,rfl⟩⟩
theorem zF3 (d:FrR E w fr a nt) (e:GR G E w) {x:Option Operand} {y:Option XV} {u:Option AV} (hc:copdo x=some y) (b:evo G fr y=some u):OV E w u (x.map a.eval):=by
 cases x with
 | none=>
  simp [copdo] at hc;subst hc;simp [evo] at b;subst b
  trivial
 | some x=>
  simp only [copdo] at hc;split at hc
  ·rename_i z f;cases hc;simp only [evo] at b;split at b
   ·rename_i av c;cases b;exact zH d e f c
   ·cases b
  ·cases hc
theorem VR.ud {x:AV} {b:Value} (h:VR E w x b) (h1:∀k n,x≠.int k n) (c:∀l,x≠.str l) (d:∀i,x≠.sym i):(∀k n,b≠.int k n)/\(∀k n,b≠.float k n)/\(∀k n m,b≠.complex k n m)/\∀s,b≠.string s:=by
 cases h <;> first
  | (exact absurd rfl (h1 _ _))
  | (exact absurd rfl (c _))
  | (exact absurd rfl (d _))
  | (refine ⟨?_,?_,?_,?_⟩ <;> intros <;> intro h <;> cases h)
theorem zWP {t:TypeId} {x:AV} {c d:Value} {b:Bool} (hx:VR E w x c) (h1:∀k n,x≠.int k n) (e:∀l,x≠.str l) (m:∀i,x≠.sym i) (h:(Op.equalIn 10000 t c d).run P w=.ok b w):
  (binOp .eql t c d).run P w=.ok (.bool b) w/\(binOp .neq t c d).run P w=.ok (.bool (!b)) w:=by
 obtain ⟨q1,o,f,g⟩:=hx.ud h1 e m;exact zUS h (λ j a k b h=>q1 _ _ h.1) (λ j a k b h=>o _ _ h.1) (λ j a q k b p h=>f _ _ _ h.1) (λ a b h=>g _ h.1)
theorem zRS {o:Oper} {op:BinOp} {t u:TypeId} {x y:Operand} (ho:o.op=.binOp op t x y u) {r:Value} (b:(eqGuard op t x y (a.eval x) (a.eval y)).run P w=.ok () w) (h:(binOp op t (a.eval x) (a.eval y)).run P w=.ok r w):
  (execOp a.eval o).run P w=.ok (.value r) w:=by
 simp only [execOp,ho,Sem.run_bind,b,Result.andThen_ok,h,Sem.run_pure]
theorem zS0 {op:BinOp} {t:TypeId} {x y:Operand} {c d:Value} (h1:op≠.eql) (b:op≠.neq):(eqGuard op t x y c d).run P w=.ok () w:=by
 cases op <;> first | exact absurd rfl h1 | exact absurd rfl b | rfl
theorem zOE {op:BinOp} {t:TypeId} {d e:Operand} {b g:Value} (h1:∀u,b≠.agg u) (f:b=.nilIface->g=.nilIface->(zBG d||zBG e)=true):(eqGuard op t d e b g).run P w=.ok () w:=by
 by_cases c:op=.eql
 ·subst c;exact zUK h1 f
 ·by_cases h:op=.neq
  ·subst h;exact zUL h1 f
  ·exact zS0 c h
theorem VR.vN {x:AV} {b:Value} (h:VR E w x b) (h1:∀c,x≠.agg c):∀u,b≠.agg u:=by
 intro u f;subst f;cases h with
 | agg e _ _ _ _=>exact h1 e rfl
 | sym i _ _ d=>simp [Value.oneCell'] at d
theorem VR.vd {x:AV} {b:Value} (h:VR E w x b) (h1:x≠.qe) (d:∀i,x≠.sym i):b≠.nilIface:=by
 cases h <;> first | (exact absurd rfl h1) | (exact absurd rfl (d _)) | (intro c;cases c)
theorem zQF {o:Oper} {op:BinOp} {t u:TypeId} {x y:Operand} {neg b:Bool} (d:HR E H w) (ho:o.op=.binOp op t x y u)
  (h1:(binOp .eql t (a.eval x) (a.eval y)).run P w=.ok (.bool b) w/\(binOp .neq t (a.eval x) (a.eval y)).run P w=.ok (.bool (!b)) w) (c:(neg=false/\op=.eql)\/(neg=true/\op=.neq))
  (e:(eqGuard op t x y (a.eval x) (a.eval y)).run P w=.ok () w):Done P E H w nx (execOp a.eval o) (bneg neg b) H nx:=by
 have h:=zV3 (P:=P) (E:=E) h1 c;exact h.elim λ f r=>.pure d (zRS ho e r.1) r.2
theorem zTY {o:Oper} {op:BinOp} {t u:TypeId} {x y:Operand} {p q:AV} (f:HR E H w) (ho:o.op=.binOp op t x y u) (h1:VR E w p (a.eval x)) (d:VR E w q (a.eval y)) (b:xbin op p q=some v):
  Done P E H w nx (execOp a.eval o) v H nx:=by
 obtain ⟨j,e,h⟩:=zUJ (P:=P) (t:=t) h1 d b;refine .pure f (zRS ho (zOE ?_ ?_) e) h
 ·refine h1.vN λ c hc=>?_
  subst hc;simp [xbin] at b
 ·intro g;refine absurd g (h1.vd (λ hc=>?_) λ i hc=>?_)
  ·subst hc;simp [xbin] at b
  ·subst hc;simp [xbin] at b
theorem zFF {o:Oper} {op:BinOp} {t u:TypeId} {x y:Operand} {p:AV} {neg b:Bool} (q:HR E H w) (ho:o.op=.binOp op t x y u) (h1:VR E w p (a.eval x)) (g:∀k n,p≠.int k n) (r:∀l,p≠.str l) (h:∀c,p≠.agg c) (f:∀i,p≠.sym i)
  (m:p=.qe->a.eval y=.nilIface->(zBG x||zBG y)=true) (z:(Op.equalIn 10000 t (a.eval x) (a.eval y)).run P w=.ok b w) (j:(neg=false/\op=.eql)\/(neg=true/\op=.neq)):
  Done P E H w nx (execOp a.eval o) (bneg neg b) H nx:=by
 refine zQF q ho (zWP h1 g r f z) j (zOE (h1.vN h) λ s d=>?_)
 by_cases e:p=.qe
 ·exact m e d
 ·exact absurd s (h1.vd e f)
theorem zV4 {o:Oper} {op:BinOp} {t u:TypeId} {x y:Operand} {p q:List AV} {d:List Kd} {neg b:Bool} (C:HR E H w) (ho:o.op=.binOp op t x y u) (h1:VR E w (.agg p) (a.eval x)) (r:VR E w (.agg q) (a.eval y)) (z:zCh P 6 t=some d)
  (e:agT P t=some true) (A:P.eqGuardType P.depth t=false) (h:eqs d p q=some b) (B:(neg=false/\op=.eql)\/(neg=true/\op=.neq)):Done P E H w nx (execOp a.eval o) (bneg neg b) H nx:=by
 obtain ⟨j,m,q1,_⟩:=h1.qW;obtain ⟨l,k,n,_⟩:=r.qW;have g:p.length=d.length/\q.length=d.length/\eqbs d p q=some b:=by
  unfold eqs at h;split at h
  ·rename_i F I;exact ⟨zb F,zb I,h⟩
  ·cases h
 have D:=zI4 (P:=P) (E:=E) (w:=w) z 9994 j.toList l.toList p q (a.eval x) (a.eval y) b q1 n (.inl ⟨e,by rw [m]⟩) (.inl ⟨e,by rw [k]⟩) (by rw [←q1.1];exact g.1) (by rw [←n.1];exact g.2.1) g.2.2
 refine zQF C ho (zWP h1 (λ _ _ h=>by cases h) (λ _ h=>by cases h) (λ _ h=>by cases h) D) B ?_
 rw [m,k];exact run_eqGuard_agg w op t x y j l A
theorem zV5 (F:HR E H w) (T:FrR E w fr a nt) (S:GR G E w) {o:Oper} {op:BinOp} {t u:TypeId} {x y:Operand} {i:XO} {call:Sy.Call} (ho:o.op=.binOp op t x y u) (hc:zTd P op t x y=some i)
  (h:xoS G call fr H nx i=some (v,H',nx')):Done P E H w nx (execOp a.eval o) v H' nx':=by
 obtain ⟨D,R,hc⟩:=za hc;obtain ⟨I,M,hc⟩:=za hc;have j:∀{p:AV},D.ev G fr=some p->VR E w p (a.eval x):=λ h=>zH T S R h
 have l:∀{p:AV},I.ev G fr=some p->VR E w p (a.eval y):=λ h=>zH T S M h
 have C:i=.bin op D I->Done P E H w nx (execOp a.eval o) v H' nx':=by
  intro e;rw [e] at h;simp only [xoS] at h;split at h
  ·rename_i p q A z;split at h
   ·rename_i r L;cases h;exact zTY F ho (j A) (l z) L
   ·cases h
  ·cases h
 split at hc
 ·cases hc;exact C rfl
 ·cases hc;exact C rfl
 ·rename_i g;have key:∀{neg:Bool},i=.beq neg D I->((neg=false/\op=.eql)\/(neg=true/\op=.neq))->Done P E H w nx (execOp a.eval o) v H' nx':=by
   intro neg e B;rw [e] at h;simp only [xoS] at h;split at h
   ·rename_i p q A z;cases h;have s:=j A;have K:=l z;have X:=s.of_bool;have W:=K.of_bool;exact zFF F ho s (λ _ _ h=>by cases h) (λ _ h=>by cases h) (λ _ h=>by cases h) (λ _ h=>by cases h) (λ h=>by cases h) (by rw [X,W];exact run_equalIn_bool w 9999 t p q g) B
   ·cases h
  split at hc
  ·cases hc;exact key rfl (.inl ⟨rfl,rfl⟩)
  ·cases hc;exact key rfl (.inr ⟨rfl,rfl⟩)
  ·cases hc
 ·rename_i e g;have key:∀{neg:Bool} {n:Nat},zM P e=some (n+1)->i=.vJ neg D I->((neg=false/\op=.eql)\/(neg=true/\op=.neq))->Done P E H w nx (execOp a.eval o) v H' nx':=by
   intro neg n N e B;rw [e] at h;simp only [xoS] at h;split at h
   ·rename_i p q A z;split at h
    ·rename_i b f;cases h;have s:=j A;refine zFF F ho s ?_ ?_ ?_ ?_ ?_ (zUR (d:=9999) F s (l z) f g N) B
     ·intro _ _ c;subst c;simp [xpeq] at f
     ·intro _ c;subst c;simp [xpeq] at f
     ·intro _ c;subst c;simp [xpeq] at f
     ·intro _ c;subst c;simp [xpeq] at f
     ·intro c;subst c;simp [xpeq] at f
    ·cases h
   ·cases h
  split at hc
  ·split at hc
   ·cases hc
   ·rename_i m J O;cases m with
    | zero=>exact absurd rfl J
    | succ m=>cases hc;exact key O rfl (.inl ⟨rfl,rfl⟩)
   ·cases hc
  ·split at hc
   ·cases hc
   ·rename_i m J O;cases m with
    | zero=>exact absurd rfl J
    | succ m=>cases hc;exact key O rfl (.inr ⟨rfl,rfl⟩)
   ·cases hc
  ·cases hc
 ·rename_i fs g;split at hc
  ·rename_i U V z;have key:∀{neg:Bool},i=.wF neg U D I->((neg=false/\op=.eql)\/(neg=true/\op=.neq))->Done P E H w nx (execOp a.eval o) v H' nx':=by
    intro neg e B;rw [e] at h;simp only [xoS] at h;split at h
    ·rename_i p q A Q;split at h
     ·rename_i b f;cases h;exact zV4 F ho (j A) (l Q) V (by simp [agT,g]) z f B
     ·cases h
    ·cases h
   split at hc
   ·cases hc;exact key rfl (.inl ⟨rfl,rfl⟩)
   ·cases hc;exact key rfl (.inr ⟨rfl,rfl⟩)
   ·cases hc
  ·cases hc
 ·rename_i Y g;have key:∀{neg:Bool},i=.vK neg (zBG x||zBG y) (zN3 P) D I->((neg=false/\op=.eql)\/(neg=true/\op=.neq))->Done P E H w nx (execOp a.eval o) v H' nx':=by
   intro neg e B;rw [e] at h;simp only [xoS] at h;split at h
   ·rename_i p q A z;split at h
    ·rename_i b f;cases h;have s:=j A;have K:=l z;refine zFF F ho s ?_ ?_ ?_ ?_ ?_ (zRm (d:=9998) s K f g) B
     ·intro _ _ c;subst c;simp [xieq] at f
     ·intro _ c;subst c;simp [xieq] at f
     ·intro _ c;subst c;simp [xieq] at f
     ·intro _ c;subst c;simp [xieq] at f
     ·intro c N;subst c;rw [N] at K;cases K
      case qe=>
       simp only [xieq] at f;split at f
       ·assumption
       ·cases f
      case sym=>simp [xieq] at f
    ·cases h
   ·cases h
  split at hc
  ·cases hc;exact key rfl (.inl ⟨rfl,rfl⟩)
  ·cases hc;exact key rfl (.inr ⟨rfl,rfl⟩)
  ·cases hc
 ·rename_i e g;have key:∀{neg:Bool},i=.seq neg D I->((neg=false/\op=.eql)\/(neg=true/\op=.neq))->Done P E H w nx (execOp a.eval o) v H' nx':=by
   intro neg e B;rw [e] at h;simp only [xoS] at h;split at h
   ·rename_i p q A z;split at h
    ·rename_i b f;cases h;have s:=j A;refine zFF F ho s ?_ ?_ ?_ ?_ ?_ (zRl (d:=9999) s (l z) f g) B
     ·intro _ _ c;subst c;simp [xseq] at f
     ·intro _ c;subst c;simp [xseq] at f
     ·intro _ c;subst c;simp [xseq] at f
     ·intro _ c;subst c;simp [xseq] at f
     ·intro c;subst c;simp [xseq] at f
    ·cases h
   ·cases h
  split at hc
  ·cases hc;exact key rfl (.inl ⟨rfl,rfl⟩)
  ·cases hc;exact key rfl (.inr ⟨rfl,rfl⟩)
  ·cases hc
 ·rename_i k e g;have key:∀{neg:Bool},i=.vQ neg D I->((neg=false/\op=.eql)\/(neg=true/\op=.neq))->Done P E H w nx (execOp a.eval o) v H' nx':=by
   intro neg e B;rw [e] at h;simp only [xoS] at h;split at h
   ·rename_i p q A z;split at h
    ·rename_i b f;cases h;have s:=j A;refine zFF F ho s ?_ ?_ ?_ ?_ ?_ (zSU (d:=9999) s (l z) f g) B
     ·intro _ _ c;subst c;simp [xmeq] at f
     ·intro _ c;subst c;simp [xmeq] at f
     ·intro _ c;subst c;simp [xmeq] at f
     ·intro _ c;subst c;simp [xmeq] at f
     ·intro c;subst c;simp [xmeq] at f
    ·cases h
   ·cases h
  split at hc
  ·cases hc;exact key rfl (.inl ⟨rfl,rfl⟩)
  ·cases hc;exact key rfl (.inr ⟨rfl,rfl⟩)
  ·cases hc
 ·rename_i pp rr vv g;have key:∀{neg:Bool},i=.vP neg D I->((neg=false/\op=.eql)\/(neg=true/\op=.neq))->Done P E H w nx (execOp a.eval o) v H' nx':=by
   intro neg e B;rw [e] at h;simp only [xoS] at h;split at h
   ·rename_i p q A z;split at h
    ·rename_i b f;cases h;have s:=j A;refine zFF F ho s ?_ ?_ ?_ ?_ ?_ (zRN (d:=9999) s (l z) f g) B
     ·intro _ _ c;subst c;simp [xfeq] at f
     ·intro _ c;subst c;simp [xfeq] at f
     ·intro _ c;subst c;simp [xfeq] at f
     ·intro _ c;subst c;simp [xfeq] at f
     ·intro c;subst c;simp [xfeq] at f
    ·cases h
   ·cases h
  split at hc
  ·cases hc;exact key rfl (.inl ⟨rfl,rfl⟩)
  ·cases hc;exact key rfl (.inr ⟨rfl,rfl⟩)
  ·cases hc
 ·cases hc
end
end Go.Sy
namespace Go.Sy
section
variable {P:Program} {G:Cx} {E:Env} {w:World} {fr:Fr} {a:Act} {nt:Nat} {H:Heap} {nx:Nat}
theorem zUW {h:Nat} {st:Bool} {cs:List AV} (y:HR E H w) (s:H.get h=some (.cells st cs)) (off a:Nat):
  ∃w',(markStringish ⟨E.ρ h,off,none⟩).run P w=.ok () w'/\HR E (H.put h (.cells true cs)) w'/\Tr E H w E (H.put h (.cells true cs)) w' a a:=by
 obtain ⟨c,e,f,g,A,p⟩:=CR.wT (y.obj _ (Heap.qh s));obtain ⟨k,n,m⟩:∃k:Nat×Nat,(w.freeze ⟨E.ρ h,c.size,none⟩ 1).heap=w.heap.setIfInBounds (E.ρ h) (.cells c e k)/\c.size<=k.1:=by
  obtain ⟨r,o⟩:=f;refine ⟨if r==o then (c.size,c.size+1) else (min r c.size,max o (c.size+1)),?_,?_⟩
  ·apply Array.ext_getElem?;intro i;simp only [World.freeze,Nat.one_ne_zero,if_false,Array.getElem?_modify,Array.getElem?_setIfInBounds];have q:w.heap[E.ρ h]? = some (Obj.cells c e (r,o)):=g;obtain ⟨b,d⟩:=Array.getElem?_eq_some_iff.1 q;by_cases z:E.ρ h=i
   ·subst z;simp [d,b]
   ·simp [z]
  ·split
   ·exact QA _
   ·rename_i l;rcases A with j | ⟨_,j⟩
    ·simp only at j;subst j;simp at l
    ·simp only at j ⊢;omega
 have b:=(Array.getElem?_eq_some_iff.1 g).1;have u:(w.freeze ⟨E.ρ h,c.size,none⟩ 1).heap[E.ρ h]? = some (.cells c e k):=by rw [n,Array.getElem?_setIfInBounds,if_pos rfl,if_pos b]
 have t:∀x,x≠E.ρ h->(w.freeze ⟨E.ρ h,c.size,none⟩ 1).heap[x]? = w.heap[x]?:=λ x B=>by rw [n,Array.getElem?_setIfInBounds,if_neg (Ne.symm B)]
 have D:=Shapes.vL g u rfl t;obtain ⟨m1,m2,_⟩:=zLy y s (w':=w.freeze ⟨E.ρ h,c.size,none⟩ 1) rfl rfl rfl (by rw [n,Array.size_setIfInBounds]) t D (o':=.cells true cs) (λ C=>CR.or (p.mono C) u (.inr ⟨rfl,m⟩)) a
 refine ⟨_,?_,m1,m2⟩
 simp [markStringish,World.shape?,g]
theorem zUX (F:HR E H w) (hf:FrR E w fr a nt) (hg:GR G E w) {v:AV} {H':Heap} {nx':Nat} {o:Oper} {s d:TypeId} {x:Operand} {V:XO} {call:Sy.Call} (ho:o.op=.convert s d x) (hc:zRI P s d x=some V)
  (ak:Fresh E nx nx') (h:xoS G call fr H nx V=some (v,H',nx')):Done P E H w nx (execOp a.eval o) v H' nx':=by
 obtain ⟨ax,ai,hc⟩:=za hc;have I:∀{p:AV},ax.ev G fr=some p->VR E w p (a.eval x):=λ h=>zH hf hg ai h
 have T:∀r U,(convert s d (a.eval x)).run P w=.ok r U->(execOp a.eval o).run P w=.ok (.value r) U:=λ r U h=>by simp only [execOp,ho,Sem.run_bind,h,Result.andThen_ok,Sem.run_pure]
 split at hc
 ·rename_i Y k2 u t;cases hc;simp only [xoS] at h;split at h
  ·rename_i k n hn;cases h;obtain ⟨A,_⟩:=(I hn).of_int;refine .qp (s:=convert s d (a.eval x)) F ?_ T
   rw [A];exact zKi (by simp [convert,run_underlying u,run_underlying t,Conv.intToInt])
  ·cases h
 ·rename_i u t;cases hc;simp only [xoS] at h;split at h
  ·rename_i l f;cases h;obtain ⟨j,A,hs,K⟩:=(I f).qY;refine .qp (s:=convert s d (a.eval x)) F ⟨.string j,?_,.str _ _ hs K⟩ T
   rw [A];simp [convert,run_underlying u,run_underlying t]
  ·cases h
 ·rename_i e u t;split at hc
  ·rename_i N;cases hc;simp only [xoS] at h;split at h
   ·rename_i l f;cases h;exact .qS (zUV (P:=P) F (ak nx (QA _) (by omega)) (I f) u t N) T
   ·cases h
  ·cases hc
 ·rename_i e u t;split at hc
  ·rename_i N;cases hc;simp only [xoS] at h;split at h
   ·cases h
   ·rename_i y al hy;split at h
    ·rename_i m D ah;split at h
     ·rename_i l f;cases h;obtain ⟨L,Y,k2,X,k4,k5,k6,k7⟩:=zEh (P:=P) F (I hy) ah;have bytes:∀{D:List AV} {l:List Nat} {L:List Value},zBg D=some l->VRs E w D L->∃j:List UInt8,L=j.map (λ b=>Value.int .u8 b.toNat)/\j.map UInt8.toNat=l:=by
       intro D
       induction D with
       | nil=>
        intro l L f J;simp [zBg] at f;subst f;rw [J.of_nil];exact ⟨[],rfl,rfl⟩
       | cons c D ih=>
        intro l L f J;obtain ⟨v,au,rfl,ae,aj⟩:=J.of_cons;unfold zBg at f;split at f
        ·rename_i W;cases W
        rotate_left
        ·cases f
        rename_i b r W;cases W;split at f
        ·rename_i l' ao;cases f;obtain ⟨j,rfl,rfl⟩:=ih ao aj;obtain ⟨rfl,K⟩:=ae.of_int;have aw:b<=255:=by
          have:=K.2;simp [IntKind.max,IntKind.signed,IntKind.bits] at this;omega
         have R:(UInt8.ofNat b).toNat=b:=by simp;omega
         exact ⟨UInt8.ofNat b::j,by simp [R],by simp [R]⟩
        ·cases f
      obtain ⟨j,rfl,rfl⟩:=bytes f Y;refine .qp (s:=convert s d (a.eval x)) F ?_ T
      have g:j.length<=ze:=by simp at X;omega
      rcases k7 with ⟨S,c,A,af⟩ | ⟨bb,A,_⟩
      ·rw [A] at k6 ⊢;have z:=run_convert_bytes_string (P:=P) w s d e S m c u N t;rw [z];cases S with
       | none=>
        have q:=k6 w rfl;have ag:j=[]:=by
         simp only [Builtin.firstCells,Sem.run_pure,Result.ok.injEq,and_true] at q;have:=congrArg Array.size q;simp at this;exact List.eq_nil_of_length_eq_zero (by simpa using this.symm)
        subst ag;exact ⟨.string .empty,by simp [Conv.bytesToString],.str _ _ rfl (by simp)⟩
       | some S=>
        have q:=k6 w rfl;simp only [Builtin.firstCells,Nat.mul_one] at q;have:=run_bytesToString (P:=P) w S m c (j.map λ b=>(b.toNat:Int)) (by rw [q];simp [Function.comp_def])
        rw [foldl_push_byteCells] at this;refine ⟨_,this,.str _ _ ?_ (by simpa using g)⟩
        show ((#[]:Array UInt8)++j.toArray).toList.map UInt8.toNat=_
        simp
      ·have hx:=I hy;rw [A] at hx;cases hx with
       | str l _ _ _=>exact absurd rfl (al l)
       | sym i _ _ _=>simp [content] at *
     ·cases h
    ·cases h
   ·cases h
  ·cases hc
 ·rename_i W e u t;split at hc
  ·rename_i C;have C:=zb C;split at hc
   ·rename_i N;cases hc;simp only [xoS] at h;split at h
    ·rename_i hd off len sz cp ex f;split at h
     ·rename_i Q;have B:0<len:=by simpa [Qm] using Q
      split at h
      ·rename_i st D O;cases h;have J:=I f;obtain ⟨U,Y,k2,X⟩:=zUW (P:=P) F O off nx;generalize ab:a.eval x=cx at J;cases J with
       | wb _ _ _ _ S=>exact absurd B (Nat.lt_irrefl _)
       | row _ _ _ _ _ cap _ hD g M ac aa aq K=>
        refine .qS (s:=convert s d (a.eval x)) ⟨.slice (some ⟨E.ρ hd,off,none⟩) len cap,E,U,?_,k2,X,?_⟩ T
        ·rw [ab];have ar:(s==d)=true:=by rw [C];simp
         simp [convert,run_underlying u,run_underlying t,run_underlying N,ar,Y]
        ·exact X.vr F (.row _ _ _ _ _ cap _ hD g M ac aa aq K)
      ·cases h
     ·cases h
    ·cases h
   ·cases hc
  ·cases hc
 ·cases hc
end
end Go.Sy
namespace Go.Sy
section
variable {P:Program} {G:Cx} {E:Env} {w:World} {fr:Fr} {a:Act} {nt:Nat} {H:Heap} {nx:Nat}
theorem zCV {o:Oper} {b:Builtin} {args:Array Operand} {ts:Array TypeId} (ho:o.op=.call { callee:=.builtin b,args:=args,argTypes:=ts }):
  (execOp a.eval o)=(builtin b ts o.type (args.map λ| .const _=>true | _=>false) (args.map a.eval)):=by
 simp only [execOp,ho,resolve,invoke];rfl
theorem zHB {α:Type} {l:Array α} {x:α} (h:l.toList=[x]):l=#[x]:=by cases l;simp_all
theorem zDG {α:Type} {l:Array α} {x y:α} (h:l.toList=[x,y]):l=#[x,y]:=by cases l;simp_all
theorem zKl {n:Nat} (h:n<=ze):has .i64 (n:Int):=by
 unfold ze at h
 constructor <;> simp [IntKind.min,IntKind.max,IntKind.signed,IntKind.bits] <;> omega
theorem zNi (M:HR E H w) (U:FrR E w fr a nt) (T:GR G E w) {v:AV} {H':Heap} {nx':Nat} {o:Oper} {b:Builtin} {args:Array Operand} {ts:Array TypeId} {aa:XO} {call:Sy.Call}
  (ho:o.op=.call { callee:=.builtin b,args:=args,argTypes:=ts }) (hc:zLz P b args.toList ts.toList=some aa)
  (bc:Fresh E nx nx') (h:xoS G call fr H nx aa=some (v,H',nx')):Done P E H w nx (execOp a.eval o) v H' nx':=by
 unfold zLz at hc;split at hc
 ·
  rename_i x t C B;have C:=zHB C;have B:=zHB B;subst C;subst B;obtain ⟨X,I,hc⟩:=za hc;have V:∀{p:AV},X.ev G fr=some p->VR E w p (a.eval x):=λ h=>zH U T I h
  have K:∀r A,(Builtin.len_ #[t] o.type #[a.eval x]).run P w=.ok r A->(execOp a.eval o).run P w=.ok (.value r) A:=λ r A h=>by rw [zCV ho];simp [builtin,h]
  have fixed:∀{n:Nat},n<=ze->aa=.wN n->(Builtin.len_ #[t] o.type #[a.eval x]).run P w=.ok (.int .i64 n) w->Done P E H w nx (execOp a.eval o) v H' nx':=by
   intro n hn e h1;rw [e] at h;cases h;exact .qp M ⟨_,h1,.int _ _ (zKl hn)⟩ K
  split at hc
  ·rename_i d;cases hc;simp only [xoS] at h;split at h
   ·rename_i l L;cases h;obtain ⟨bs,O,hs,hb⟩:=(V L).qY;refine .qp (s:=Builtin.len_ #[t] o.type #[a.eval x]) M ⟨.int .i64 (l.length:Int),?_,.int _ _ (zKl hb)⟩ K
    rw [O];simp [Builtin.len_,run_underlying d,goInt,zIP hs]
   ·cases h
  ·rename_i e d;cases hc;simp only [xoS] at h;have J:∀{n c:Nat} {ad:Option Addr},a.eval x=.slice ad n c->n<=ze->v=.int .i64 (n:Int)->H'=H->nx'=nx->Done P E H w nx (execOp a.eval o) v H' nx':=by
    intro n c ad O hn e2 e3 e4;rw [e2,e3,e4];refine .qp (s:=Builtin.len_ #[t] o.type #[a.eval x]) M ⟨.int .i64 (n:Int),?_,.int _ _ (zKl hn)⟩ K
    rw [O];simp [Builtin.len_,run_underlying d,goInt]
   split at h
   ·rename_i L;cases h;have F:=V L;generalize a.eval x=Y at *;cases F;exact J rfl (QP _) rfl rfl rfl
   ·rename_i z es L;cases h;have F:=V L;generalize g:a.eval x=Y at F;cases F with
    | wo _ ad c hc=>exact J g (QP _) rfl rfl rfl
    | ql _ b o' cap _ f hz S bn bm bi hc=>exact J g (by omega) rfl rfl rfl
   ·rename_i hd off len sz cp ex L;cases h;have F:=V L;generalize g:a.eval x=Y at F;cases F with
    | wb _ _ _ _ ad=>exact J g (QP _) rfl rfl rfl
    | row _ _ _ _ _ cap _ hD N S ab af ae au=>exact J g (by omega) rfl rfl rfl
   ·cases h
  ·rename_i k e d;cases hc;simp only [xoS] at h;split at h
   ·rename_i L;cases h;have F:=V L;generalize g:a.eval x=Y at F;cases F;refine .qp (s:=Builtin.len_ #[t] o.type #[a.eval x]) M ⟨.int .i64 0,?_,.int _ _ (zKl (n:=0) (QP _))⟩ K
    rw [g];simp [Builtin.len_,run_underlying d,goInt]
   ·rename_i hd L;split at h
    ·rename_i es D;split at h
     ·rename_i Q;cases h;obtain ⟨O,hD⟩:=(V L).of_map;obtain ⟨c,clock,hb,N,_,_⟩:=M.obj _ (Heap.qh D);have ac:(getObj (E.ρ hd)).run P w=.ok (.map c clock) w:=by simp [getObj,Sem.run,hb]
      refine .qp (s:=Builtin.len_ #[t] o.type #[a.eval x]) M ⟨.int .i64 (es.length:Int),?_,.int _ _ (zKl (QM Q))⟩ K
      rw [O];simp [Builtin.len_,run_underlying d,goInt,ac,N]
     ·cases h
    ·cases h
   ·cases h
  ·rename_i n e d;split at hc
   ·rename_i Q;cases hc;exact fixed (QM Q) rfl (by simp [Builtin.len_,run_underlying d,goInt])
   ·cases hc
  ·rename_i e d;split at hc
   ·rename_i n e' bg;split at hc
    ·rename_i Q;cases hc;exact fixed (QM Q) rfl (by simp [Builtin.len_,run_underlying d,run_underlying bg,goInt])
    ·cases hc
   ·cases hc
  ·cases hc
 ·
  rename_i x t C B;have C:=zHB C;have B:=zHB B;subst C;subst B;obtain ⟨X,I,hc⟩:=za hc;have V:∀{p:AV},X.ev G fr=some p->VR E w p (a.eval x):=λ h=>zH U T I h
  have K:∀r A,(Builtin.cap_ #[t] o.type #[a.eval x]).run P w=.ok r A->(execOp a.eval o).run P w=.ok (.value r) A:=λ r A h=>by rw [zCV ho];simp [builtin,h]
  split at hc
  ·rename_i e d;cases hc;have J:∀{n c:Nat} {ad:Option Addr},a.eval x=.slice ad n c->c<=ze->Done P E H w nx (execOp a.eval o) (.int .i64 (c:Int)) H nx:=by
    intro n c ad O hn;refine .qp (s:=Builtin.cap_ #[t] o.type #[a.eval x]) M ⟨.int .i64 (c:Int),?_,.int _ _ (zKl hn)⟩ K
    rw [O];simp [Builtin.cap_,run_underlying d,goInt]
   simp only [xoS] at h;split at h
   ·rename_i L;cases h;have F:=V L;generalize g:a.eval x=Y at F;cases F;exact J g (QP _)
   ·rename_i hd off len sz cp L;cases h;have F:=V L;generalize g:a.eval x=Y at F;cases F with
    | wb _ _ _ _ ad=>exact J g (QP _)
    | row _ _ _ _ _ cap _ hD N S ab af ae au=>
     have:=ae rfl;subst this;exact J g S
   ·cases h
  ·cases hc
 ·
  rename_i x y t u C B;have C:=zDG C;have B:=zDG B;subst C;subst B;obtain ⟨X,I,hc⟩:=za hc;obtain ⟨ay,R,hc⟩:=za hc;have K:∀r A,(Builtin.append_ #[t,u] o.type #[a.eval x,a.eval y]).run P w=.ok r A->(execOp a.eval o).run P w=.ok (.value r) A:=λ r A h=>by rw [zCV ho];simp [builtin,h]
  have J:∀{e:TypeId} {s n:Nat} {ah:List AV},P.underlying t=some (.slice e)->(∃e',P.underlying u=some (.slice e'))\/P.underlying u=some .string->zEm P e=some ah->zM P e=some s->zJd P e=some n->0<s →
    aa=.append X ay s n->Done P E H w nx (execOp a.eval o) v H' nx':=by
   intro e s n ah h1 h2 h3 h4 h5 h6 O;rw [O] at h;simp only [xoS] at h;split at h
   ·rename_i p q hp W;exact .qS (zRP (P:=P) M (zH U T I hp) (zH U T R W) h1 h2 h3 h4 h5 h6 bc h) K
   ·cases h
  split at hc
  ·rename_i e e' h1 h2;obtain ⟨s,hs,hc⟩:=za hc;obtain ⟨n,hn,hc⟩:=za hc;obtain ⟨z,hz,hc⟩:=za hc;split at hc
   ·cases hc
   ·cases hc;exact J h1 (.inl ⟨_,h2⟩) hz hs hn (Qz _) rfl
  ·rename_i e h1 h2;obtain ⟨s,hs,hc⟩:=za hc;obtain ⟨n,hn,hc⟩:=za hc;obtain ⟨z,hz,hc⟩:=za hc;split at hc
   ·cases hc;exact J h1 (.inr h2) hz hs hn (Qz _) rfl
   ·cases hc
  ·cases hc
 ·
  rename_i x y t u C B;have C:=zDG C;have B:=zDG B;subst C;subst B;obtain ⟨X,I,hc⟩:=za hc;obtain ⟨ay,R,hc⟩:=za hc;have K:∀r A,(Builtin.copy_ #[t,u] o.type #[a.eval x,a.eval y]).run P w=.ok r A->(execOp a.eval o).run P w=.ok (.value r) A:=λ r A h=>by rw [zCV ho];simp [builtin,h]
  split at hc
  ·rename_i e h1;obtain ⟨s,hs,hc⟩:=za hc;split at hc
   ·cases hc
   ·cases hc;simp only [xoS] at h;split at h
    ·rename_i p q hp W;exact .qS (zTX (P:=P) M (zH U T I hp) (zH U T R W) h1 hs (Qz _) h) K
    ·cases h
  ·cases hc
 ·
  rename_i x t C B;have C:=zHB C;have B:=zHB B;subst C;subst B;obtain ⟨X,I,hc⟩:=za hc;have V:∀{p:AV},X.ev G fr=some p->VR E w p (a.eval x):=λ h=>zH U T I h
  have K:∀r A,(Builtin.clear_ #[t] o.type #[a.eval x]).run P w=.ok r A->(execOp a.eval o).run P w=.ok (.value r) A:=λ r A h=>by rw [zCV ho];simp [builtin,h]
  split at hc
  ·rename_i e d;obtain ⟨s,hs,hc⟩:=za hc;obtain ⟨z,hz,hc⟩:=za hc;cases s with
   | zero=>cases hc
   | succ s=>
    cases hc;simp only [xoS] at h;split at h
    ·rename_i L;cases h;have F:=V L;generalize g:a.eval x=Y at F;cases F;refine .qp (s:=Builtin.clear_ #[t] o.type #[a.eval x]) M ⟨.tuple #[],?_,VR.qJ VRs.nil⟩ K
     rw [g];simp [Builtin.clear_,run_underlying d]
    ·rename_i hd off len bj cp ex L;split at h
     ·cases h
     rename_i bf;have:=zb bf;subst this;split at h
     ·rename_i st cs D;split at h
      ·rename_i Q;cases h;have bh:=QM Q;obtain ⟨i,cz,hi,a7,bk,ai,aw,h2,h3⟩:=VR.zero (P:=P) (E:=E) (w:=w) (z:=.bool true) (v:=.bool true) (n:=0) hz;have a1:i.size=s+1:=by rw [hs] at ai;simpa using ai.symm
       obtain ⟨m1,m2⟩:=zOQ h2 h3 len;have F:=V L;generalize g:a.eval x=Y at F;cases F with
       | wb _ _ _ _ ad=>
        simp only [rep,zJT];rw [Heap.qq D];refine .qp (s:=Builtin.clear_ #[t] o.type #[a.eval x]) M ⟨.tuple #[],?_,VR.qJ VRs.nil⟩ K
        rw [g];simp [Builtin.clear_,run_underlying d]
       | row _ _ _ _ _ cap _ hD N S ab af ae au=>
        obtain ⟨A,r1,r2,r3⟩:=zG1 (P:=P) M D (off:=off) m1 m2 (.inl (by rw [zPw,aw,a1];omega)) nx
        refine .qS (s:=Builtin.clear_ #[t] o.type #[a.eval x]) ⟨.tuple #[],E,A,?_,r2,r3,VR.qJ VRs.nil⟩ K
        rw [g];have az:(zeroValue e).run P w=.ok cz w:=by simp [zeroValue,typeInfo,hi,a7]
        have ba:(Builtin.zeroCells cz.cells len).toList=(madeCells cz.cells (len*cz.cells.size)).toList:=rfl;cases len with
        | zero=>
         have:(madeCells cz.cells (0*cz.cells.size)).toList=[]:=by simp [madeCells,Array.range_zero']
         rw [this] at r1;simp [storeCells] at r1;subst r1;simp [Builtin.clear_,run_underlying d]
        | succ len=>
         simp [Builtin.clear_,run_underlying d,az,ba,r1]
      ·cases h
     ·cases h
    ·cases h
  ·rename_i k e d;cases hc;simp only [xoS] at h;split at h
   ·rename_i L;cases h;have F:=V L;generalize g:a.eval x=Y at F;cases F;refine .qp (s:=Builtin.clear_ #[t] o.type #[a.eval x]) M ⟨.tuple #[],?_,VR.qJ VRs.nil⟩ K
    rw [g];simp [Builtin.clear_,run_underlying d]
   ·rename_i hd L;split at h
    ·rename_i es D;cases h;obtain ⟨O,hD⟩:=(V L).of_map;obtain ⟨c,clock,hb,N,_,_⟩:=M.obj _ (Heap.qh D);have ac:(getObj (E.ρ hd)).run P w=.ok (.map c clock) w:=by simp [getObj,Sem.run,hb]
     obtain ⟨A,s1,s2,s3,_⟩:=zFD (P:=P) M D hb (λ _ _ _ h=>by cases h) (ob':=.map #[] clock) (o':=.map []) (λ A a8 hm=>⟨#[],clock,a8,rfl,λ i k x hi=>by simp at hi,λ i j m n hi=>by simp at hi⟩) nx
     refine .qS (s:=Builtin.clear_ #[t] o.type #[a.eval x]) ⟨.tuple #[],E,A,?_,s2,s3,VR.qJ VRs.nil⟩ K
     rw [O];simp [Builtin.clear_,run_underlying d,ac,s1]
    ·cases h
   ·cases h
  ·cases hc
 ·
  rename_i x y t u C B;have C:=zDG C;have B:=zDG B;subst C;subst B;obtain ⟨X,I,hc⟩:=za hc;obtain ⟨ay,R,hc⟩:=za hc;have K:∀r A,(Builtin.min_ #[t,u] o.type #[a.eval x,a.eval y]).run P w=.ok r A->(execOp a.eval o).run P w=.ok (.value r) A:=λ r A h=>by rw [zCV ho];simp [builtin,h]
  split at hc
  ·cases hc;simp only [xoS] at h;split at h
   ·rename_i k p k' q hp W;split at h
    ·rename_i hk;cases h;have:=zHk hk;subst this;obtain ⟨O,b1⟩:=(zH U T I hp).of_int;obtain ⟨e2,b2⟩:=(zH U T R W).of_int;refine .qp (s:=Builtin.min_ #[t,u] o.type #[a.eval x,a.eval y]) M ⟨_,by rw [O,e2];exact run_min_int2 w _ _ _ _ _ _,.int _ _ (by split <;> assumption)⟩ K
    ·cases h
   ·cases h
  ·cases hc
 ·
  rename_i x y t u C B;have C:=zDG C;have B:=zDG B;subst C;subst B;obtain ⟨X,I,hc⟩:=za hc;obtain ⟨ay,R,hc⟩:=za hc;have K:∀r A,(Builtin.max_ #[t,u] o.type #[a.eval x,a.eval y]).run P w=.ok r A->(execOp a.eval o).run P w=.ok (.value r) A:=λ r A h=>by rw [zCV ho];simp [builtin,h]
  split at hc
  ·cases hc;simp only [xoS] at h;split at h
   ·rename_i k p k' q hp W;split at h
    ·rename_i hk;cases h;have:=zHk hk;subst this;obtain ⟨O,b1⟩:=(zH U T I hp).of_int;obtain ⟨e2,b2⟩:=(zH U T R W).of_int;refine .qp (s:=Builtin.max_ #[t,u] o.type #[a.eval x,a.eval y]) M ⟨_,by rw [O,e2];exact run_max_int2 w _ _ _ _ _ _,.int _ _ (by split <;> assumption)⟩ K
    ·cases h
   ·cases h
  ·cases hc
 ·
  rename_i m k t u C B;have C:=zDG C;have B:=zDG B;subst C;subst B;obtain ⟨am,al,hc⟩:=za hc;obtain ⟨ak,be,hc⟩:=za hc;have K:∀r A,(Builtin.delete_ #[t,u] o.type #[a.eval m,a.eval k]).run P w=.ok r A->(execOp a.eval o).run P w=.ok (.value r) A:=λ r A h=>by rw [zCV ho];simp [builtin,h]
  split at hc
  ·rename_i kt et d;obtain ⟨q,W,hc⟩:=za hc;cases hc;unfold keyT at W;obtain ⟨ks,ar,W⟩:=za W;obtain ⟨ag,aq,W⟩:=za W;cases W;simp only [xoS] at h;split at h
   ·rename_i vm vk hm hk;split at h
    ·cases h
    rename_i aj;have ao:=zH U T be hk;split at h
    ·cases h;have F:=zH U T al hm;generalize g:a.eval m=Y at F;cases F;have a6:=zEP (P:=P) (em:=true) ar aq ao aj;refine .qp (s:=Builtin.delete_ #[t,u] o.type #[a.eval m,a.eval k]) M ⟨.tuple #[],?_,VR.qJ VRs.nil⟩ K
     rw [g];simp [Builtin.delete_,run_underlying d,a6]
    ·split at h
     ·rename_i es D;split at h
      ·rename_i bl bb;cases h;obtain ⟨A,r1,r2,r3⟩:=zUQ (P:=P) (ts:=#[t,u]) (ty:=o.type) (nx:=nx) M d ar aq rfl (zH U T al hm) ao aj D bb;exact .qS (s:=Builtin.delete_ #[t,u] o.type #[a.eval m,a.eval k]) ⟨.tuple #[],E,A,r1,r2,r3,VR.qJ VRs.nil⟩ K
      ·cases h
     ·cases h
    ·cases h
   ·cases h
  ·cases hc
 ·cases hc
end
end Go.Sy
