/- A LIBRARY: WHAT A FUNCTION'S CODE RECKONS, AS A LEAN FUNCTION, AND THAT ITS WORD IS THE MODEL'S: part 4 of 6. No condition. -/
import Derived.Test.YtdeeimaahdgeaaaGreatDoorFxC
set_option linter.unusedVariables false
set_option linter.unusedSimpArgs false
namespace Go.Sy
def HFn (P:Program) (G:Cx) (f:Nat) (args:List AV) (H:Heap) (V:Vecs) (v:AV) (H2:Heap) (V2:Vecs):Prop:=
 ∀(E:Env) (w:World) (β:Nat->Option Nat) (cargs:Array Value),SR G 0 E w { tmps:=#[],defers:=[] } β ⟨[],H,V,H.length,V.length⟩->VRs E w args cargs.toList->(∀x∈args,CP V.length H.length x) →
  Calls P f cargs w fun e w'=>∃cv E' β',e=.returned cv/\VR E' w' v cv/\(∀p∈H2,E'.ρ p.1=E.ρ p.1)/\SR G 0 E' w' { tmps:=#[],defers:=[] } β' ⟨[],H2,V2,H2.length,V2.length⟩/\Kp E.Z (BS E β H V) w E'.Z (BS E' β' H2 V2) w'
structure HOut (v:AV) (H H2:Heap) (V2:Vecs):Prop where
 pp:PP v\/∃j,v=.sym j/\j<V2.length
 keys:H2.keys=H.keys
 cells:∀p∈H2,∃str cs,p.2=.cells str cs/\∀c∈cs,PP c\/∃j,c=.sym j/\j<V2.length
 owns:∀j vi,V2.get j=some vi->vi.owns=true
def HFnI (P:Program) (G:Cx) (f:Nat) (args:List AV) (V:Vecs) (v:AV) (V2:Vecs):Prop:=
 (∀j vi,V.get j=some vi->∃sz es es',vi=.vec sz es/\V2.get j=some (.vec sz es')/\es'.length=es.length) ∧
 ∀(E:Env) (w:World) (β:Nat->Option Nat) (cargs:Array Value),SR G 0 E w { tmps:=#[],defers:=[] } β ⟨[],[],V,0,V.length⟩->VRs E w args cargs.toList->(∀x∈args,CP V.length 0 x) →
  Calls P f cargs w fun e w'=>∃cv E',e=.returned cv/\VR E' w' v cv/\E'.σ=E.σ/\SR G 0 E' w' { tmps:=#[],defers:=[] } β ⟨[],[],V2,0,V.length⟩/\Kp E.Z (BS E β [] V) w E'.Z (BS E' β [] V2) w'
def HOK (P:Program) (G:Cx) (e:HEnt):Prop:=Enters P e.f/\∀args H V v H2 V2,e.pre args H V->e.val args H V=some (v,H2,V2)->HOut v H H2 V2/\match inpl e.grow with
 | true=>H=[]/\H2=[]/\PP v/\HFnI P G e.f args V v V2
 | false=>HFn P G e.f args H V v H2 V2
section
variable {P:Program} {G:Cx} {nt:Nat} {E:Env} {w:World} {a:Act} {β:Nat->Option Nat} {st:Sta}
 {Z0 B0:Nat->Prop} {w0:World} {dl:List Deferred} {tb:TblS}
theorem zQA {H:Heap} {fr:Fr} (hr:HR E H w) (hf:FrR E w fr a nt) (hg:GR G E w) {o:Oper} {xop:XO} (hc:zAA P o.op=some xop) {f:Nat} {args:List AV} (hen:Enters P f)
  (hk:(∃xs,xop=.call f xs/\evs G fr xs=some args)\/∃fx xs first caps vs,xop=.callv fx xs/\fx.ev G fr=some (.func (.func f) first caps)/\evs G fr xs=some vs/\args=first++vs++caps):
  ∃cargs:Array Value,VRs E w args cargs.toList/\(execOp a.eval o).run P w=.ok (.enter f cargs) w:=by
 have hx:∀call:Sy.Call,xoS G call fr H 0 xop=call f args H 0:=by
  intro call;rcases hk with ⟨xs,rfl,h⟩ | ⟨fx,xs,first,caps,vs,rfl,h1,h2,rfl⟩
  ·simp only [xoS,h]
  ·simp only [xoS,h1,h2,applyf]
 have no:(∀b:Bool,Done P E H w 0 (execOp a.eval o) (.bool b) H 0)->False:=by
  intro D;obtain ⟨cv,E1,w1,_,_,v1,r1⟩:=D true;obtain ⟨cv2,E2,w2,_,_,v2,r2⟩:=D false;cases v1;cases v2;rcases r1 with r1 | ⟨r1,e1⟩
  ·rcases r2 with r2 | ⟨r2,e2⟩
   ·rw [r1] at r2;cases r2
   ·rw [r1] at r2;cases r2
  ·cases e1
 have cb:∀b,xoS G (fun _ _ H nx=>some (.bool b,H,nx)) fr H 0 xop=some (.bool b,H,0):=fun b=>hx _
 have hfr0:Fresh E 0 0:=fun h h1 h2=>by omega
 by_cases hco:∃c,o.op=.call c
 rotate_left
 ·exact (no fun b=>zPM hr hf hg (fun c h=>hco ⟨c,h⟩) hc hfr0 (cb b)).elim
 obtain ⟨⟨callee,xs0,ts⟩,ho⟩:=hco;rw [ho] at hc;have hval:∀{x:Operand} {ax:XV} {xs1:List XV} {first caps vs:List AV},callee=.value x->copd x=some ax->copds xs0.toList=some xs1->ax.ev G fr=some (.func (.func f) first caps)->evs G fr xs1=some vs->args=first++vs++caps →
   ∃cargs:Array Value,VRs E w args cargs.toList/\(execOp a.eval o).run P w=.ok (.enter f cargs) w:=by
  intro x ax xs1 first caps vs e1 e2 e3 e4 e5 e6;subst e1;subst e6;have hv:=zu hf hg e2 e4;generalize hcx:a.eval x=cx at hv;cases hv with
  | func _ _ _ vf vc hf1 hc1 rf rc=>
   have hargs:=zCK hf hg e3 e5;have h1:VRs E w first vf.toList:=⟨by simpa using hf1,fun i x v hx hv=>rf i x v hx (by simpa using hv)⟩
   have h2:VRs E w caps vc.toList:=⟨by simpa using hc1,fun i x v hx hv=>rc i x v hx (by simpa using hv)⟩
   refine ⟨vf++xs0.map a.eval++vc,by simpa using (h1.append hargs).append h2,?_⟩
   simp only [execOp,ho,resolve,Sem.run_bind,hcx,Deferred.ofValue,Sem.run_pure,Result.andThen_ok,invoke];exact zHn hen
 have gen:∀{x:Operand},callee=.value x->(∃ax,copd x=some ax/\∃xs1,copds xs0.toList=some xs1/\xop=.callv ax xs1)->∃cargs:Array Value,VRs E w args cargs.toList/\(execOp a.eval o).run P w=.ok (.enter f cargs) w:=by
  rintro x ec ⟨ax,hax,xs1,has,e⟩
  rcases hk with ⟨xs,e2,h⟩ | ⟨fx,xs,first,caps,vs,e2,h1,h2,h3⟩
  ·rw [e] at e2;cases e2
  ·rw [e] at e2;cases e2;exact hval ec hax has h1 h2 h3
 cases callee with
 | builtin b=>exact (no fun bb=>zKj hr hf hg ho hc hfr0 (cb bb)).elim
 | value x=>
  cases x with
  | func f'=>
   simp only [zAA] at hc;split at hc
   ·rename_i fn hfn;split at hc
    ·obtain ⟨xs1,has,hc⟩:=za hc;cases hc;rcases hk with ⟨xs,e2,h⟩ | ⟨fx,xs,first,caps,vs,e2,h1,h2,h3⟩
     ·cases e2;exact hval (x:=.func f) (ax:=.c (.func (.func f) [] [])) rfl rfl has rfl h (by simp)
     ·cases e2
    ·rename_i hbn;obtain ⟨xs1,has,hc⟩:=za hc;exact (no fun bb=>zOt hr hf hg ho hfn hbn has hc (cb bb)).elim
   ·cases hc
  | tmp t=>
   obtain ⟨xs1,has,hc⟩:=za hc;cases hc;exact gen rfl ⟨_,rfl,xs1,has,rfl⟩
  | const cst=>
   obtain ⟨ax,hax,hc⟩:=za hc;obtain ⟨xs1,has,hc⟩:=za hc;cases hc;exact gen rfl ⟨ax,hax,xs1,has,rfl⟩
  | global g=>
   obtain ⟨xs1,has,hc⟩:=za hc;cases hc;exact gen rfl ⟨_,rfl,xs1,has,rfl⟩
 | invoke r m=>
  obtain ⟨ar,har,hc⟩:=za hc;obtain ⟨xs1,has,hc⟩:=za hc;cases hc;rcases hk with ⟨xs,e2,h⟩ | ⟨fx,xs,first,caps,vs,e2,h1,h2,h3⟩
  ·cases e2
  ·cases e2
theorem zKB {h:Nat}:∀{l:List Nat} {i:Nat},posN h i l=none->h ∉ l
 | [],i,e=>by simp
 | a::r,i,e=>by
  simp only [posN] at e;split at e
  ·cases e
  ·rename_i hb;have:=zKB e;simp only [List.mem_cons,not_or];exact ⟨zAg hb,this⟩
theorem zB1 {sm:List Nat} {mv:Nat} {V:Vecs}:∀{V2:Vecs} {j:Nat} {vi:VI},(zH5 sm mv V2 V).get j=some vi->(∃j',j=mv+j'/\V2.get j'=some vi)\/(j ∉ sm/\V.get j=some vi)
 | [],j,vi,h=>by
  refine .inr ?_
  simp only [zH5] at h
  induction V with
  | nil=>cases h
  | cons p r ih=>
   obtain ⟨k,o⟩:=p;rw [List.filter_cons] at h;split at h
   ·rename_i hk;rw [Vecs.get_cons] at h ⊢;split at h
    ·rename_i e;cases h;subst e;simp only [Bool.not_eq_true'] at hk;exact ⟨zLa hk,by simp⟩
    ·rename_i e;rw [if_neg e];exact ih h
   ·rename_i hk;obtain ⟨h1,h2⟩:=ih h;refine ⟨h1,?_⟩
    rw [Vecs.get_cons,if_neg ?_]
    ·exact h2
    ·rintro rfl
     have:inN k sm=true:=by simpa using hk
     have mem:∀{l:List Nat},inN k l=true->k∈l:=by
      intro l
      induction l with
      | nil=>intro h;cases h
      | cons a r ih=>
       intro h;simp only [inN] at h;split at h
       ·rename_i e;rw [zb e];exact .head _
       ·exact .tail _ (ih h)
     exact h1 (mem this)
 | (k,o)::r,j,vi,h=>by
  simp only [zH5] at h;rw [Vecs.get_cons] at h;split at h
  ·rename_i e;cases h;exact .inl ⟨k,e.symm,by rw [Vecs.get_cons];simp⟩
  ·rename_i e;rcases zB1 h with ⟨j',h1,h2⟩ | h
   ·refine .inl ⟨j',h1,?_⟩
    rw [Vecs.get_cons,if_neg (by omega)]
    exact h2
   ·exact .inr h
theorem zMG {hm:List Nat} {mv:Nat} {H2 H:Heap}:(zFV hm mv H2 H).keys=H.keys:=by
 unfold zFV Heap.keys;rw [List.map_map];apply List.map_congr_left;intro p hp;simp only [Function.comp];split
 ·split <;> rfl
 ·rfl
theorem zFB {hm:List Nat} {mv:Nat} {H2 H:Heap} (hlen:H2.length=hm.length) (hk:H2.keys=List.range' 0 hm.length) (hcl:∀p∈H2,∃str cs,p.2=HO.cells str cs) {p:Nat×HO} (hp:p∈zFV hm mv H2 H):
  (p∈H/\p.1 ∉ hm)\/∃(i:Nat) (str:Bool) (cs:List AV) (o:HO),hm[i]? = some p.1/\(i,HO.cells str cs)∈H2/\p.2=.cells str (cs.map (rnB mv))/\(p.1,o)∈H:=by
 unfold zFV at hp;obtain ⟨q,hq,e⟩:=List.mem_map.1 hp;split at e
 ·rename_i i hi;obtain ⟨j,h1,h2⟩:=zDe hi;have hj:i=j:=by omega
  subst hj;have hlt:i<H2.length:=by have:=(List.getElem?_eq_some_iff.1 h2).1;omega
  have hg:=List.getElem?_eq_getElem hlt;have hmem:=List.getElem_mem hlt;obtain ⟨str,cs,ec⟩:=hcl _ hmem;have hkey:H2[i].1=i:=by
   have:H2.keys[i]? = some H2[i].1:=by simp [Heap.keys,hg]
   rw [hk,List.getElem?_range' (by omega)] at this
   simpa using this.symm
  have hpair:H2[i]=(i,HO.cells str cs):=Prod.ext hkey ec;rw [hg,hpair] at e;simp only at e;subst e;exact .inr ⟨i,str,cs,q.2,h2,hpair▸hmem,rfl,hq⟩
 ·rename_i hn;subst e;exact .inl ⟨hq,zKB hn⟩
theorem zNy {V:Vecs}:∀{l:List Nat} {i:Nat} {V':Vecs},rnVs V i l=some V'->∀(k s:Nat),l[k]? = some s->∃vi,V'.get (i+k)=some vi/\V.get s=some vi
 | [],i,V',e,k,s,h=>by simp at h
 | s0::r,i,V',e,k,s,h=>by
  have key:∀{V2:Vecs} {vi:VI},V.get s0=some vi->rnVs V (i+1) r=some V2->V'=(i,vi)::V2->∃vi,V'.get (i+k)=some vi/\V.get s=some vi:=by
   intro V2 vi hg hr e;subst e;cases k with
   | zero=>
    simp at h;subst h;exact ⟨vi,by rw [Vecs.get_cons];simp,hg⟩
   | succ k=>
    obtain ⟨vi2,h1,h2⟩:=zNy hr k s (by simpa using h)
    refine ⟨vi2,?_,h2⟩
    rw [Vecs.get_cons,if_neg (by omega)]
    rw [←h1];congr 1;omega
  simp only [rnVs] at e;split at e
  ·rename_i sz es hg;split at e
   ·rename_i V2 hr;cases e;exact key hg hr rfl
   ·cases e
  ·rename_i es hg;split at e
   ·rename_i V2 hr;cases e;exact key hg hr rfl
   ·cases e
  ·cases e
theorem SR.back (hG:GPP G) (s:SR G nt E w a β st) {hm sm:List Nat} {H H2:Heap} {V V2:Vecs} (cv:CanV hm sm st H V) {v:AV} {cvv:Value} (o:HOut v H H2 V2) {E':Env} {β':Nat->Option Nat} {w':World} (hv:VR E' w' v cvv) (hρ:∀p∈H2,E'.ρ p.1=(zP E hm sm).ρ p.1)
  (s':SR G 0 E' w' { tmps:=#[],defers:=[] } β' ⟨[],H2,V2,H2.length,V2.length⟩) (kp:Kp (zP E hm sm).Z (BS (zP E hm sm) (fun i=>β (sm.getD i 0)) H V) w E'.Z (BS E' β' H2 V2) w') {d:Option Nat} (hd:∀n,d=some n->n<nt):
  ∃E2 β2,SR G nt E2 w' (a.put d cvv) β2 ⟨putd st.fr d (rnB st.mv v),zFV hm st.mv H2 st.H,zH5 sm st.mv V2 st.V,st.m,st.mv+V2.length⟩/\Kp E.Z (BS E β st.H st.V) w E2.Z (BS E2 β2 (zFV hm st.mv H2 st.H) (zH5 sm st.mv V2 st.V)) w':=by
 obtain ⟨g1,g2,g3⟩:=zGj cv.rh;obtain ⟨v1,v2⟩:=zGA cv.rv;have hρ1:∀{j h':Nat},hm[j]? = some h'->(zP E hm sm).ρ j=E.ρ h':=fun {j h'} e=>by
  show E.ρ (hm.getD j 0)=E.ρ h'
  rw [List.getD_eq_getElem?_getD,e];rfl
 have hkeys:H2.keys=List.range' 0 hm.length:=o.keys.trans g2;have hlen:H2.length=hm.length:=by
  have:=congrArg List.length hkeys
  simpa [Heap.keys] using this
 have hcl:∀p∈H2,∃str cs,p.2=HO.cells str cs:=fun p hp=>let ⟨str,cs,e,_⟩:=o.cells p hp;⟨str,cs,e⟩
 have hB:∀{x},BS (zP E hm sm) (fun i=>β (sm.getD i 0)) H V x->(∃q∈st.H,q.1∈hm/\E.ρ q.1=x)\/∃s0 vi,s0∈sm/\st.V.get s0=some vi/\vi.owns=true/\β s0=some x:=by
  rintro x (⟨p,hp,e⟩ | ⟨j,vi,hj,ho,hb⟩)
  ·obtain ⟨j,h',str,cs,cs',e1,rfl,e3,e4⟩:=g3 p hp;simp only [Nat.zero_add] at e;rw [hρ1 e1] at e;exact .inl ⟨_,Heap.mem_of_get e3,List.mem_of_getElem? e1,e⟩
  ·obtain ⟨kk,s0,rfl,q2,q3,q4⟩:=v2 j vi hj;simp only [Nat.zero_add] at hb;have hgd:sm.getD kk 0=s0:=by rw [List.getD_eq_getElem?_getD,q2];rfl
   rw [hgd] at hb;exact .inr ⟨s0,vi,List.mem_of_getElem? q2,q3,ho,hb⟩
 have hsub:∀{x},BS (zP E hm sm) (fun i=>β (sm.getD i 0)) H V x->BS E β st.H st.V x:=fun hx=>by
  rcases hB hx with ⟨q,hq,_,e⟩ | ⟨s0,vi,_,h1,h2,h3⟩
  ·exact .inl ⟨q,hq,e⟩
  ·exact .inr ⟨s0,vi,h1,h2,h3⟩
 have nB1:∀p∈st.H,p.1 ∉ hm->¬BS (zP E hm sm) (fun i=>β (sm.getD i 0)) H V (E.ρ p.1):=fun p hp hn hx=>by
  rcases hB hx with ⟨q,hq,hqm,e⟩ | ⟨s0,vi,_,h1,h2,h3⟩
  ·exact hn (s.hr.inj p hp q hq e.symm▸hqm)
  ·exact (s.bz s0 vi _ h1 h2 h3).2 p hp rfl
 have nB2:∀j vi b,st.V.get j=some vi->vi.owns=true->β j=some b->j ∉ sm->¬BS (zP E hm sm) (fun i=>β (sm.getD i 0)) H V b:=fun j vi b h1 h2 h3 hn hx=>by
  rcases hB hx with ⟨q,hq,_,e⟩ | ⟨s0,vi0,hs0,k1,k2,k3⟩
  ·exact (s.bz j vi b h1 h2 h3).2 q hq e
  ·exact hn (s.binj j s0 vi vi0 b h1 k1 h2 k2 h3 k3▸hs0)
 have nB3:∀b,E.Z b->¬BS (zP E hm sm) (fun i=>β (sm.getD i 0)) H V b:=fun b hz hx=>by
  rcases hB hx with ⟨q,hq,_,e⟩ | ⟨s0,vi0,hs0,k1,k2,k3⟩
  ·exact s.hr.nz q hq (e▸hz)
  ·exact (s.bz s0 vi0 b k1 k2 k3).1 hz
 have hZ:∀b,E.Z b->E'.Z b/\w'.heap[b]? = w.heap[b]?:=fun b hb=>⟨kp.zmono b hb,kp.old b (s.hr.zlt b hb) (nB3 b hb)⟩
 have hVlt:∀j vi b,st.V.get j=some vi->vi.owns=true->β j=some b->b<w.heap.size:=fun j vi b h1 h2 h3=>(s.vok j vi h1).2.lt h2 h3
 let E2:Env:=⟨E.ρ,E.D,E'.Z,fun i=>if i<st.mv then E.σ i else E'.σ (i-st.mv)⟩
 let β2:Nat->Option Nat:=fun i=>if i<st.mv then β i else β' (i-st.mv)
 have σn:∀j,E2.σ (st.mv+j)=E'.σ j:=fun j=>by
  show (if st.mv+j<st.mv then E.σ (st.mv+j) else E'.σ (st.mv+j-st.mv))=E'.σ j
  rw [if_neg (by omega),Nat.add_sub_cancel_left]
 have βn:∀j,β2 (st.mv+j)=β' j:=fun j=>by
  show (if st.mv+j<st.mv then β (st.mv+j) else β' (st.mv+j-st.mv))=β' j
  rw [if_neg (by omega),Nat.add_sub_cancel_left]
 have σo:∀j,j<st.mv->E2.σ j=E.σ j:=fun j hj=>if_pos hj
 have βo:∀j,j<st.mv->β2 j=β j:=fun j hj=>if_pos hj
 have mo:∀{x:AV} {cx:Value},CP st.mv st.m x->VR E w x cx->VR E2 w' x cx:=fun hc hx=>
  VR.cpx (E:=E) (E':=E2) (w:=w) (w':=w') (fun h _ hh=>⟨hh,rfl⟩) hZ kp.shapes σo hx hc
 have mn:∀{x:AV} {cx:Value},PP x->VR E' w' x cx->VR E2 w' x cx:=fun hp hx=>VR.pp (E:=E') (E':=E2) (w:=w') (w':=w') (fun b hb=>⟨hb,rfl⟩) hx hp
 have hres:VR E2 w' (rnB st.mv v) cvv/\CP (st.mv+V2.length) st.m (rnB st.mv v):=by
  rcases o.pp with hp | ⟨j,rfl,hj⟩
  ·have:rnB st.mv v=v:=by cases hp <;> rfl
   rw [this];exact ⟨mn hp hv,hp.cp⟩
  ·refine ⟨?_,.sym _ (Nat.add_lt_add_left hj _)⟩
   cases hv with
   | sym _ _ he h1=>exact .sym _ _ (he.trans (σn j).symm) h1
 have hmemO:∀{p:Nat×HO},p∈zFV hm st.mv H2 st.H->∃o,(p.1,o)∈st.H:=fun {p} hp=>by
  rcases zFB hlen hkeys hcl hp with ⟨h,_⟩ | ⟨_,_,_,o,_,_,_,h⟩
  ·exact ⟨p.2,h⟩
  ·exact ⟨o,h⟩
 have hρ2:∀{i:Nat} {h:Nat} {oo:HO},hm[i]? = some h->(i,oo)∈H2->E'.ρ i=E.ρ h:=fun h1 h2=>(hρ _ h2).trans (hρ1 h1)
 have hfresh:∀{x},BS E' β' H2 V2 x->∀p∈st.H,p.1 ∉ hm->E.ρ p.1≠x:=fun {x} hx p hp hn e=>by
  rcases kp.own x hx with h | h
  ·exact nB1 p hp hn (e▸h)
  ·have:=s.hr.lt hp;omega
 refine ⟨E2,β2,⟨⟨?_,fun p hp=>?_,fun p hp q hq e=>?_,fun p hp=>?_,fun p hp=>?_,s'.hr.zlt⟩,?_,fun g u hg=>⟨VR.pp (E:=E) (E':=E2) (w:=w) (w':=w') hZ (s.hg g u hg).1 (hG g u hg),(s.hg g u hg).2.mono kp.shapes⟩,s.dom,?_,fun p hp=>?_,fun j vi hj=>?_,fun j j2 i off hj=>?_,fun j vi b hj ho hb=>?_,fun j j' vi vi' b h1 h2 h3 h4 h5 h6=>?_⟩,?_⟩
 ·show (zFV hm st.mv H2 st.H).keys.Nodup
  rw [zMG];exact s.hr.nodup
 ·obtain ⟨o,h⟩:=hmemO hp;exact s.hr.dom (p.1,o) h
 ·obtain ⟨o1,h1⟩:=hmemO hp;obtain ⟨o2,h2⟩:=hmemO hq;exact s.hr.inj (p.1,o1) h1 (q.1,o2) h2 e
 ·rcases zFB hlen hkeys hcl hp with ⟨h,hn⟩ | ⟨i,str,cs,o2,k1,k2,k3,k4⟩
  ·obtain ⟨str,cs,e,hcs⟩:=s.cH p h;have:=s.hr.obj p h;rw [e] at this ⊢;exact OR.cpx (kp.old _ (s.hr.lt h) (nB1 p h hn)) (fun hc hv=>mo hc hv) hcs this
  ·have hor:=s'.hr.obj _ k2;rw [k3];simp only at hor;rw [hρ2 k1 k2] at hor;obtain ⟨cc,ee,ff,q1,q2,q3,q4⟩:=hor;refine ⟨cc,ee,ff,q1,by simpa using q2,q3,fun i2 x hx=>?_⟩
   rw [List.getElem?_map] at hx;cases hc2:cs[i2]? with
   | none=>rw [hc2] at hx;cases hx
   | some c=>
    rw [hc2] at hx;cases hx;obtain ⟨u,r1,r2,r3⟩:=q4 i2 c hc2;refine ⟨u,r1,r2,?_⟩
    obtain ⟨str',cs',ec,hcc⟩:=o.cells _ k2;cases ec;rcases hcc c (List.mem_of_getElem? hc2) with hpp | ⟨j,rfl,hj⟩
    ·have:rnB st.mv c=c:=by cases hpp <;> rfl
     rw [this];exact mn hpp r3
    ·cases r3 with
     | sym _ _ he h1=>exact .sym _ _ (he.trans (σn j).symm) h1
 ·rcases zFB hlen hkeys hcl hp with ⟨h,hn⟩ | ⟨i,str,cs,o2,k1,k2,k3,k4⟩
  ·intro hz;rcases kp.znew _ hz with h1 | h1 | h1
   ·exact s.hr.nz p h h1
   ·exact nB1 p h hn h1
   ·have:=s.hr.lt h;have h1:w.heap.size<=E.ρ p.1:=h1;omega
  ·have:=s'.hr.nz _ k2;simp only at this;rw [hρ2 k1 k2] at this;exact this
 ·exact s.hf.putc s.cfr (fun hc hv=>mo hc hv) hd hres.1
 ·exact (s.cfr.mono (Nat.le_add_right _ _) (Nat.le_refl _)).putd hres.2
 ·rcases zFB hlen hkeys hcl hp with ⟨h,hn⟩ | ⟨i,str,cs,o2,k1,k2,k3,k4⟩
  ·obtain ⟨str,cs,e,hcs⟩:=s.cH p h;exact ⟨str,cs,e,fun c hc=>(hcs c hc).mono (Nat.le_add_right _ _) (Nat.le_refl _)⟩
  ·refine ⟨str,_,k3,fun c hc=>?_⟩
   obtain ⟨c0,hc0,rfl⟩:=List.mem_map.1 hc;obtain ⟨str',cs',ec,hcc⟩:=o.cells _ k2;cases ec;rcases hcc c0 hc0 with hpp | ⟨j,rfl,hj⟩
   ·have:rnB st.mv c0=c0:=by cases hpp <;> rfl
    rw [this];exact hpp.cp
   ·exact .sym _ (Nat.add_lt_add_left hj _)
 ·rcases zB1 hj with ⟨j',rfl,h1⟩ | ⟨hn,h1⟩
  ·obtain ⟨k1,k2⟩:=s'.vok j' vi h1;refine ⟨Nat.add_lt_add_left k1 _,?_⟩
   cases vi with
   | vec sz es=>
    obtain ⟨hp,⟨e1,e2,e3⟩ | ⟨b,str,cs,cp,ex,e1,e2,e3,e4,e5,e6⟩⟩:=k2
    ·exact ⟨hp,.inl ⟨(βn j').trans e1,(σn j').trans e2,e3⟩⟩
    ·exact ⟨hp,.inr ⟨b,str,cs,cp,ex,(βn j').trans e1,OR.pp (E:=E') (E':=E2) (w:=w') (w':=w') rfl (fun b hb=>⟨hb,rfl⟩) e4 e2,by rw [σn];exact e3,e4,e5,e6⟩⟩
   | mp es=>
    obtain ⟨hp,b,e1,e2,e3⟩:=k2;exact ⟨hp,b,(βn j').trans e1,OR.pm (E:=E') (E':=E2) (w:=w') (w':=w') rfl (fun b hb=>⟨hb,rfl⟩) hp e2,(σn j').trans e3⟩
   | vptr j2 i off=>
    have:=o.owns _ _ h1;cases this
  ·obtain ⟨k1,k2⟩:=s.vok j vi h1;refine ⟨Nat.lt_add_right _ k1,k2.mono (σo j k1) (fun _=>βo j k1) (fun b ho hb=>kp.old b (hVlt j vi b h1 ho hb) (nB2 j vi b h1 ho hb hn)) hZ kp.shapes fun j2 i off e sz es hes=>?_⟩
   subst e;have hlt:=s.vp j j2 i off h1;rcases zB1 hes with ⟨j',e1,_⟩ | ⟨_,h2⟩
   ·omega
   ·exact ⟨βo j2 hlt,es,h2,rfl⟩
 ·rcases zB1 hj with ⟨j',rfl,h1⟩ | ⟨hn,h1⟩
  ·have:=o.owns _ _ h1;cases this
  ·exact Nat.lt_add_right _ (s.vp j j2 i off h1)
 ·rcases zB1 hj with ⟨j',rfl,h1⟩ | ⟨hn,h1⟩
  ·rw [βn] at hb;obtain ⟨z1,z2⟩:=s'.bz j' vi b h1 ho hb;refine ⟨z1,fun p hp e=>?_⟩
   rcases zFB hlen hkeys hcl hp with ⟨h,hn⟩ | ⟨i,str,cs,o2,k1,k2,k3,k4⟩
   ·exact hfresh (.inr ⟨j',vi,h1,ho,hb⟩) p h hn e
   ·exact z2 _ k2 ((hρ2 k1 k2).trans e)
  ·have hlt:=(s.vok j vi h1).1;rw [βo j hlt] at hb;obtain ⟨z1,z2⟩:=s.bz j vi b h1 ho hb;refine ⟨fun hz=>?_,fun p hp e=>?_⟩
   ·rcases kp.znew _ hz with k | k | k
    ·exact z1 k
    ·exact nB2 j vi b h1 ho hb hn k
    ·have:=hVlt j vi b h1 ho hb;omega
   ·obtain ⟨oo,h⟩:=hmemO hp;exact z2 _ h e
 ·rcases zB1 h1 with ⟨i1,rfl,k1⟩ | ⟨hn1,k1⟩
  ·rcases zB1 h2 with ⟨i2,rfl,k2⟩ | ⟨hn2,k2⟩
   ·rw [βn] at h5 h6;rw [s'.binj i1 i2 vi vi' b k1 k2 h3 h4 h5 h6]
   ·have hlt:=(s.vok j' vi' k2).1;rw [βn] at h5;rw [βo j' hlt] at h6;rcases kp.own b (.inr ⟨i1,vi,k1,h3,h5⟩) with k | k
    ·exact (nB2 j' vi' b k2 h4 h6 hn2 k).elim
    ·have:=hVlt j' vi' b k2 h4 h6;omega
  ·have hlt:=(s.vok j vi k1).1;rw [βo j hlt] at h5;rcases zB1 h2 with ⟨i2,rfl,k2⟩ | ⟨hn2,k2⟩
   ·rw [βn] at h6;rcases kp.own b (.inr ⟨i2,vi',k2,h4,h6⟩) with k | k
    ·exact (nB2 j vi b k1 h3 h5 hn1 k).elim
    ·have:=hVlt j vi b k1 h3 h5;omega
   ·have hlt2:=(s.vok j' vi' k2).1;rw [βo j' hlt2] at h6;exact s.binj j j' vi vi' b k1 k2 h3 h4 h5 h6
 ·refine ⟨kp.zmono,fun x hx=>?_,fun x hx=>?_,kp.tape,kp.os,kp.output,kp.size,fun x hx hb=>kp.old x hx fun h=>hb (hsub h),kp.shapes⟩
  ·rcases kp.znew x hx with h | h | h
   ·exact .inl h
   ·exact .inr (.inl (hsub h))
   ·exact .inr (.inr h)
  ·rcases hx with ⟨p,hp,e⟩ | ⟨j,vi,hj,ho,hb⟩
   ·obtain ⟨oo,h⟩:=hmemO hp;exact .inl (.inl ⟨_,h,e⟩)
   ·rcases zB1 hj with ⟨j',rfl,h1⟩ | ⟨hn,h1⟩
    ·rw [βn] at hb;rcases kp.own x (.inr ⟨j',vi,h1,ho,hb⟩) with k | k
     ·exact .inl (hsub k)
     ·exact .inr k
    ·rw [βo j (s.vok j vi h1).1] at hb;exact .inl (.inr ⟨j,vi,h1,ho,hb⟩)
theorem Vecs.get_map {g:Nat->VI->VI}:∀{V:Vecs} {j:Nat},Vecs.get (V.map fun p=>(p.1,g p.1 p.2)) j=(Vecs.get V j).map (g j)
 | [],j=>rfl
 | (k,o)::r,j=>by
  rw [List.map_cons,Vecs.get_cons,Vecs.get_cons];split
  ·rename_i e;subst e;rfl
  ·exact Vecs.get_map
def zN7 (sm:List Nat) (V2:Vecs) (k:Nat) (o:VI):VI:=match posN k 0 sm with
 | some i=>match V2.get i with
  | some vi=>vi
  | none=>o
 | none=>o
theorem zNz {sm:List Nat} {V2 V:Vecs} {j:Nat} {vi:VI} (h:(zGY sm V2 V).get j=some vi):∃vi0,V.get j=some vi0/\((∃i,posN j 0 sm=some i/\V2.get i=some vi)\/(vi=vi0/\∀i,posN j 0 sm=some i->V2.get i=none)):=by
 have e:zGY sm V2 V=V.map fun p=>(p.1,zN7 sm V2 p.1 p.2):=by
  unfold zGY;apply List.map_congr_left
  rintro ⟨k,o⟩ _
  unfold zN7;dsimp only;cases posN k 0 sm with
  | none=>rfl
  | some i=>dsimp only;cases V2.get i <;> rfl
 rw [e,Vecs.get_map (g:=zN7 sm V2)] at h;unfold zN7 at h;cases hv:V.get j with
 | none=>rw [hv] at h;cases h
 | some vi0=>
  rw [hv] at h;simp only [Option.map_some,Option.some.injEq] at h;refine ⟨vi0,rfl,?_⟩
  cases hp:posN j 0 sm with
  | none=>rw [hp] at h;exact .inr ⟨h.symm,fun i hi=>by cases hi⟩
  | some i=>
   rw [hp] at h;simp only at h;cases hq:V2.get i with
   | none=>rw [hq] at h;exact .inr ⟨h.symm,fun i' hi=>by cases hi;exact hq⟩
   | some x=>rw [hq] at h;simp only at h;subst h;exact .inl ⟨i,rfl,hq⟩
theorem SR.backI (hG:GPP G) (s:SR G nt E w a β st) {sm:List Nat} {V V2:Vecs} (cv:CanV [] sm st [] V) {v:AV} {cvv:Value} (hp:PP v)
  (hl:∀j vi,V.get j=some vi->∃sz es es',vi=.vec sz es/\V2.get j=some (.vec sz es')/\es'.length=es.length) {E':Env} {w':World} (hv:VR E' w' v cvv) (hσ:E'.σ=(zP E [] sm).σ)
  (s':SR G 0 E' w' { tmps:=#[],defers:=[] } (fun i=>β (sm.getD i 0)) ⟨[],[],V2,0,V.length⟩) (kp:Kp (zP E [] sm).Z (BS (zP E [] sm) (fun i=>β (sm.getD i 0)) [] V) w E'.Z (BS E' (fun i=>β (sm.getD i 0)) [] V2) w') {d:Option Nat} (hd:∀n,d=some n->n<nt):
  ∃E2 β2,SR G nt E2 w' (a.put d cvv) β2 ⟨putd st.fr d v,st.H,zGY sm V2 st.V,st.m,st.mv⟩/\Kp E.Z (BS E β st.H st.V) w E2.Z (BS E2 β2 st.H (zGY sm V2 st.V)) w':=by
 obtain ⟨v1,v2⟩:=zGA cv.rv;have v3:=zNy cv.rv;have gd1:∀{i j:Nat},posN j 0 sm=some i->sm.getD i 0=j/\j∈sm:=fun {i j} h=>by
  obtain ⟨k,e1,e2⟩:=zDe h;have:i=k:=by omega
  subst this;exact ⟨by rw [List.getD_eq_getElem?_getD,e2];rfl,List.mem_of_getElem? e2⟩
 have hB:∀{x},BS (zP E [] sm) (fun i=>β (sm.getD i 0)) [] V x->∃s0 vi,s0∈sm/\st.V.get s0=some vi/\vi.owns=true/\β s0=some x:=by
  rintro x (⟨p,hp,e⟩ | ⟨j,vi,hj,ho,hb⟩)
  ·cases hp
  ·obtain ⟨kk,s0,rfl,q2,q3,q4⟩:=v2 j vi hj;simp only [Nat.zero_add] at hb;have hgd:sm.getD kk 0=s0:=by rw [List.getD_eq_getElem?_getD,q2];rfl
   rw [hgd] at hb;exact ⟨s0,vi,List.mem_of_getElem? q2,q3,ho,hb⟩
 have hsub:∀{x},BS (zP E [] sm) (fun i=>β (sm.getD i 0)) [] V x->BS E β st.H st.V x:=fun hx=>by
  obtain ⟨s0,vi,_,h1,h2,h3⟩:=hB hx;exact .inr ⟨s0,vi,h1,h2,h3⟩
 have nB1:∀p∈st.H,¬BS (zP E [] sm) (fun i=>β (sm.getD i 0)) [] V (E.ρ p.1):=fun p hp hx=>by
  obtain ⟨s0,vi,_,h1,h2,h3⟩:=hB hx;exact (s.bz s0 vi _ h1 h2 h3).2 p hp rfl
 have nB2:∀j vi b,st.V.get j=some vi->vi.owns=true->β j=some b->j ∉ sm->¬BS (zP E [] sm) (fun i=>β (sm.getD i 0)) [] V b:=fun j vi b h1 h2 h3 hn hx=>by
  obtain ⟨s0,vi0,hs0,k1,k2,k3⟩:=hB hx;exact hn (s.binj j s0 vi vi0 b h1 k1 h2 k2 h3 k3▸hs0)
 have nB3:∀b,E.Z b->¬BS (zP E [] sm) (fun i=>β (sm.getD i 0)) [] V b:=fun b hz hx=>by
  obtain ⟨s0,vi0,hs0,k1,k2,k3⟩:=hB hx;exact (s.bz s0 vi0 b k1 k2 k3).1 hz
 have hZ:∀b,E.Z b->E'.Z b/\w'.heap[b]? = w.heap[b]?:=fun b hb=>⟨kp.zmono b hb,kp.old b (s.hr.zlt b hb) (nB3 b hb)⟩
 have hVlt:∀j vi b,st.V.get j=some vi->vi.owns=true->β j=some b->b<w.heap.size:=fun j vi b h1 h2 h3=>(s.vok j vi h1).2.lt h2 h3
 let E2:Env:=⟨E.ρ,E.D,E'.Z,E.σ⟩
 have σn:∀{i j},posN j 0 sm=some i->E'.σ i=E.σ j:=fun {i j} h=>by
  rw [hσ];show E.σ (sm.getD i 0)=E.σ j
  rw [(gd1 h).1]
 have βn:∀{i j},posN j 0 sm=some i->(fun i=>β (sm.getD i 0)) i=β j:=fun {i j} h=>by
  show β (sm.getD i 0)=β j
  rw [(gd1 h).1]
 have mo:∀{x:AV} {cx:Value},CP st.mv st.m x->VR E w x cx->VR E2 w' x cx:=fun hc hx=>
  VR.cpx (E:=E) (E':=E2) (w:=w) (w':=w') (fun h _ hh=>⟨hh,rfl⟩) hZ kp.shapes (fun _ _=>rfl) hx hc
 have mn:∀{x:AV} {cx:Value},PP x->VR E' w' x cx->VR E2 w' x cx:=fun hp hx=>VR.pp (E:=E') (E':=E2) (w:=w') (w':=w') (fun b hb=>⟨hb,rfl⟩) hx hp
 have inV:∀{i j},posN j 0 sm=some i->∃vi,V.get i=some vi/\st.V.get j=some vi:=fun {i j} h=>by
  obtain ⟨k,e1,e2⟩:=zDe h;have:i=k:=by omega
  subst this;obtain ⟨vi,a1,a2⟩:=v3 i j e2;exact ⟨vi,by simpa using a1,a2⟩
 have cas:∀{j vi},(zGY sm V2 st.V).get j=some vi->(∃i sz es es',posN j 0 sm=some i/\V2.get i=some vi/\vi=.vec sz es'/\st.V.get j=some (.vec sz es)/\es'.length=es.length)\/(st.V.get j=some vi/\j ∉ sm):=fun {j vi} h=>by
  obtain ⟨vi0,h0,⟨i,h1,h2⟩ | ⟨rfl,h2⟩⟩:=zNz h
  ·obtain ⟨vi1,k1,k2⟩:=inV h1;obtain ⟨sz,es,es',q1,q2,q3⟩:=hl i vi1 k1;subst q1;rw [q2] at h2;cases h2;exact .inl ⟨i,sz,es,es',h1,q2,rfl,k2,q3⟩
  ·refine .inr ⟨h0,?_⟩
   cases hp:posN j 0 sm with
   | none=>exact zKB hp
   | some i=>
    obtain ⟨vi1,k1,k2⟩:=inV hp;obtain ⟨sz,es,es',q1,q2,q3⟩:=hl i vi1 k1;rw [h2 i hp] at q2;cases q2
 have owns0:∀{j vi},(zGY sm V2 st.V).get j=some vi->∃vi0,st.V.get j=some vi0/\vi0.owns=vi.owns:=fun {j vi} h=>by
  rcases cas h with ⟨i,sz,es,es',_,_,rfl,k,_⟩ | ⟨k,_⟩
  ·exact ⟨_,k,rfl⟩
  ·exact ⟨_,k,rfl⟩
 refine ⟨E2,β,⟨⟨s.hr.nodup,s.hr.dom,s.hr.inj,fun p hp=>?_,fun p hp hz=>?_,s'.hr.zlt⟩,?_,fun g u hg=>⟨VR.pp (E:=E) (E':=E2) (w:=w) (w':=w') hZ (s.hg g u hg).1 (hG g u hg),(s.hg g u hg).2.mono kp.shapes⟩,s.dom,?_,s.cH,fun j vi hj=>?_,fun j j2 i off hj=>?_,fun j vi b hj ho hb=>?_,fun j j' vi vi' b h1 h2 h3 h4 h5 h6=>?_⟩,?_⟩
 ·obtain ⟨str,cs,e,hcs⟩:=s.cH p hp;have:=s.hr.obj p hp;rw [e] at this ⊢;exact OR.cpx (kp.old _ (s.hr.lt hp) (nB1 p hp)) (fun hc hv=>mo hc hv) hcs this
 ·rcases kp.znew _ hz with h1 | h1 | h1
  ·exact s.hr.nz p hp h1
  ·exact nB1 p hp h1
  ·have:=s.hr.lt hp;have h1:w.heap.size<=E.ρ p.1:=h1;omega
 ·exact s.hf.putc s.cfr (fun hc hv=>mo hc hv) hd (mn hp hv)
 ·exact s.cfr.putd hp.cp
 ·rcases cas hj with ⟨i,sz,es,es',h1,h2,rfl,h4,h5⟩ | ⟨h1,hn⟩
  ·obtain ⟨k1,k2⟩:=s'.vok i _ h2;refine ⟨(s.vok j _ h4).1,?_⟩
   obtain ⟨hp2,⟨e1,e2,e3⟩ | ⟨b,str,cs,cp,ex,e1,e2,e3,e4,e5,e6⟩⟩:=k2
   ·exact ⟨hp2,.inl ⟨(βn h1).symm.trans e1,(σn h1).symm.trans e2,e3⟩⟩
   ·refine ⟨hp2,.inr ⟨b,str,cs,cp,ex,(βn h1).symm.trans e1,OR.pp (E:=E') (E':=E2) (w:=w') (w':=w') rfl (fun b hb=>⟨hb,rfl⟩) e4 e2,?_,e4,e5,e6⟩⟩
    have:E2.σ j=E'.σ i:=(σn h1).symm;rw [this];exact e3
  ·obtain ⟨k1,k2⟩:=s.vok j vi h1;refine ⟨k1,k2.mono rfl (fun _=>rfl) (fun b ho hb=>kp.old b (hVlt j vi b h1 ho hb) (nB2 j vi b h1 ho hb hn)) hZ kp.shapes fun j2 i off e sz es hes=>?_⟩
   refine ⟨rfl,?_⟩
   rcases cas hes with ⟨i',sz',es0,es',a1,a2,a3,a4,a5⟩ | ⟨a1,_⟩
   ·cases a3;exact ⟨es0,a4,a5.symm⟩
   ·exact ⟨es,a1,rfl⟩
 ·rcases cas hj with ⟨_,_,_,_,_,_,e,_⟩ | ⟨h1,_⟩
  ·cases e
  ·exact s.vp j j2 i off h1
 ·obtain ⟨vi0,h0,ho0⟩:=owns0 hj;obtain ⟨z1,z2⟩:=s.bz j vi0 b h0 (ho0.trans ho) hb;refine ⟨fun hz=>?_,z2⟩
  rcases cas hj with ⟨i,sz,es,es',h1,h2,rfl,h4,h5⟩ | ⟨h1,hn⟩
  ·exact (s'.bz i _ b h2 rfl ((βn h1).trans hb)).1 hz
  ·rcases kp.znew _ hz with k | k | k
   ·exact z1 k
   ·exact nB2 j vi b h1 ho hb hn k
   ·have:=hVlt j vi b h1 ho hb;omega
 ·obtain ⟨vi0,h0,ho0⟩:=owns0 h1;obtain ⟨vi1,h01,ho1⟩:=owns0 h2;exact s.binj j j' vi0 vi1 b h0 h01 (ho0.trans h3) (ho1.trans h4) h5 h6
 ·refine ⟨kp.zmono,fun x hx=>?_,fun x hx=>?_,kp.tape,kp.os,kp.output,kp.size,fun x hx hb=>kp.old x hx fun h=>hb (hsub h),kp.shapes⟩
  ·rcases kp.znew x hx with h | h | h
   ·exact .inl h
   ·exact .inr (.inl (hsub h))
   ·exact .inr (.inr h)
  ·rcases hx with ⟨p,hp,e⟩ | ⟨j,vi,hj,ho,hb⟩
   ·exact .inl (.inl ⟨p,hp,e⟩)
   ·obtain ⟨vi0,h0,ho0⟩:=owns0 hj;exact .inl (.inr ⟨j,vi0,h0,ho0.trans ho,hb⟩)
theorem zG4 {H:Heap} {h sz h2:Nat} {v:AV} {es:List AV} (e:zH4 H h sz v=some (h2,es)):∃l c x str cs,v=.row h2 0 l sz c x/\h2≠h/\H.get h2=some (.cells str cs)/\cs.length=l*sz/\zCZ sz l cs=some es/\es.all (ppS 12)=true:=by
 unfold zH4 at e;split at e
 ·split at e
  ·rename_i hb;split at e
   ·rename_i hg;split at e
    ·rename_i hl;split at e
     ·rename_i hr;split at e
      ·rename_i hp;cases e;simp only [Bool.and_eq_true,Bool.not_eq_true'] at hb;obtain ⟨a1,a2,a3⟩:=hb;have a1:=zb a1;have a2:=zb a2;subst a1;subst a2;exact ⟨_,_,_,_,_,rfl,zAg a3,hg,zb hl,hr,hp⟩
      ·cases e
     ·cases e
    ·cases e
   ·cases e
  ·cases e
 ·cases e
theorem Heap.get_del:∀{H:Heap} {h k:Nat},h≠k->(H.del h).get k=H.get k
 | [],_,_,_=>rfl
 | (i,o)::r,h,k,hn=>by
  simp only [Heap.del];split
  ·rename_i hb;have:=zb hb;subst this;have:Nat.beq i k=false:=by
    cases e:Nat.beq i k with
    | false=>rfl
    | true=>exact absurd (zb e) hn
   simp only [Heap.get,this]
  ·simp only [Heap.get];split
   ·rfl
   ·exact Heap.get_del hn
theorem SR.thaw (hG:GPP G) (s:SR G nt E w a β st) {h sz h2:Nat} {v:AV} {es:List AV} {u:Value} (ht:zH4 st.H h sz v=some (h2,es)) (hu:VR E w v u):
  ∃β',SR G nt ⟨E.ρ,E.D,E.Z,fun i=>if i=st.mv then u else E.σ i⟩ w a β' ⟨st.fr,st.H.del h2,(st.mv,.vec sz es)::st.V,st.m,st.mv+1⟩/\u.oneCell'=true/\Kp E.Z (BS E β st.H st.V) w E.Z (BS ⟨E.ρ,E.D,E.Z,fun i=>if i=st.mv then u else E.σ i⟩ β' (st.H.del h2) ((st.mv,.vec sz es)::st.V)) w:=by
 obtain ⟨l,cp,ex,str,cs,rfl,_,hg,hl,hr,hp⟩:=zG4 ht;have hrow:=RowV.of_vr hu;have hσ:∀i,i<st.mv->(if i=st.mv then u else E.σ i)=E.σ i:=fun i hi=>by
  have:i≠st.mv:=by omega
  simp [this]
 have hm:∀{v:AV} {cv:Value},CP st.mv st.m v->VR E w v cv->VR ⟨E.ρ,E.D,E.Z,fun i=>if i=st.mv then u else E.σ i⟩ w v cv:=fun hc hv=>
  VR.cpx (E:=E) (E':=⟨E.ρ,E.D,E.Z,fun i=>if i=st.mv then u else E.σ i⟩) (w:=w) (w':=w) (fun h _ hh=>⟨hh,rfl⟩) (fun b hb=>⟨hb,rfl⟩) (.refl w) hσ hv hc
 have hlt:∀j vi,st.V.get j=some vi->j≠st.mv:=fun j vi h=>by have:=(s.vok j vi h).1;omega
 have hmem:=Heap.mem_of_get hg;have hin:∀{p:Nat×HO},p∈st.H.del h2->p∈st.H/\p.1≠h2:=fun hp=>Heap.mem_del s.hr.nodup hp
 obtain ⟨q1,q2,q3,q4,q5⟩:=zW hr;obtain ⟨_,_,ec,hcp⟩:=s.cH _ hmem;cases ec;have hes:∀e∈es,PP e:=by
  intro e he;obtain ⟨i,hi⟩:=List.getElem?_of_mem he;obtain ⟨_,p2⟩:=zJ q5;obtain ⟨_,p4,p5⟩:=zD (p2 i e hi);refine zBK (n:=st.mv) (k:=st.m) 12 (zBe p5 fun x hx=>hcp x ?_) (List.all_eq_true.1 hp e he)
  rw [p4] at hx;exact List.mem_of_mem_take (List.mem_of_mem_drop (List.mem_of_mem_take hx))
 have hcs:∀c∈cs,PP c:=by
  rw [List.take_of_length_le (by omega)] at q5
  exact zFY q5 hes
 have hrow':RowV w (E.ρ h2) es.length sz cp ex u:=by rw [q2];exact hrow
 refine ⟨fun j=>if j=st.mv then some (E.ρ h2) else β j,⟨⟨(s.hr.sub (Heap.sub_del _ _)).nodup,fun p hp=>s.hr.dom p (hin hp).1,fun p hp q hq e=>s.hr.inj p (hin hp).1 q (hin hq).1 e,fun p hp=>?_,fun p hp=>s.hr.nz p (hin hp).1,s.hr.zlt⟩,⟨s.hf.size,fun t v hu=>hm (s.cfr t v hu) (s.hf.get t v hu)⟩,fun g v hg=>⟨hm (hG g v hg).cp (s.hg g v hg).1,(s.hg g v hg).2⟩,s.dom,s.cfr.mono (Nat.le_succ _) (Nat.le_refl _),fun p hp=>?_,fun j vi h=>?_,fun j j2 i off h=>?_,fun j vi b h ho hb=>?_,fun j j' vi vi' b h1 h2 h3 h4 h5 h6=>?_⟩,hrow.one,?_⟩
 ·obtain ⟨str,cs,e,hcs⟩:=s.cH p (hin hp).1;have:=s.hr.obj p (hin hp).1;rw [e] at this ⊢;exact OR.cpx rfl (fun hc hv=>hm hc hv) hcs this
 ·obtain ⟨str,cs,e,hcs⟩:=s.cH p (hin hp).1;exact ⟨str,cs,e,fun c hc=>(hcs c hc).mono (Nat.le_succ _) (Nat.le_refl _)⟩
 ·rw [Vecs.get_cons] at h;split at h
  ·rename_i e;subst e;cases h;refine ⟨Nat.lt_succ_self _,hes,.inr ⟨E.ρ h2,str,cs,cp,ex,by simp,?_,by simpa using hrow',hcs,by rw [q2];exact q4,by rw [q2];exact q5⟩⟩
   exact OR.cpx rfl (fun hc hv=>hm hc hv) hcp (s.hr.obj _ hmem)
  ·have h1:=s.vok j vi h;refine ⟨Nat.lt_succ_of_lt h1.1,h1.2.mono (by simp [hlt j vi h]) (fun _=>by simp [hlt j vi h]) (fun b _ _=>rfl) (fun b hb=>⟨hb,rfl⟩) (.refl w) fun j2 i off e sz es hes=>?_⟩
   subst e;have:=s.vp j j2 i off h;rw [Vecs.get_cons,if_neg (by omega)] at hes
   have hne:j2≠st.mv:=by omega
   exact ⟨by simp [hne],es,hes,rfl⟩
 ·rw [Vecs.get_cons] at h;split at h
  ·cases h
  ·exact Nat.lt_succ_of_lt (s.vp j j2 i off h)
 ·rw [Vecs.get_cons] at h;split at h
  ·rename_i e;subst e;simp only [if_true,Option.some.injEq] at hb;subst hb;exact ⟨s.hr.nz _ hmem,fun p hp e=>(hin hp).2 (s.hr.inj p (hin hp).1 _ hmem e)⟩
  ·simp only [if_neg (hlt j vi h)] at hb;obtain ⟨z1,z2⟩:=s.bz j vi b h ho hb;exact ⟨z1,fun p hp=>z2 p (hin hp).1⟩
 ·rw [Vecs.get_cons] at h1 h2;split at h1
  ·rename_i e;subst e;split at h2
   ·rename_i e;exact e
   ·simp only [if_true,Option.some.injEq] at h5;simp only [if_neg (hlt j' vi' h2)] at h6;subst h5;exact absurd rfl ((s.bz j' vi' _ h2 h4 h6).2 _ hmem)
  ·simp only [if_neg (hlt j vi h1)] at h5;split at h2
   ·rename_i e;subst e;simp only [if_true,Option.some.injEq] at h6;subst h6;exact absurd rfl ((s.bz j vi _ h1 h3 h5).2 _ hmem)
   ·simp only [if_neg (hlt j' vi' h2)] at h6;exact s.binj j j' vi vi' b h1 h2 h3 h4 h5 h6
 ·refine Kp.less fun x hx=>?_
  rcases hx with ⟨p,hp,e⟩ | ⟨j,vi,h1,h2,h3⟩
  ·exact .inl ⟨p,(hin hp).1,e⟩
  ·rw [Vecs.get_cons] at h1;split at h1
   ·rename_i e;subst e;simp only [if_true,Option.some.injEq] at h3;exact .inl ⟨_,hmem,h3⟩
   ·simp only [if_neg (hlt j vi h1)] at h3;exact .inr ⟨j,vi,h1,h2,h3⟩
theorem SR.recell (s:SR G nt E w a β st) {h i:Nat} {str:Bool} {cs:List AV} {v':AV} (hh:st.H.get h=some (.cells str cs)) (hv:∀c e f,w.heap[E.ρ h]? = some (Obj.cells c e f)->∃u,c[i]? = some u/\u.oneCell'=true/\VR E w v' u) (hc:CP st.mv st.m v'):
  SR G nt E w a β ⟨st.fr,st.H.put h (.cells str (cs.set i v')),st.V,st.m,st.mv⟩/\∀x,BS E β (st.H.put h (.cells str (cs.set i v'))) st.V x->BS E β st.H st.V x:=by
 have hmem:=Heap.mem_of_get hh;have hin:∀{p:Nat×HO},p∈st.H.put h (.cells str (cs.set i v'))->∃o,(p.1,o)∈st.H:=fun {p} hp=>by
  rcases zCc hp with rfl | hp
  ·exact ⟨_,hmem⟩
  ·exact ⟨p.2,hp⟩
 refine ⟨⟨⟨?_,fun p hp=>?_,fun p hp q hq e=>?_,fun p hp=>?_,fun p hp=>?_,s.hr.zlt⟩,s.hf,s.hg,s.dom,s.cfr,fun p hp=>?_,s.vok,s.vp,fun j vi b h ho hb=>?_,s.binj⟩,fun x hx=>?_⟩
 ·show (st.H.put h _).keys.Nodup
  rw [Heap.keys_put];exact s.hr.nodup
 ·obtain ⟨o,ho⟩:=hin hp;exact s.hr.dom (p.1,o) ho
 ·obtain ⟨o1,h1⟩:=hin hp;obtain ⟨o2,h2⟩:=hin hq;exact s.hr.inj (p.1,o1) h1 (q.1,o2) h2 e
 ·rcases zCc hp with rfl | hp
  ·obtain ⟨cc,ee,ff,q1,q2,q3,q4⟩:=s.hr.obj _ hmem;refine ⟨cc,ee,ff,q1,by simpa using q2,q3,fun i2 x hx=>?_⟩
   rw [List.getElem?_set] at hx;split at hx
   ·rename_i e;subst e;split at hx
    ·cases hx;exact hv cc ee ff q1
    ·cases hx
   ·exact q4 i2 x hx
  ·exact s.hr.obj p hp
 ·obtain ⟨o,ho⟩:=hin hp;exact s.hr.nz (p.1,o) ho
 ·rcases zCc hp with rfl | hp
  ·obtain ⟨_,_,ec,hcs⟩:=s.cH _ hmem;cases ec;refine ⟨str,_,rfl,fun c hc'=>?_⟩
   rcases List.mem_or_eq_of_mem_set hc' with h | rfl
   ·exact hcs c h
   ·exact hc
  ·exact s.cH p hp
 ·obtain ⟨z1,z2⟩:=s.bz j vi b h ho hb;refine ⟨z1,fun p hp=>?_⟩
  obtain ⟨o,h1⟩:=hin hp;exact z2 (p.1,o) h1
 ·rcases hx with ⟨p,hp,e⟩ | h
  ·obtain ⟨o,ho⟩:=hin hp;exact .inl ⟨_,ho,e⟩
  ·exact .inr h
theorem SR.thawC (hG:GPP G) (s:SR G nt E w a β st) {h i sz h2:Nat} {str:Bool} {cs:List AV} {v:AV} {es:List AV} (hh:st.H.get h=some (.cells str cs)) (hi:cs[i]? = some v) (ht:zH4 st.H h sz v=some (h2,es)):
  ∃E' β',SR G nt E' w a β' ⟨st.fr,(st.H.del h2).put h (.cells str (cs.set i (.sym st.mv))),(st.mv,.vec sz es)::st.V,st.m,st.mv+1⟩/\Kp E.Z (BS E β st.H st.V) w E'.Z (BS E' β' ((st.H.del h2).put h (.cells str (cs.set i (.sym st.mv)))) ((st.mv,.vec sz es)::st.V)) w:=by
 obtain ⟨cc,ee,ff,q1,q2,q3,q4⟩:=s.hr.obj _ (Heap.mem_of_get hh);obtain ⟨u,r1,r2,r3⟩:=q4 i v hi;obtain ⟨β',s1,e2,k1⟩:=s.thaw hG ht r3;obtain ⟨_,_,_,_,_,_,hne,_⟩:=zG4 ht;have hh':(st.H.del h2).get h=some (.cells str cs):=(Heap.get_del hne).trans hh;obtain ⟨s2,hb⟩:=s1.recell (i:=i) (v':=.sym st.mv) hh' (fun c e f hc=>by
  have hc:w.heap[E.ρ h]? = some (Obj.cells c e f):=hc;rw [q1] at hc;cases hc;exact ⟨u,r1,r2,.sym _ _ (by simp) r2⟩) (.sym _ (Nat.lt_succ_self _))
 exact ⟨_,β',s2,k1.trans (Kp.less hb)⟩
theorem SR.thawT (hG:GPP G) (s:SR G nt E w a β st) {t sz k h2:Nat} {v:AV} {es:List AV} (hv:st.fr.get t=some v) (ht:zH4 st.H k sz v=some (h2,es)):
  ∃E' β',SR G nt E' w a β' ⟨st.fr.put t (.sym st.mv),st.H.del h2,(st.mv,.vec sz es)::st.V,st.m,st.mv+1⟩/\Kp E.Z (BS E β st.H st.V) w E'.Z (BS E' β' (st.H.del h2) ((st.mv,.vec sz es)::st.V)) w:=by
 obtain ⟨β',s1,e2,k1⟩:=s.thaw hG ht (s.hf.get _ _ hv);refine ⟨_,β',⟨s1.hr,⟨s1.hf.size,fun u x hu=>?_⟩,s1.hg,s1.dom,fun u x hu=>?_,s1.cH,s1.vok,s1.vp,s1.bz,s1.binj⟩,k1⟩
 ·rw [Fr.get_put] at hu;split at hu
  ·rename_i e;subst e;cases hu;exact .sym _ _ (by simp) e2
  ·exact s1.hf.get u x hu
 ·rw [Fr.get_put] at hu;split at hu
  ·cases hu;exact .sym _ (Nat.lt_succ_self _)
  ·exact s1.cfr u x hu
theorem SR.growC1 (hG:GPP G) (s:SR G nt E w a β st) {h i sz:Nat} {str:Bool} {cs:List AV} (hh:st.H.get h=some (.cells str cs)) (hi:cs[i]? = some .nilslice):
  ∃E' β',SR G nt E' w a β' ⟨st.fr,st.H.put h (.cells str (cs.set i (.sym st.mv))),(st.mv,.vec sz [])::st.V,st.m,st.mv+1⟩/\Kp E.Z (BS E β st.H st.V) w E'.Z (BS E' β' (st.H.put h (.cells str (cs.set i (.sym st.mv)))) ((st.mv,.vec sz [])::st.V)) w:=by
 have hσ:∀i,i<st.mv->(if i=st.mv then Value.slice none 0 0 else E.σ i)=E.σ i:=fun i hi=>by
  have:i≠st.mv:=by omega
  simp [this]
 have hm:∀{v:AV} {cv:Value},CP st.mv st.m v->VR E w v cv->VR ⟨E.ρ,E.D,E.Z,fun i=>if i=st.mv then .slice none 0 0 else E.σ i⟩ w v cv:=fun hc hv=>
  VR.cpx (E:=E) (E':=⟨E.ρ,E.D,E.Z,fun i=>if i=st.mv then .slice none 0 0 else E.σ i⟩) (w:=w) (w':=w) (fun h _ hh=>⟨hh,rfl⟩) (fun b hb=>⟨hb,rfl⟩) (.refl w) hσ hv hc
 have hlt:∀j vi,st.V.get j=some vi->j≠st.mv:=fun j vi h=>by have:=(s.vok j vi h).1;omega
 have hmem:=Heap.mem_of_get hh;have hin:∀{p:Nat×HO},p∈st.H.put h (.cells str (cs.set i (.sym st.mv)))->∃o,(p.1,o)∈st.H:=fun {p} hp=>by
  rcases zCc hp with rfl | hp
  ·exact ⟨_,hmem⟩
  ·exact ⟨p.2,hp⟩
 refine ⟨⟨E.ρ,E.D,E.Z,fun i=>if i=st.mv then .slice none 0 0 else E.σ i⟩,fun j=>if j=st.mv then none else β j,⟨⟨?_,fun p hp=>?_,fun p hp q hq e=>?_,fun p hp=>?_,fun p hp=>?_,s.hr.zlt⟩,⟨s.hf.size,fun u v hu=>hm (s.cfr u v hu) (s.hf.get u v hu)⟩,fun g u hg=>⟨hm (hG g u hg).cp (s.hg g u hg).1,(s.hg g u hg).2⟩,s.dom,s.cfr.mono (Nat.le_succ _) (Nat.le_refl _),fun p hp=>?_,fun j vi h=>?_,fun j j2 i off h=>?_,fun j vi b h ho hb=>?_,fun j j' vi vi' b h1 h2 h3 h4 h5 h6=>?_⟩,?_⟩
 ·show (st.H.put h _).keys.Nodup
  rw [Heap.keys_put];exact s.hr.nodup
 ·obtain ⟨o,ho⟩:=hin hp;exact s.hr.dom (p.1,o) ho
 ·obtain ⟨o1,h1⟩:=hin hp;obtain ⟨o2,h2⟩:=hin hq;exact s.hr.inj (p.1,o1) h1 (q.1,o2) h2 e
 ·rcases zCc hp with rfl | hp
  ·obtain ⟨_,_,ec,hcs⟩:=s.cH _ hmem;cases ec;obtain ⟨cc,ee,ff,q1,q2,q3,q4⟩:=s.hr.obj _ hmem;refine ⟨cc,ee,ff,q1,by simpa using q2,q3,fun i2 x hx=>?_⟩
   rw [List.getElem?_set] at hx;split at hx
   ·rename_i e;subst e;split at hx
    ·cases hx;obtain ⟨u,r1,r2,r3⟩:=q4 i _ hi;refine ⟨u,r1,r2,?_⟩
     have hz:∀{cv:Value},VR E w .nilslice cv->cv=.slice none 0 0:=fun h=>by cases h;rfl
     rw [hz r3];exact .sym _ _ (by simp only [if_true]) rfl
    ·cases hx
   ·obtain ⟨u,r1,r2,r3⟩:=q4 i2 x hx;exact ⟨u,r1,r2,hm (hcs x (List.mem_of_getElem? hx)) r3⟩
  ·obtain ⟨str,cs,e,hcs⟩:=s.cH p hp;have:=s.hr.obj p hp;rw [e] at this ⊢;exact OR.cpx rfl (fun hc hv=>hm hc hv) hcs this
 ·obtain ⟨o,ho⟩:=hin hp;exact s.hr.nz (p.1,o) ho
 ·rcases zCc hp with rfl | hp
  ·obtain ⟨_,_,ec,hcs⟩:=s.cH _ hmem;cases ec;refine ⟨str,_,rfl,fun c hc=>?_⟩
   rcases List.mem_or_eq_of_mem_set hc with h | rfl
   ·exact (hcs c h).mono (Nat.le_succ _) (Nat.le_refl _)
   ·exact .sym _ (Nat.lt_succ_self _)
  ·obtain ⟨str,cs,e,hcs⟩:=s.cH p hp;exact ⟨str,cs,e,fun c hc=>(hcs c hc).mono (Nat.le_succ _) (Nat.le_refl _)⟩
 ·rw [Vecs.get_cons] at h;split at h
  ·rename_i e;subst e;cases h;exact ⟨Nat.lt_succ_self _,fun e he=>(by cases he),.inl ⟨by simp,by simp,rfl⟩⟩
  ·have h1:=s.vok j vi h;refine ⟨Nat.lt_succ_of_lt h1.1,h1.2.mono (by simp [hlt j vi h]) (fun _=>by simp [hlt j vi h]) (fun b _ _=>rfl) (fun b hb=>⟨hb,rfl⟩) (.refl w) fun j2 i off e sz es hes=>?_⟩
   subst e;have:=s.vp j j2 i off h;rw [Vecs.get_cons,if_neg (by omega)] at hes
   have hne:j2≠st.mv:=by omega
   exact ⟨by simp [hne],es,hes,rfl⟩
 ·rw [Vecs.get_cons] at h;split at h
  ·cases h
  ·exact Nat.lt_succ_of_lt (s.vp j j2 i off h)
 ·rw [Vecs.get_cons] at h;split at h
  ·rename_i e;subst e;simp at hb
  ·simp only [if_neg (hlt j vi h)] at hb;obtain ⟨z1,z2⟩:=s.bz j vi b h ho hb;refine ⟨z1,fun p hp=>?_⟩
   obtain ⟨o,h1⟩:=hin hp;exact z2 (p.1,o) h1
 ·rw [Vecs.get_cons] at h1 h2;split at h1
  ·rename_i e;subst e;simp at h5
  ·split at h2
   ·rename_i e;subst e;simp at h6
   ·simp only [if_neg (hlt j vi h1)] at h5;simp only [if_neg (hlt j' vi' h2)] at h6;exact s.binj j j' vi vi' b h1 h2 h3 h4 h5 h6
 ·refine Kp.less fun x hx=>?_
  rcases hx with ⟨p,hp,e⟩ | ⟨j,vi,h1,h2,h3⟩
  ·obtain ⟨o,ho⟩:=hin hp;exact .inl ⟨_,ho,e⟩
  ·rw [Vecs.get_cons] at h1;split at h1
   ·rename_i e;subst e;simp at h3
   ·simp only [if_neg (hlt j vi h1)] at h3;exact .inr ⟨j,vi,h1,h2,h3⟩
theorem SR.growC (hG:GPP G) {h:Nat}:∀{g:List (Nat×Nat)} {E:Env} {β:Nat->Option Nat} {st:Sta},SR G nt E w a β st->(growC h g st).fr=st.fr/\∃E' β',SR G nt E' w a β' (growC h g st)/\Kp E.Z (BS E β st.H st.V) w E'.Z (BS E' β' (growC h g st).H (growC h g st).V) w
 | [],E,β,st,s=>⟨rfl,E,β,s,Kp.refl⟩
 | (i,sz)::g,E,β,st,s=>by
  simp only [Sy.growC];split
  ·rename_i str cs hh;split
   ·rename_i hi;obtain ⟨E1,β1,s1,k1⟩:=s.growC1 hG hh hi (sz:=sz);obtain ⟨e,E2,β2,s2,k2⟩:=SR.growC hG (g:=g) s1;exact ⟨e,E2,β2,s2,k1.trans k2⟩
   ·rename_i v _ hi;split
    ·rename_i h2 es ht;obtain ⟨E1,β1,s1,k1⟩:=s.thawC hG hh hi ht;obtain ⟨e,E2,β2,s2,k2⟩:=SR.growC hG (g:=g) s1;exact ⟨e,E2,β2,s2,k1.trans k2⟩
    ·exact SR.growC hG (g:=g) s
   ·exact SR.growC hG (g:=g) s
  ·exact ⟨rfl,E,β,s,Kp.refl⟩
theorem SR.growA (hG:GPP G) {g:List (Nat×Nat)} {args:List AV} (s:SR G nt E w a β st):(growA g args st).fr=st.fr/\∃E' β',SR G nt E' w a β' (growA g args st)/\Kp E.Z (BS E β st.H st.V) w E'.Z (BS E' β' (growA g args st).H (growA g args st).V) w:=by
 unfold Sy.growA;split
 ·exact SR.growC hG s
 ·exact ⟨rfl,E,β,s,Kp.refl⟩
theorem zPV {o:Oper} {xop:XO} {k:AV->Sta->Prop} (c:Ctx P G nt Z0 B0 w0 dl E w a β st o xop) {e:HEnt} (he:HOK P G e) {args:List AV}
  (hk:(∃xs,xop=.call e.f xs/\evs G st.fr xs=some args)\/∃fx xs first caps vs,xop=.callv fx xs/\fx.ev G st.fr=some (.func (.func e.f) first caps)/\evs G st.fr xs=some vs/\args=first++vs++caps) (h:zDx e args st k):OpK P G nt Z0 B0 w0 dl o w a k:=by
 intro next Q hn;unfold zDx at h;obtain ⟨hfr,E1,β1,s1,kp1⟩:=c.s.growA c.hG (g:=e.grow) (args:=args);generalize growA e.grow args st=st1 at *;have hk1:(∃xs,xop=.call e.f xs/\evs G st1.fr xs=some args)\/∃fx xs first caps vs,xop=.callv fx xs/\fx.ev G st1.fr=some (.func (.func e.f) first caps)/\evs G st1.fr xs=some vs/\args=first++vs++caps:=by rw [hfr];exact hk
 obtain ⟨cargs,hv,hex⟩:=zQA s1.hr s1.hf s1.hg c.hc he.1 hk1;have hcp:∀x∈args,CP st1.mv st1.m x:=by
  rcases hk1 with ⟨xs,rfl,hh⟩ | ⟨fx,xs,first,caps,vs,rfl,h1,h2,rfl⟩
  ·have hok:xs.all xvOK=true:=by have:=c.ok;simp only [opOK,XO.opnds,zH,Bool.and_true] at this;exact this
   exact zD6 c.hG s1.cfr hok hh
  ·have hok:xvOK fx=true/\xs.all xvOK=true:=by have:=c.ok;simp only [opOK,XO.opnds,zH,List.all_append,List.all_cons,List.all_nil,Bool.and_true,Bool.and_eq_true] at this;exact this
   intro x hx;have hcf:=zE c.hG s1.cfr hok.1 h1;cases hcf with
   | func _ _ _ q1 q2=>
    rcases List.mem_append.1 hx with hx | hx
    ·rcases List.mem_append.1 hx with hx | hx
     ·exact q1 x hx
     ·exact zD6 c.hG s1.cfr hok.2 h2 x hx
    ·exact q2 x hx
 unfold zHr at h;obtain ⟨args',H,V,⟨hpre,hval⟩,cv,_,hvs,hcps,hsr,_⟩:=zIa c.hG s1 hcp hv h;split at hval
 rotate_left
 ·exact hval.elim
 rename_i v H2 V2 hv2;obtain ⟨ho,hfn⟩:=he.2 _ _ _ _ _ _ hpre hv2;unfold Oper.wp;rw [hex];unfold zGZ zH6 at hval;cases hi:inpl e.grow with
 | false=>
  rw [hi] at hfn hval;have hfn:HFn P G e.f args' H V v H2 V2:=hfn;refine (hfn _ w _ cargs (hsr 0 { tmps:=#[],defers:=[] } [] ⟨rfl,fun t v h=>by cases h⟩ (fun t v h=>by cases h)) hvs hcps).mono fun ee w' hh=>?_
  obtain ⟨cvv,E',β',rfl,k1,k2,k3,k4⟩:=hh;obtain ⟨E2,β2,s2,kp3⟩:=s1.back c.hG cv ho k1 k2 k3 k4 c.hd;exact hn _ _ cvv E2 w' hval ⟨β2,s2,(c.kp.trans kp1).trans kp3,by rw [DRun.put_defers];exact c.df⟩
 | true=>
  rw [hi] at hfn hval;obtain ⟨rfl,rfl,hppv,hlen,hfn⟩:=hfn;have hhm:=(zGj cv.rh).1;generalize zE8 st1.H 30 0 (args.foldl (fun a v=>hsA 8 v a) (List.range 0))=hm at *
  have:hm=[]:=by
   cases hm with
   | nil=>rfl
   | cons a r=>simp at hhm
  subst this;refine (hfn _ w _ cargs (hsr 0 { tmps:=#[],defers:=[] } [] ⟨rfl,fun t v h=>by cases h⟩ (fun t v h=>by cases h)) hvs hcps).mono fun ee w' hh=>?_
  obtain ⟨cvv,E',rfl,k1,k2,k3,k4⟩:=hh;obtain ⟨E2,β2,s2,kp3⟩:=s1.backI c.hG cv hppv hlen k1 k2 k3 k4 c.hd;exact hn _ _ cvv E2 w' hval ⟨β2,s2,(c.kp.trans kp1).trans kp3,by rw [DRun.put_defers];exact c.df⟩
theorem HOK.of {e:HEnt} (hi:inpl e.grow=false) (h1:Enters P e.f) (h2:∀args H V v H2 V2,e.pre args H V->e.val args H V=some (v,H2,V2)->HOut v H H2 V2/\HFn P G e.f args H V v H2 V2):HOK P G e:=
 ⟨h1,fun args H V v H2 V2 a b=>⟨(h2 args H V v H2 V2 a b).1,by rw [hi];exact (h2 args H V v H2 V2 a b).2⟩⟩
theorem HOK.into {e:HEnt} (he:HOK P G e) (hi:inpl e.grow=true) {args:List AV} {H H2:Heap} {V V2:Vecs} {v:AV} (a:e.pre args H V) (b:e.val args H V=some (v,H2,V2)):HOut v H H2 V2/\H=[]/\H2=[]/\PP v/\HFnI P G e.f args V v V2:=by
 have:=he.2 args H V v H2 V2 a b;rw [hi] at this;exact this
theorem zNA {hs:List HEnt} {f:Nat} {e:HEnt} (h:zG0 hs f=some e):e∈hs/\e.f=f:=by
 induction hs with
 | nil=>cases h
 | cons s r ih=>
  simp only [zG0] at h;split at h
  ·rename_i q;cases h;exact ⟨.head _,(zb q).symm⟩
  ·exact ⟨.tail _ (ih h).1,(ih h).2⟩
theorem zDf {F:List Nat}:∀{H:Heap} {p:Nat×HO},p∈zEC F H->p∈H/\inN p.1 F=true
 | [],_,h=>by cases h
 | q::r,p,h=>by
  unfold zEC at h;split at h
  ·rename_i hq;rcases List.mem_cons.1 h with rfl | h
   ·exact ⟨.head _,hq⟩
   ·exact ⟨.tail _ (zDf h).1,(zDf h).2⟩
  ·exact ⟨.tail _ (zDf h).1,(zDf h).2⟩
theorem zKC {F:List Nat}:∀(H:Heap),(zEC F H).Sublist H
 | []=>.slnil
 | q::r=>by
  unfold zEC;split
  ·exact .cons_cons _ (zKC r)
  ·exact .cons _ (zKC r)
theorem zAc {F:List Nat}:∀{H:Heap} {p:Nat×HO},p∈zJs F H->p∈H/\inN p.1 F=false
 | [],_,h=>by cases h
 | q::r,p,h=>by
  unfold zJs at h;split at h
  ·exact ⟨.tail _ (zAc h).1,(zAc h).2⟩
  ·rename_i hq;rcases List.mem_cons.1 h with rfl | h
   ·exact ⟨.head _,hq⟩
   ·exact ⟨.tail _ (zAc h).1,(zAc h).2⟩
theorem zKD {F:List Nat}:∀(H:Heap),(zJs F H).Sublist H
 | []=>.slnil
 | q::r=>by
  unfold zJs;split
  ·exact .cons _ (zKD r)
  ·exact .cons_cons _ (zKD r)
theorem zIb {HF:Heap} {fr0:Fr}:∀{fr:Fr} {t:Nat} {u:AV},(zH7 HF fr0 fr).get t=some u->∃v,fr0.get t=some v/\u=frzV HF v
 | [],_,_,h=>by cases h
 | (s,x)::r,t,u,h=>by
  unfold zH7 at h;split at h
  ·rename_i v hv;simp only [Fr.get] at h;split at h
   ·rename_i e;cases h;exact ⟨v,by rw [←zb e];exact hv,rfl⟩
   ·exact zIb h
  ·exact zIb h
theorem zLb {mv m:Nat} {H:Heap} (hH:HCP mv m H):∀(d:Nat) {v v':AV},CP mv m v->frz H [] d v=some v'->PP v':=by
 intro d
 induction d with
 | zero=>intro v v' _ h;cases h
 | succ d ih=>
  intro v v' hcp h;have al:∀{l l':List AV},(∀e∈l,CP mv m e)->zp (frz H [] d) l=some l'->∀e∈l',PP e:=fun hl hm=>by
   obtain ⟨m1,m2⟩:=zAj hm;intro x hx;obtain ⟨i,hi⟩:=List.getElem?_of_mem hx;have hlt:=(List.getElem?_eq_some_iff.1 hi).1;have hv:=List.getElem?_eq_getElem (show i<_ from m1▸hlt)
   exact ih (hl _ (List.mem_of_getElem? hv)) (m2 i _ x hv hi)
  unfold frz at h;split at h
  ·split at h
   ·rename_i hV;cases hV
   ·cases h
  ·split at h
   ·rename_i hg;obtain ⟨str,cs,e,hc⟩:=hH.get hg;cases e;split at h
    ·rename_i cs' hcs;cases h;exact .eptr _ _ (.agg _ (al hc hcs))
    ·cases h
   ·cases h
  ·cases hcp with
   | func _ _ _ ha hb=>
    split at h
    ·rename_i a' hA;split at h
     ·rename_i b' hB;cases h;exact .func _ _ _ (al ha hA) (al hb hB)
     ·cases h
    ·cases h
  ·cases hcp with
   | agg _ hc=>
    split at h
    ·rename_i cs' hcs;cases h;exact .agg _ (al hc hcs)
    ·cases h
  ·split at h
   ·rename_i hg;obtain ⟨str,cs,e,hc⟩:=hH.get hg;cases e;split at h
    ·split at h
     ·rename_i hre;split at h
      ·rename_i hpp;cases h;refine .lst _ _ fun e he=>?_
       obtain ⟨h1,h2,h3,h4,h5⟩:=zW hre;obtain ⟨i,hi⟩:=List.getElem?_of_mem he;obtain ⟨q1,q2⟩:=zJ h5;obtain ⟨q3,q4,q5⟩:=zD (q2 i e hi);refine zBK (n:=mv) (k:=m) 8 (zBe q5 fun x hx=>hc x ?_) (List.all_eq_true.1 hpp e he)
       rw [q4] at hx;exact List.mem_of_mem_drop (List.mem_of_mem_take (List.mem_of_mem_drop (List.mem_of_mem_take hx)))
      ·cases h
     ·cases h
    ·cases h
   ·cases h
  ·split at h
   ·cases h
   ·rename_i hh;cases h;exact zHg d hcp hh
theorem Rs.froze {F:List Nat} {d:Option Nat} {v v':AV} {cv:Value} (hG:GPP G) (hd:∀n,d=some n->n<nt) (h:Rs G nt Z0 B0 w0 dl E w (a.put d cv) (st.put d v)) (hv:frz (zEC F st.H) [] 8 v=some v'):
  ∃E',Rs G nt Z0 B0 w0 dl E' w (a.put d cv) ((frzS F (zEC F st.H) st).put d v'):=by
 obtain ⟨β,s,k0,hdl⟩:=h.out;generalize hHF:zEC F st.H=HF at *;have hsub:∀p∈HF,p∈st.H:=fun p hp=>(zDf (hHF▸hp)).1
 have sF:SR G nt E w (a.put d cv) β ⟨putd st.fr d v,HF,[],st.m,st.mv⟩:=
  ⟨s.hr.sub (hHF▸zKC st.H),s.hf,s.hg,s.dom,s.cfr,fun p hp=>s.cH p (hsub p hp),fun j vi hj=>(by cases hj),fun j j2 i off hj=>(by cases hj),fun j vi b hj=>(by cases hj),fun j j' vi vi' b hj=>(by cases hj)⟩
 let E2:Env:=⟨E.ρ,E.D,fun x=>E.Z x\/BS E β HF [] x,E.σ⟩
 have up:∀{u cu},VR (frzE E β HF []) w u cu->VR E2 w u cu:=fun hu=>VR.mono (E:=frzE E β HF []) (E':=E2) (fun _ h=>h.elim) (fun b hb=>⟨hb,rfl⟩) (.refl w) hu
 have same:∀{u cu},VR E w u cu->VR E2 w u cu:=fun hu=>VR.mono (E:=E) (E':=E2) (fun _ h=>⟨h,rfl⟩) (fun b hb=>⟨.inl hb,rfl⟩) (.refl w) hu
 have bsF:∀x,BS E β HF [] x->∃p∈HF,E.ρ p.1=x:=fun x hx=>by
  rcases hx with hx | ⟨j,vi,hj,_⟩
  ·exact hx
  ·cases hj
 have frzv:∀{u cu},CP st.mv st.m u->VR E w u cu->VR E2 w (frzV HF u) cu/\CP st.mv st.m (frzV HF u):=fun {u cu} hc hu=>by
  unfold frzV;split
  ·exact ⟨same hu,hc⟩
  ·split
   ·rename_i u' he;exact ⟨up (zD8 sF 8 hc hu he),(zLb sF.cH 8 hc he).cp⟩
   ·exact ⟨same hu,hc⟩
 have hcv:∀n,d=some n->VR E w v ((a.put d cv).tmps.getD n undef)/\CP st.mv st.m v:=fun n e=>by
  subst e;have h1:(st.put (some n) v).fr.get n=some v:=by
   show (st.fr.put n v).get n=_
   rw [Fr.get_put,if_pos rfl]
  exact ⟨s.hf.get n v h1,s.cfr n v h1⟩
 have old:∀t u,d≠some t->st.fr.get t=some u->VR E w u ((a.put d cv).tmps.getD t undef)/\CP st.mv st.m u:=fun t u hne hu=>by
  have h1:(st.put d v).fr.get t=some u:=by
   cases d with
   | none=>exact hu
   | some n=>
    show (st.fr.put n v).get t=_
    rw [Fr.get_put,if_neg (fun e=>hne (by rw [e]))]
    exact hu
  exact ⟨s.hf.get t u h1,s.cfr t u h1⟩
 have slot:∀t u,((frzS F HF st).put d v').fr.get t=some u->VR E2 w u ((a.put d cv).tmps.getD t undef)/\CP st.mv st.m u:=fun t u hu=>by
  by_cases e:d=some t
  ·subst e;obtain ⟨h1,h2⟩:=hcv t rfl;have:u=v':=by
    have hu:((zH7 HF st.fr st.fr).put t v').get t=some u:=hu;rw [Fr.get_put,if_pos rfl] at hu;cases hu;rfl
   subst this;exact ⟨up (zD8 sF 8 h2 h1 hv),(zLb sF.cH 8 h2 hv).cp⟩
  ·have hu:(zH7 HF st.fr st.fr).get t=some u:=by
    cases d with
    | none=>exact hu
    | some n=>
     have hu:((zH7 HF st.fr st.fr).put n v').get t=some u:=hu;rw [Fr.get_put,if_neg (fun h=>e (by rw [h]))] at hu
     exact hu
   obtain ⟨u0,h1,rfl⟩:=zIb hu;obtain ⟨h2,h3⟩:=old t u0 e h1;exact frzv h3 h2
 refine ⟨E2,β,⟨⟨?_,?_,?_,?_,?_,?_⟩,⟨s.hf.size,fun t u hu=>(slot t u hu).1⟩,fun g u h=>⟨same (s.hg g u h).1,(s.hg g u h).2⟩,s.dom,fun t u hu=>(slot t u hu).2,fun p hp=>s.cH p (zAc hp).1,fun j vi h=>⟨(s.vok j vi h).1,(s.vok j vi h).2.mono rfl (fun _=>rfl) (fun b _ _=>rfl) (fun b hb=>⟨.inl hb,rfl⟩) (.refl w) fun _ _ _ _ sz es h=>⟨rfl,es,h,rfl⟩⟩,s.vp,fun j vi b h1 h2 h3=>⟨?_,fun p hp=>(s.bz j vi b h1 h2 h3).2 p (zAc hp).1⟩,s.binj⟩,k0.trans ⟨fun x hx=>.inl hx,fun x hx=>?_,fun x hx=>?_,rfl,rfl,rfl,Nat.le_refl _,fun _ _ _=>rfl,.refl w⟩,hdl⟩
 ·exact (s.hr.sub (zKD (F:=F) st.H)).nodup
 ·exact fun p hp=>s.hr.dom p (zAc hp).1
 ·exact fun p hp q hq=>s.hr.inj p (zAc hp).1 q (zAc hq).1
 ·exact fun p hp=>(s.hr.obj p (zAc hp).1).mono rfl same
 ·rintro p hp (hz | hz)
  ·exact s.hr.nz p (zAc hp).1 hz
  ·obtain ⟨q,hq,e⟩:=bsF _ hz;have:=s.hr.inj q (hsub q hq) p (zAc hp).1 e;have h1:=(zDf (hHF▸hq)).2
   rw [this,(zAc hp).2] at h1;cases h1
 ·rintro b (hb | hb)
  ·exact s.hr.zlt b hb
  ·obtain ⟨q,hq,rfl⟩:=bsF _ hb;exact s.hr.lt (hsub q hq)
 ·rintro (hz | hz)
  ·exact (s.bz j vi b h1 h2 h3).1 hz
  ·obtain ⟨q,hq,e⟩:=bsF _ hz;exact (s.bz j vi b h1 h2 h3).2 q (hsub q hq) e
 ·rcases hx with hx | hx
  ·exact .inl hx
  ·obtain ⟨q,hq,e⟩:=bsF _ hx;exact .inr (.inl (.inl ⟨q,hsub q hq,e⟩))
 ·rcases hx with ⟨p,hp,e⟩ | hx
  ·exact .inl (.inl ⟨p,(zAc hp).1,e⟩)
  ·exact .inl (.inr hx)
theorem Fr.get_map {g:AV->AV}:∀{fr:Fr} {t:Nat},Fr.get (fr.map fun p=>(p.1,g p.2)) t=(Fr.get fr t).map g
 | [],t=>rfl
 | (k,o)::r,t=>by
  simp only [List.map_cons,Fr.get];split
  ·rfl
  ·exact Fr.get_map
theorem Rs.frozeV {d:Option Nat} {v:AV} {cv:Value} (hd:∀n,d=some n->n<nt) (h:Rs G nt Z0 B0 w0 dl E w (a.put d cv) (st.put d v)):
  ∃E',Rs G nt Z0 B0 w0 dl E' w (a.put d cv) ((frzVS st).put d (symV st.V v)):=by
 obtain ⟨β,s,k0,hdl⟩:=h.out;have sF:SR G nt E w (a.put d cv) β ⟨putd st.fr d v,[],st.V,st.m,st.mv⟩:=
  ⟨⟨.nil,fun p hp=>(by cases hp),fun p hp=>(by cases hp),fun p hp=>(by cases hp),fun p hp=>(by cases hp),s.hr.zlt⟩,s.hf,s.hg,s.dom,s.cfr,fun p hp=>(by cases hp),s.vok,s.vp,fun j vi b h1 h2 h3=>⟨(s.bz j vi b h1 h2 h3).1,fun p hp=>(by cases hp)⟩,s.binj⟩
 let E2:Env:=⟨E.ρ,E.D,fun x=>E.Z x\/BS E β [] st.V x,E.σ⟩
 have up:∀{u cu},VR (frzE E β [] st.V) w u cu->VR E2 w u cu:=fun hu=>VR.mono (E:=frzE E β [] st.V) (E':=E2) (fun _ h=>h.elim) (fun b hb=>⟨hb,rfl⟩) (.refl w) hu
 have same:∀{u cu},VR E w u cu->VR E2 w u cu:=fun hu=>VR.mono (E:=E) (E':=E2) (fun _ h=>⟨h,rfl⟩) (fun b hb=>⟨.inl hb,rfl⟩) (.refl w) hu
 have bsV:∀{x},BS E β [] st.V x->∃j vi,st.V.get j=some vi/\vi.owns=true/\β j=some x:=fun {x} hx=>by
  rcases hx with ⟨p,hp,_⟩ | h
  ·cases hp
  ·exact h
 have sv:∀{u cu},CP st.mv st.m u->VR E w u cu->VR E2 w (symV st.V u) cu/\CP st.mv st.m (symV st.V u):=fun {u cu} hc hu=>by
  unfold symV;split
  ·rename_i j;split
   ·rename_i sz es hV;have h1:frz [] st.V 1 (.sym j)=some (.lst sz es):=by simp only [frz,hV]
    exact ⟨up (zD8 sF 1 hc hu h1),.lst _ _ (s.vok j _ hV).2.1⟩
   ·exact ⟨same hu,hc⟩
  ·exact ⟨same hu,hc⟩
 have hcv:∀n,d=some n->VR E w v ((a.put d cv).tmps.getD n undef)/\CP st.mv st.m v:=fun n e=>by
  subst e;have h1:(st.put (some n) v).fr.get n=some v:=by
   show (st.fr.put n v).get n=_
   rw [Fr.get_put,if_pos rfl]
  exact ⟨s.hf.get n v h1,s.cfr n v h1⟩
 have old:∀t u,d≠some t->st.fr.get t=some u->VR E w u ((a.put d cv).tmps.getD t undef)/\CP st.mv st.m u:=fun t u hne hu=>by
  have h1:(st.put d v).fr.get t=some u:=by
   cases d with
   | none=>exact hu
   | some n=>
    show (st.fr.put n v).get t=_
    rw [Fr.get_put,if_neg (fun e=>hne (by rw [e]))]
    exact hu
  exact ⟨s.hf.get t u h1,s.cfr t u h1⟩
 have slot:∀t u,((frzVS st).put d (symV st.V v)).fr.get t=some u->VR E2 w u ((a.put d cv).tmps.getD t undef)/\CP st.mv st.m u:=fun t u hu=>by
  by_cases e:d=some t
  ·subst e;obtain ⟨h1,h2⟩:=hcv t rfl;have hu:Fr.get (Fr.put (st.fr.map fun p=>(p.1,symV st.V p.2)) t (symV st.V v)) t=some u:=hu
   rw [Fr.get_put,if_pos rfl] at hu;cases hu;exact sv h2 h1
  ·have hu:Fr.get (st.fr.map fun p=>(p.1,symV st.V p.2)) t=some u:=by
    cases d with
    | none=>exact hu
    | some n=>
     have hu:Fr.get (Fr.put (st.fr.map fun p=>(p.1,symV st.V p.2)) n (symV st.V v)) t=some u:=hu
     rw [Fr.get_put,if_neg (fun h=>e (by rw [h]))] at hu
     exact hu
   rw [Fr.get_map] at hu;cases hg:Fr.get st.fr t with
   | none=>rw [hg] at hu;cases hu
   | some u0=>
    rw [hg] at hu;cases hu;obtain ⟨h2,h3⟩:=old t u0 e hg;exact sv h3 h2
 refine ⟨E2,β,⟨⟨s.hr.nodup,s.hr.dom,s.hr.inj,fun p hp=>(s.hr.obj p hp).mono rfl same,?_,?_⟩,⟨s.hf.size,fun t u hu=>(slot t u hu).1⟩,fun g u h=>⟨same (s.hg g u h).1,(s.hg g u h).2⟩,s.dom,fun t u hu=>(slot t u hu).2,s.cH,fun j vi h=>(by cases h),fun j j2 i off h=>(by cases h),fun j vi b h=>(by cases h),fun j j' vi vi' b h=>(by cases h)⟩,k0.trans ⟨fun x hx=>.inl hx,fun x hx=>?_,fun x hx=>?_,rfl,rfl,rfl,Nat.le_refl _,fun _ _ _=>rfl,.refl w⟩,hdl⟩
 ·rintro p hp (hz | hz)
  ·exact s.hr.nz p hp hz
  ·obtain ⟨j,vi,h1,h2,h3⟩:=bsV hz;exact (s.bz j vi _ h1 h2 h3).2 p hp rfl
 ·rintro b (hb | hb)
  ·exact s.hr.zlt b hb
  ·obtain ⟨j,vi,h1,h2,h3⟩:=bsV hb;exact (s.vok j vi h1).2.lt h2 h3
 ·rcases hx with hx | hx
  ·exact .inl hx
  ·exact .inr (.inl (.inr (bsV hx)))
 ·rcases hx with ⟨p,hp,e⟩ | ⟨j,vi,h,_⟩
  ·exact .inl (.inl ⟨p,hp,e⟩)
  ·cases h
theorem zMH (htb:TbW P G tb) {o:Oper} {t:TOp} {k:AV->Sta->Prop} (c:Ctx P G nt Z0 B0 w0 dl E w a β st o t.o.op) (hth:∀es,t.h=some es->∀e∈es,HOK P G e) (h:wopT G tb st t k):OpK P G nt Z0 B0 w0 dl o w a k:=by
 unfold wopT at h;split at h
 ·exact zRz htb c h
 ·rename_i es hes;unfold zKt at h;split at h
  ·rename_i f xs hop;rw [hop] at c;split at h
   ·rename_i e he;obtain ⟨hm,rfl⟩:=zNA he;split at h
    ·rename_i vs hvs;exact zPV c (hth es hes e hm) (.inl ⟨xs,rfl,hvs⟩) h
    ·exact h.elim
   ·exact h.elim
  ·rename_i fx xs hop;rw [hop] at c;split at h
   ·rename_i f first caps hf;split at h
    ·rename_i e he;obtain ⟨hm,rfl⟩:=zNA he;split at h
     ·rename_i vs hvs;exact zPV c (hth es hes e hm) (.inr ⟨fx,xs,first,caps,vs,rfl,hf,hvs,rfl⟩) h
     ·exact h.elim
    ·exact h.elim
   ·exact h.elim
  ·exact h.elim
theorem zQB (htb:TbW P G tb) {o:Oper} {t:TOp} {k:AV->Sta->Prop} (c:Ctx P G nt Z0 B0 w0 dl E w a β st o t.o.op) (hth:∀es,t.h=some es->∀e∈es,HOK P G e) (h:wopR G tb st t k):OpK P G nt Z0 B0 w0 dl o w a k:=by
 unfold wopR at h;split at h
 ·rename_i hf;have hd:zIU t.o.op=true:=by
   cases ho:t.o.op <;> rw [ho] at hf <;> first | rfl | cases hf
  have hk:=c.dflt (k:=fun v st=>wfrz st v k) hd h
  intro next Q hn;refine hk next Q fun v st' cv E' w' hv hrs=>?_
  have hv:wfrz st' v k:=hv;unfold wfrz at hv;split at hv
  ·obtain ⟨E2,h2⟩:=hrs.frozeV c.hd;exact hn _ _ cv E2 w' hv h2
  ·simp only at hv;split at hv
   ·rename_i v' he;obtain ⟨E2,h2⟩:=hrs.froze c.hG c.hd he;exact hn v' _ cv E2 w' hv h2
   ·exact hv.elim
 ·exact zMH htb c hth h
end
end Go.Sy
namespace Go.Sy
section
variable {P:Program} {G:Cx} {nt:Nat} {E:Env} {w:World} {a:Act} {β:Nat->Option Nat} {st:Sta}
 {Z0 B0:Nat->Prop} {w0:World} {dl:List Deferred} {tb:TblS}
theorem SR.steps (s:SR G nt E w a β st) {E':Env} {w':World} {a':Act} {H':Heap} {fr':Fr} {m':Nat} (hr':HR E' H' w') (t:Tr E st.H w E' H' w' st.m m') (hf':FrR E' w' fr' a' nt) (hcf:FrCP st.mv m' fr') (hcH:HCP st.mv m' H'):
  SR G nt E' w' a' β ⟨fr',H',st.V,m',st.mv⟩/\Kp E.Z (BS E β st.H st.V) w E'.Z (BS E' β H' st.V) w':=by
 have hold:∀b,E.Z b->E'.Z b/\w'.heap[b]? = w.heap[b]?:=fun b hb=>⟨t.zmono b hb,t.old b (s.hr.zlt b hb) fun p hp e=>s.hr.nz p hp (e▸hb)⟩
 have hblk:∀j vi b,st.V.get j=some vi->vi.owns=true->β j=some b->b<w.heap.size/\w'.heap[b]? = w.heap[b]?:=fun j vi b h1 h2 h3=>by
  have h4:=(s.vok j vi h1).2.lt h2 h3;exact ⟨h4,t.old b h4 fun p hp e=>(s.bz j vi b h1 h2 h3).2 p hp e⟩
 refine ⟨⟨hr',hf',s.hg.step s.hr t,fun h hh=>?_,hcf,hcH,fun j vi h1=>⟨(s.vok j vi h1).1,?_⟩,s.vp,fun j vi b h1 h2 h3=>⟨fun hz=>?_,fun p hp e=>?_⟩,s.binj⟩,?_⟩
 ·rcases (t.dom h).1 hh with h1 | h1
  ·exact Nat.lt_of_lt_of_le (s.dom h h1) t.le
  ·exact h1.2
 ·exact (s.vok j vi h1).2.mono (congrFun t.sig j) (fun _=>rfl) (fun b ho hb=>(hblk j vi b h1 ho hb).2) hold t.shapes fun _ _ _ _ sz es h=>⟨rfl,es,h,rfl⟩
 ·have h4:=s.bz j vi b h1 h2 h3;rcases t.znew b hz with h5 | ⟨p,hp,e⟩ | h5
  ·exact h4.1 h5
  ·exact h4.2 p hp e
  ·have:=(hblk j vi b h1 h2 h3).1;omega
 ·have h4:=s.bz j vi b h1 h2 h3;rcases t.own p hp with ⟨q,hq,e'⟩ | h5
  ·exact h4.2 q hq (e'.trans e)
  ·have:=(hblk j vi b h1 h2 h3).1;omega
 ·refine ⟨t.zmono,fun x hx=>?_,fun x hx=>?_,t.tape,t.os,t.output,t.size,fun x hx hb=>t.old x hx fun p hp e=>hb (.inl ⟨p,hp,e⟩),t.shapes⟩
  ·rcases t.znew x hx with h | h | h
   ·exact .inl h
   ·exact .inr (.inl (.inl h))
   ·exact .inr (.inr h)
  ·rcases hx with ⟨p,hp,rfl⟩ | h
   ·rcases t.own p hp with ⟨q,hq,e⟩ | h
    ·exact .inl (.inl ⟨q,hq,e⟩)
    ·exact .inr h
   ·exact .inl (.inr h)
theorem Rs.known (r:Rs G nt Z0 B0 w0 dl E w a st) {n:Nat} {v:AV} (h:st.fr.get n=some v):Rs G nt Z0 B0 w0 dl E w a ⟨st.fr.put n v,st.H,st.V,st.m,st.mv⟩:=
 let ⟨β,s,k,d⟩:=r.out
 ⟨β,s.known h,k,d⟩
theorem Rs.skip (r:Rs G nt Z0 B0 w0 dl E w a st) {d:Option Nat} (hd:∀n,d=some n->n<nt):Rs G nt Z0 B0 w0 dl E w (a.put d undef) (st.put d (.tup [])):=
 let ⟨β,s,k,df⟩:=r.out
 ⟨β,⟨s.hr,s.hf.put id hd (VR.mk_tup (vs:=#[]) VRs.nil),s.hg,s.dom,s.cfr.putd (.tup _ fun e he=>by cases he),s.cH,s.vok,s.vp,s.bz,s.binj⟩,k,by rw [DRun.put_defers];exact df⟩
theorem WK.vr {E:Env} {w:World} {v v':AV} (h:WK v v'):∀{cv:Value},VR E w v cv->VR E w v' cv:=by
 induction h with
 | refl v=>exact id
 | nil sz=>intro cv hv;cases hv;exact .lst0 _ _ _ (Nat.zero_le _)
 | eptr off h ih=>
  intro cv hv;cases hv with
  | eptr _ _ b o cv hfl hz hv hc=>
   refine .eptr _ _ b o cv ?_ hz (ih hv) hc
   cases h <;> first | exact hfl | rfl | cases hfl
 | iface t h ih=>intro cv hv;cases hv with | iface _ _ cv hv=>exact .iface _ _ cv (ih hv)
 | agg hl h ih=>
  intro cv hv;cases hv with
  | agg _ vs hl2 h2 h1=>exact .agg _ vs (hl.symm.trans hl2) (fun i x v hx hv=>by
    have hi:=(List.getElem?_eq_some_iff.1 hx).1;have hc:=List.getElem?_eq_getElem (show i<_ from hl▸hi)
    exact ih i _ x hc hx (h2 i _ v hc hv)) h1
 | tup hl h ih=>
  intro cv hv;cases hv with
  | tup _ vs hl2 h2=>exact .tup _ vs (hl.symm.trans hl2) (fun i x v hx hv=>by
    have hi:=(List.getElem?_eq_some_iff.1 hx).1;have hc:=List.getElem?_eq_getElem (show i<_ from hl▸hi)
    exact ih i _ x hc hx (h2 i _ v hc hv))
theorem WK.pp {v v':AV} (h:WK v v'):PP v->PP v':=by
 have al:∀{cs cs':List AV},cs.length=cs'.length->(∀(i:Nat) c c',cs[i]? = some c->cs'[i]? = some c'->PP c->PP c')->(∀e∈cs,PP e)->∀e∈cs',PP e:=fun hl ih h e he=>by
  obtain ⟨i,hi⟩:=List.getElem?_of_mem he;have hlt:=(List.getElem?_eq_some_iff.1 hi).1;have hc:=List.getElem?_eq_getElem (show i<_ from hl.symm▸hlt)
  exact ih i _ e hc hi (h _ (List.mem_of_getElem? hc))
 induction h with
 | refl v=>exact id
 | nil sz=>intro _;exact .lst _ _ fun e he=>by cases he
 | eptr off h ih=>intro hp;cases hp with | eptr _ _ hp=>exact .eptr _ _ (ih hp)
 | iface t h ih=>intro hp;cases hp with | iface _ _ hp=>exact .iface _ _ (ih hp)
 | agg hl h ih=>intro hp;cases hp with | agg _ hp=>exact .agg _ (al hl ih hp)
 | tup hl h ih=>intro hp;cases hp with | tup _ hp=>exact .tup _ (al hl ih hp)
theorem WK.cp {n k:Nat} {v v':AV} (h:WK v v'):CP n k v->CP n k v':=by
 have al:∀{cs cs':List AV},cs.length=cs'.length->(∀(i:Nat) c c',cs[i]? = some c->cs'[i]? = some c'->CP n k c->CP n k c')->(∀e∈cs,CP n k e)->∀e∈cs',CP n k e:=fun hl ih h e he=>by
  obtain ⟨i,hi⟩:=List.getElem?_of_mem he;have hlt:=(List.getElem?_eq_some_iff.1 hi).1;have hc:=List.getElem?_eq_getElem (show i<_ from hl.symm▸hlt)
  exact ih i _ e hc hi (h _ (List.mem_of_getElem? hc))
 induction h with
 | refl v=>exact id
 | nil sz=>intro _;exact .lst _ _ fun e he=>by cases he
 | eptr off h ih=>intro hp;cases hp with | eptr _ _ hp=>exact .eptr _ _ (h.pp hp)
 | iface t h ih=>intro hp;cases hp with | iface _ _ hp=>exact .iface _ _ (ih hp)
 | agg hl h ih=>intro hp;cases hp with | agg _ hp=>exact .agg _ (al hl ih hp)
 | tup hl h ih=>intro hp;cases hp with | tup _ hp=>exact .tup _ (al hl ih hp)
theorem Rs.weak {cv:Value} {d:Option Nat} {v v':AV} (r:Rs G nt Z0 B0 w0 dl E w (a.put d cv) (st.put d v)) (h:WK v v'):Rs G nt Z0 B0 w0 dl E w (a.put d cv) (st.put d v'):=by
 cases d with
 | none=>exact r
 | some n=>
  obtain ⟨β,s,kp,df⟩:=r.out;have hg:∀{t u},(st.fr.put n v').get t=some u->(t=n/\u=v')\/(t≠n/\(st.fr.put n v).get t=some u):=fun {t u} e=>by
   rw [Fr.get_put] at e ⊢;split at e
   ·rename_i q;subst q;cases e;exact .inl ⟨rfl,rfl⟩
   ·rename_i q;exact .inr ⟨fun h=>q h.symm,by rw [if_neg q];exact e⟩
  have hn:(st.fr.put n v).get n=some v:=by rw [Fr.get_put,if_pos rfl]
  refine ⟨β,⟨s.hr,⟨s.hf.size,fun t u e=>?_⟩,s.hg,s.dom,fun t u e=>?_,s.cH,s.vok,s.vp,s.bz,s.binj⟩,kp,df⟩
  ·rcases hg e with ⟨rfl,rfl⟩ | ⟨_,e⟩
   ·exact h.vr (s.hf.get _ _ hn)
   ·exact s.hf.get t u e
  ·rcases hg e with ⟨rfl,rfl⟩ | ⟨_,e⟩
   ·exact h.cp (s.cfr _ _ hn)
   ·exact s.cfr t u e
def At (pn:List Nat) (a a':Act):Prop:=∀t∈pn,a'.tmps.getD t undef=a.tmps.getD t undef
theorem At.refl {pn:List Nat}:At pn a a:=fun _ _=>rfl
theorem At.trans {pn:List Nat} {a1 a2:Act} (h:At pn a a1) (k:At pn a1 a2):At pn a a2:=fun t ht=>(k t ht).trans (h t ht)
theorem At.put {pn:List Nat} {d:Option Nat} {cv:Value} (h:∀n,d=some n->n ∉ pn):At pn a (a.put d cv):=by
 intro t ht;cases d with
 | none=>rfl
 | some n=>
  have:n≠t:=fun e=>h n rfl (e▸ht)
  show (a.tmps.setIfInBounds n cv).getD t undef=a.tmps.getD t undef
  simp only [Array.getD_eq_getD_getElem?,Array.getElem?_setIfInBounds,if_neg this]
theorem zJx {pn:List Nat} {d:Option Nat} (h:(match d with | some d=>!inN d pn | none=>true)=true):∀n,d=some n->n ∉ pn:=by
 rintro n rfl
 simp only [Bool.not_eq_true'] at h;exact zLa h
theorem zUg {call:Call} {pn:List Nat} {K:Fr->Heap->Nat->Prop}:∀(ops:List XOper) {fr:Fr} {H:Heap} {nx:Nat},(∀o∈ops,∀n,o.dst=some n->n ∉ pn)->WN G call ops K fr H nx->WN G call ops (fun fr' H' nx'=>K fr' H' nx'/\∀t∈pn,fr'.get t=fr.get t) fr H nx:=by
 have key:∀(ops:List XOper) (fr0:Fr) {fr:Fr} {H:Heap} {nx:Nat},(∀o∈ops,∀n,o.dst=some n->n ∉ pn)->(∀t∈pn,fr.get t=fr0.get t)->WN G call ops K fr H nx->WN G call ops (fun fr' H' nx'=>K fr' H' nx'/\∀t∈pn,fr'.get t=fr0.get t) fr H nx:=by
  intro ops
  induction ops with
  | nil=>intro fr0 fr H nx _ h k;exact ⟨k,h⟩
  | cons o r ih=>
   intro fr0 fr H nx hd h k;have hput:∀{v:AV},∀t∈pn,(putd fr o.dst v).get t=fr0.get t:=fun {v} t ht=>by
    cases hdd:o.dst with
    | none=>exact h t ht
    | some n=>
     have:n ∉ pn:=hd o (.head _) n hdd;have hne:n≠t:=fun e=>this (e▸ht)
     rw [zNt,Fr.get_put];simp only [hne,hne.symm,if_false];exact h t ht
   have hr:=fun {fr H nx}=>ih fr0 (fr:=fr) (H:=H) (nx:=nx) fun o' ho=>hd o' (.tail _ ho)
   simp only [WN] at k ⊢;split at k
   ·obtain ⟨v,H',nx',k1,k3⟩:=k;exact ⟨v,H',nx',k1,hr hput k3⟩
   ·unfold zN3 at k ⊢;split at k
    ·exact ⟨fun e=>let ⟨v,H',nx',k1,k3⟩:=k.1 e;⟨v,H',nx',k1,hr hput k3⟩,fun e=>hr hput (k.2 e)⟩
    ·exact hr hput k
    ·exact k.elim
 exact fun ops fr H nx hd k=>key ops fr hd (fun _ _=>rfl) k
theorem zMI (htb:TbW P G tb) (hG:GPP G) (hm:zAi P G) {pn:List Nat} {ops:Array Oper} {Q:Exit->Act->World->Prop} {K:Sta->Prop}:∀(ts:List TOp) (os:List Oper) (k:Nat) {st:Sta},(∀j,os[j]? = ops[k+j]?)->ts.map TOp.o=os.map (zm P ops) →
  (∀o∈os,∀d,o.dst=some d->d<nt)->(∀t∈ts,opOK t.o.op=true)->(∀t∈ts,∀es,t.h=some es->∀e∈es,HOK P G e)->(∀t∈ts,∀n,t.o.dst=some n->n ∉ pn)->wops G tb ts K st->∀{E w a},Rs G nt Z0 B0 w0 dl E w a st->(∀st' E' w' a',K st'->Rs G nt Z0 B0 w0 dl E' w' a' st'->At pn a a'->Q .normal a' w')->wpOps P ops Q (List.range' k os.length) a w
 | [],[],k,st,_,_,_,_,_,_,h,E,w,a,r,hQ=>hQ st E w a h r .refl
 | [],o::os,k,st,_,he,_,_,_,_,h,E,w,a,r,hQ=>by cases he
 | t::ts,[],k,st,_,he,_,_,_,_,h,E,w,a,r,hQ=>by cases he
 | t::ts,o::os,k,st,hos,he,hdst,hok,hth,hpn,h,E,w,a,r,hQ=>by
  simp only [List.map_cons,List.cons.injEq] at he;obtain ⟨e1,e2⟩:=he;have ho:ops[k]? = some o:=by have:=hos 0;simpa using this.symm
  have hos':∀j,os[j]? = ops[k+1+j]?:=fun j=>by have:=hos (j+1);rw [List.getElem?_cons_succ] at this;rw [this];congr 1;omega
  have hd':∀o'∈os,∀d,o'.dst=some d->d<nt:=fun o' h'=>hdst o' (.tail _ h')
  have hok':∀t'∈ts,opOK t'.o.op=true:=fun t' h'=>hok t' (.tail _ h')
  have hdo:t.o.dst=o.dst:=by rw [e1];exact zAH
  rw [List.length_cons,List.range'_succ,wpOps_cons];have ih:=fun st h E w a r=>zMI htb hG hm (Q:=Q) (K:=K) ts os (k+1) (st:=st) hos' e2 hd' hok' (fun t' h'=>hth t' (.tail _ h')) (fun t' h'=>hpn t' (.tail _ h')) h (E:=E) (w:=w) (a:=a) r
  have doit:∀{st:Sta},Rs G nt Z0 B0 w0 dl E w a st->wantx st.fr t.o.guard=some true->wopR G tb st t (fun v st=>∃v',WK v v'/\wops G tb ts K (st.put t.o.dst v'))->wpOp P ops Q k (wpOps P ops Q (List.range' (k+1) os.length)) a w:=by
   intro st r hw h;obtain ⟨β,s,kp,df⟩:=r.out;have hbad:(zm P ops o).op≠.bad:=fun e=>by
    unfold wopR wopT at h;rw [e1,e] at h;simp only [isFz] at h;split at h
    ·exact h
    ·exact h
   have c:Ctx P G nt Z0 B0 w0 dl E w a β st o t.o.op:=⟨s,kp,df,hG,hm,by rw [e1];exact zDM hbad,hdst o (.head _),hok t (.head _)⟩
   refine DRun.wpOp_of ho (zBc s.hf (by rw [←e1];exact hw) (.inr hbad)) (zQB htb c (hth t (.head _)) h _ _ fun v st' cv E' w' hk r'=>?_)
   obtain ⟨v',hwk,hk⟩:=hk;exact ih _ hk E' w' _ (by rw [hdo];exact r'.weak hwk) fun st2 E2 w2 a2 q1 q2 q3=>hQ st2 E2 w2 a2 q1 q2 ((At.put (by rw [←hdo];exact hpn t (.head _))).trans q3)
  have skip:∀{st:Sta},Rs G nt Z0 B0 w0 dl E w a st->wantx st.fr t.o.guard=some false->wops G tb ts K (st.put t.o.dst (.tup []))->wpOp P ops Q k (wpOps P ops Q (List.range' (k+1) os.length)) a w:=by
   intro st r hw h;obtain ⟨β,s,kp,df⟩:=r.out;refine DRun.wpOp_not ho (zBc s.hf (by rw [←e1];exact hw) (.inl rfl)) ?_
   refine ih _ h E w _ ?_ fun st2 E2 w2 a2 q1 q2 q3=>hQ st2 E2 w2 a2 q1 q2 ((At.put (by rw [←hdo];exact hpn t (.head _))).trans q3)
   rw [hdo];exact r.skip (hdst o (.head _))
  simp only [wops] at h;split at h
  ·rename_i hg;exact doit r (by rw [hg];rfl) h
  ·rename_i t' b hg;split at h
   ·rename_i c hc;unfold brT at h;rcases zCx h with ⟨rfl,h2⟩ | ⟨rfl,h2⟩
    ·have h2:(match true==b with
      | true=>wopR G tb ⟨st.fr.put t' (.bool true),st.H,st.V,st.m,st.mv⟩ t fun v st=>∃v',WK v v'/\wops G tb ts K (st.put t.o.dst v')
      | false=>wops G tb ts K (Sta.put ⟨st.fr.put t' (.bool true),st.H,st.V,st.m,st.mv⟩ t.o.dst (.tup []))):=h2
     rw [put_same hc] at h2;have hw:=zFT (b:=b) hc;rw [←hg] at hw;cases b with
     | true=>exact doit (st:=⟨st.fr,st.H,st.V,st.m,st.mv⟩) r hw h2
     | false=>exact skip (st:=⟨st.fr,st.H,st.V,st.m,st.mv⟩) r hw h2
    ·have h2:(match false==b with
      | true=>wopR G tb ⟨st.fr.put t' (.bool false),st.H,st.V,st.m,st.mv⟩ t fun v st=>∃v',WK v v'/\wops G tb ts K (st.put t.o.dst v')
      | false=>wops G tb ts K (Sta.put ⟨st.fr.put t' (.bool false),st.H,st.V,st.m,st.mv⟩ t.o.dst (.tup []))):=h2
     rw [put_same hc] at h2;have hw:=zFT (b:=b) hc;rw [←hg] at hw;cases b with
     | true=>exact skip (st:=⟨st.fr,st.H,st.V,st.m,st.mv⟩) r hw h2
     | false=>exact doit (st:=⟨st.fr,st.H,st.V,st.m,st.mv⟩) r hw h2
   ·rename_i hc;exact skip r (by rw [hg];simp only [wantx,hc]) h
   ·exact h.elim
theorem zPw (htb:TbW P G tb) (hG:GPP G) (hm:zAi P G) (hmix:P.follows .mixedOrders=true) {pn:List Nat} {id:Nat} {ops:Array Oper} {ts:List TOp} {ds:List XD} {Q:Exit->Act->World->Prop} {K:Sta->Prop} (hc:zv P (.region id ops true)=some (.draw (ts.map TOp.o) ds)) (hdst:zCS nt (.draw (ts.map TOp.o) ds)=true)
  (hok:∀t∈ts,opOK t.o.op=true) (hpn:∀t∈ts,∀n,t.o.dst=some n->n ∉ pn) (hpt:∀t∈pn,zN6 st.fr t=true) (hD:zMC (ts.map TOp.o) ds=true) (h:zBd G tb ts K st) (r:Rs G nt Z0 B0 w0 dl E w a st) (hQ:∀st' E' w' a',K st'->Rs G nt Z0 B0 w0 dl E' w' a' st'->At pn a a'->Q .normal a' w'):(Code.region id ops true).wp P Q a w:=by
 obtain ⟨β,s,kp,df⟩:=r.out;unfold zMC at hD;rw [Bool.and_eq_true] at hD;have hwn:=zLT htb hG (V:=st.V) (mv:=st.mv) (K:=K) ts hok s.cfr s.cH (fun p hp=>s.dom p.1 (s.hr.dom p hp)) h
 have hwn:=zUg (pn:=pn) _ (fun o ho=>by
  obtain ⟨t,ht,e⟩:=List.mem_map.1 ho;exact e▸hpn t ht) hwn
 have hfar:∀t h o,st.fr.get t=some (.ptr h o)->h<st.m:=fun t h o hg=>by
  obtain ⟨_,s,_,_⟩:=r.out;have:=s.cfr t _ hg;cases this with
  | ptr _ _ hk=>exact hk
 obtain ⟨fr',H',nx',e,kd,hkeep⟩:=zRu zQz hfar hD.1 hD.2 hwn;obtain ⟨hle,hw⟩:=zQs (zSM htb hG) hm hmix hc hdst e;refine hw E w a Q dl s.hr s.hf s.hg (fun h h1 h2 hD=>by have:=s.dom h hD;omega) df fun E' w' a' k1 k2 k3 k4=>?_
 have:=s.steps k1 k2 k3 kd.cf kd.cH;refine hQ _ E' w' a' kd.k ⟨β,this.1,kp.trans this.2,k4⟩ fun t ht=>?_
 have hp:=hpt t ht;unfold zN6 at hp;split at hp
 ·rename_i h off hg;have h1:=s.hf.get t _ hg;have h2:=k3.get t _ ((hkeep t ht).trans hg);generalize a.tmps.getD t undef=x at h1;generalize a'.tmps.getD t undef=y at h2;cases h1 with
  | ptr _ _ hd=>
   cases h2 with
   | ptr _ _ hd2=>rw [k2.agree h hd]
 ·cases hp
theorem zLA (htb:TbW P G tb) (hG:GPP G) (hm:zAi P G) {pn:List Nat} {ops:Array Oper} {i:Nat} {o:Oper} {t:TOp} (ho:ops[i]? = some o) (e1:t.o=zm P ops o) (hd:∀d,o.dst=some d->d<nt) (hok:opOK t.o.op=true) (hth:∀es,t.h=some es->∀e∈es,HOK P G e) (hpn:∀n,t.o.dst=some n->n ∉ pn)
  {k:Sta->Prop} (h:zCU G tb st t k) (r:Rs G nt Z0 B0 w0 dl E w a st) {K:Act->World->Prop} {Q:Exit->Act->World->Prop} (hK:∀st' E' w' a',k st'->Rs G nt Z0 B0 w0 dl E' w' a' st'->At pn a a'->K a' w'):wpOp P ops Q i K a w:=by
 have hdo:t.o.dst=o.dst:=by rw [e1];exact zAH
 have doit:∀{st:Sta},Rs G nt Z0 B0 w0 dl E w a st->wantx st.fr t.o.guard=some true->wopT G tb st t (fun v st=>∃v',WK v v'/\k (st.put t.o.dst v'))->wpOp P ops Q i K a w:=by
  intro st r hw h;obtain ⟨β,s,kp,df⟩:=r.out;have hbad:(zm P ops o).op≠.bad:=fun e=>by
   unfold wopT at h;split at h
   ·rw [e1,e] at h;exact h
   ·rw [e1,e] at h;exact h
  have c:Ctx P G nt Z0 B0 w0 dl E w a β st o t.o.op:=⟨s,kp,df,hG,hm,by rw [e1];exact zDM hbad,hd,hok⟩
  refine DRun.wpOp_of ho (zBc s.hf (by rw [←e1];exact hw) (.inr hbad)) (zMH htb c hth h _ _ fun v st' cv E' w' hk r'=>?_)
  obtain ⟨v',hwk,hk⟩:=hk;exact hK _ E' w' _ hk (by rw [hdo];exact r'.weak hwk) (At.put (by rw [←hdo];exact hpn))
 have skip:∀{st:Sta},Rs G nt Z0 B0 w0 dl E w a st->wantx st.fr t.o.guard=some false->k (st.put t.o.dst (.tup []))->wpOp P ops Q i K a w:=by
  intro st r hw h;obtain ⟨β,s,kp,df⟩:=r.out;refine DRun.wpOp_not ho (zBc s.hf (by rw [←e1];exact hw) (.inl rfl)) ?_
  refine hK _ E w _ h ?_ (At.put (by rw [←hdo];exact hpn))
  rw [hdo];exact r.skip hd
 simp only [zCU] at h;split at h
 ·rename_i hg;exact doit r (by rw [hg];rfl) h
 ·rename_i t' b hg;split at h
  ·rename_i c hc;unfold brT at h;rcases zCx h with ⟨rfl,h2⟩ | ⟨rfl,h2⟩
   ·have h2:(match true==b with
     | true=>wopT G tb ⟨st.fr.put t' (.bool true),st.H,st.V,st.m,st.mv⟩ t fun v st=>∃v',WK v v'/\k (st.put t.o.dst v')
     | false=>k (Sta.put ⟨st.fr.put t' (.bool true),st.H,st.V,st.m,st.mv⟩ t.o.dst (.tup []))):=h2
    rw [put_same hc] at h2;have hw:=zFT (b:=b) hc;rw [←hg] at hw;cases b with
    | true=>exact doit (st:=⟨st.fr,st.H,st.V,st.m,st.mv⟩) r hw h2
    | false=>exact skip (st:=⟨st.fr,st.H,st.V,st.m,st.mv⟩) r hw h2
   ·have h2:(match false==b with
     | true=>wopT G tb ⟨st.fr.put t' (.bool false),st.H,st.V,st.m,st.mv⟩ t fun v st=>∃v',WK v v'/\k (st.put t.o.dst v')
     | false=>k (Sta.put ⟨st.fr.put t' (.bool false),st.H,st.V,st.m,st.mv⟩ t.o.dst (.tup []))):=h2
    rw [put_same hc] at h2;have hw:=zFT (b:=b) hc;rw [←hg] at hw;cases b with
    | true=>exact skip (st:=⟨st.fr,st.H,st.V,st.m,st.mv⟩) r hw h2
    | false=>exact doit (st:=⟨st.fr,st.H,st.V,st.m,st.mv⟩) r hw h2
  ·rename_i hc;exact skip r (by rw [hg];simp only [wantx,hc]) h
  ·exact h.elim
theorem zPW {ops:Array Oper} {ds:List XD} (hlen:ds.length=ops.size) (ha:DRun.Ahead ops ds) (hdn:DRun.Down ops) {Q:Exit->Act->World->Prop} (I:Nat->(Nat->Bool)->Act->World->Prop) (hQ:∀L a w,(∀j,j<ops.size->L j=true)->I 0 L a w->Q .normal a w)
  (hs:∀n L a w i o d,I (n+1) L a w->ops[i]? = some o->ds[i]? = some d->L i=false->(∀j,d.preds.testBit j=true->L j=true)->wpOp P ops Q i (fun a' w'=>I n (fun j=>L j||j==i) a' w') a w):
  ∀(fuel:Nat) (listed:Array Bool) (a:Act) (w:World),listed.size=ops.size->listed.toList.count false=fuel →
   (∀(k:Nat) (dk:XD),listed.getD k false=true->ds[k]? = some dk->∀j,dk.preds.testBit j=true->listed.getD j false=true) →
   I fuel (fun j=>listed.getD j false) a w->wpAny P .any ops Q fuel listed a w:=by
 have done:∀(listed:Array Bool),listed.size=ops.size->Region.ready .any ops listed=[]->∀j,j<ops.size->listed.getD j false=true:=by
  intro listed hsz hr j
  induction j using Nat.strongRecOn with
  | _ j ih=>
   intro hj;cases hl:listed.getD j false with
   | true=>rfl
   | false=>
    have hj':j<listed.size:=hsz▸hj
    have:j∈Region.ready .any ops listed:=by
     rw [mem_ready];refine ⟨?_,ops[j],Array.getElem?_eq_getElem hj,fun e he hb=>?_⟩
     ·simpa [hj'] using hl
     ·have:=hdn j _ (Array.getElem?_eq_getElem hj) e he hb;exact ih e.on this (by omega)
    rw [hr] at this;cases this
 intro fuel
 induction fuel with
 | zero=>
  intro listed a w hsz hc hcl inv;refine ⟨?_,hQ _ a w (fun j hj=>by
   have hj':j<listed.size:=hsz▸hj
   cases hl:listed.getD j false with
   | true=>rfl
   | false=>
    have h2:listed[j]=false:=by simpa [hj'] using hl
    have:false∈listed.toList:=by rw [←h2];simp
    have:=List.count_pos_iff.2 this;omega) inv⟩
  cases hr:Region.ready .any ops listed with
  | nil=>rfl
  | cons x r=>
   have hx:x∈Region.ready .any ops listed:=by rw [hr];exact .head _
   obtain ⟨h1,o,ho,_⟩:=mem_ready.1 hx;have hlt:=(Array.getElem?_eq_some_iff.1 ho).1;have hj':x<listed.size:=hsz▸hlt
   have h2:listed[x]=false:=by simpa [hj'] using h1
   have:false∈listed.toList:=by rw [←h2];simp
   have:=List.count_pos_iff.2 this;omega
 | succ fuel ih=>
  intro listed a w hsz hc hcl inv;refine ⟨fun hr=>?_,fun i hi=>?_⟩
  ·have h0:=done listed hsz hr;have:false∈listed.toList:=List.count_pos_iff.1 (by omega)
   obtain ⟨j,hj,e⟩:=List.getElem_of_mem this;have hj2:j<ops.size:=by rw [←hsz];simpa using hj
   have h3:=h0 j hj2;have hj':j<listed.size:=by simpa using hj
   have e:listed[j]=false:=by simpa using e
   simp [hj',e] at h3
  ·obtain ⟨h1,o,ho,h2⟩:=mem_ready.1 hi;have hlt:=(Array.getElem?_eq_some_iff.1 ho).1;have hlt':i<listed.size:=hsz▸hlt
   have hL:listed.getD i false=false:=by simpa [hlt'] using h1
   have hL':∀j,(listed.setIfInBounds i true).getD j false=(listed.getD j false||j==i):=by
    intro j;by_cases hj:i=j
    ·subst hj;simp [hlt']
    ·have:(j==i)=false:=by simp;exact fun h=>hj h.symm
     simp only [Array.getD_eq_getD_getElem?,Array.getElem?_setIfInBounds,if_neg hj,this,Bool.or_false]
   have hpre:∀(d:XD),ds[i]? = some d->∀j,d.preds.testBit j=true->listed.getD j false=true:=by
    intro d hd j hj;obtain ⟨e,he,hb,h | ⟨d',h3,h4⟩⟩:=ha i o d ho hd j hj
    ·rw [h];exact h2 e he hb
    ·exact hcl e.on d' (h2 e he hb) h3 j h4
   obtain ⟨d,hd⟩:∃d,ds[i]? = some d:=⟨ds[i],List.getElem?_eq_getElem (by omega)⟩
   have:=hs fuel _ a w i o d inv ho hd hL (hpre d hd);refine wpOp_mono (fun a' w' h=>?_) this
   refine ih _ a' w' (by simpa using hsz) ?_ ?_ ?_
   ·have h4:(listed.setIfInBounds i true).toList=listed.toList.set i true:=by simp
    rw [h4,List.count_set (by simpa using hlt')]
    have h5:listed.toList[i]'(by simpa using hlt')=false:=by simpa [hlt'] using hL
    have h6:0<listed.toList.count false:=List.count_pos_iff.2 (by rw [←h5];exact List.getElem_mem _)
    simp only [h5];simp;simp at h6 hc;omega
   ·intro k dk hk hdk j hj;rw [hL'] at hk ⊢;rw [Bool.or_eq_true,beq_iff_eq] at hk;rcases hk with hk | hk
    ·rw [hcl k dk hk hdk j hj];rfl
    ·subst hk;rw [hpre dk hdk j hj];rfl
   ·have e:(fun j=>(listed.setIfInBounds i true).getD j false)=fun j=>listed.getD j false||j==i:=funext hL'
    rw [e];exact h
theorem zOM {ops:Array Oper} (hdn:zK2 0 ops.toList=true):(zipD ops P ops.toList (Region.before ops).toList).length=ops.size/\DRun.Ahead ops (zipD ops P ops.toList (Region.before ops).toList)/\DRun.Down ops:=by
 obtain ⟨b1,b2⟩:=zLv (ops:=ops);have hds:∀{j:Nat} {d:XD},(zipD ops P ops.toList (Region.before ops).toList)[j]? = some d->(Region.before ops)[j]? = some d.preds:=fun h=>by
  obtain ⟨m,a,b⟩:=zKm h;rw [b];simpa using a
 have zlen:∀(os:List Oper) (ms:List Nat),os.length=ms.length->(zipD ops P os ms).length=os.length:=by
  intro os
  induction os with
  | nil=>intro ms _;simp [zipD]
  | cons o os ih=>intro ms hms;cases ms with
   | nil=>simp at hms
   | cons m ms=>simp [zipD,ih ms (by simpa using hms)]
 refine ⟨by rw [zlen _ _ (by simp [b1])];simp,?_,fun j o ho e he hb=>?_⟩
 ·intro j o d ho hd k hk;obtain ⟨m,c1,c2⟩:=b2 j o ho;have:=hds hd;rw [c1] at this;cases this;obtain ⟨e,he,hb,h | ⟨m',h3,h4⟩⟩:=c2 k hk
  ·exact ⟨e,he,hb,.inl h⟩
  ·refine ⟨e,he,hb,.inr ?_⟩
   have hl:e.on<(zipD ops P ops.toList (Region.before ops).toList).length:=by
    rw [zlen _ _ (by simp [b1])]
    have:=(Array.getElem?_eq_some_iff.1 h3).1
    simpa [b1] using this
   refine ⟨_,List.getElem?_eq_getElem hl,?_⟩
   have h5:=hds (List.getElem?_eq_getElem hl);have h3':(Region.before ops)[e.on]? = some m':=h3;rw [h3'] at h5;rw [←Option.some.inj h5];exact h4
 ·have:=zJo hdn j o (by simpa using ho) e he hb
  omega
theorem zNB {F:Nat->TOp->Prop} {listed:Nat}:∀{ts:List TOp} {ds:List XD} {i0:Nat},zK8 F listed i0 ts ds->∀(i:Nat) t d,ts[i]? = some t->ds[i]? = some d->listed.testBit (i0+i)=false->d.preds &&& listed=d.preds->F (i0+i) t
 | [],ds,i0,h,i,t,d,ht,_,_,_=>by simp at ht
 | t0::ts,[],i0,h,i,t,d,_,hd,_,_=>by simp at hd
 | t0::ts,d0::ds,i0,h,i,t,d,ht,hd,hl,hp=>by
  simp only [zK8] at h;cases i with
  | zero=>
   simp only [List.getElem?_cons_zero,Option.some.injEq] at ht hd;subst ht;subst hd;have:(!listed.testBit i0&&Nat.beq (d0.preds &&& listed) d0.preds)=true:=by
    rw [hp];simp only [Nat.add_zero] at hl;rw [hl,Nat.beq_refl];rfl
   rw [this] at h;exact h.1
  | succ i=>
   have hrec:zK8 F listed (i0+1) ts ds:=by
    split at h
    ·exact h.2
    ·exact h
   have:=zNB hrec i t d (by simpa using ht) (by simpa using hd) (by rw [←hl];congr 1;omega) hp
   have e:i0+(i+1)=i0+1+i:=by omega
   rw [e];exact this
theorem zON (htb:TbW P G tb) (hG:GPP G) (hm:zAi P G) (hmix:P.follows .mixedOrders=true) {pn:List Nat} {id:Nat} {ops:Array Oper} {ts:List TOp} {ds:List XD} {Q:Exit->Act->World->Prop} {K:Sta->Prop} (hc:zv P (.region id ops true)=some (.draw (ts.map TOp.o) ds)) (hdst:zCS nt (.draw (ts.map TOp.o) ds)=true)
  (hok:∀t∈ts,opOK t.o.op=true) (hth:∀t∈ts,∀es,t.h=some es->∀e∈es,HOK P G e) (hpn:∀t∈ts,∀n,t.o.dst=some n->n ∉ pn) (h:zN5 G tb ts ds K ts.length 0 st) (r:Rs G nt Z0 B0 w0 dl E w a st) (hQ:∀st' E' w' a',K st'->Rs G nt Z0 B0 w0 dl E' w' a' st'->At pn a a'->Q .normal a' w'):(Code.region id ops true).wp P Q a w:=by
 simp only [zv] at hc;split at hc
 rotate_left
 ·cases hc
 rename_i hdn;split at hc
 rotate_left
 ·cases hc
 simp only [Option.some.injEq,XC.draw.injEq] at hc;obtain ⟨e1,e2⟩:=hc;obtain ⟨hl,ha,hdown⟩:=zOM (P:=P) hdn;rw [e2] at hl ha;have hlen:ts.length=ops.size:=by
  have:=congrArg List.length e1
  simpa using this.symm
 have hto:∀(i:Nat) o,ops[i]? = some o->∃t,ts[i]? = some t/\t.o=zm P ops o:=fun i o ho=>by
  have h1:(ops.toList.map (zm P ops))[i]? = some (zm P ops o):=by simp [ho]
  rw [e1,List.getElem?_map] at h1;cases ht:ts[i]? with
  | none=>rw [ht] at h1;cases h1
  | some t=>rw [ht] at h1;exact ⟨t,rfl,by simpa using h1⟩
 refine wp_region_any hmix ?_
 have r':Rs G nt Z0 B0 w0 dl E { w with drawn:=w.drawn+1 } a st:=by
  obtain ⟨β,s,kp,df⟩:=r.out;obtain ⟨d1,d2⟩:=zFx (w':={ w with drawn:=w.drawn+1 }) s.hr ⟨rfl,rfl,rfl,rfl⟩ st.m
  have:=s.steps d1 d2 ⟨s.hf.size,fun t u ht=>d2.vr s.hr (s.hf.get t u ht)⟩ s.cfr s.cH
  exact ⟨β,this.1,kp.trans this.2,df⟩
 refine zPW hl ha hdown (fun n L a' w'=>∃listed st E,(∀j,j<ops.size->L j=listed.testBit j)/\(∀j,ops.size<=j->listed.testBit j=false)/\zN5 G tb ts ds K n listed st/\Rs G nt Z0 B0 w0 dl E w' a' st/\At pn a a') (fun L a' w' _ ⟨listed,st',E',_,_,hk,hr,hat⟩=>hQ st' E' w' a' hk hr hat) ?_ ops.size _ a _ (by simp) (by simp) ?_ ⟨0,st,E,fun j hj=>by simp [hj],fun j _=>by simp,hlen▸h,r',.refl⟩
 ·rintro n L a' w' i o d ⟨listed,st',E',hL,hhi,hk,hr,hat⟩ ho hd hLi hpre
  have hi:=(Array.getElem?_eq_some_iff.1 ho).1;obtain ⟨t,ht,et⟩:=hto i o ho;have hmem:=List.mem_of_getElem? ht;have hli:listed.testBit i=false:=(hL i hi).symm.trans hLi;have hp:d.preds &&& listed=d.preds:=by
   apply Nat.eq_of_testBit_eq;intro j;rw [Nat.testBit_and];cases hj:d.preds.testBit j with
   | false=>rfl
   | true=>
    have h1:=hpre j hj;have hjl:j<ops.size:=by
     obtain ⟨e,he,hb,h2 | ⟨d',h3,h4⟩⟩:=ha i o d ho hd j hj
     ·have:=hdown i o ho e he hb;omega
     ·have low:∀(i:Nat) (d:XD) (k:Nat),ds[i]? = some d->d.preds.testBit k=true->k<i:=by
       intro i
       induction i using Nat.strongRecOn with
       | _ i ih=>
        intro d k hd hk;have hi:i<ops.size:=by have:=(List.getElem?_eq_some_iff.1 hd).1;omega
        obtain ⟨e,he,hb,h | ⟨d',h3,h4⟩⟩:=ha i _ d (Array.getElem?_eq_getElem hi) hd k hk
        ·rw [h];exact hdown i _ (Array.getElem?_eq_getElem hi) e he hb
        ·have h5:=hdown i _ (Array.getElem?_eq_getElem hi) e he hb;have:=ih e.on h5 d' k h3 h4;omega
      have:=low i d j hd hj;omega
    rw [←hL j hjl,h1];rfl
  have hstep:=zNB (i0:=0) hk i t d ht hd (by rw [Nat.zero_add];exact hli) hp
  rw [Nat.zero_add] at hstep;refine zLA htb hG hm ho et (fun dd hdd=>?_) (hok t hmem) (hth t hmem) (hpn t hmem) hstep hr fun st2 E2 w2 a2 hk2 hr2 hat2=>⟨listed ||| 2 ^ i,st2,E2,fun j hj=>?_,fun j hj=>?_,hk2,hr2,hat.trans hat2⟩
  ·have h1:=List.all_eq_true.1 hdst _ (List.mem_map_of_mem (f:=TOp.o) hmem);rw [et,zAH,hdd] at h1
   simpa [Nat.blt_eq] using h1
  ·rw [Nat.testBit_or,←hL j hj,Nat.testBit_two_pow];congr 1;by_cases hji:i=j
   ·subst hji;simp
   ·have:¬j=i:=fun h=>hji h.symm
    simp [hji,this]
  ·rw [Nat.testBit_or,hhi j hj,Nat.testBit_two_pow];have:¬i=j:=by omega
   simp [this]
 ·intro k dk hk;by_cases hkl:k<ops.size
  ·simp [hkl] at hk
  ·simp [hkl] at hk
end
end Go.Sy
namespace Go.Sy
theorem zLB:∀{ts:List TOp} {ds:List XD},zFW ts ds=true->∀(i:Nat) t d,ts[i]? = some t->ds[i]? = some d->(∀x∈zGV t.o.op.opnds,x∈d.looks)/\∀g b,t.o.guard=some (g,b)->g∈d.looks
 | [],ds,h,i,t,d,ht,hd=>by simp at ht
 | o::r,[],h,i,t,d,ht,hd=>by simp at hd
 | o::r,d0::ds,h,i,t,d,ht,hd=>by
  simp only [zFW,Bool.and_eq_true] at h;have mem:∀{n:Nat} {l:List Nat},inN n l=true->n∈l:=by
   intro n l
   induction l with
   | nil=>intro h;cases h
   | cons a r ih=>
    intro h;simp only [inN] at h;split at h
    ·rename_i e;rw [zb e];exact .head _
    ·exact .tail _ (ih h)
  cases i with
  | zero=>
   simp at ht hd;subst ht;subst hd;refine ⟨fun x hx=>mem (List.all_eq_true.1 h.1.1 x hx),fun g b hg=>?_⟩
   have:=h.1.2;rw [hg] at this;exact mem this
  | succ i=>exact zLB h.2 i t d (by simpa using ht) (by simpa using hd)
structure SeqQ (ts:List TOp) (ds:List XD) (i0:Nat) (bars hard rds:List Nat):Prop where
 b:∀(i:Nat) t d,ts[i]? = some t->ds[i]? = some d->2<=clsQ t->(∀c∈bars,d.preds.testBit c=true)/\∀(j:Nat) t',j<i->ts[j]? = some t'->2<=clsQ t'->d.preds.testBit (i0+j)=true
 h:∀(i:Nat) t d,ts[i]? = some t->ds[i]? = some d->clsQ t=1->(∀c∈hard,d.preds.testBit c=true)/\∀(j:Nat) t',j<i->ts[j]? = some t'->3<=clsQ t'->d.preds.testBit (i0+j)=true
 r:∀(i:Nat) t d,ts[i]? = some t->ds[i]? = some d->3<=clsQ t->(∀c∈rds,d.preds.testBit c=true)/\∀(j:Nat) t',j<i->ts[j]? = some t'->clsQ t'=1->d.preds.testBit (i0+j)=true
theorem zGB:∀{ts:List TOp} {ds:List XD} {i0:Nat} {bars hard rds:List Nat},seqQ i0 bars hard rds ts ds=true->SeqQ ts ds i0 bars hard rds
 | [],ds,i0,bars,hard,rds,h=>⟨fun i t d ht=>by simp at ht,fun i t d ht=>by simp at ht,fun i t d ht=>by simp at ht⟩
 | t0::r,[],i0,bars,hard,rds,h=>by cases h
 | t0::r,d0::ds,i0,bars,hard,rds,h=>by
  have sh:∀j,i0+(j+1)=i0+1+j:=fun j=>by omega
  simp only [seqQ] at h;split at h
  ·rename_i hc;have q:=zGB h;refine ⟨fun i t d ht hd hcl=>?_,fun i t d ht hd hcl=>?_,fun i t d ht hd hcl=>?_⟩
   ·cases i with
    | zero=>simp at ht;subst ht;rw [hc] at hcl;omega
    | succ i=>
     obtain ⟨q1,q2⟩:=q.b i t d (by simpa using ht) (by simpa using hd) hcl
     refine ⟨q1,fun j t' hj ht' hcl'=>?_⟩
     cases j with
     | zero=>simp at ht';subst ht';rw [hc] at hcl';omega
     | succ j=>rw [sh];exact q2 j t' (by omega) (by simpa using ht') hcl'
   ·cases i with
    | zero=>simp at ht;subst ht;rw [hc] at hcl;omega
    | succ i=>
     obtain ⟨q1,q2⟩:=q.h i t d (by simpa using ht) (by simpa using hd) hcl
     refine ⟨q1,fun j t' hj ht' hcl'=>?_⟩
     cases j with
     | zero=>simp at ht';subst ht';rw [hc] at hcl';omega
     | succ j=>rw [sh];exact q2 j t' (by omega) (by simpa using ht') hcl'
   ·cases i with
    | zero=>simp at ht;subst ht;rw [hc] at hcl;omega
    | succ i=>
     obtain ⟨q1,q2⟩:=q.r i t d (by simpa using ht) (by simpa using hd) hcl
     refine ⟨q1,fun j t' hj ht' hcl'=>?_⟩
     cases j with
     | zero=>simp at ht';subst ht';rw [hc] at hcl';omega
     | succ j=>rw [sh];exact q2 j t' (by omega) (by simpa using ht') hcl'
  ·rename_i hc;rw [Bool.and_eq_true] at h;have q:=zGB h.2;refine ⟨fun i t d ht hd hcl=>?_,fun i t d ht hd hcl=>?_,fun i t d ht hd hcl=>?_⟩
   ·cases i with
    | zero=>simp at ht;subst ht;rw [hc] at hcl;omega
    | succ i=>
     obtain ⟨q1,q2⟩:=q.b i t d (by simpa using ht) (by simpa using hd) hcl
     refine ⟨q1,fun j t' hj ht' hcl'=>?_⟩
     cases j with
     | zero=>simp at ht';subst ht';rw [hc] at hcl';omega
     | succ j=>rw [sh];exact q2 j t' (by omega) (by simpa using ht') hcl'
   ·cases i with
    | zero=>
     simp at ht hd;subst ht;subst hd;exact ⟨fun c hcm=>List.all_eq_true.1 h.1 c hcm,fun j t' hj=>by omega⟩
    | succ i=>
     obtain ⟨q1,q2⟩:=q.h i t d (by simpa using ht) (by simpa using hd) hcl
     refine ⟨q1,fun j t' hj ht' hcl'=>?_⟩
     cases j with
     | zero=>simp at ht';subst ht';rw [hc] at hcl';omega
     | succ j=>rw [sh];exact q2 j t' (by omega) (by simpa using ht') hcl'
   ·cases i with
    | zero=>simp at ht;subst ht;rw [hc] at hcl;omega
    | succ i=>
     obtain ⟨q1,q2⟩:=q.r i t d (by simpa using ht) (by simpa using hd) hcl
     refine ⟨fun c hcm=>q1 c (.tail _ hcm),fun j t' hj ht' hcl'=>?_⟩
     cases j with
     | zero=>exact q1 i0 (.head _)
     | succ j=>rw [sh];exact q2 j t' (by omega) (by simpa using ht') hcl'
  ·rename_i hc;rw [Bool.and_eq_true] at h;have q:=zGB h.2;refine ⟨fun i t d ht hd hcl=>?_,fun i t d ht hd hcl=>?_,fun i t d ht hd hcl=>?_⟩
   ·cases i with
    | zero=>
     simp at ht hd;subst ht;subst hd;exact ⟨fun c hcm=>List.all_eq_true.1 h.1 c hcm,fun j t' hj=>by omega⟩
    | succ i=>
     obtain ⟨q1,q2⟩:=q.b i t d (by simpa using ht) (by simpa using hd) hcl
     refine ⟨fun c hcm=>q1 c (.tail _ hcm),fun j t' hj ht' hcl'=>?_⟩
     cases j with
     | zero=>exact q1 i0 (.head _)
     | succ j=>rw [sh];exact q2 j t' (by omega) (by simpa using ht') hcl'
   ·cases i with
    | zero=>simp at ht;subst ht;rw [hc] at hcl;omega
    | succ i=>
     obtain ⟨q1,q2⟩:=q.h i t d (by simpa using ht) (by simpa using hd) hcl
     refine ⟨q1,fun j t' hj ht' hcl'=>?_⟩
     cases j with
     | zero=>simp at ht';subst ht';rw [hc] at hcl';omega
     | succ j=>rw [sh];exact q2 j t' (by omega) (by simpa using ht') hcl'
   ·cases i with
    | zero=>simp at ht;subst ht;rw [hc] at hcl;omega
    | succ i=>
     obtain ⟨q1,q2⟩:=q.r i t d (by simpa using ht) (by simpa using hd) hcl
     refine ⟨q1,fun j t' hj ht' hcl'=>?_⟩
     cases j with
     | zero=>simp at ht';subst ht';rw [hc] at hcl';omega
     | succ j=>rw [sh];exact q2 j t' (by omega) (by simpa using ht') hcl'
  ·rename_i hc0 hc1 hc2;simp only [Bool.and_eq_true] at h;have q:=zGB h.2;refine ⟨fun i t d ht hd hcl=>?_,fun i t d ht hd hcl=>?_,fun i t d ht hd hcl=>?_⟩
   ·cases i with
    | zero=>
     simp at ht hd;subst ht;subst hd;exact ⟨fun c hcm=>List.all_eq_true.1 h.1.1 c hcm,fun j t' hj=>by omega⟩
    | succ i=>
     obtain ⟨q1,q2⟩:=q.b i t d (by simpa using ht) (by simpa using hd) hcl
     refine ⟨fun c hcm=>q1 c (.tail _ hcm),fun j t' hj ht' hcl'=>?_⟩
     cases j with
     | zero=>exact q1 i0 (.head _)
     | succ j=>rw [sh];exact q2 j t' (by omega) (by simpa using ht') hcl'
   ·cases i with
    | zero=>simp at ht;subst ht;exact absurd hcl hc1
    | succ i=>
     obtain ⟨q1,q2⟩:=q.h i t d (by simpa using ht) (by simpa using hd) hcl
     refine ⟨fun c hcm=>q1 c (.tail _ hcm),fun j t' hj ht' hcl'=>?_⟩
     cases j with
     | zero=>exact q1 i0 (.head _)
     | succ j=>rw [sh];exact q2 j t' (by omega) (by simpa using ht') hcl'
   ·cases i with
    | zero=>
     simp at ht hd;subst ht;subst hd;exact ⟨fun c hcm=>List.all_eq_true.1 h.1.2 c hcm,fun j t' hj=>by omega⟩
    | succ i=>
     obtain ⟨q1,q2⟩:=q.r i t d (by simpa using ht) (by simpa using hd) hcl
     refine ⟨q1,fun j t' hj ht' hcl'=>?_⟩
     cases j with
     | zero=>simp at ht';subst ht';exact absurd hcl' hc1
     | succ j=>rw [sh];exact q2 j t' (by omega) (by simpa using ht') hcl'
structure SameQ (fr fr':Fr) (s0 s:Sta):Prop where
 H:s.H=s0.H
 V:s.V=s0.V
 m:s.m=s0.m
 mv:s.mv=s0.mv
 f0:∀t,s0.fr.get t=fr.get t
 f:∀t,s.fr.get t=fr'.get t
section
variable {G:Cx} {tb:TblS} {fr fr':Fr} {H H2:Heap} {V V2:Vecs} {m m2 mv mv2:Nat} {C C':AV->Sta->Prop}
theorem zVy {o o':XO} (e:xoS G ze fr H m o=xoS G ze fr' H m o') (hC:∀v s0 s,C v s0->SameQ fr fr' s0 s->C' v s) (h:WXd ⟨fr,H,V,m,mv⟩ (xoS G ze fr H m o) C):WXd ⟨fr',H,V,m,mv⟩ (xoS G ze fr' H m o') C':=by
 rw [←e];unfold WXd at h ⊢;split at h
 ·exact hC _ _ _ h ⟨rfl,rfl,rfl,rfl,fun _=>rfl,fun _=>rfl⟩
 ·exact h.elim
theorem zGt {n:Int} {lo hi:Option AV} {k k':Int->Int->Prop} (h:zGz n lo hi k) (hk:∀l u,k l u->k' l u):zGz n lo hi k':=by
 cases lo with
 | none=>
  cases hi with
  | none=>exact hk _ _ h
  | some u=>cases u <;> first | exact ⟨h.1,hk _ _ h.2⟩ | exact h.elim
 | some l=>
  cases l with
  | int kl l=>
   cases hi with
   | none=>exact ⟨h.1,hk _ _ h.2⟩
   | some u=>cases u <;> first | exact ⟨h.1,hk _ _ h.2⟩ | exact h.elim
  | _=>exact h.elim
theorem zCM {n:Int}:∀{l:Nat} {k k':Nat->Prop},zFU n l k->(∀m,k m->k' m)->zFU n l k'
 | 0,k,k',h,hk=>trivial
 | l+1,k,k',h,hk=>⟨zCM h.1 hk,fun e=>hk _ (h.2 e)⟩
theorem zFZ {f:Nat} {args:List AV} {k k':AV->Prop}:∀{tb:TblS},zEB tb f args k->(∀v,k v->k' v)->zEB tb f args k'
 | [],h,_=>h.elim
 | s::r,h,hk=>by
  simp only [zEB] at h ⊢;cases e:Nat.beq f s.1 with
  | true=>
   rw [e] at h;refine ⟨h.1,?_⟩
   have:=h.2;cases hv:s.2.2 args with
   | some v=>rw [hv] at this;exact hk _ this
   | none=>rw [hv] at this;exact this.elim
  | false=>
   rw [e] at h;exact zFZ h hk
theorem zOO {f:Nat} {vs:List AV} (hC:∀v s0 s,C v s0->SameQ fr fr' s0 s->C' v s) (h:wcall tb f vs ⟨fr,H,V,m,mv⟩ C):wcall tb f vs ⟨fr',H,V,m,mv⟩ C':=by
 have mk:∀{v:AV},C v ⟨fr,H,V,m,mv⟩->C' v ⟨fr',H,V,m,mv⟩:=fun h=>hC _ _ _ h ⟨rfl,rfl,rfl,rfl,fun _=>rfl,fun _=>rfl⟩
 unfold wcall at h ⊢;cases hh:vs.any (hasH 8) with
 | false=>rw [hh] at h;exact zFZ h fun v h=>mk h
 | true=>
  rw [hh] at h;simp only at h ⊢;cases hm:zp (frz H V 8) vs with
  | none=>rw [hm] at h;exact h.elim
  | some args=>
   rw [hm] at h;refine zFZ h fun v h=>?_
   cases hs:zAM 8 v with
   | true=>rw [hs] at h;exact mk h
   | false=>rw [hs] at h;exact h.elim
theorem zVz {o:XO} {ks:List K} (he:∀x∈o.opnds,x.ev G fr=x.ev G fr') (hC:∀v s0 s,C v s0->SameQ fr fr' s0 s->C' v s) (h:wop G tb ⟨fr,H,V,m,mv⟩ o ks C):wop G tb ⟨fr',H,V,m,mv⟩ o ks C':=by
 have mk:∀{v:AV} {H':Heap} {V':Vecs} {m' mv':Nat},C v ⟨fr,H',V',m',mv'⟩->C' v ⟨fr',H',V',m',mv'⟩:=fun h=>hC _ _ _ h ⟨rfl,rfl,rfl,rfl,fun _=>rfl,fun _=>rfl⟩
 have dflt:∀{o':XO},(∀x∈o'.opnds,x.ev G fr=x.ev G fr')->WXd ⟨fr,H,V,m,mv⟩ (xoS G ze fr H m o') C->WXd ⟨fr',H,V,m,mv⟩ (xoS G ze fr' H m o') C':=fun he h=>zVy (by rw [←zFP,←zFP];exact zOx he) hC h
 cases o <;> try (exact h.elim)
 all_goals try (exact dflt he h)
 case idxA x i l sz ag=>
  cases ks with
  | nil=>exact dflt he h
  | cons k0 ks=>
   simp only [wop] at h ⊢;rw [←he i (by simp [XO.opnds])]
   split at h
   ·exact ⟨h.1,zCM h.2 fun m' hm=>dflt (fun y hy=>by
     simp only [XO.opnds,List.mem_append,List.mem_singleton] at hy;rcases hy with rfl | rfl
     ·exact he _ (by simp [XO.opnds])
     ·rfl) hm⟩
   ·exact h.elim
 case iaddrA x i l sz=>
  cases ks with
  | nil=>exact dflt he h
  | cons k0 ks=>
   simp only [wop] at h ⊢;rw [←he i (by simp [XO.opnds])]
   split at h
   ·exact ⟨h.1,zCM h.2 fun m' hm=>dflt (fun y hy=>by
     simp only [XO.opnds,List.mem_append,List.mem_singleton] at hy;rcases hy with rfl | rfl
     ·exact he _ (by simp [XO.opnds])
     ·rfl) hm⟩
   ·exact h.elim
 case pick c a b=>
  have e1:=he c (by simp [XO.opnds])
  have e2:=he a (by simp [XO.opnds])
  have e3:=he b (by simp [XO.opnds])
  simp only [wop] at h ⊢;rw [←e1];split at h
  ·rename_i cb hcb;split at h
   ·rename_i n;have hg:fr.get n=some (.bool cb):=hcb;have hg':fr'.get n=some (.bool cb):=e1.symm.trans hcb;rcases zCx h with ⟨rfl,h⟩ | ⟨rfl,h⟩
    ·simp only [Br,←e2];cases hv:a.ev G fr with
     | some v=>
      rw [hv] at h;exact hC _ _ _ h ⟨rfl,rfl,rfl,rfl,fun t=>by simp only [put_same hg],fun t=>by simp only [put_same hg']⟩
     | none=>rw [hv] at h;exact h.elim
    ·simp only [Br,←e3];cases hv:b.ev G fr with
     | some v=>
      rw [hv] at h;exact hC _ _ _ h ⟨rfl,rfl,rfl,rfl,fun t=>by simp only [put_same hg],fun t=>by simp only [put_same hg']⟩
     | none=>rw [hv] at h;exact h.elim
   ·rename_i hne;cases c with
    | t n=>exact absurd rfl (hne n)
    | _=>exact dflt he h
  ·exact h.elim
 case bin op x y=>
  have e1:=he x (by simp [XO.opnds])
  have e2:=he y (by simp [XO.opnds])
  have hd:=fun h=>dflt (o':=.bin op x y) he h
  simp only [wop] at h ⊢;rw [←e1,←e2];split at h
  ·rename_i s1 hx;cases op with
   | add=>
    simp only at h ⊢;split at h
    ·exact ⟨h.1,mk h.2⟩
    ·exact h.elim
   | _=>exact hd h
  ·rename_i k1 n1 hx;cases op with
   | quo=>
    simp only at h ⊢;split at h
    ·split at h
     ·exact ⟨h.1,mk h.2⟩
     ·exact h.elim
    ·exact h.elim
   | rem=>
    simp only at h ⊢;split at h
    ·split at h
     ·exact ⟨h.1,mk h.2⟩
     ·exact h.elim
    ·exact h.elim
   | shl=>
    simp only at h ⊢;split at h
    ·exact ⟨h.1,mk h.2⟩
    ·exact h.elim
   | shr=>
    simp only at h ⊢;split at h
    ·exact ⟨h.1,mk h.2⟩
    ·exact h.elim
   | _=>exact hd h
  ·exact h.elim
 case aeq neg kd x y=>
  simp only [wop] at h ⊢;rw [←he x (by simp [XO.opnds]),←he y (by simp [XO.opnds])]
  split at h
  ·split at h
   ·split at h
    ·exact mk h
    ·exact h.elim
   ·exact h.elim
  ·exact h.elim
 case idxS x i=>
  simp only [wop] at h ⊢;rw [←he x (by simp [XO.opnds]),←he i (by simp [XO.opnds])]
  split at h
  ·split at h
   ·obtain ⟨c,h1,h2⟩:=h;exact ⟨c,h1,mk h2⟩
   ·exact h.elim
  ·exact h.elim
 case slcS x lo hi=>
  have e1:evo G fr lo=evo G fr' lo:=zBi fun y hy=>he y (by simp [XO.opnds,hy])
  have e2:evo G fr hi=evo G fr' hi:=zBi fun y hy=>he y (by simp [XO.opnds,hy])
  simp only [wop] at h ⊢;rw [←he x (by simp [XO.opnds]),←e1,←e2]
  split at h
  ·split at h
   ·split at h
    ·exact zGt h fun l u h=>mk h
    ·exact h.elim
   ·exact h.elim
  ·exact h.elim
 case slcL x lo hi mx sz=>
  have e1:evo G fr lo=evo G fr' lo:=zBi fun y hy=>he y (by simp [XO.opnds,hy])
  have e2:evo G fr hi=evo G fr' hi:=zBi fun y hy=>he y (by simp [XO.opnds,hy])
  have hd:=fun h=>dflt (o':=.slcL x lo hi mx sz) he h
  simp only [wop] at h ⊢;rw [←he x (by simp [XO.opnds]),←e1,←e2]
  split at h
  ·split at h
   ·split at h
    ·split at h
     ·split at h
      ·exact zGt h fun l u h=>mk h
      ·exact h.elim
     ·exact h.elim
    ·exact h.elim
   ·exact h.elim
  ·exact hd h
  ·exact h.elim
 case iaddrS x i sz=>
  simp only [wop] at h ⊢;rw [←he x (by simp [XO.opnds]),←he i (by simp [XO.opnds])]
  split at h
  ·split at h
   ·split at h
    ·obtain ⟨v,h1,h2⟩:=h;exact ⟨v,h1,mk h2⟩
    ·exact h.elim
   ·exact h.elim
  ·split at h
   ·split at h
    ·split at h
     ·exact ⟨h.1,mk h.2⟩
     ·exact h.elim
    ·exact h.elim
   ·exact h.elim
  ·split at h
   ·exact ⟨h.1,zCM h.2 fun m' hm=>dflt (fun y hy=>by
     simp only [XO.opnds,List.mem_append,List.mem_singleton] at hy;rcases hy with rfl | rfl
     ·exact he _ (by simp [XO.opnds])
     ·rfl) hm⟩
   ·exact h.elim
  ·exact h.elim
 case lenL x=>
  have hd:=fun h=>dflt (o':=.lenL x) he h
  simp only [wop] at h ⊢;rw [←he x (by simp [XO.opnds])]
  split at h
  ·split at h
   ·exact mk h
   ·exact h.elim
  ·exact hd h
 case load x sz ag=>
  have hd:=fun h=>dflt (o':=.load x sz ag) he h
  simp only [wop] at h ⊢;rw [←he x (by simp [XO.opnds])]
  split at h
  ·split at h
   ·split at h
    ·obtain ⟨v,h1,h2⟩:=h;exact ⟨v,h1,mk h2⟩
    ·exact h.elim
   ·exact h.elim
  ·exact hd h
 case faddr x f=>
  have hd:=fun h=>dflt (o':=.faddr x f) he h
  simp only [wop] at h ⊢;rw [←he x (by simp [XO.opnds])]
  split at h
  ·split at h
   ·split at h
    ·exact mk h
    ·exact h.elim
   ·exact h.elim
  ·exact hd h
 case store x y sz=>
  have hd:=fun h=>dflt (o':=.store x y sz) he h
  simp only [wop] at h ⊢;rw [←he x (by simp [XO.opnds]),←he y (by simp [XO.opnds])]
  split at h
  ·split at h
   ·split at h
    ·split at h
     ·split at h
      ·split at h
       ·exact mk h
       ·exact h.elim
      ·exact h.elim
     ·exact h.elim
    ·exact h.elim
   ·exact h.elim
  ·exact hd h
 case s2b x=>
  simp only [wop] at h ⊢;rw [←he x (by simp [XO.opnds])]
  split at h
  ·exact mk h
  ·exact h.elim
 case b2s x=>
  simp only [wop] at h ⊢;rw [←he x (by simp [XO.opnds])]
  split at h
  ·split at h
   ·split at h
    ·obtain ⟨v,h1,h2⟩:=h;exact ⟨v,h1,mk h2⟩
    ·exact h.elim
   ·exact h.elim
  ·split at h
   ·obtain ⟨v,h1,h2⟩:=h;exact ⟨v,h1,mk h2⟩
   ·exact h.elim
  ·exact mk h
  ·exact h.elim
 case bslice len sz z ps=>
  cases ks with
  | cons k0 ks=>exact dflt he h
  | nil=>
   have e1:fillx G fr z ps=fillx G fr' z ps:=zGr fun y hy=>he y (by simp only [XO.opnds];exact hy)
   simp only [wop] at h ⊢;rw [←e1];split at h
   ·split at h
    ·split at h
     ·split at h
      ·exact mk h
      ·exact h.elim
     ·exact h.elim
    ·exact h.elim
   ·exact h.elim
 case mkslice l c sz bytes z=>
  simp only [wop] at h ⊢;rw [←he l (by simp [XO.opnds]),←he c (by simp [XO.opnds])]
  split at h
  ·split at h
   ·split at h
    ·exact ⟨h.1,mk h.2⟩
    ·exact h.elim
   ·exact h.elim
  ·exact h.elim
 case append x y sz bytes=>
  simp only [wop] at h ⊢;rw [←he x (by simp [XO.opnds]),←he y (by simp [XO.opnds])]
  split at h
  ·exact h.elim
  ·split at h
   ·split at h
    ·split at h
     ·split at h
      ·split at h
       ·exact ⟨h.1,mk h.2⟩
       ·split at h
        ·split at h
         ·exact ⟨h.1,mk h.2⟩
         ·exact h.elim
        ·exact h.elim
       ·exact h.elim
      ·exact h.elim
     ·exact h.elim
    ·exact h.elim
   ·exact h.elim
 case mkmap=>exact mk h
 case lookup ag kd mm x z ok=>
  simp only [wop] at h ⊢;rw [←he mm (by simp [XO.opnds]),←he x (by simp [XO.opnds])]
  split at h
  ·split at h
   ·split at h
    ·split at h
     ·obtain ⟨v,h1,h2⟩:=h;exact ⟨v,h1,mk h2⟩
     ·exact h.elim
    ·exact h.elim
   ·exact h.elim
  ·exact h.elim
 case mupd ag kd mm x y=>
  simp only [wop] at h ⊢;rw [←he mm (by simp [XO.opnds]),←he x (by simp [XO.opnds]),←he y (by simp [XO.opnds])]
  split at h
  ·split at h
   ·split at h
    ·split at h
     ·split at h
      ·obtain ⟨v,h1,h2⟩:=h;exact ⟨v,h1,mk h2⟩
      ·exact h.elim
     ·exact h.elim
    ·exact h.elim
   ·exact h.elim
  ·exact h.elim
 case call f xs=>
  have e1:evs G fr xs=evs G fr' xs:=zB0 fun y hy=>he y (by simp [XO.opnds,hy])
  simp only [wop] at h ⊢;rw [←e1];split at h
  ·exact zOO hC h
  ·exact h.elim
 case callv fx xs=>
  have e1:evs G fr xs=evs G fr' xs:=zB0 fun y hy=>he y (by simp [XO.opnds,hy])
  simp only [wop] at h ⊢;rw [←he fx (by simp [XO.opnds]),←e1]
  split at h
  ·split at h
   ·exact zOO hC h
   ·exact h.elim
  ·exact h.elim
theorem zRA {o:XO} (hk:zI o=0) {v:AV} {H':Heap} {n:Nat} (h:xoS G ze fr H m o=some (v,H',n)):H'=H/\n=m/\∀H2 m2,xoS G ze fr H2 m2 o=some (v,H2,m2):=by
 cases o <;> first | (simp [zI] at hk;done) | (simp only [xoS] at h ⊢;repeat' split at h) <;> first | (cases h;done) | (cases h;simp_all;done) | (cases h;simp_all;omega)
theorem zRB {o:XO} {ks:List K} (hk:zI o=0) (hl:∀x,o≠.lenL x) (hC:∀v s,C v s->s.mv=mv) (hC':∀v f,C v ⟨f,H,V,m,mv⟩->C' v ⟨f,H2,V2,m2,mv2⟩) (h:wop G tb ⟨fr,H,V,m,mv⟩ o ks C):wop G tb ⟨fr,H2,V2,m2,mv2⟩ o ks C':=by
 have mk:∀{v:AV} {f:Fr},C v ⟨f,H,V,m,mv⟩->C' v ⟨f,H2,V2,m2,mv2⟩:=fun h=>hC' _ _ h
 have dflt:∀{o':XO},zI o'=0->WXd ⟨fr,H,V,m,mv⟩ (xoS G ze fr H m o') C->WXd ⟨fr,H2,V2,m2,mv2⟩ (xoS G ze fr H2 m2 o') C':=fun hk h=>by
  unfold WXd at h;split at h
  ·rename_i v H' n e;obtain ⟨rfl,rfl,e2⟩:=zRA hk e;unfold WXd;rw [e2 H2 m2];exact mk h
  ·exact h.elim
 cases o <;> try (exact h.elim)
 all_goals try (simp [zI] at hk;done)
 all_goals try (exact dflt hk h)
 case idxA x i l sz ag=>
  cases ks with
  | nil=>exact dflt hk h
  | cons k0 ks=>
   simp only [wop] at h ⊢;split at h
   ·exact ⟨h.1,zCM h.2 fun m' hm=>dflt rfl hm⟩
   ·exact h.elim
 case iaddrA x i l sz=>
  cases ks with
  | nil=>exact dflt hk h
  | cons k0 ks=>
   simp only [wop] at h ⊢;split at h
   ·exact ⟨h.1,zCM h.2 fun m' hm=>dflt rfl hm⟩
   ·exact h.elim
 case pick c a b=>
  have hd:=fun h=>dflt (o':=.pick c a b) rfl h
  simp only [wop] at h ⊢;split at h
  ·rename_i cb hcb;split at h
   ·rename_i n;rcases zCx h with ⟨rfl,h⟩ | ⟨rfl,h⟩
    ·simp only [Br];cases hv:a.ev G fr with
     | some v=>rw [hv] at h;exact mk h
     | none=>rw [hv] at h;exact h.elim
    ·simp only [Br];cases hv:b.ev G fr with
     | some v=>rw [hv] at h;exact mk h
     | none=>rw [hv] at h;exact h.elim
   ·exact hd h
  ·exact h.elim
 case bin op x y=>
  have hd:=fun h=>dflt (o':=.bin op x y) rfl h
  simp only [wop] at h ⊢;split at h
  ·cases op with
   | add=>
    simp only at h ⊢;split at h
    ·exact ⟨h.1,mk h.2⟩
    ·exact h.elim
   | _=>exact hd h
  ·cases op with
   | quo=>
    simp only at h ⊢;split at h
    ·split at h
     ·exact ⟨h.1,mk h.2⟩
     ·exact h.elim
    ·exact h.elim
   | rem=>
    simp only at h ⊢;split at h
    ·split at h
     ·exact ⟨h.1,mk h.2⟩
     ·exact h.elim
    ·exact h.elim
   | shl=>
    simp only at h ⊢;split at h
    ·exact ⟨h.1,mk h.2⟩
    ·exact h.elim
   | shr=>
    simp only at h ⊢;split at h
    ·exact ⟨h.1,mk h.2⟩
    ·exact h.elim
   | _=>exact hd h
  ·exact h.elim
 case aeq neg kd x y=>
  simp only [wop] at h ⊢;split at h
  ·split at h
   ·split at h
    ·exact mk h
    ·exact h.elim
   ·exact h.elim
  ·exact h.elim
 case idxS x i=>
  simp only [wop] at h ⊢;split at h
  ·split at h
   ·obtain ⟨c,h1,h2⟩:=h;exact ⟨c,h1,mk h2⟩
   ·exact h.elim
  ·exact h.elim
 case slcS x lo hi=>
  simp only [wop] at h ⊢;split at h
  ·split at h
   ·split at h
    ·exact zGt h fun l u h=>mk h
    ·exact h.elim
   ·exact h.elim
  ·exact h.elim
 case slcL x lo hi mx sz=>
  have hd:=fun h=>dflt (o':=.slcL x lo hi mx sz) rfl h
  simp only [wop] at h ⊢;split at h
  ·split at h
   ·split at h
    ·split at h
     ·split at h
      ·exact zGt h fun l u h=>mk h
      ·exact h.elim
     ·exact h.elim
    ·exact h.elim
   ·exact h.elim
  ·exact hd h
  ·exact h.elim
 case iaddrS x i sz=>
  simp only [wop] at h ⊢;split at h
  ·split at h
   ·split at h
    ·obtain ⟨v,h1,h2⟩:=h;exact ⟨v,h1,mk h2⟩
    ·exact h.elim
   ·exact h.elim
  ·split at h
   ·split at h
    ·split at h
     ·exact absurd (show mv+1=mv from hC _ _ h.2) (by omega)
     ·exact h.elim
    ·exact h.elim
   ·exact h.elim
  ·split at h
   ·exact ⟨h.1,zCM h.2 fun m' hm=>dflt rfl hm⟩
   ·exact h.elim
  ·exact h.elim
 case lenL x=>exact absurd rfl (hl x)
 case faddr x f=>
  have hd:=fun h=>dflt (o':=.faddr x f) rfl h
  simp only [wop] at h ⊢;split at h
  ·split at h
   ·split at h
    ·exact absurd (show mv+1=mv from hC _ _ h) (by omega)
    ·exact h.elim
   ·exact h.elim
  ·exact hd h
structure Ext1 (H H2:Heap) (mv ms:Nat):Prop where
 g:∀h,h<ms->H2.get h=H.get h
 c:∀h str cs,h<ms->H.get h=some (.cells str cs)->∀c∈cs,CP mv ms c
theorem zUh {ms:Nat} (x:Ext1 H H2 mv ms):∀(d:Nat) {v:AV},CP mv ms v->frz H2 V d v=frz H V d v:=by
 intro d
 induction d with
 | zero=>intro v _;rfl
 | succ d ih=>
  intro v hc;have al:∀{l:List AV},(∀e∈l,CP mv ms e)->zp (frz H2 V d) l=zp (frz H V d) l:=by
   intro l
   induction l with
   | nil=>intro _;rfl
   | cons a r ihl=>intro hl;simp only [zp,ih (hl a (.head _)),ihl fun e he=>hl e (.tail _ he)]
  cases hc with
  | ptr h o hk=>
   simp only [frz,x.g h hk];cases hg:H.get h with
   | none=>rfl
   | some ob=>
    cases ob with
    | cells str cs=>simp only [al (x.c h str cs hk hg)]
    | _=>rfl
  | row h o l s c e hk=>simp only [frz,x.g h hk]
  | func f a b ha hb=>simp only [frz,al ha,al hb]
  | agg cs hcs=>simp only [frz,al hcs]
  | _=>rfl
def isS1:XO->Prop
 | .lenL _ | .load _ _ _ | .lookup _ _ _ _ _ _ | .call _ _ | .callv _ _=>True
 | _=>False
theorem zRC {o:XO} {ks:List K} {ms:Nat} (hG:GPP G) (hok:opOK o=true) (x:Ext1 H H2 mv ms) (hf:∀t v,XV.t t∈o.opnds->fr.get t=some v->CP mv ms v) (ho:isS1 o)
  (hC':∀v,C v ⟨fr,H,V,m,mv⟩->C' v ⟨fr,H2,V,m2,mv⟩) (h:wop G tb ⟨fr,H,V,m,mv⟩ o ks C):wop G tb ⟨fr,H2,V,m2,mv⟩ o ks C':=by
 have mk:∀{v:AV},C v ⟨fr,H,V,m,mv⟩->C' v ⟨fr,H2,V,m2,mv⟩:=fun h=>hC' _ h
 have cpo:∀{y:XV} {v:AV},y∈o.opnds->xvOK y=true->y.ev G fr=some v->CP mv ms v:=fun {y v} hy hyok hv=>by
  cases y with
  | t n=>exact hf n v hy hv
  | g n=>exact (hG n v hv).cp
  | c u=>
   have:u=v:=by simpa [XV.ev] using hv
   subst this;exact (zAt 12 hyok).cp
 have cps:∀{xs:List XV} {vs:List AV},(∀y∈xs,y∈o.opnds/\xvOK y=true)->evs G fr xs=some vs->∀v∈vs,CP mv ms v:=by
  intro xs
  induction xs with
  | nil=>intro vs _ e v hv;cases e;cases hv
  | cons y r ih=>
   intro vs hy e v hv;simp only [evs] at e;split at e
   ·rename_i u hu;split at e
    ·rename_i us hus;cases e;rcases List.mem_cons.1 hv with rfl | hv
     ·exact cpo (hy y (.head _)).1 (hy y (.head _)).2 hu
     ·exact ih (fun z hz=>hy z (.tail _ hz)) hus v hv
    ·cases e
   ·cases e
 have calls:∀{f:Nat} {vs:List AV},(∀v∈vs,CP mv ms v)->wcall tb f vs ⟨fr,H,V,m,mv⟩ C->wcall tb f vs ⟨fr,H2,V,m2,mv⟩ C':=fun {f vs} hcp h=>by
  have hfz:zp (frz H2 V 8) vs=zp (frz H V 8) vs:=by
   clear h
   induction vs with
   | nil=>rfl
   | cons a r ih=>simp only [zp,zUh x 8 (hcp a (.head _)),ih fun v hv=>hcp v (.tail _ hv)]
  unfold wcall at h ⊢;cases hh:vs.any (hasH 8) with
  | false=>rw [hh] at h;exact zFZ h fun v h=>mk h
  | true=>
   rw [hh] at h;simp only [hfz];simp only at h;split at h
   ·refine zFZ h fun v h=>?_
    split at h
    ·exact mk h
    ·exact h.elim
   ·exact h.elim
 cases o <;> try (exact (show False from ho).elim)
 case lenL y=>
  simp only [wop] at h ⊢;split at h
  ·split at h
   ·exact mk h
   ·exact h.elim
  ·unfold WXd at h;split at h
   ·rename_i v H' n e;obtain ⟨rfl,rfl,e2⟩:=zRA rfl e;unfold WXd;rw [e2 H2 m2];exact mk h
   ·exact h.elim
 case load y sz ag=>
  have hyok:xvOK y=true:=by simp only [opOK,XO.opnds,zH,Bool.and_true,List.all_cons,List.all_nil] at hok;exact hok
  simp only [wop] at h ⊢;split at h
  ·split at h
   ·split at h
    ·obtain ⟨v,h1,h2⟩:=h;exact ⟨v,h1,mk h2⟩
    ·exact h.elim
   ·exact h.elim
  ·unfold WXd at h;split at h
   ·rename_i v H' n e;have e':xoS G ze fr H2 m2 (.load y sz ag)=some (v,H2,m2)/\H'=H/\n=m:=by
     simp only [xoS] at e ⊢;cases hv:y.ev G fr with
     | none=>rw [hv] at e;cases e
     | some a=>
      rw [hv] at e;simp only at e ⊢;have hc:=cpo (by simp [XO.opnds]) hyok hv
      have hx:xload H2 sz ag a=xload H sz ag a:=by
       cases hc <;> first | rfl | (simp only [xload,x.g _ ‹_›];done) | skip
      rw [hx];split at e
      ·cases e;exact ⟨rfl,rfl,rfl⟩
      ·cases e
    obtain ⟨e1,rfl,rfl⟩:=e';unfold WXd;rw [e1];exact mk h
   ·exact h.elim
 case lookup ag kd mm y z ok=>
  simp only [wop] at h ⊢;split at h
  ·split at h
   ·split at h
    ·split at h
     ·obtain ⟨v,h1,h2⟩:=h;exact ⟨v,h1,mk h2⟩
     ·exact h.elim
    ·exact h.elim
   ·exact h.elim
  ·exact h.elim
 case call f xs=>
  have hok':xs.all xvOK=true:=by simp only [opOK,XO.opnds,zH,Bool.and_true] at hok;exact hok
  simp only [wop] at h ⊢;split at h
  ·rename_i vs hv;exact calls (cps (fun y hy=>⟨by simp only [XO.opnds];exact hy,List.all_eq_true.1 hok' y hy⟩) hv) h
  ·exact h.elim
 case callv fx xs=>
  have hok':xvOK fx=true/\xs.all xvOK=true:=by simp only [opOK,XO.opnds,zH,List.all_append,List.all_cons,List.all_nil,Bool.and_true,Bool.and_eq_true] at hok;exact hok
  simp only [wop] at h ⊢;split at h
  ·rename_i f first caps hf';split at h
   ·rename_i vs hv;refine calls (fun v hv'=>?_) h
    have hcf:=cpo (by simp [XO.opnds]) hok'.1 hf'
    cases hcf with
    | func _ _ _ q1 q2=>
     rcases List.mem_append.1 hv' with hx | hx
     ·rcases List.mem_append.1 hx with hx | hx
      ·exact q1 v hx
      ·exact cps (fun y hy=>⟨by simp [XO.opnds,hy],List.all_eq_true.1 hok'.2 y hy⟩) hv v hx
     ·exact q2 v hx
   ·exact h.elim
  ·exact h.elim
theorem zHw {h:Nat}:∀{g:List (Nat×Nat)} {H:Heap} {V:Vecs} {mv:Nat},growC h g ⟨fr',H,V,m,mv⟩=⟨fr',(growC h g ⟨fr,H,V,m,mv⟩).H,(growC h g ⟨fr,H,V,m,mv⟩).V,(growC h g ⟨fr,H,V,m,mv⟩).m,(growC h g ⟨fr,H,V,m,mv⟩).mv⟩/\(growC h g ⟨fr,H,V,m,mv⟩).fr=fr
 | [],H,V,mv=>⟨rfl,rfl⟩
 | (i,sz)::g,H,V,mv=>by
  simp only [growC];cases hg:H.get h with
  | none=>exact ⟨rfl,rfl⟩
  | some ob=>
   cases ob with
   | cells str cs=>
    simp only;cases hc:cs[i]? with
    | none=>exact zHw
    | some c=>
     cases c <;> simp only <;> (try exact zHw)
     all_goals
      split
      ·exact zHw
      ·exact zHw
   | _=>exact ⟨rfl,rfl⟩
theorem zSN {g:List (Nat×Nat)} {args:List AV}:growA g args ⟨fr',H,V,m,mv⟩=⟨fr',(growA g args ⟨fr,H,V,m,mv⟩).H,(growA g args ⟨fr,H,V,m,mv⟩).V,(growA g args ⟨fr,H,V,m,mv⟩).m,(growA g args ⟨fr,H,V,m,mv⟩).mv⟩/\(growA g args ⟨fr,H,V,m,mv⟩).fr=fr:=by
 unfold growA;split
 ·exact zHw
 ·exact ⟨rfl,rfl⟩
theorem zPx {hm sm:List Nat} {vs:List AV} {st st':Sta} {k k':List AV->Heap->Vecs->Prop} (eH:st'.H=st.H) (eV:st'.V=st.V) (h:zCb hm sm vs st k) (hk:∀a b c,k a b c->k' a b c):zCb hm sm vs st' k':=by
 unfold zCb at h ⊢;rw [eH,eV];split at h
 ·split at h
  ·split at h
   ·split at h
    ·exact hk _ _ _ h
    ·exact h.elim
   ·exact h.elim
  ·exact h.elim
 ·exact h.elim
theorem zNC {e:HEnt} {args:List AV} (hC:∀v s0 s,C v s0->SameQ fr fr' s0 s->C' v s) (h:zDx e args ⟨fr,H,V,m,mv⟩ C):zDx e args ⟨fr',H,V,m,mv⟩ C':=by
 obtain ⟨g1,g2⟩:=zSN (fr:=fr) (fr':=fr') (H:=H) (V:=V) (m:=m) (mv:=mv) (g:=e.grow) (args:=args);unfold zDx at h ⊢;rw [g1];generalize hs:growA e.grow args ⟨fr,H,V,m,mv⟩=s at *;unfold zHr at h ⊢;refine zPx (st:=s) rfl rfl h fun a b c hh=>⟨hh.1,?_⟩
 have:=hh.2;split at this
 ·refine hC _ _ _ this ?_
  unfold zGZ;cases inpl e.grow <;> exact ⟨rfl,rfl,rfl,rfl,fun t=>by rw [←g2],fun t=>rfl⟩
 ·exact this.elim
theorem zM6 {t:TOp} (he:∀x∈t.o.op.opnds,x.ev G fr=x.ev G fr') (hC:∀v s0 s,C v s0->SameQ fr fr' s0 s->C' v s) (h:wopT G tb ⟨fr,H,V,m,mv⟩ t C):wopT G tb ⟨fr',H,V,m,mv⟩ t C':=by
 unfold wopT at h ⊢;split at h
 ·exact zVz he hC h
 ·rename_i hs hth;unfold zKt at h ⊢;split at h
  ·rename_i f args hop;rw [hop] at he;have e1:evs G fr args=evs G fr' args:=zB0 fun y hy=>he y (by simp [XO.opnds,hy])
   simp only [←e1];cases hl:zG0 hs f with
   | none=>rw [hl] at h;exact h.elim
   | some e=>
    rw [hl] at h;simp only at h ⊢;cases hv:evs G fr args with
    | none=>rw [hv] at h;exact h.elim
    | some vs=>rw [hv] at h;exact zNC hC h
  ·rename_i fx args hop;rw [hop] at he;have e1:evs G fr args=evs G fr' args:=zB0 fun y hy=>he y (by simp [XO.opnds,hy])
   have e2:=he fx (by simp [XO.opnds])
   simp only [←e1,←e2];cases hf:fx.ev G fr with
   | none=>rw [hf] at h;exact h.elim
   | some fv=>
    rw [hf] at h;cases fv with
    | func fn first caps=>
     cases fn with
     | func f=>
      simp only at h ⊢;cases hl:zG0 hs f with
      | none=>rw [hl] at h;exact h.elim
      | some e=>
       rw [hl] at h;simp only at h ⊢;cases hv:evs G fr args with
       | none=>rw [hv] at h;exact h.elim
       | some vs=>rw [hv] at h;exact zNC hC h
     | _=>exact h.elim
    | _=>exact h.elim
  ·exact h.elim
end
theorem HV.refl (s:Sta):HV s s:=⟨rfl,rfl,rfl,rfl⟩
theorem HV.trans {a b c:Sta} (h:HV a b) (k:HV b c):HV a c:=⟨k.H.trans h.H,k.V.trans h.V,k.m.trans h.m,k.mv.trans h.mv⟩
theorem HV.symm {a b:Sta} (h:HV a b):HV b a:=⟨h.H.symm,h.V.symm,h.m.symm,h.mv.symm⟩
section
variable {G:Cx} {tb:TblS} {s s1 r:Sta} {t:TOp}
theorem cls1 (h0:t.h=none) (h:clsQ t=1):isS1 t.o.op:=by
 obtain ⟨⟨d,op,g⟩,ks,hh⟩:=t;simp only at h0;subst h0;simp only [clsQ] at h;cases op <;> first | trivial | (simp [zI] at h;done) | (simp only at h;split at h <;> cases h;done)
theorem cls0 (h0:t.h=none) (h:clsQ t=0):zI t.o.op=0/\∀x,t.o.op≠.lenL x:=by
 obtain ⟨⟨d,op,g⟩,ks,hh⟩:=t;simp only at h0;subst h0;simp only [clsQ] at h;cases op <;> first | (simp [zI] at h;done) | exact ⟨rfl,fun x e=>by cases e⟩ | (simp only at h;split at h <;> cases h;done)
structure Fit (G:Cx) (t:TOp) (s r:Sta):Prop where
 ag:∀g∈zGV t.o.op.opnds,r.fr.get g=s.fr.get g
 gd:∀g b,t.o.guard=some (g,b)->r.fr.get g=s.fr.get g
 c1:clsQ t=1->r.V=s.V/\r.mv=s.mv/\∃ms,Ext1 s.H r.H s.mv ms/\∀g v,XV.t g∈t.o.op.opnds->s.fr.get g=some v->CP s.mv ms v
 c2:2<=clsQ t->HV s r
theorem zRD (hG:GPP G) (hok:opOK t.o.op=true) (hf:Fit G t s r) {C C':AV->Sta->Prop} (hC:clsQ t<=1->∀v s0,C v s0->HV s s0)
  (hC':∀v s0 x,C v s0->(∀g,s0.fr.get g=s.fr.get g)->(∀g,x.fr.get g=r.fr.get g)->(clsQ t<=1->HV r x)->(2<=clsQ t->HV s0 x)->C' v x) (h:wopT G tb s t C):wopT G tb r t C':=by
 obtain ⟨fr,H,V,m,mv⟩:=s;obtain ⟨fr',H',V',m',mv'⟩:=r;have he:∀x∈t.o.op.opnds,x.ev G fr=x.ev G fr':=fun x hx=>by
  cases x with
  | t n=>exact (hf.ag n (zDd hx)).symm
  | _=>rfl
 by_cases hc:2<=clsQ t
 ·obtain ⟨e1,e2,e3,e4⟩:=hf.c2 hc;simp only at e1 e2 e3 e4;subst e1;subst e2;subst e3;subst e4;exact zM6 he (fun v s0 x h q=>hC' v s0 x h q.f0 q.f (fun h=>by omega) fun _=>⟨q.H,q.V,q.m,q.mv⟩) h
 ·have hle:clsQ t<=1:=by omega
  have h1:=zM6 (C':=fun v x=>∃s0,C v s0/\SameQ fr fr' s0 x) he (fun v s0 x h q=>⟨s0,h,q⟩) h
  have hnone:t.h=none:=by
   cases hh:t.h with
   | none=>rfl
   | some es=>unfold clsQ at hle;rw [hh] at hle;simp at hle
  unfold wopT at h1 ⊢;rw [hnone] at h1 ⊢;have fin:∀{v:AV} {f:Fr} {H2:Heap} {V2:Vecs} {m2 mv2:Nat},H2=H'->V2=V'->m2=m'->mv2=mv'->(∃s0,C v s0/\SameQ fr fr' s0 ⟨f,H,V,m,mv⟩)->C' v ⟨f,H2,V2,m2,mv2⟩:=fun {v f H2 V2 m2 mv2} q1 q2 q3 q4 ⟨s0,h,q⟩=>by
   subst q1;subst q2;subst q3;subst q4;exact hC' v s0 _ h q.f0 q.f (fun _=>⟨rfl,rfl,rfl,rfl⟩) fun h=>by omega
  by_cases h1':clsQ t=1
  ·obtain ⟨e2,e4,ms,ex,hcp⟩:=hf.c1 h1';simp only at e2 e4;subst e2;subst e4;refine zRC hG hok ex (fun g v hg hv=>hcp g v hg (by rw [←hv];exact (hf.ag g (zDd hg)).symm)) (cls1 hnone h1') (fun v h=>fin rfl rfl rfl rfl h) h1
  ·have h0:clsQ t=0:=by omega
   have hk:=cls0 hnone h0;refine zRB hk.1 hk.2 (fun v x ⟨s0,h,q⟩=>?_) (fun v f h=>fin rfl rfl rfl rfl h) h1
   rw [q.mv];exact (hC hle v s0 h).mv
theorem zQC (hG:GPP G) (hok:opOK t.o.op=true) (hf:Fit G t s r) (hs:clsQ t<=1->HV s s1) (h:zCU G tb s t (fun x=>x=s1)) {k:Sta->Prop}
  (hk:∀x,(clsQ t<=1->HV r x)->(2<=clsQ t->HV s1 x)->(∀g,x.fr.get g=if t.o.dst=some g then s1.fr.get g else r.fr.get g)->k x):zCU G tb r t k:=by
 have putg:∀{x:Sta} {v:AV} {g:Nat},(x.put t.o.dst v).fr.get g=if t.o.dst=some g then some v else x.fr.get g:=fun {x v g}=>by
  cases hd:t.o.dst with
  | none=>simp [Sta.put,putd]
  | some d=>
   show (x.fr.put d v).get g=_
   rw [Fr.get_put];simp
 have hput:∀(x:Sta) (v:AV),HV x (x.put t.o.dst v):=fun x v=>by
  cases t.o.dst <;> exact ⟨rfl,rfl,rfl,rfl⟩
 have doit:∀{s r:Sta},Fit G t s r->(clsQ t<=1->HV s s1)->(∀x,(clsQ t<=1->HV r x)->(2<=clsQ t->HV s1 x)->(∀g,x.fr.get g=if t.o.dst=some g then s1.fr.get g else r.fr.get g)->k x)->wopT G tb s t (fun v x=>∃v',WK v v'/\x.put t.o.dst v'=s1)->wopT G tb r t (fun v x=>∃v',WK v v'/\k (x.put t.o.dst v')):=fun {s r} hf hs hk h=>by
  refine zRD hG hok hf (fun hle v s0 ⟨v',_,e⟩=>?_) (fun v s0 x ⟨v',hw,e⟩ f0 f hv1 hv2=>⟨v',hw,hk _ (fun hle=>(hv1 hle).trans (hput x v')) (fun h2=>?_) fun g=>?_⟩) h
  ·have:=hput s0 v';rw [e] at this;exact (hs hle).trans this.symm
  ·have h0:=hput s0 v';rw [e] at h0;exact h0.symm.trans ((hv2 h2).trans (hput x v'))
  ·rw [putg,←e,putg];split
   ·rfl
   ·exact f g
 have skip:∀{s r:Sta},(clsQ t<=1->HV s s1)->Fit G t s r->(∀x,(clsQ t<=1->HV r x)->(2<=clsQ t->HV s1 x)->(∀g,x.fr.get g=if t.o.dst=some g then s1.fr.get g else r.fr.get g)->k x)->s.put t.o.dst (.tup [])=s1->k (r.put t.o.dst (.tup [])):=fun {s r} hs hf hk e=>by
  refine hk _ (fun _=>hput r _) (fun h2=>?_) fun g=>?_
  ·have h0:=hput s (.tup []);rw [e] at h0;exact h0.symm.trans ((hf.c2 h2).trans (hput r _))
  ·rw [putg,←e,putg];split <;> rfl
 unfold zCU at h ⊢;cases hg:t.o.guard with
 | none=>
  rw [hg] at h;exact doit hf hs hk h
 | some p=>
  obtain ⟨g,b⟩:=p;rw [hg] at h;simp only at h ⊢;rw [hf.gd g b hg];split at h
  ·rename_i c hc;have hc':r.fr.get g=some (.bool c):=(hf.gd g b hg).trans hc;unfold brT at h ⊢;rcases zCx h with ⟨rfl,h⟩ | ⟨rfl,h⟩
   ·simp only [Br,put_same hc'] at h ⊢;simp only [put_same hc] at h;cases b with
    | true=>exact doit hf hs hk h
    | false=>exact skip hs hf hk h
   ·simp only [Br,put_same hc'] at h ⊢;simp only [put_same hc] at h;cases b with
    | true=>exact skip hs hf hk h
    | false=>exact doit hf hs hk h
  ·exact skip hs hf hk h
  ·exact h.elim
end
section
variable {G:Cx} {tb:TblS} {s s1:Sta} {t:TOp}
theorem zKE {n:Int} {l:Nat} {k:Nat->Prop} (h:0<=n/\n<.ofNat l) (hk:zFU n l k):∃m,k m:=by
 obtain ⟨m,rfl⟩:=Int.eq_ofNat_of_zero_le h.1;exact ⟨m,zCD hk m (Int.ofNat_lt.1 h.2) rfl⟩
theorem zF0 {x:Option Out} {C:AV->Sta->Prop} (h:WXd s x C):∃v x,C v x:=by
 unfold WXd at h;split at h
 ·exact ⟨_,_,h⟩
 ·exact h.elim
theorem zND {n:Int} {lo hi:Option AV} {k:Int->Int->Prop} (h:zGz n lo hi k):∃l u,k l u:=by
 cases lo with
 | none=>
  cases hi with
  | none=>exact ⟨_,_,h⟩
  | some u=>cases u <;> first | exact ⟨_,_,h.2⟩ | exact h.elim
 | some l=>
  cases l with
  | int kl l=>
   cases hi with
   | none=>exact ⟨_,_,h.2⟩
   | some u=>cases u <;> first | exact ⟨_,_,h.2⟩ | exact h.elim
  | _=>exact h.elim
theorem zOP {f:Nat} {vs:List AV} {C:AV->Sta->Prop} (h:wcall tb f vs s C):∃v x,C v x:=by
 unfold wcall at h;split at h
 ·obtain ⟨_,_,_,_,v,_,h⟩:=zDi h;exact ⟨_,_,h⟩
 ·split at h
  ·obtain ⟨_,_,_,_,v,_,h⟩:=zDi h;split at h
   ·exact ⟨_,_,h⟩
   ·exact h.elim
  ·exact h.elim
theorem zOQ {o:XO} {ks:List K} {C:AV->Sta->Prop} (h:wop G tb s o ks C):∃v x,C v x:=by
 cases o <;> try (exact h.elim)
 all_goals try (exact zF0 h)
 case idxA x i l sz ag=>
  simp only [wop] at h;split at h
  ·exact zF0 h
  ·split at h
   ·obtain ⟨m,h⟩:=zKE h.1 h.2;exact zF0 h
   ·exact h.elim
 case iaddrA x i l sz=>
  simp only [wop] at h;split at h
  ·exact zF0 h
  ·split at h
   ·obtain ⟨m,h⟩:=zKE h.1 h.2;exact zF0 h
   ·exact h.elim
 case pick c a b=>
  simp only [wop] at h;split at h
  ·split at h
   ·rcases zCx h with ⟨_,h⟩ | ⟨_,h⟩
    ·split at h
     ·exact ⟨_,_,h⟩
     ·exact h.elim
    ·split at h
     ·exact ⟨_,_,h⟩
     ·exact h.elim
   ·exact zF0 h
  ·exact h.elim
 case slcS x lo hi=>
  simp only [wop] at h;split at h
  ·split at h
   ·split at h
    ·obtain ⟨l,u,h⟩:=zND h;exact ⟨_,_,h⟩
    ·exact h.elim
   ·exact h.elim
  ·exact h.elim
 case slcL x lo hi mx sz=>
  simp only [wop] at h;split at h
  ·split at h
   ·split at h
    ·split at h
     ·split at h
      ·obtain ⟨l,u,h⟩:=zND h;exact ⟨_,_,h⟩
      ·exact h.elim
     ·exact h.elim
    ·exact h.elim
   ·exact h.elim
  ·exact zF0 h
  ·exact h.elim
 case call f xs=>
  simp only [wop] at h;split at h
  ·exact zOP h
  ·exact h.elim
 case callv fx xs=>
  simp only [wop] at h;split at h
  ·split at h
   ·exact zOP h
   ·exact h.elim
  ·exact h.elim
 all_goals
  simp only [wop] at h
  repeat' split at h
  all_goals first
   | exact h.elim
   | exact ⟨_,_,h⟩
   | (obtain ⟨m,h⟩:=zKE h.1 h.2;exact zF0 h)
   | exact ⟨_,_,h.2⟩
   | exact zF0 h
   | (obtain ⟨_,_,h⟩:=h;exact ⟨_,_,h⟩)
theorem zRE {hm sm:List Nat} {vs:List AV} {st:Sta} {k:List AV->Heap->Vecs->Prop} (h:zCb hm sm vs st k):∃a b c,k a b c:=by
 unfold zCb at h
 repeat' split at h
 all_goals first | exact h.elim | exact ⟨_,_,_,h⟩
theorem zRF {e:HEnt} {args:List AV} {C:AV->Sta->Prop} (h:zDx e args s C):∃v x,C v x:=by
 unfold zDx zHr at h;obtain ⟨a,b,c,h⟩:=zRE h;have:=h.2;split at this
 ·exact ⟨_,_,this⟩
 ·exact this.elim
theorem zUi {C:AV->Sta->Prop} (h:wopT G tb s t C):∃v x,C v x:=by
 unfold wopT at h;split at h
 ·exact zOQ h
 ·unfold zKt at h
  repeat' split at h
  all_goals first | exact h.elim | exact zRF h
theorem zPy {g:Nat} (h:zCU G tb s t (fun x=>x=s1)) (hd:t.o.dst≠some g):s1.fr.get g=s.fr.get g:=by
 have putg:∀{x:Sta} {v:AV},(x.put t.o.dst v).fr.get g=x.fr.get g:=fun {x v}=>by
  cases hdd:t.o.dst with
  | none=>rfl
  | some d=>
   show (x.fr.put d v).get g=_
   rw [Fr.get_put,if_neg]
   rintro rfl
   exact hd hdd
 have doit:wopT G tb s t (fun v x=>∃v',WK v v'/\x.put t.o.dst v'=s1)->s1.fr.get g=s.fr.get g:=fun h=>by
  obtain ⟨fr,H,V,m,mv⟩:=s;have:=zM6 (fr':=fr) (C':=fun _ _=>s1.fr.get g=fr.get g) (fun x _=>rfl) (fun v s0 x ⟨v',_,e⟩ q=>by rw [←e,putg];exact q.f0 g) h
  obtain ⟨_,_,h⟩:=zUi this;exact h
 unfold zCU at h;split at h
 ·exact doit h
 ·split at h
  ·rename_i b hgd x0 c hc;unfold brT at h;rcases zCx h with ⟨rfl,h2⟩ | ⟨rfl,h2⟩
   ·simp only [put_same hc] at h2;cases b with
    | true=>exact doit h2
    | false=>
     have h2:s.put t.o.dst (.tup [])=s1:=h2;rw [←h2,putg]
   ·simp only [put_same hc] at h2;cases b with
    | true=>
     have h2:s.put t.o.dst (.tup [])=s1:=h2;rw [←h2,putg]
    | false=>exact doit h2
  ·have h:s.put t.o.dst (.tup [])=s1:=h;rw [←h,putg]
  ·exact h.elim
end
def frL (c:Nat->Sta) (ts:List TOp) (L:Nat->Bool):Nat->Nat->Option AV
 | 0,g=>(c 0).fr.get g
 | k+1,g=>match ts[k]? with
  | some t=>if L k=true/\t.o.dst=some g then (c (k+1)).fr.get g else frL c ts L k g
  | none=>frL c ts L k g
section
variable {G:Cx} {tb:TblS} {lo:Option Nat} {c:Nat->Sta} {ts:List TOp} {L:Nat->Bool} {g:Nat}
theorem zKF (ch:ChQ G tb lo ts c) {i:Nat} (h:∀k t,k<i->ts[k]? = some t->t.o.dst=some g->L k=true):∀k,k<=i->k<=ts.length->frL c ts L k g=(c k).fr.get g
 | 0,_,_=>rfl
 | k+1,hk,hl=>by
  have ht:ts[k]? = some ts[k]:=List.getElem?_eq_getElem (by omega)
  simp only [frL,ht];split
  ·rfl
  ·rename_i hn;rw [zKF ch h k (by omega) (by omega)]
   refine (zPy (ch.st k _ ht) fun e=>hn ⟨h k _ (by omega) ht e,e⟩).symm
theorem zIc {i:Nat} (h:∀k t,i<=k->ts[k]? = some t->L k=true->t.o.dst≠some g):∀k,i<=k->frL c ts L k g=frL c ts L i g
 | 0,hk=>by
   have:i=0:=by omega
   subst this;rfl
 | k+1,hk=>by
  by_cases e:i=k+1
  ·subst e;rfl
  ·simp only [frL];cases ht:ts[k]? with
   | none=>exact zIc h k (by omega)
   | some t=>
    simp only;rw [if_neg fun hh=>h k t (by omega) ht hh.1 hh.2]
    exact zIc h k (by omega)
theorem zLU (ch:ChQ G tb lo ts c) {a:Nat}:∀b,a<=b->b<=ts.length->(∀k t,a<=k->k<b->ts[k]? = some t->clsQ t<=1)->HV (c a) (c b)
 | 0,h,_,_=>by
   have:a=0:=by omega
   subst this;exact HV.refl _
 | b+1,h,hl,hs=>by
  by_cases e:a=b+1
  ·subst e;exact HV.refl _
  ·have ht:ts[b]? = some ts[b]:=List.getElem?_eq_getElem (by omega)
   exact (zLU ch b (by omega) (by omega) fun k t h1 h2=>hs k t h1 (by omega)).trans (ch.hv b _ ht (hs b _ (by omega) (by omega) ht))
structure AlQ (lo:Option Nat) (s r:Sta):Prop where
 V:r.V=s.V
 mv:r.mv=s.mv
 m:s.m<=r.m
 g:∀h,h<bndL lo s.m->r.H.get h=s.H.get h
theorem zLV (ch:ChQ G tb lo ts c) {a:Nat}:∀b,a<=b->b<=ts.length->(∀k t,a<=k->k<b->ts[k]? = some t->clsQ t<=2)->AlQ lo (c a) (c b)
 | 0,h,_,_=>by
   have:a=0:=by omega
   subst this;exact ⟨rfl,rfl,Nat.le_refl _,fun _ _=>rfl⟩
 | b+1,h,hl,hs=>by
  by_cases e:a=b+1
  ·subst e;exact ⟨rfl,rfl,Nat.le_refl _,fun _ _=>rfl⟩
  ·have ht:ts[b]? = some ts[b]:=List.getElem?_eq_getElem (by omega)
   have i:=zLV ch b (by omega) (by omega) fun k t h1 h2=>hs k t h1 (by omega)
   have hc:=hs b _ (by omega) (by omega) ht
   by_cases h2:clsQ ts[b]=2
   ·obtain ⟨q1,q2,q3,q4⟩:=ch.al b _ ht h2;exact ⟨q1.trans i.V,q2.trans i.mv,Nat.le_trans i.m q3,fun h hh=>(q4 h (Nat.lt_of_lt_of_le hh (zNv i.m))).trans (i.g h hh)⟩
   ·have q:=ch.hv b _ ht (by omega)
    exact ⟨q.V.trans i.V,q.mv.trans i.mv,by rw [q.m];exact i.m,fun h hh=>by rw [q.H];exact i.g h hh⟩
end
section
variable {P:Program} {G:Cx} {nt:Nat} {E:Env} {w:World} {a:Act} {β:Nat->Option Nat} {st:Sta}
 {Z0 B0:Nat->Prop} {w0:World} {dl:List Deferred} {tb:TblS}
theorem Rs.same {s:Sta} (r:Rs G nt Z0 B0 w0 dl E w a st) (h:HV st s) (hf:∀g,s.fr.get g=st.fr.get g):Rs G nt Z0 B0 w0 dl E w a s:=by
 obtain ⟨fr,H,V,m,mv⟩:=s;obtain ⟨e1,e2,e3,e4⟩:=h;simp only at e1 e2 e3 e4;subst e1;subst e2;subst e3;subst e4;obtain ⟨β,s,kp,df⟩:=r.out;exact ⟨β,⟨s.hr,⟨s.hf.size,fun t u e=>s.hf.get t u (by rw [←hf t];exact e)⟩,s.hg,s.dom,fun t u e=>s.cfr t u (by rw [←hf t];exact e),s.cH,s.vok,s.vp,s.bz,s.binj⟩,kp,df⟩
theorem zKG {n:Nat}:∀{l:List Nat},memb n l=true↔n∈l
 | []=>by simp [memb]
 | a::r=>by
  simp only [memb];split
  ·rename_i h;simp [zb h]
  ·rename_i h;have:=zAg h;rw [zKG];simp [this]
theorem zKH {x y:Option Nat} {dx dy:XD} (h:zFQ x dx y dy=true):(∀d,x=some d->d ∉ dy.looks)/\(∀d,y=some d->d ∉ dx.looks)/\(∀d,x=some d->y≠some d):=by
 simp only [zFQ,Bool.and_eq_true] at h;obtain ⟨⟨h1,h2⟩,h3⟩:=h;refine ⟨fun d e hm=>?_,fun d e hm=>?_,fun d e e2=>?_⟩
 ·subst e;simp [zKG.2 hm] at h1
 ·subst e;simp [zKG.2 hm] at h2
 ·subst e;subst e2;simp at h3
theorem zOR (htb:TbW P G tb) (hG:GPP G) (hm:zAi P G) (hmix:P.follows .mixedOrders=true) {pn:List Nat} {id:Nat} {ops:Array Oper} {ts:List TOp} {ds:List XD} {Q:Exit->Act->World->Prop} (hc:zv P (.region id ops true)=some (.draw (ts.map TOp.o) ds)) (hdst:zCS nt (.draw (ts.map TOp.o) ds)=true)
  (hok:∀t∈ts,opOK t.o.op=true) (hth:∀t∈ts,∀es,t.h=some es->∀e∈es,HOK P G e) (hpn:∀t∈ts,∀n,t.o.dst=some n->n ∉ pn) (hq:(zFW ts ds&&seqQ 0 [] [] [] ts ds)=true) {lo:Option Nat} {c:Nat->Sta} (h0:c 0=st) (ch:ChQ G tb lo ts c) (r:Rs G nt Z0 B0 w0 dl E w a st)
  (hQ:∀E' w' a',Rs G nt Z0 B0 w0 dl E' w' a' (c ts.length)->At pn a a'->Q .normal a' w'):(Code.region id ops true).wp P Q a w:=by
 rw [Bool.and_eq_true] at hq;have hcov:=zLB hq.1;have hseq:=zGB hq.2;simp only [zv] at hc;split at hc
 rotate_left
 ·cases hc
 rename_i hdn;split at hc
 rotate_left
 ·cases hc
 rename_i hpairs;simp only [Option.some.injEq,XC.draw.injEq] at hc;obtain ⟨e1,e2⟩:=hc;obtain ⟨hl,ha,hdown⟩:=zOM (P:=P) hdn;rw [e2] at hl ha hpairs;rw [e1] at hpairs;have hlen:ts.length=ops.size:=by
  have:=congrArg List.length e1
  simpa using this.symm
 have hto:∀(i:Nat) o,ops[i]? = some o->∃t,ts[i]? = some t/\t.o=zm P ops o:=fun i o ho=>by
  have h1:(ops.toList.map (zm P ops))[i]? = some (zm P ops o):=by simp [ho]
  rw [e1,List.getElem?_map] at h1;cases ht:ts[i]? with
  | none=>rw [ht] at h1;cases h1
  | some t=>rw [ht] at h1;exact ⟨t,rfl,by simpa using h1⟩
 have hdsx:∀(i:Nat) t,ts[i]? = some t->∃d,ds[i]? = some d:=fun i t ht=>by
  have:=(List.getElem?_eq_some_iff.1 ht).1;exact ⟨ds[i],List.getElem?_eq_getElem (by omega)⟩
 have apart:∀(j k:Nat) tj tk dj dk,j<k->ts[j]? = some tj->ts[k]? = some tk->ds[j]? = some dj->ds[k]? = some dk->dk.preds.testBit j=true\/zFQ tj.o.dst dj tk.o.dst dk=true:=fun j k tj tk dj dk hjk h1 h2 h3 h4=>by
  have:=(zHp hpairs k tk.o dk (by simp [h2]) h4).2 j tj.o dj hjk (by simp [h1]) h3
  simpa using this
 refine wp_region_any hmix ?_
 have r':Rs G nt Z0 B0 w0 dl E { w with drawn:=w.drawn+1 } a st:=by
  obtain ⟨β,s,kp,df⟩:=r.out;obtain ⟨d1,d2⟩:=zFx (w':={ w with drawn:=w.drawn+1 }) s.hr ⟨rfl,rfl,rfl,rfl⟩ st.m
  have:=s.steps d1 d2 ⟨s.hf.size,fun t u ht=>d2.vr s.hr (s.hf.get t u ht)⟩ s.cfr s.cH
  exact ⟨β,this.1,kp.trans this.2,df⟩
 refine zPW hl ha hdown (fun n L a' w'=>(∀(k:Nat) dk,L k=true->ds[k]? = some dk->∀j,dk.preds.testBit j=true->L j=true)/\∃st' E' jc,jc<=ts.length/\(∀(b:Nat) t,ts[b]? = some t->2<=clsQ t->(L b=true↔b<jc))/\HV (c jc) st'/\(∀g,st'.fr.get g=frL c ts L ts.length g)/\Rs G nt Z0 B0 w0 dl E' w' a' st'/\At pn a a') ?_ ?_ ops.size _ a _ (by simp) (by simp) ?_ ⟨fun k dk hk=>?_,st,E,0,Nat.zero_le _,fun b t _ _=>?_,by rw [h0];exact HV.refl _,fun g=>?_,r',.refl⟩
 ·
  rintro L a' w' hall ⟨_,st',E',jc,hjc,hb,hv,hf,hr,hat⟩
  refine hQ E' w' a' (hr.same ?_ fun g=>?_) hat
  ·refine hv.symm.trans (zLU ch _ hjc (Nat.le_refl _) fun k t h1 h2 ht=>?_)
   rcases Nat.lt_or_ge 1 (clsQ t) with hcl | hcl
   ·have:=(hb k t ht hcl).1 (hall k (by omega))
    omega
   ·exact hcl
  ·rw [hf g];exact (zKF ch (i:=ts.length) (fun k t hk ht _=>hall k (by omega)) _ (Nat.le_refl _) (Nat.le_refl _)).symm
 ·rintro n L a' w' i o d ⟨hcl,st',E',jc,hjc,hb,hv,hf,hr,hat⟩ ho hd hLi hpre
  have hi:=(Array.getElem?_eq_some_iff.1 ho).1;obtain ⟨t,ht,et⟩:=hto i o ho;have hmem:=List.mem_of_getElem? ht;have hil:i<ts.length:=by omega
  obtain ⟨hlook,hguard⟩:=hcov i t d ht hd;have later:∀(k:Nat) t',i<k->ts[k]? = some t'->L k=true->(∀g,t'.o.dst=some g->g ∉ d.looks)/\∀g,t.o.dst=some g->t'.o.dst≠some g:=fun k t' hk ht' hLk=>by
   obtain ⟨dk,hdk⟩:=hdsx k t' ht';rcases apart i k t t' d dk hk ht ht' hd hdk with h | h
   ·have:=hcl k dk hLk hdk i h;rw [hLi] at this;cases this
   ·obtain ⟨q1,q2,q3⟩:=zKH h;exact ⟨q2,q3⟩
  have agree:∀g∈d.looks,st'.fr.get g=(c i).fr.get g:=fun g hg=>by
   rw [hf g,zIc (i:=i) (fun k t' hk ht' hLk e=>?_) ts.length (by omega)]
   ·refine zKF ch (fun k t' hk ht' e=>?_) i (Nat.le_refl _) (by omega)
    obtain ⟨dk,hdk⟩:=hdsx k t' ht';rcases apart k i t' t dk d hk ht' ht hdk hd with h | h
    ·exact hpre k h
    ·exact absurd hg ((zKH h).1 g e)
   ·rcases Nat.lt_or_ge i k with hik | hik
    ·exact (later k t' hik ht' hLk).1 g e hg
    ·have:k=i:=by omega
     subst this;rw [hLi] at hLk;cases hLk
  have hbar:2<=clsQ t->jc<=i/\HV (c i) st':=fun h2=>by
   have h1:jc<=i:=by
    rcases Nat.lt_or_ge i jc with h | h
    ·have:=(hb i t ht h2).2 h;rw [hLi] at this;cases this
    ·exact h
   refine ⟨h1,(zLU ch i h1 (by omega) fun k t' hk1 hk2 ht'=>?_).symm.trans hv⟩
   rcases Nat.lt_or_ge 1 (clsQ t') with hcl' | hcl'
   ·have h3:=(hseq.b i t d ht hd h2).2 k t' hk2 ht' hcl';rw [Nat.zero_add] at h3;have:=(hb k t' ht' hcl').1 (hpre k h3);omega
   ·exact hcl'
  obtain ⟨β',s',kp',df'⟩:=hr.out;have fit:Fit G t (c i) st':=by
   refine ⟨fun g hg=>agree g (hlook g hg),fun g b hg=>agree g (hguard g b hg),fun h1=>?_,fun h2=>(hbar h2).2⟩
   rcases Nat.le_total jc i with hji | hij
   ·have al:=zLV ch i hji (by omega) fun k t' hk1 hk2 ht'=>by
     rcases Nat.lt_or_ge 2 (clsQ t') with hcl' | hcl'
     ·have h3:=(hseq.h i t d ht hd h1).2 k t' hk2 ht' hcl';rw [Nat.zero_add] at h3;have:=(hb k t' ht' (by omega)).1 (hpre k h3)
      omega
     ·exact hcl'
    obtain ⟨rd1,rd2⟩:=ch.rd i t ht h1;have low:∀{x:AV},CP (c i).mv (bndL lo (c i).m) x->CP (c jc).mv (c jc).m x->CP (c i).mv (bndL lo (c jc).m) x:=fun hx hy=>by
     rw [al.mv] at hx ⊢;exact (hx.min hy).mono (Nat.le_refl _) (zSG al.m)
    refine ⟨hv.V.trans al.V.symm,hv.mv.trans al.mv.symm,bndL lo (c jc).m,⟨fun h hh=>by rw [hv.H];exact (al.g h hh).symm,fun h str cs hh hg cc hcc=>?_⟩,fun g v hg hgv=>?_⟩
    ·have h2:=rd2 h str cs (Nat.lt_of_lt_of_le hh (zNv al.m)) hg cc hcc;rw [al.g h hh] at hg;obtain ⟨_,_,e,hcs⟩:=(ch.cp jc hjc).2.get hg;cases e;exact low h2 (hcs cc hcc)
    ·have:=s'.cfr g v (by rw [agree g (hlook g (zDd hg))];exact hgv)
     rw [hv.mv,hv.m] at this;exact low (rd1 g v hg hgv) this
   ·have al:=zLV ch jc hij hjc fun k t' hk1 hk2 ht'=>by
     rcases Nat.lt_or_ge 2 (clsQ t') with hcl' | hcl'
     ·have hLk:=(hb k t' ht' (by omega)).2 hk2
      obtain ⟨dk,hdk⟩:=hdsx k t' ht';have hik:i<k:=by
       rcases Nat.lt_or_ge i k with h | h
       ·exact h
       ·have:k=i:=by omega
        subst this;rw [ht] at ht';cases ht';omega
      have h3:=(hseq.r k t' dk ht' hdk hcl').2 i t hik ht h1;rw [Nat.zero_add] at h3;have:=hcl k dk hLk hdk i h3;rw [hLi] at this;cases this
     ·exact hcl'
    obtain ⟨rd1,rd2⟩:=ch.rd i t ht h1;exact ⟨hv.V.trans al.V,hv.mv.trans al.mv,bndL lo (c i).m,⟨fun h hh=>by rw [hv.H];exact al.g h hh,rd2⟩,rd1⟩
  have hstep:=zQC hG (hok t hmem) fit (ch.hv i t ht) (ch.st i t ht) (k:=fun x=>(clsQ t<=1->HV st' x)/\(2<=clsQ t->HV (c (i+1)) x)/\∀g,x.fr.get g=if t.o.dst=some g then (c (i+1)).fr.get g else st'.fr.get g) fun x h1 h2 h3=>⟨h1,h2,h3⟩
  refine zLA htb hG hm ho et (fun dd hdd=>?_) (hok t hmem) (hth t hmem) (hpn t hmem) hstep hr fun st2 E2 w2 a2 hk2 hr2 hat2=>⟨fun k dk hk hdk j hj=>?_,st2,E2,?_⟩
  ·have h1:=List.all_eq_true.1 hdst _ (List.mem_map_of_mem (f:=TOp.o) hmem);rw [et,zAH,hdd] at h1
   simpa [Nat.blt_eq] using h1
  ·simp only [Bool.or_eq_true,beq_iff_eq] at hk ⊢;rcases hk with hk | rfl
   ·exact .inl (hcl k dk hk hdk j hj)
   ·rw [hd] at hdk;cases hdk;exact .inl (hpre j hj)
  ·obtain ⟨k1,k2,k3⟩:=hk2;have hfr:∀g,st2.fr.get g=frL c ts (fun j=>L j||j==i) ts.length g:=fun g=>by
    rw [k3 g];by_cases hdg:t.o.dst=some g
    ·rw [if_pos hdg,zIc (i:=i+1) (fun k t' hk ht' hLk e=>?_) ts.length (by omega)]
     ·simp only [frL,ht];rw [if_pos ⟨by simp,hdg⟩]
     ·simp only [Bool.or_eq_true,beq_iff_eq] at hLk;rcases hLk with hLk | rfl
      ·exact (later k t' (by omega) ht' hLk).2 g hdg e
      ·omega
    ·rw [if_neg hdg,hf g];have:∀k,frL c ts L k g=frL c ts (fun j=>L j||j==i) k g:=by
      intro k
      induction k with
      | zero=>rfl
      | succ k ih=>
       simp only [frL];cases htk:ts[k]? with
       | none=>exact ih
       | some t'=>
        simp only [Bool.or_eq_true,beq_iff_eq];by_cases hki:k=i
        ·subst hki;rw [ht] at htk;cases htk;rw [if_neg fun h=>hdg h.2,if_neg fun h=>hdg h.2]
         exact ih
        ·simp only [hki,or_false,ih]
     exact this _
   rcases Nat.lt_or_ge 1 (clsQ t) with h2 | h1
   ·obtain ⟨hji,_⟩:=hbar h2;refine ⟨i+1,by omega,fun b t' ht' hb'=>?_,k2 h2,hfr,hr2,hat.trans hat2⟩
    simp only [Bool.or_eq_true,beq_iff_eq]
    constructor
    ·rintro (hLb | rfl)
     ·have:=(hb b t' ht' hb').1 hLb;omega
     ·omega
    ·intro hbi;rcases Nat.lt_or_ge b i with h | h
     ·have h3:=(hseq.b i t d ht hd h2).2 b t' h ht' hb';rw [Nat.zero_add] at h3;exact .inl (hpre b h3)
     ·exact .inr (by omega)
   ·refine ⟨jc,hjc,fun b t' ht' hb'=>?_,hv.trans (k1 h1),hfr,hr2,hat.trans hat2⟩
    simp only [Bool.or_eq_true,beq_iff_eq];have hne:b≠i:=by rintro rfl;rw [ht] at ht';cases ht';omega
    simp only [hne,or_false];exact hb b t' ht' hb'
 ·intro k dk hk;by_cases hkl:k<ops.size
  ·simp [hkl] at hk
  ·simp [hkl] at hk
 ·by_cases hkl:k<ops.size
  ·simp [hkl] at hk
  ·simp [hkl] at hk
 ·by_cases hkl:b<ops.size
  ·simp [hkl]
  ·simp [hkl]
 ·have:∀k,frL c ts (fun j=>(Array.replicate ops.size false).getD j false) k g=st.fr.get g:=by
   intro k
   induction k with
   | zero=>simp only [frL,h0]
   | succ k ih=>
    simp only [frL];split
    ·rw [if_neg ?_]
     ·exact ih
     ·rintro ⟨h,_⟩
      by_cases hkl:k<ops.size
      ·simp [hkl] at h
      ·simp [hkl] at h
    ·exact ih
  exact (this _).symm
end
end Go.Sy
namespace Go.Sy
section
variable {P:Program} {G:Cx} {nt:Nat} {E:Env} {w:World} {a:Act} {β:Nat->Option Nat} {st:Sta}
 {Z0 B0:Nat->Prop} {w0:World} {dl:List Deferred} {tb:TblS}
theorem SR.grow1 (hG:GPP G) (s:SR G nt E w a β st) {t sz:Nat} (ht:st.fr.get t=some .nilslice):∃E' β',SR G nt E' w a β' ⟨st.fr.put t (.sym st.mv),st.H,(st.mv,.vec sz [])::st.V,st.m,st.mv+1⟩/\Kp E.Z (BS E β st.H st.V) w E'.Z (BS E' β' st.H ((st.mv,.vec sz [])::st.V)) w:=by
 have hσ:∀i,i<st.mv->(if i=st.mv then Value.slice none 0 0 else E.σ i)=E.σ i:=fun i hi=>by
  have:i≠st.mv:=by omega
  simp [this]
 have hm:∀{v:AV} {cv:Value},CP st.mv st.m v->VR E w v cv->VR ⟨E.ρ,E.D,E.Z,fun i=>if i=st.mv then .slice none 0 0 else E.σ i⟩ w v cv:=fun hc hv=>
  VR.cpx (E:=E) (E':=⟨E.ρ,E.D,E.Z,fun i=>if i=st.mv then .slice none 0 0 else E.σ i⟩) (w:=w) (w':=w) (fun h _ hh=>⟨hh,rfl⟩) (fun b hb=>⟨hb,rfl⟩) (.refl w) hσ hv hc
 have hlt:∀j vi,st.V.get j=some vi->j≠st.mv:=fun j vi h=>by have:=(s.vok j vi h).1;omega
 refine ⟨⟨E.ρ,E.D,E.Z,fun i=>if i=st.mv then .slice none 0 0 else E.σ i⟩,fun j=>if j=st.mv then none else β j,⟨⟨s.hr.nodup,s.hr.dom,s.hr.inj,fun p hp=>?_,s.hr.nz,s.hr.zlt⟩,⟨s.hf.size,fun u v hu=>?_⟩,fun g u hg=>⟨hm (hG g u hg).cp (s.hg g u hg).1,(s.hg g u hg).2⟩,s.dom,fun u v hu=>?_,s.cH.mono (Nat.le_succ _) (Nat.le_refl _),fun j vi h=>?_,fun j j2 i off h=>?_,fun j vi b h ho hb=>?_,fun j j' vi vi' b h1 h2 h3 h4 h5 h6=>?_⟩,?_⟩
 ·obtain ⟨str,cs,e,hcs⟩:=s.cH p hp;have:=s.hr.obj p hp;rw [e] at this ⊢;exact OR.cpx rfl (fun hc hv=>hm hc hv) hcs this
 ·rw [Fr.get_put] at hu;split at hu
  ·rename_i e;subst e;cases hu;have hz:∀{cv:Value},VR E w .nilslice cv->cv=.slice none 0 0:=fun h=>by cases h;rfl
   rw [hz (s.hf.get _ _ ht)];exact .sym _ _ (by simp only [if_true]) rfl
  ·exact hm (s.cfr u v hu) (s.hf.get u v hu)
 ·rw [Fr.get_put] at hu;split at hu
  ·cases hu;exact .sym _ (Nat.lt_succ_self _)
  ·exact (s.cfr u v hu).mono (Nat.le_succ _) (Nat.le_refl _)
 ·rw [Vecs.get_cons] at h;split at h
  ·rename_i e;subst e;cases h;exact ⟨Nat.lt_succ_self _,fun e he=>(by cases he),.inl ⟨by simp,by simp,rfl⟩⟩
  ·have h1:=s.vok j vi h;refine ⟨Nat.lt_succ_of_lt h1.1,h1.2.mono (by simp [hlt j vi h]) (fun _=>by simp [hlt j vi h]) (fun b _ _=>rfl) (fun b hb=>⟨hb,rfl⟩) (.refl w) fun j2 i off e sz es hes=>?_⟩
   subst e;have:=s.vp j j2 i off h;rw [Vecs.get_cons,if_neg (by omega)] at hes
   have hne:j2≠st.mv:=by omega
   exact ⟨by simp [hne],es,hes,rfl⟩
 ·rw [Vecs.get_cons] at h;split at h
  ·cases h
  ·exact Nat.lt_succ_of_lt (s.vp j j2 i off h)
 ·rw [Vecs.get_cons] at h;split at h
  ·rename_i e;subst e;simp at hb
  ·simp only [if_neg (hlt j vi h)] at hb;exact s.bz j vi b h ho hb
 ·rw [Vecs.get_cons] at h1 h2;split at h1
  ·rename_i e;subst e;simp at h5
  ·split at h2
   ·rename_i e;subst e;simp at h6
   ·simp only [if_neg (hlt j vi h1)] at h5;simp only [if_neg (hlt j' vi' h2)] at h6;exact s.binj j j' vi vi' b h1 h2 h3 h4 h5 h6
 ·refine Kp.less fun x hx=>?_
  rcases hx with h | ⟨j,vi,h1,h2,h3⟩
  ·exact .inl h
  ·rw [Vecs.get_cons] at h1;split at h1
   ·rename_i e;subst e;simp at h3
   ·simp only [if_neg (hlt j vi h1)] at h3;exact .inr ⟨j,vi,h1,h2,h3⟩
theorem Rs.grow (hG:GPP G):∀{g:List (Nat×Nat)} {E:Env} {st:Sta},Rs G nt Z0 B0 w0 dl E w a st->∃E',Rs G nt Z0 B0 w0 dl E' w a (zDV g st)
 | [],E,st,r=>⟨E,r⟩
 | (t,sz)::g,E,st,r=>by
  simp only [zDV];split
  ·split
   ·rename_i ht;obtain ⟨β,s,k,d⟩:=r.out;obtain ⟨E',β',s',k'⟩:=s.grow1 hG ht (sz:=sz);exact Rs.grow hG ⟨β',s',k.trans k',d⟩
   ·rename_i v _ hv;split
    ·rename_i h2 es ht;obtain ⟨β,s,k,d⟩:=r.out;obtain ⟨E',β',s',k'⟩:=s.thawT hG hv ht;exact Rs.grow hG ⟨β',s',k.trans k',d⟩
    ·exact Rs.grow hG r
   ·exact Rs.grow hG r
  ·split
   ·rename_i h _ _;obtain ⟨β,s,k,d⟩:=r.out;obtain ⟨_,E',β',s',k'⟩:=SR.growC hG (h:=h) (g:=[(Nat.mod t 1000,sz)]) s;exact Rs.grow hG ⟨β',s',k.trans k',d⟩
   ·exact Rs.grow hG r
theorem Rs.cut (hG:GPP G) {c:Cut} {Q:Inv} (r:Rs G nt Z0 B0 w0 dl E w a st) (h:cutP c Q st):∃vs H V,Q vs H V/\∃E1,Rs G nt Z0 B0 w0 dl E1 w a (mkW c vs H V):=by
 obtain ⟨E',r'⟩:=r.grow hG (g:=c.grow);obtain ⟨β,s,k,d⟩:=r'.out;obtain ⟨vs,H,V,h1,E1,β1,s1,k1⟩:=zVx hG s h;exact ⟨vs,H,V,h1,E1,β1,s1,k.trans k1,d⟩
theorem zUj (htb:TbW P G tb) (hG:GPP G) (hm:zAi P G) (hmix:P.follows .mixedOrders=true) {pn:List Nat}:∀(c:Code) {tc:TC} {gs:List Nat} {Q:Ext->Sta->Prop} {st:Sta} {QQ:Exit->Act->World->Prop},zv P c=some (er tc)->zCS nt (er tc)=true->tcOK tc=true->tcH (HOK P G) tc->tcN pn tc=true->WT G tb tc gs Q st->∀{E w a},Rs G nt Z0 B0 w0 dl E w a st →
  (∀x st' E' w' a',Q x st'->Rs G nt Z0 B0 w0 dl E' w' a' st'->At pn a a'->QQ (zOw x) a' w')->c.wp P QQ a w:=by
 intro c
 induction c with
 | skip=>
  intro tc gs Q st QQ hc hd hok hth hpn h E w a r hQ;simp only [zv,Option.some.injEq] at hc;cases tc <;> cases hc
  exact wp_skip (hQ .normal st E w a h r .refl)
 | label l=>
  intro tc gs Q st QQ hc hd hok hth hpn h E w a r hQ;simp only [zv,Option.some.injEq] at hc;cases tc <;> cases hc
  exact wp_label (hQ .normal st E w a h r .refl)
 | ret=>
  intro tc gs Q st QQ hc hd hok hth hpn h E w a r hQ;simp only [zv,Option.some.injEq] at hc;cases tc <;> cases hc
  exact wp_ret (hQ .ret st E w a h r .refl)
 | exit i=>
  intro tc gs Q st QQ hc hd hok hth hpn h E w a r hQ;simp only [zv,Option.some.injEq] at hc;cases tc <;> cases hc
  exact wp_exit (hQ (.exit i) st E w a h r .refl)
 | region id ops draw=>
  intro tc gs Q st QQ hc hd hok hth hpn h E w a r hQ;cases draw with
  | false=>
   simp only [zv,Option.some.injEq] at hc;cases tc <;> simp only [er] at hc <;> first | (cases hc;done) | skip
   rename_i ts;injection hc with hc
   have hdst:∀o∈ops.toList,∀d,o.dst=some d->d<nt:=fun o ho d hod=>by
    have hd:((ts.map TOp.o).all fun o=>match o.dst with | some d=>Nat.blt d nt | none=>true)=true:=hd
    rw [←hc] at hd;have h1:=List.all_eq_true.1 hd _ (List.mem_map_of_mem (f:=zm P ops) ho);rw [zAH,hod] at h1
    simpa [Nat.blt_eq] using h1
   refine wp_region ?_
   have:=zMI htb hG hm (Q:=QQ) (K:=Q .normal) ts ops.toList 0 (fun j=>by simp) hc.symm hdst (fun t ht=>List.all_eq_true.1 hok t ht) hth (fun t ht=>zJx (List.all_eq_true.1 hpn t ht)) h r fun st' E' w' a' h1 h2=>hQ .normal st' E' w' a' h1 h2
   rw [List.range_eq_range']
   simpa using this
  | true=>
   have hc':=hc;have:∃xs ds,zv P (.region id ops true)=some (.draw xs ds):=by
    simp only [zv] at hc ⊢;split at hc
    ·split at hc
     ·rename_i e1 e2;exact ⟨_,_,rfl⟩
     ·cases hc
    ·cases hc
   obtain ⟨xs,ds,e⟩:=this;rw [e] at hc;simp only [Option.some.injEq] at hc;cases tc <;> simp only [er] at hc <;> first | (cases hc;done) | skip
   ·rename_i pn' ts ds';simp only [WT] at h;split at h
    ·rename_i hD;rw [Bool.and_eq_true] at hD;simp only [tcN,Bool.and_eq_true] at hpn;have hmem:∀{t:Nat} {l:List Nat},inN t l=true->t∈l:=by
      intro t l
      induction l with
      | nil=>intro h;cases h
      | cons a r ih=>
       intro h;simp only [inN] at h;split at h
       ·rename_i e;rw [zb e];exact .head _
       ·exact .tail _ (ih h)
     exact zPw htb hG hm hmix hc' hd (fun t ht=>List.all_eq_true.1 hok t ht) (fun t ht=>zJx (List.all_eq_true.1 hpn.1 t ht)) (fun t ht=>List.all_eq_true.1 hD.2 t (hmem (List.all_eq_true.1 hpn.2 t ht))) hD.1 h r fun st' E' w' a' h1 h2=>hQ .normal st' E' w' a' h1 h2
    ·exact h.elim
   ·rename_i ts ds';exact zON htb hG hm hmix hc' hd (fun t ht=>List.all_eq_true.1 hok t ht) hth (fun t ht=>zJx (List.all_eq_true.1 hpn t ht)) h r fun st' E' w' a' h1 h2=>hQ .normal st' E' w' a' h1 h2
   ·rename_i ts ds';obtain ⟨hq,lo,c,h0,hch,hQc⟩:=h;exact zOR htb hG hm hmix hc' hd (fun t ht=>List.all_eq_true.1 hok t ht) hth (fun t ht=>zJx (List.all_eq_true.1 hpn t ht)) hq h0 hch r fun E' w' a' h2 h3=>hQ .normal _ E' w' a' hQc h2 h3
 | seq x y ihx ihy=>
  intro tc gs Q st QQ hc hd hok hth hpn h E w a r hQ;simp only [zv] at hc;obtain ⟨xa,ha,hc⟩:=za hc;obtain ⟨xb,hb,hc⟩:=za hc;simp only [Option.some.injEq] at hc;cases tc <;> simp only [er] at hc <;> first | (cases hc;done) | skip
  ·rename_i ta tb';injection hc with e1 e2
   subst e1;subst e2;simp only [er,zCS,Bool.and_eq_true] at hd;simp only [tcOK,Bool.and_eq_true] at hok;simp only [tcN,Bool.and_eq_true] at hpn;refine wp_seq (ihx ha hd.1 hok.1 hth.1 hpn.1 h r fun x st' E' w' a' h1 h2 h3=>?_)
   cases x with
   | normal=>exact ihy hb hd.2 hok.2 hth.2 hpn.2 h1 h2 fun x2 st2 E2 w2 a2 q1 q2 q3=>hQ x2 st2 E2 w2 a2 q1 q2 (h3.trans q3)
   | exit i=>exact hQ (.exit i) st' E' w' a' h1 h2 h3
   | ret=>exact hQ .ret st' E' w' a' h1 h2 h3
  ·rename_i cc J ta tb';injection hc with e1 e2
   subst e1;subst e2;simp only [er,zCS,Bool.and_eq_true] at hd;simp only [tcOK,Bool.and_eq_true] at hok;simp only [tcN,Bool.and_eq_true] at hpn;obtain ⟨ha',hb'⟩:=h;refine wp_seq (ihx ha hd.1 hok.1 hth.1 hpn.1 ha' r fun x st' E' w' a' h1 h2 h3=>?_)
   cases x with
   | normal=>
    obtain ⟨vs,H,V,q1,E1,q2⟩:=h2.cut hG h1;exact ihy hb hd.2 hok.2 hth.2 hpn.2 (hb' _ _ _ q1) q2 fun x2 st2 E2 w2 a2 r1 r2 r3=>hQ x2 st2 E2 w2 a2 r1 r2 (h3.trans r3)
   | exit i=>exact hQ (.exit i) st' E' w' a' h1 h2 h3
   | ret=>exact hQ .ret st' E' w' a' h1 h2 h3
 | cond cv x y ihx ihy=>
  intro tc gs Q st QQ hc hd hok hth hpn h E w a r hQ;simp only [zv] at hc;obtain ⟨xv,hv,hc⟩:=za hc;obtain ⟨xa,ha,hc⟩:=za hc;obtain ⟨xb,hb,hc⟩:=za hc;simp only [Option.some.injEq] at hc;cases tc <;> simp only [er] at hc <;> first | (cases hc;done) | skip
  rename_i cx ta tb';injection hc with e0 e1 e2
  subst e0;subst e1;subst e2;simp only [er,zCS,Bool.and_eq_true] at hd;simp only [tcOK,Bool.and_eq_true] at hok;simp only [tcN,Bool.and_eq_true] at hpn;simp only [WT] at h;obtain ⟨β,s,kp,df⟩:=r.out;split at h
  ·rename_i cb hcb;have hval:=(zu s.hf s.hg hv hcb).of_bool;split at h
   ·rename_i n;have hget:st.fr.get n=some (.bool cb):=hcb;unfold brT at h;rcases zCx h with ⟨rfl,h2⟩ | ⟨rfl,h2⟩
    ·exact wp_cond_true hval (ihx ha hd.1 hok.1 hth.1 hpn.1 h2 (r.known hget) hQ)
    ·exact wp_cond_false hval (ihy hb hd.2 hok.2 hth.2 hpn.2 h2 (r.known hget) hQ)
   ·rcases zCx h with ⟨rfl,h2⟩ | ⟨rfl,h2⟩
    ·exact wp_cond_true hval (ihx ha hd.1 hok.1 hth.1 hpn.1 h2 r hQ)
    ·exact wp_cond_false hval (ihy hb hd.2 hok.2 hth.2 hpn.2 h2 r hQ)
  ·exact h.elim
 | block i b ih=>
  intro tc gs Q st QQ hc hd hok hth hpn h E w a r hQ;simp only [zv] at hc;obtain ⟨xb,hb,hc⟩:=za hc;simp only [Option.some.injEq] at hc;cases tc <;> simp only [er] at hc <;> first | (cases hc;done) | skip
  rename_i j tb';injection hc with e0 e1
  subst e0;subst e1;refine wp_block (ih hb hd hok hth hpn h r fun x st' E' w' a' h1 h2 h3=>?_)
  cases x with
  | normal=>exact hQ .normal st' E' w' a' h1 h2 h3
  | ret=>exact hQ .ret st' E' w' a' h1 h2 h3
  | exit j=>
   show (if j=i then QQ .normal a' w' else QQ (.exit j) a' w')
   simp only [zOB] at h1;split at h1
   ·rename_i e;rw [if_pos (zb e)];exact hQ .normal st' E' w' a' h1 h2 h3
   ·rename_i e;rw [if_neg (zAg e)];exact hQ (.exit j) st' E' w' a' h1 h2 h3
 | loop b ih=>
  intro tc gs Q st QQ hc hd hok hth hpn h E w a r hQ;simp only [zv] at hc;obtain ⟨xb,hb,hc⟩:=za hc;simp only [Option.some.injEq] at hc;cases tc <;> simp only [er] at hc <;> first | (cases hc;done) | skip
  ·rename_i cc I tb' _;injection hc with e1
   subst e1;obtain ⟨⟨n0,h0⟩,hstep⟩:=h;obtain ⟨vs0,H0,V0,q1,E1,q2⟩:=r.cut hG h0;refine wp_loop_ghost (fun n a1 w1=>∃vs H V E,I (n::gs) vs H V/\Rs G nt Z0 B0 w0 dl E w1 a1 (mkW cc vs H V)/\At pn a a1) n0 ⟨vs0,H0,V0,E1,q1,q2,.refl⟩ ?_
   rintro n a1 w1 ⟨vs,H,V,E2,k1,k2,k3⟩
   refine ih hb hd hok hth hpn (hstep n _ _ _ k1) k2 fun x st' E' w' a' h1 h2 h3=>?_
   cases x with
   | normal=>
    obtain ⟨n',hlt,hcut⟩:=h1;obtain ⟨vs',H',V',q1,E3,q2⟩:=h2.cut hG hcut;exact ⟨n',hlt,vs',H',V',E3,q1,q2,k3.trans h3⟩
   | exit i=>exact hQ (.exit i) st' E' w' a' h1 h2 (k3.trans h3)
   | ret=>exact hQ .ret st' E' w' a' h1 h2 (k3.trans h3)
  ·rename_i k tb' _;injection hc with e1
   subst e1;refine wp_loop_ghost (fun n a1 w1=>∃st E,zK9 (fun n Q st=>WT G tb tb' (n::gs) Q st) Q n st/\Rs G nt Z0 B0 w0 dl E w1 a1 st/\At pn a a1) k ⟨st,E,h,r,.refl⟩ ?_
   rintro n a1 w1 ⟨st1,E1,k1,k2,k3⟩
   cases n with
   | zero=>exact k1.elim
   | succ n=>
    refine ih hb hd hok hth hpn k1 k2 fun x st' E' w' a' h1 h2 h3=>?_
    cases x with
    | normal=>exact ⟨n,Nat.lt_succ_self n,st',E',h1,h2,k3.trans h3⟩
    | exit i=>exact hQ (.exit i) st' E' w' a' h1 h2 (k3.trans h3)
    | ret=>exact hQ .ret st' E' w' a' h1 h2 (k3.trans h3)
 | scope b ih=>
  intro tc gs Q st QQ hc hd hok hth hpn h E w a r hQ;simp only [zv] at hc;have hb:=ih (QQ:=fun e a w=>QQ e a w/\∃x,e=zOw x) hc hd hok hth hpn h r fun x st' E' w' a' h1 h2 h3=>⟨hQ x st' E' w' a' h1 h2 h3,x,rfl⟩
  intro b' k cs;obtain ⟨e,a₁,w₁,⟨hq,x,rfl⟩,harr⟩:=hb b' (.inScope b::k) cs;cases x with
  | normal=>exact ⟨.normal,a₁,w₁,hq,.head step_scope (Steps.trans harr (.one step_inScope))⟩
  | exit id=>exact ⟨.exit id,a₁,w₁,hq,fun k' hk=>.head step_scope (harr k' (by simpa [exitTo] using hk))⟩
  | ret=>exact ⟨.ret,a₁,w₁,hq,.of_steps (.one step_scope) harr⟩
 | refuse why=>
  intro tc gs Q st QQ hc hd hok hth hpn h E w a r hQ;simp only [zv,Option.some.injEq] at hc;cases tc <;> simp only [er] at hc <;> first | (cases hc;done) | skip
  injection hc with e0 e1 e2
  subst e0;exact h.elim
 | _=>
  intro tc gs Q st QQ hc;simp [zv] at hc
theorem zUk {x y:Code} {z:XC} (h:mpat P x y=some z):∃p m it D en W id1 rest body,z=.seq p (.mrange m it D en W id1 rest body):=by
 unfold mpat at h;split at h
 ·split at h
  ·split at h
   ·obtain ⟨m,_,h⟩:=za h;obtain ⟨b,_,h⟩:=za h;cases h;exact ⟨_,_,_,_,_,_,_,_,_,rfl⟩
   ·cases h
  ·cases h
 ·cases h
theorem zTx {tc:TC} {m:XV} {it:Nat} {D:List Nat} {en W id1:Nat} {rest:List XOper} {body:XC}:er tc≠.mrange m it D en W id1 rest body:=by
 cases tc <;> simp [er]
theorem zRG (htb:TbW P G tb) (hG:GPP G) (hm:zAi P G) (hmix:P.follows .mixedOrders=true) {pn:List Nat}:∀(c:Code) {tc:TC} {gs:List Nat} {Q:Ext->Sta->Prop} {st:Sta} {QQ:Exit->Act->World->Prop},zHb P c=some (er tc)->zCS nt (er tc)=true->tcOK tc=true->tcH (HOK P G) tc->tcN pn tc=true->WT G tb tc gs Q st->∀{E w a},Rs G nt Z0 B0 w0 dl E w a st →
  (∀x st' E' w' a',Q x st'->Rs G nt Z0 B0 w0 dl E' w' a' st'->At pn a a'->QQ (zOw x) a' w')->c.wp P QQ a w:=by
 intro c
 induction c with
 | seq x y ihx ihy=>
  intro tc gs Q st QQ hc hd hok hth hpn h E w a r hQ;simp only [zHb] at hc;split at hc
  ·rename_i z hz;simp only [Option.some.injEq] at hc;subst hc;obtain ⟨p,m,it,D,en,W,id1,rest,body,e⟩:=zUk hz;cases tc <;> simp only [er] at e <;> first | (cases e;done) | skip
   ·injection e with _ e2;exact (zTx e2).elim
   ·injection e with _ e2;exact (zTx e2).elim
  obtain ⟨xa,ha,hc⟩:=za hc;obtain ⟨xb,hb,hc⟩:=za hc;simp only [Option.some.injEq] at hc;cases tc <;> simp only [er] at hc <;> first | (cases hc;done) | skip
  ·rename_i ta tb';injection hc with e1 e2
   subst e1;subst e2;simp only [er,zCS,Bool.and_eq_true] at hd;simp only [tcOK,Bool.and_eq_true] at hok;simp only [tcN,Bool.and_eq_true] at hpn;refine wp_seq (ihx ha hd.1 hok.1 hth.1 hpn.1 h r fun x st' E' w' a' h1 h2 h3=>?_)
   cases x with
   | normal=>exact ihy hb hd.2 hok.2 hth.2 hpn.2 h1 h2 fun x2 st2 E2 w2 a2 q1 q2 q3=>hQ x2 st2 E2 w2 a2 q1 q2 (h3.trans q3)
   | exit i=>exact hQ (.exit i) st' E' w' a' h1 h2 h3
   | ret=>exact hQ .ret st' E' w' a' h1 h2 h3
  ·rename_i cc J ta tb';injection hc with e1 e2
   subst e1;subst e2;simp only [er,zCS,Bool.and_eq_true] at hd;simp only [tcOK,Bool.and_eq_true] at hok;simp only [tcN,Bool.and_eq_true] at hpn;obtain ⟨ha',hb'⟩:=h;refine wp_seq (ihx ha hd.1 hok.1 hth.1 hpn.1 ha' r fun x st' E' w' a' h1 h2 h3=>?_)
   cases x with
   | normal=>
    obtain ⟨vs,H,V,q1,E1,q2⟩:=h2.cut hG h1;exact ihy hb hd.2 hok.2 hth.2 hpn.2 (hb' _ _ _ q1) q2 fun x2 st2 E2 w2 a2 r1 r2 r3=>hQ x2 st2 E2 w2 a2 r1 r2 (h3.trans r3)
   | exit i=>exact hQ (.exit i) st' E' w' a' h1 h2 h3
   | ret=>exact hQ .ret st' E' w' a' h1 h2 h3
 | _=>
  intro tc gs Q st QQ hc hd hok hth hpn h E w a r hQ;exact zUj htb hG hm hmix _ (by simpa only [zHb] using hc) hd hok hth hpn h r hQ
theorem zPz (s:SR G nt E w a β st):∀(d:Nat) {v v':AV} {cv:Value},CP st.mv st.m v->VR E w v cv->zAs st.H st.V d v=some v'->VR (frzE E β st.H st.V) w v' cv/\PP v':=by
 have hpp:∀{v:AV} {cv:Value},PP v->VR E w v cv->VR (frzE E β st.H st.V) w v cv:=fun hp hv=>VR.pp (E:=E) (E':=frzE E β st.H st.V) (w:=w) (w':=w) (fun b hb=>⟨.inl hb,rfl⟩) hv hp
 intro d
 induction d with
 | zero=>intro v v' cv _ _ h;cases h
 | succ d ih=>
  intro v v' cv hcp hv h;have al:∀{xs ys:List AV} {vs:List Value},(∀e∈xs,CP st.mv st.m e)->VRs E w xs vs->zp (zAs st.H st.V d) xs=some ys->VRs (frzE E β st.H st.V) w ys vs/\∀e∈ys,PP e:=fun {xs ys vs} hc hvs hmm=>by
   obtain ⟨m1,m2⟩:=zAj hmm;have key:∀(i:Nat) y u,ys[i]? = some y->vs[i]? = some u->VR (frzE E β st.H st.V) w y u/\PP y:=fun i y u hy hu=>by
    have hi:i<xs.length:=by have:=(List.getElem?_eq_some_iff.1 hy).1;omega
    have hx:=List.getElem?_eq_getElem hi;exact ih (hc _ (List.mem_of_getElem? hx)) (hvs.2 i _ u hx hu) (m2 i _ y hx hy)
   refine ⟨⟨m1.trans hvs.1,fun i y u hy hu=>(key i y u hy hu).1⟩,fun e he=>?_⟩
   obtain ⟨i,hi⟩:=List.getElem?_of_mem he;have hlt:i<vs.length:=by have:=(List.getElem?_eq_some_iff.1 hi).1;have:=hvs.1;omega
   exact (key i e _ hi (List.getElem?_eq_getElem hlt)).2
  cases hcp with
  | sym j hj=>
   simp only [zAs] at h;split at h
   ·rename_i sz es hV;cases h;have:frz st.H st.V 1 (.sym j)=some (.lst sz es):=by simp only [frz,hV]
    exact ⟨zD8 s 1 (.sym j hj) hv this,.lst _ _ (zE9 s hV).1⟩
   ·cases h
  | agg cs hc=>
   simp only [zAs] at h;split at h
   ·rename_i cs' hcs;cases h;obtain ⟨vs,rfl,k1,k2⟩:=hv.of_agg;obtain ⟨g1,g2⟩:=al hc k1 hcs;exact ⟨VR.mk_agg g1 k2,.agg _ g2⟩
   ·cases h
  | tup cs hc=>
   simp only [zAs] at h;split at h
   ·rename_i cs' hcs;cases h;obtain ⟨vs,rfl,k1⟩:=hv.of_tup;obtain ⟨g1,g2⟩:=al hc k1 hcs;exact ⟨VR.mk_tup g1,.tup _ g2⟩
   ·cases h
  | ptr hh off hk=>
   simp only [zAs] at h;split at h
   ·rename_i str cs hg;split at h
    ·rename_i cs' hcs;cases h;have hmem:=Heap.mem_of_get hg;have hor:=s.hr.obj _ hmem;obtain ⟨vs,k1,k2,k3⟩:=zJu hor;obtain ⟨_,_,e1,hcc⟩:=s.cH.get hg;cases e1;obtain ⟨g1,g2⟩:=al hcc k1 hcs;refine ⟨?_,.eptr _ _ (.agg _ g2)⟩
     cases hv with
     | ptr _ _ hd=>
      have:=VR.eptr (E:=frzE E β st.H st.V) (w:=w) (.agg cs') off (E.ρ hh) 0 (.agg vs.toArray) rfl (.inr (.inl ⟨_,hmem,rfl⟩)) (VR.mk_agg (by simpa using g1) (fun v hv=>k2 v (by simpa using hv))) (fun j c hj=>by
       rw [Nat.zero_add];exact k3 j c (by simpa [Value.cells] using hj))
      rw [Nat.zero_add] at this;exact this
    ·cases h
   ·cases h
  | iface t u hu=>
   simp only [zAs] at h;split at h
   ·rename_i u' hu';cases h;cases hv with
    | iface _ _ cu hcu=>
     obtain ⟨g1,g2⟩:=ih hu hcu hu';exact ⟨.iface _ _ cu g1,.iface _ _ g2⟩
   ·cases h
  | func f x y ha hb=>
   simp only [zAs] at h;split at h
   ·rename_i x' hx;split at h
    ·rename_i y' hy;cases h;cases hv with
     | func _ _ _ vf vc hf hc rf rc=>
      obtain ⟨⟨g1,g2⟩,p1⟩:=al (vs:=vf.toList) ha ⟨by simpa using hf,fun i x v hx hv=>rf i x v hx (by simpa using hv)⟩ hx
      obtain ⟨⟨g3,g4⟩,p2⟩:=al (vs:=vc.toList) hb ⟨by simpa using hc,fun i x v hx hv=>rc i x v hx (by simpa using hv)⟩ hy
      exact ⟨.func _ _ _ vf vc (by simpa using g1) (by simpa using g3) (fun i x v hx hv=>g2 i x v hx (by simpa using hv)) (fun i x v hx hv=>g4 i x v hx (by simpa using hv)),.func _ _ _ p1 p2⟩
    ·cases h
   ·cases h
  | eptr e off he=>cases h;exact ⟨hpp (.eptr _ _ he) hv,.eptr _ _ he⟩
  | lst sz es he=>cases h;exact ⟨hpp (.lst _ _ he) hv,.lst _ _ he⟩
  | bool b=>cases h;exact ⟨hpp (.bool _) hv,.bool _⟩
  | int k m=>cases h;exact ⟨hpp (.int _ _) hv,.int _ _⟩
  | str s=>cases h;exact ⟨hpp (.str _) hv,.str _⟩
  | nilptr=>cases h;exact ⟨hpp .nilptr hv,.nilptr⟩
  | nilslice=>cases h;exact ⟨hpp .nilslice hv,.nilslice⟩
  | nilmap=>cases h;exact ⟨hpp .nilmap hv,.nilmap⟩
  | nilfunc=>cases h;exact ⟨hpp .nilfunc hv,.nilfunc⟩
  | niliface=>cases h;exact ⟨hpp .niliface hv,.niliface⟩
  | _=>cases h
theorem zHx {n k:Nat}:∀{i:Nat} {args:List AV},(∀x∈args,CP n k x)->FrCP n k (slots i args)
 | i,[],h,t,v,e=>by cases e
 | i,x::r,h,t,v,e=>by
  simp only [slots,Fr.get] at e;split at e
  ·cases e;exact h _ (.head _)
  ·exact zHx (fun y hy=>h y (.tail _ hy)) t v e
theorem zDN:∀tc:TC,tcN [] tc=true
 | .skip | .ret | .exit _=>rfl
 | .reg ops=>by
  simp only [tcN,List.all_eq_true];intro t _;cases t.o.dst <;> rfl
 | .draw pn' ops ds=>by
  simp only [tcN,List.all_nil,Bool.and_true,List.all_eq_true];intro t _;cases t.o.dst <;> rfl
 | .drawA ops ds=>by
  simp only [tcN,List.all_eq_true];intro t _;cases t.o.dst <;> rfl
 | .drawQ ops ds=>by
  simp only [tcN,List.all_eq_true];intro t _;cases t.o.dst <;> rfl
 | .seq a b=>by simp only [tcN,zDN a,zDN b];rfl
 | .seqJ _ _ a b=>by simp only [tcN,zDN a,zDN b];rfl
 | .cond _ a b=>by simp only [tcN,zDN a,zDN b];rfl
 | .block _ b=>by simp only [tcN,zDN b]
 | .loop _ _ b=>by simp only [tcN,zDN b]
 | .unroll _ b=>by simp only [tcN,zDN b]
theorem zVZ {f:Nat} {xf:XF} {tc:TC} (hx:FnX P f xf) (hb:xf.body=er tc) (hok:tcOK tc=true) (hG:GPP G) (hm:zAi P G) (hmix:P.follows .mixedOrders=true) (htb:TbW P G tb) (hth:tcH (HOK P G) tc) {args:List AV} {v:AV} (hlen:args.length=xf.np) (hpp:∀x∈args,PP x)
  (h:WT G tb tc [] (endP xf.res fun u=>u=v) ⟨slots 0 args,[],[],0,0⟩):Enters P f/\∀H nx,FnT P G f args H nx v H nx:=by
 obtain ⟨fn,hfn,hcf,hname⟩:=hx.ok;unfold zMg at hcf;obtain ⟨body,hbody,hcf⟩:=za hcf;obtain ⟨xc,hxc,hcf⟩:=za hcf;obtain ⟨rs,hrs,hcf⟩:=za hcf;split at hcf
 rotate_left
 ·cases hcf
 rename_i hokd;rw [Bool.and_eq_true] at hokd;simp only [Option.some.injEq] at hcf;subst hcf;simp only at hb hlen h;subst hb;have hnp:fn.params.size+fn.nfree<=fn.ntmps:=Nat.le_of_ble_eq_true hokd.2;refine ⟨⟨fn,body,hfn,hbody,hname⟩,fun H nx E w cargs hr hva hg hfr=>?_⟩
 have hsz:cargs.size=args.length:=by rw [hva.1];simp
 have hpv:∀{x:AV} {cx:Value},PP x->VR E w x cx->VR ⟨E.ρ,fun _=>False,E.Z,E.σ⟩ w x cx:=fun hp hv=>VR.pp (E:=E) (E':=⟨E.ρ,fun _=>False,E.Z,E.σ⟩) (w:=w) (w':=w) (fun b hb=>⟨hb,rfl⟩) hv hp
 have s0:SR G fn.ntmps ⟨E.ρ,fun _=>False,E.Z,E.σ⟩ w { tmps:=cargs++Array.replicate (fn.ntmps-cargs.size) undef,defers:=[] } (fun _=>none) ⟨slots 0 args,[],[],0,0⟩:=by
  refine ⟨⟨.nil,fun p hp=>by simp at hp,fun p hp=>by simp at hp,fun p hp=>by simp at hp,fun p hp=>by simp at hp,hr.zlt⟩,⟨?_,fun t u ht=>?_⟩,fun g u hgu=>⟨hpv (hG g u hgu) (hg g u hgu).1,(hg g u hgu).2⟩,fun h hh=>hh.elim,zHx fun x hx=>(hpp x hx).cp,fun p hp=>(by cases hp),fun j vi hj=>(by cases hj),fun j j2 i off hj=>(by cases hj),fun j vi b hj=>(by cases hj),fun j j' vi vi' b hj=>(by cases hj)⟩
  ·simp;omega
  ·obtain ⟨i,rfl,hi⟩:=zKn ht;obtain ⟨cv,h1,h2⟩:=hva.getElem? hi;have h3:cargs[i]? = some cv:=by simpa using h1
   have h4:=(Array.getElem?_eq_some_iff.1 h3).1;simp only [Nat.zero_add];rw [Array.getD_eq_getD_getElem?,Array.getElem?_append_left h4,h3];exact hpv (hpp u (List.mem_of_getElem? hi)) h2
 have r0:Rs G fn.ntmps E.Z (fun _=>False) w [] ⟨E.ρ,fun _=>False,E.Z,E.σ⟩ w { tmps:=cargs++Array.replicate (fn.ntmps-cargs.size) undef,defers:=[] } ⟨slots 0 args,[],[],0,0⟩:=by
  refine ⟨_,s0,Kp.less fun x hx=>?_,rfl⟩
  rcases hx with ⟨p,hp,_⟩ | ⟨j,vi,hj,_⟩
  ·cases hp
  ·cases hj
 refine calls_of_wp hfn hbody (zRG htb hG hm hmix body hxc hokd.1 hok hth (pn:=[]) (zDN tc) h r0 fun x st' E' w' a' hq r' _=>?_)
 obtain ⟨β,s,kp,df⟩:=r'.out;have fin:∀{x:Ext},(∀i,x≠.exit i)->endP rs (fun u=>u=v) x st'->a'.defers=[]/\∃v_1,(results fn a'.tmps).run P w'=.ok v_1 w'/\∃cv E',(Ending.returned v_1)=.returned cv/\HR E' H w'/\Tr E H w E' H w' nx nx/\VR E' w' v cv:=by
  intro x hne hq;have:∃vs,ress st'.H st'.fr rs=some vs/\(match zAs st'.H st'.V 8 (zBt vs) with | some v'=>v'=v | none=>False):=by
   cases x with
   | exit i=>exact absurd rfl (hne i)
   | normal=>
    unfold endP endW at hq;simp only at hq;split at hq
    ·rename_i vs hvs;exact ⟨vs,hvs,hq⟩
    ·exact hq.elim
   | ret=>
    unfold endP endW at hq;simp only at hq;split at hq
    ·rename_i vs hvs;exact ⟨vs,hvs,hq⟩
    ·exact hq.elim
  obtain ⟨vs,hvs,hq⟩:=this;obtain ⟨cv,e1,e2⟩:=zJY s.hr s.hf hrs hvs;split at hq
  rotate_left
  ·exact hq.elim
  rename_i v' hv';subst hq;have hcpv:CP st'.mv st'.m (zBt vs):=by
   have hall:∀{rs:List XR} {vs:List AV},ress st'.H st'.fr rs=some vs->∀u∈vs,CP st'.mv st'.m u:=by
    intro rs
    induction rs with
    | nil=>intro vs h u hu;cases h;cases hu
    | cons q qs ih=>
     intro vs h u hu;simp only [ress] at h;split at h
     ·rename_i z hz;split at h
      ·rename_i zs hzs;cases h;rcases List.mem_cons.1 hu with rfl | hu
       ·cases q with
        | t n=>exact s.cfr n _ hz
        | cell n sz ag=>
         simp only [zN2] at hz;split at hz
         ·rename_i ab hab;exact zLP s.cH (s.cfr n ab hab) hz
         ·cases hz
       ·exact ih hzs u hu
      ·cases h
     ·cases h
   have hvs':=hall hvs;cases vs with
   | nil=>exact .tup _ fun e he=>by cases he
   | cons u us=>
    cases us with
    | nil=>exact hvs' u (.head _)
    | cons u2 us=>exact .tup _ hvs'
  obtain ⟨k1,k2⟩:=zPz s 8 hcpv e2 hv';have hZ:∀z,(frzE E' β st'.H st'.V).Z z->E.Z z\/w.heap.size<=z:=by
   rintro z (hz | hz)
   ·rcases kp.znew z hz with h | h | h
    ·exact .inl h
    ·exact h.elim
    ·exact .inr h
   ·rcases kp.own z hz with h | h
    ·exact h.elim
    ·exact .inr h
  have hzlt:∀z,(frzE E' β st'.H st'.V).Z z->z<w'.heap.size:=by
   rintro b (hb | ⟨p,hp,rfl⟩ | ⟨j,vi,q1,q2,q3⟩)
   ·exact s.hr.zlt b hb
   ·exact s.hr.lt hp
   ·exact (s.vok j vi q1).2.lt q2 q3
  have hold:∀x,x<w.heap.size->w'.heap[x]? = w.heap[x]?:=fun x hx=>kp.old x hx fun h=>h
  refine ⟨df,cv,e1,cv,⟨E.ρ,E.D,(frzE E' β st'.H st'.V).Z,E.σ⟩,rfl,⟨hr.nodup,hr.dom,hr.inj,fun p hp=>?_,fun p hp hz=>?_,hzlt⟩,⟨Nat.le_refl _,fun _ _=>rfl,fun h=>⟨.inl,fun h=>h.elim id fun ⟨x,y⟩=>by omega⟩,fun z hz=>.inl (kp.zmono z hz),fun z hz=>(hZ z hz).imp id .inr,fun p hp=>.inl ⟨p,hp,rfl⟩,kp.tape,kp.os,kp.output,kp.size,fun x hx _=>hold x hx,kp.shapes,rfl⟩,?_⟩
  ·refine (hr.obj p hp).mono (hold _ (hr.lt hp)) fun hv=>?_
   exact VR.mono (E:=E) (E':=⟨E.ρ,E.D,(frzE E' β st'.H st'.V).Z,E.σ⟩) (fun _ h=>⟨h,rfl⟩) (fun b hb=>⟨.inl (kp.zmono b hb),hold b (hr.zlt b hb)⟩) kp.shapes hv
  ·rcases hZ _ hz with h | h
   ·exact hr.nz p hp h
   ·have:=hr.lt hp;have h:w.heap.size<=E.ρ p.1:=h;omega
  ·exact VR.pp (E:=frzE E' β st'.H st'.V) (E':=⟨E.ρ,E.D,(frzE E' β st'.H st'.V).Z,E.σ⟩) (w:=w') (w':=w') (fun b hb=>⟨hb,rfl⟩) k1 k2
 cases x with
 | normal=>exact fin (fun i e=>by cases e) hq
 | ret=>exact fin (fun i e=>by cases e) hq
 | exit i=>exact hq.elim
end
end Go.Sy
namespace Go.Sy
section
variable {P:Program} {G:Cx} {tb:TblS}
theorem zKI {fr:Fr}:∀{pn:List Nat} {i0:Nat},pinE fr i0 pn=true->∀(j t:Nat),pn[j]? = some t->fr.get t=some (.ptr (i0+j) 0)
 | [],i0,h,j,t,e=>by simp at e
 | t0::r,i0,h,j,t,e=>by
  simp only [pinE,Bool.and_eq_true] at h;obtain ⟨h1,h2⟩:=h;cases j with
  | zero=>
   simp only [List.getElem?_cons_zero,Option.some.injEq] at e;subst e;split at h1
   ·rename_i hd hg;rw [hg,zb h1];rfl
   ·cases h1
  | succ j=>
   have:=zKI h2 j t (by simpa using e)
   rw [this];congr 2;omega
theorem zPX {E:Env} {w:World} {h o:Nat} {cv:Value} (hv:VR E w (.ptr h o) cv):cv=.pointer (some ⟨E.ρ h,o,none⟩):=by
 cases hv;rfl
theorem zM7 {n k:Nat} {H:Heap} {fr:Fr} (hf:FrCP n k fr) (hH:HCP n k H):∀{rs:List XR} {vs:List AV},ress H fr rs=some vs->∀u∈vs,CP n k u:=by
 intro rs
 induction rs with
 | nil=>intro vs h u hu;cases h;cases hu
 | cons q qs ih=>
  intro vs h u hu;simp only [ress] at h;split at h
  ·rename_i z hz;split at h
   ·rename_i zs hzs;cases h;rcases List.mem_cons.1 hu with rfl | hu
    ·cases q with
     | t n=>exact hf n _ hz
     | cell n sz ag=>
      simp only [zN2] at hz;split at hz
      ·rename_i ab hab;exact zLP hH (hf n ab hab) hz
      ·cases hz
    ·exact ih hzs u hu
   ·cases h
  ·cases h
theorem zLW {n k:Nat} {vs:List AV} (h:∀u∈vs,CP n k u):CP n k (zBt vs):=by
 cases vs with
 | nil=>exact .tup _ fun e he=>by cases he
 | cons u us=>
  cases us with
  | nil=>exact h u (.head _)
  | cons u2 us=>exact .tup _ h
theorem zVA {f:Nat} {xf:XF} {tc:TC} (hx:FnX P f xf) (hb:xf.body=er tc) (hok:tcOK tc=true) (hG:GPP G) (hm:zAi P G) (hmix:P.follows .mixedOrders=true) (htb:TbW P G tb) (hth:tcH (HOK P G) tc) {pn:List Nat} (hpn:tcN pn tc=true)
  {args:List AV} {H:Heap} {V:Vecs} {v:AV} {H2:Heap} {V2:Vecs} (hlen:args.length=xf.np) (hpa:pinE (slots 0 args) 0 pn=true)
  (h:WT G tb tc [] (endH xf.res pn fun u H' V'=>u=v/\H'=H2/\V'=V2) ⟨slots 0 args,H,V,H.length,V.length⟩):Enters P f/\HFn P G f args H V v H2 V2:=by
 obtain ⟨fn,hfn,hcf,hname⟩:=hx.ok;unfold zMg at hcf;obtain ⟨body,hbody,hcf⟩:=za hcf;obtain ⟨xc,hxc,hcf⟩:=za hcf;obtain ⟨rs,hrs,hcf⟩:=za hcf;split at hcf
 rotate_left
 ·cases hcf
 rename_i hokd;rw [Bool.and_eq_true] at hokd;simp only [Option.some.injEq] at hcf;subst hcf;simp only at hb hlen h;subst hb;have hnp:fn.params.size+fn.nfree<=fn.ntmps:=Nat.le_of_ble_eq_true hokd.2;refine ⟨⟨fn,body,hfn,hbody,hname⟩,fun E w β cargs s hva hcp=>?_⟩
 have hsz:cargs.size=args.length:=by rw [hva.1];simp
 have hfr0:FrR E w (slots 0 args) { tmps:=cargs++Array.replicate (fn.ntmps-cargs.size) undef,defers:=[] } fn.ntmps:=by
  refine ⟨?_,fun t u ht=>?_⟩
  ·simp;omega
  ·obtain ⟨i,rfl,hi⟩:=zKn ht;obtain ⟨cv,h1,h2⟩:=hva.getElem? hi;have h3:cargs[i]? = some cv:=by simpa using h1
   have h4:=(Array.getElem?_eq_some_iff.1 h3).1;simp only [Nat.zero_add];rw [Array.getD_eq_getD_getElem?,Array.getElem?_append_left h4,h3];exact h2
 have s0:SR G fn.ntmps E w { tmps:=cargs++Array.replicate (fn.ntmps-cargs.size) undef,defers:=[] } β ⟨slots 0 args,H,V,H.length,V.length⟩:=
  ⟨s.hr,hfr0,s.hg,s.dom,zHx hcp,s.cH,s.vok,s.vp,s.bz,s.binj⟩
 have r0:Rs G fn.ntmps E.Z (BS E β H V) w [] E w { tmps:=cargs++Array.replicate (fn.ntmps-cargs.size) undef,defers:=[] } ⟨slots 0 args,H,V,H.length,V.length⟩:=⟨β,s0,Kp.refl,rfl⟩;refine calls_of_wp hfn hbody (zRG htb hG hm hmix body hxc hokd.1 hok hth hpn h r0 fun x st' E' w' a' hq r' hat=>?_)
 obtain ⟨β',s',kp,df⟩:=r'.out;have fin:∀{x:Ext},(∀i,x≠.exit i)->endH rs pn (fun u H' V'=>u=v/\H'=H2/\V'=V2) x st'->a'.defers=[]/\∃v_1,(results fn a'.tmps).run P w'=.ok v_1 w' ∧
   ∃cv E' β',(Ending.returned v_1)=.returned cv/\VR E' w' v cv/\(∀p∈H2,E'.ρ p.1=E.ρ p.1)/\SR G 0 E' w' { tmps:=#[],defers:=[] } β' ⟨[],H2,V2,H2.length,V2.length⟩/\Kp E.Z (BS E β H V) w E'.Z (BS E' β' H2 V2) w':=by
  intro x hne hq;have:∃vs,ress st'.H st'.fr rs=some vs/\(match zK7 (zBt vs) with
    | false=>match hasH 8 (zBt vs)||!pinE st'.fr 0 pn with
     | false=>zCb (List.range pn.length) (zCw st'.H (List.range pn.length) []) [] st' fun _ H V=>(zBt vs)=v/\H=H2/\V=V2
     | true=>False
    | true=>match pinE st'.fr 0 pn with
     | true=>zCb (List.range pn.length) (zCw st'.H (List.range pn.length) (zFi 8 (zBt vs) [])) [zBt vs] st' fun us H V=>match us with
      | [u]=>u=v/\H=H2/\V=V2
      | _=>False
     | false=>False):=by
   cases x with
   | exit i=>exact absurd rfl (hne i)
   | normal=>
    unfold endH endW at hq;simp only at hq;split at hq
    ·rename_i vs hvs;exact ⟨vs,hvs,hq⟩
    ·exact hq.elim
   | ret=>
    unfold endH endW at hq;simp only at hq;split at hq
    ·rename_i vs hvs;exact ⟨vs,hvs,hq⟩
    ·exact hq.elim
  obtain ⟨vs,hvs,hq⟩:=this;obtain ⟨cv,e1,e2⟩:=zJY s'.hr s'.hf hrs hvs;have hold:∀{hm:List Nat} {sm:List Nat} {H3:Heap} {V3:Vecs},pinE st'.fr 0 pn=true->hm=List.range pn.length->CanV hm sm st' H3 V3->∀p∈H3,(zP E' hm sm).ρ p.1=E.ρ p.1:=fun {hm sm H3 V3} hpin hhm cn p hp=>by
   subst hhm;obtain ⟨_,g2,_⟩:=zGj cn.rh;have hlt:p.1<pn.length:=by
    have:p.1∈H3.keys:=List.mem_map.2 ⟨p,hp,rfl⟩;rw [g2,List.mem_range'] at this;obtain ⟨i,h1,h2⟩:=this;rw [List.length_range] at h1;omega
   have hpt:=List.getElem?_eq_getElem hlt;have f1:=zPX (hfr0.get _ _ (zKI hpa p.1 _ hpt));have f2:=zPX (s'.hf.get _ _ (zKI hpin p.1 _ hpt));have f3:=hat _ (List.mem_of_getElem? hpt);rw [f1,f2] at f3;simp only [Nat.zero_add,Value.pointer.injEq,Option.some.injEq,Addr.mk.injEq,and_true] at f3;show E'.ρ ((List.range pn.length).getD p.1 0)=E.ρ p.1
   rw [List.getD_eq_getElem?_getD,List.getElem?_range hlt];exact f3
  split at hq
  ·split at hq
   rotate_left
   ·exact hq.elim
   rename_i hcond;rw [Bool.or_eq_false_iff] at hcond;obtain ⟨hh,hpin⟩:=hcond;simp only [Bool.not_eq_false'] at hpin;obtain ⟨vs',H3,V3,⟨q1,q2,q3⟩,cn,_,_,_,hsr,kp3⟩:=zIa hG s' (vs0:=[]) (cvs:=[]) (fun v hv=>by cases hv) ⟨rfl,fun i x u hx=>by simp at hx⟩ hq
   subst q2;subst q3;have hppv:PP v:=q1▸zHg 8 (zLW (zM7 s'.cfr s'.cH hvs)) hh
   rw [q1] at e2;exact ⟨df,cv,e1,cv,_,_,rfl,VR.pp (E:=E') (E':=zP E' _ _) (w:=w') (w':=w') (fun b hb=>⟨hb,rfl⟩) e2 hppv,hold hpin rfl cn,hsr 0 { tmps:=#[],defers:=[] } [] ⟨rfl,fun t v h=>by cases h⟩ (fun t v h=>by cases h),kp.trans kp3⟩
  ·split at hq
   rotate_left
   ·exact hq.elim
   rename_i hpin;have hcp1:∀u∈[zBt vs],CP st'.mv st'.m u:=fun u hu=>by
    rw [List.mem_singleton.1 hu];exact zLW (zM7 s'.cfr s'.cH hvs)
   have hvr1:VRs E' w' [zBt vs] [cv]:=⟨rfl,fun i x u hx hu=>by
    cases i with
    | zero=>cases hx;cases hu;exact e2
    | succ i=>simp at hx⟩
   obtain ⟨vs',H3,V3,hq3,cn,_,hvr,_,hsr,kp3⟩:=zIa hG s' hcp1 hvr1 hq;split at hq3
   rotate_left
   ·exact hq3.elim
   rename_i u;obtain ⟨rfl,rfl,rfl⟩:=hq3;exact ⟨df,cv,e1,cv,_,_,rfl,hvr.2 0 _ _ rfl rfl,hold hpin rfl cn,hsr 0 { tmps:=#[],defers:=[] } [] ⟨rfl,fun t v h=>by cases h⟩ (fun t v h=>by cases h),kp.trans kp3⟩
 cases x with
 | normal=>exact fin (fun i e=>by cases e) hq
 | ret=>exact fin (fun i e=>by cases e) hq
 | exit i=>exact hq.elim
end
end Go.Sy
namespace Go.Sy
def OptJ (β:Type):Type:=Option β
def gd {β:Type} (b:Bool) (x:Option β):Option β:=(match b with
 | true=>x
 | false=>none:OptJ β)
def br {β:Type} (b:Bool) (x y:Option β):Option β:=(match b with
 | true=>x
 | false=>y:OptJ β)
def bd {α β:Type} (o:Option α) (f:α->Option β):Option β:=(match o with
 | some a=>f a
 | none=>none:OptJ β)
inductive D where
 | v (k:K)
 | hc (h:Nat) (str:Bool) (n:Nat)
 | vec (j sz:Nat)
 | mp (j:Nat)
 | mpc (j:Nat) (es:List (AV×AV))
abbrev DT (β:Type):List D->Type
 | []=>Option β
 | .v .b::r=>Bool->DT β r
 | .v (.i _)::r=>Int->DT β r
 | .v .s::r=>List Nat->DT β r
 | .v (.l _)::r=>List AV->DT β r
 | .v .av::r=>AV->DT β r
 | .v (.c _)::r=>DT β r
 | .v (.agg _)::r=>DT β r
 | .v (.tup _)::r=>DT β r
 | .v (.ep _)::r=>DT β r
 | .v (.ifc _)::r=>DT β r
 | .hc _ _ _::r=>DT β r
 | .vec _ _::r=>List AV->DT β r
 | .mp _::r=>List (AV×AV)->DT β r
 | .mpc _ _::r=>DT β r
def mflat:List (AV×AV)->List AV
 | []=>[]
 | (k,v)::r=>k::v::mflat r
def din {β:Type}:(wk:Bool)->(ds:List D)->DT β ds->List AV->Heap->Vecs->Option β
 | wk,[],P,vs,H,V=>match vs with
  | []=>match H with
   | []=>match V with
    | []=>P
    | _=>none
   | _=>none
  | _=>none
 | wk,.v .b::r,P,vs,H,V=>match vs with
  | .bool b::vs=>din wk r (P b) vs H V
  | _=>none
 | wk,.v (.i k)::r,P,vs,H,V=>match vs with
  | .int k' n::vs=>match ksame k k' with
   | true=>din wk r (P n) vs H V
   | false=>none
  | _=>none
 | wk,.v .s::r,P,vs,H,V=>match vs with
  | .str s::vs=>din wk r (P s) vs H V
  | _=>none
 | wk,.v (.l sz)::r,P,vs,H,V=>match vs with
  | .lst sz' es::vs=>match Nat.beq sz sz' with
   | true=>din wk r (P es) vs H V
   | false=>none
  | .nilslice::vs=>match wk with
   | true=>din wk r (P []) vs H V
   | false=>none
  | _=>none
 | wk,.v .av::r,P,vs,H,V=>match vs with
  | v::vs=>din wk r (P v) vs H V
  | _=>none
 | wk,.v (.c v)::r,P,vs,H,V=>match vs with
  | u::vs=>match aeq 20 u v with
   | true=>din wk r P vs H V
   | false=>none
  | _=>none
 | wk,.v (.agg n)::r,P,vs,H,V=>match vs with
  | .agg cs::vs=>match Nat.beq cs.length n with
   | true=>din wk r P (cs++vs) H V
   | false=>none
  | _=>none
 | wk,.v (.tup n)::r,P,vs,H,V=>match vs with
  | .tup cs::vs=>match Nat.beq cs.length n with
   | true=>din wk r P (cs++vs) H V
   | false=>none
  | _=>none
 | wk,.v (.ep off)::r,P,vs,H,V=>match vs with
  | .eptr e off'::vs=>match Nat.beq off off' with
   | true=>din wk r P (e::vs) H V
   | false=>none
  | _=>none
 | wk,.v (.ifc t)::r,P,vs,H,V=>match vs with
  | .iface t' e::vs=>match Nat.beq t t' with
   | true=>din wk r P (e::vs) H V
   | false=>none
  | _=>none
 | wk,.hc h str n::r,P,vs,H,V=>match vs with
  | []=>match H with
   | (h',.cells str' cs)::H=>match Nat.beq h h'&&str==str'&&Nat.beq cs.length n with
    | true=>din false r P cs H V
    | false=>none
   | _=>none
  | _=>none
 | wk,.vec j sz::r,P,vs,H,V=>match vs with
  | []=>match V with
   | (j',.vec sz' es)::V=>match Nat.beq j j'&&Nat.beq sz sz' with
    | true=>din false r (P es) [] H V
    | false=>none
   | _=>none
  | _=>none
 | wk,.mp j::r,P,vs,H,V=>match vs with
  | []=>match V with
   | (j',.mp es)::V=>match Nat.beq j j' with
    | true=>din false r (P es) [] H V
    | false=>none
   | _=>none
  | _=>none
 | wk,.mpc j es0::r,P,vs,H,V=>match vs with
  | []=>match V with
   | (j',.mp es)::V=>match Nat.beq j j'&&aeq 20 (.agg (mflat es)) (.agg (mflat es0)) with
    | true=>din false r P [] H V
    | false=>none
   | _=>none
  | _=>none
def dout {β:Type}:(ds:List D)->(List AV->Heap->Vecs->Option β)->DT β ds
 | [],F=>F [] [] []
 | .v .b::r,F=>fun b=>dout r fun vs H V=>F (.bool b::vs) H V
 | .v (.i k)::r,F=>fun n=>dout r fun vs H V=>F (.int k n::vs) H V
 | .v .s::r,F=>fun s=>dout r fun vs H V=>F (.str s::vs) H V
 | .v (.l sz)::r,F=>fun es=>dout r fun vs H V=>F (.lst sz es::vs) H V
 | .v .av::r,F=>fun v=>dout r fun vs H V=>F (v::vs) H V
 | .v (.c v)::r,F=>dout r fun vs H V=>F (v::vs) H V
 | .v (.agg n)::r,F=>dout r fun vs H V=>F (.agg (vs.take n)::vs.drop n) H V
 | .v (.tup n)::r,F=>dout r fun vs H V=>F (.tup (vs.take n)::vs.drop n) H V
 | .v (.ep off)::r,F=>dout r fun vs H V=>match vs with
  | e::vs=>F (.eptr e off::vs) H V
  | []=>none
 | .v (.ifc t)::r,F=>dout r fun vs H V=>match vs with
  | e::vs=>F (.iface t e::vs) H V
  | []=>none
 | .hc h str n::r,F=>dout r fun vs H V=>F [] ((h,.cells str vs)::H) V
 | .vec j sz::r,F=>fun es=>dout r fun vs H V=>F vs H ((j,.vec sz es)::V)
 | .mp j::r,F=>fun es=>dout r fun vs H V=>F vs H ((j,.mp es)::V)
 | .mpc j es::r,F=>dout r fun vs H V=>F vs H ((j,.mp es)::V)
def dK {β:Type} (wk:Bool) (ks:List K) (o:Option AV) (f:DT β (ks.map .v)):Option β:=match o with
 | some v=>din wk (ks.map .v) f [v] [] []
 | none=>none
def dko {β:Type} (ks:List K) (k:AV->Option β):DT β (ks.map .v):=dout (ks.map .v) fun vs _ _=>match vs with
 | [v]=>k v
 | _=>none
def dD {β:Type} (wk:Bool) (ds:List D) (o:Option (AV×Heap×Vecs)) (f:DT β ds):Option β:=match o with
 | some (v,H,V)=>din wk ds f [v] H V
 | none=>none
def ddo {β:Type} (ds:List D) (k:AV->Heap->Vecs->Option β):DT β ds:=dout ds fun vs H V=>match vs with
 | [v]=>k v H V
 | _=>none
abbrev TbF:=List (Nat×(List AV->Option AV))
def zLc:TbF->Nat->Option (List AV->Option AV)
 | [],_=>none
 | s::r,f=>match Nat.beq f s.1 with
  | true=>some s.2
  | false=>zLc r f
def zN8 {β:Type} (wk:Bool) (tb:TbF) (f:Nat) (args:List AV) (ks:List K) (k:AV->Option β):Option β:=
 match zLc tb f with
 | some g=>match ks with
  | []=>bd (g args) k
  | _=>dK wk ks (g args) (dko ks k)
 | none=>none
def fcall {β:Type} (wk:Bool) (tb:TbF) (f:Nat) (args:List AV) (ks:List K) (st:Sta) (k:AV->Sta->Option β):Option β:=
 match args.any (hasH 8) with
 | false=>zN8 wk tb f args ks fun v=>k v st
 | true=>match zp (frz st.H st.V 8) args with
  | some args=>zN8 wk tb f args ks fun v=>match zAM 8 v with
   | true=>k v st
   | false=>none
  | none=>none
def zMJ {β:Type} (n:Int) (lo hi:Option AV) (k:Int->Int->Option β):Option β:=
 match lo with
 | none=>match hi with
  | none=>k 0 n
  | some (.int _ h)=>gd (decide (0<=h/\h<=n)) (k 0 h)
  | _=>none
 | some (.int _ l)=>match hi with
  | none=>gd (decide (0<=l/\l<=n)) (k l n)
  | some (.int _ h)=>gd (decide (0<=l/\l<=h/\h<=n)) (k l h)
  | _=>none
 | _=>none
abbrev FXd {β:Type} (st:Sta) (x:Option Out) (k:AV->Sta->Option β):Option β:=match x with
 | some (v,H,m)=>k v ⟨st.fr,H,st.V,m,st.mv⟩
 | none=>none
def zKJ {β:Type} (n:Int):Nat->(Nat->Option β)->Option β
 | 0,_=>none
 | m+1,k=>br (decide (n=.ofNat m)) (k m) (zKJ n m k)
def lkB {β:Type} (ag:Bool) (kd:List Kd) (kv:AV):List (AV×AV)->(Option AV->Option β)->Option β
 | [],k=>k none
 | (j,v)::r,k=>match eqk ag kd kv j with
  | some b=>br b (k (some v)) (lkB ag kd kv r k)
  | none=>none
def fop {β:Type} (wk:Bool) (G:Cx) (tb:TbF) (st:Sta) (o:XO) (ks:List K) (k:AV->Sta->Option β):Option β:=
 match o with
 | .bin op x y=>match x.ev G st.fr with
  | some (.str a)=>match op with
   | .add=>match y.ev G st.fr with
    | some (.str b)=>gd (decide (a.length+b.length<=zf)) (k (.str (a++b)) st)
    | _=>none
   | op=>FXd st (xoS G ze st.fr st.H st.m (.bin op x y)) k
  | some (.int k1 a)=>match op with
   | .quo=>match y.ev G st.fr with
    | some (.int k2 b)=>match ksame k1 k2 with
     | true=>gd (decide (b≠0)) (k (.int k1 (wrapx k1 (a.tdiv b))) st)
     | false=>none
    | _=>none
   | .rem=>match y.ev G st.fr with
    | some (.int k2 b)=>match ksame k1 k2 with
     | true=>gd (decide (b≠0)) (k (.int k1 (a.tmod b)) st)
     | false=>none
    | _=>none
   | .shl=>match y.ev G st.fr with
    | some (.int _ b)=>gd (decide (0<=b)) (k (.int k1 (wrapx k1 (a*2 ^ (Min.min b.toNat k1.bits)))) st)
    | _=>none
   | .shr=>match y.ev G st.fr with
    | some (.int _ b)=>gd (decide (0<=b)) (k (.int k1 (a.fdiv (2 ^ (Min.min b.toNat k1.bits)))) st)
    | _=>none
   | op=>FXd st (xoS G ze st.fr st.H st.m (.bin op x y)) k
  | _=>none
 | .aeq neg kd x y=>match x.ev G st.fr with
  | some (.agg a)=>match y.ev G st.fr with
   | some (.agg b)=>match eqv kd a b with
    | some r=>k (bneg neg r) st
    | none=>none
   | _=>none
  | _=>none
 | .pick c a b=>match c.ev G st.fr with
  | some (.bool cb)=>match c with
   | .t n=>br cb (match a.ev G st.fr with
     | some v=>k v ⟨st.fr.put n (.bool true),st.H,st.V,st.m,st.mv⟩
     | none=>none) (match b.ev G st.fr with
     | some v=>k v ⟨st.fr.put n (.bool false),st.H,st.V,st.m,st.mv⟩
     | none=>none)
   | _=>FXd st (xoS G ze st.fr st.H st.m (.pick c a b)) k
  | _=>none
 | .idxS x i=>match x.ev G st.fr with
  | some (.str s)=>match i.ev G st.fr with
   | some (.int _ n)=>bd (ixN s n) fun c=>k (.int .u8 (.ofNat c)) st
   | _=>none
  | _=>none
 | .slcS x lo hi=>match x.ev G st.fr with
  | some (.str s)=>match evo G st.fr lo with
   | some lo=>match evo G st.fr hi with
    | some hi=>zMJ (.ofNat s.length) lo hi fun l h=>k (.str ((s.take h.toNat).drop l.toNat)) st
    | none=>none
   | none=>none
  | _=>none
 | .slcL x lo hi mx sz=>match x.ev G st.fr with
  | some (.lst sz' es)=>match Nat.beq sz sz' with
   | true=>match mx with
    | none=>match evo G st.fr lo with
     | some lo=>match evo G st.fr hi with
      | some hi=>zMJ (.ofNat es.length) lo hi fun l h=>k (.lst sz ((es.take h.toNat).drop l.toNat)) st
      | none=>none
     | none=>none
    | some _=>none
   | false=>none
  | some .nilslice=>FXd st (xoS G ze st.fr st.H st.m (.slcL x lo hi mx sz)) k
  | _=>none
 | .iaddrS x i sz=>match x.ev G st.fr with
  | some (.lst sz' es)=>match Nat.beq sz sz' with
   | true=>match i.ev G st.fr with
    | some (.int _ n)=>dK wk ks (ixN es n) (dko ks fun v=>k (.eptr v 0) st)
    | _=>none
   | false=>none
  | some (.sym j)=>match st.V.get j with
   | some (.vec sz' es)=>match Nat.beq sz sz' with
    | true=>match i.ev G st.fr with
     | some (.int _ n)=>gd (decide (0<=n/\n<.ofNat es.length)) (k (.sym st.mv) ⟨st.fr,st.H,(st.mv,.vptr j n.toNat 0)::st.V,st.m,st.mv+1⟩)
     | _=>none
    | false=>none
   | _=>none
  | some (.row _ _ l _ _ _)=>match i.ev G st.fr with
   | some (.int kd n)=>zKJ n l fun m=>FXd st (xoS G ze st.fr st.H st.m (.iaddrS x (.c (.int kd (.ofNat m))) sz)) k
   | _=>none
  | _=>none
 | .lenL x=>match x.ev G st.fr with
  | some (.sym j)=>match st.V.get j with
   | some (.vec _ es)=>k (.int .i64 (.ofNat es.length)) st
   | _=>none
  | _=>FXd st (xoS G ze st.fr st.H st.m (.lenL x)) k
 | .load x sz ag=>match x.ev G st.fr with
  | some (.sym p)=>match st.V.get p with
   | some (.vptr j i off)=>match st.V.get j with
    | some (.vec _ es)=>dK wk ks (ldE es i off sz ag) (dko ks fun v=>k v st)
    | _=>none
   | _=>none
  | _=>FXd st (xoS G ze st.fr st.H st.m (.load x sz ag)) k
 | .faddr x off=>match x.ev G st.fr with
  | some (.sym p)=>match st.V.get p with
   | some (.vptr j i o)=>match st.V.get j with
    | some (.vec _ _)=>k (.sym st.mv) ⟨st.fr,st.H,(st.mv,.vptr j i (o+off))::st.V,st.m,st.mv+1⟩
    | _=>none
   | _=>none
  | _=>FXd st (xoS G ze st.fr st.H st.m (.faddr x off)) k
 | .store x y sz=>match x.ev G st.fr with
  | some (.sym p)=>match st.V.get p with
   | some (.vptr j i off)=>match st.V.get j with
    | some (.vec sz' es)=>match y.ev G st.fr with
     | some v=>match Nat.beq off 0&&Nat.beq sz sz'&&ppS 12 v with
      | true=>match cellsOf v sz with
       | some _=>k (.tup []) ⟨st.fr,st.H,(j,.vec sz' (es.set i v))::st.V.del j,st.m,st.mv⟩
       | none=>none
      | false=>none
     | none=>none
    | _=>none
   | _=>none
  | _=>FXd st (xoS G ze st.fr st.H st.m (.store x y sz)) k
 | .s2b x=>match x.ev G st.fr with
  | some (.str s)=>k (.sym st.mv) ⟨st.fr,st.H,(st.mv,.vec 1 (s.map fun b=>.int .u8 (.ofNat b)))::st.V,st.m,st.mv+1⟩
  | _=>none
 | .b2s x=>match x.ev G st.fr with
  | some (.sym j)=>match st.V.get j with
   | some (.vec sz es)=>match Nat.beq sz 1 with
    | true=>bd (zA2 es) fun s=>k (.str s) st
    | false=>none
   | _=>none
  | some (.lst sz es)=>match Nat.beq sz 1 with
   | true=>bd (zA2 es) fun s=>k (.str s) st
   | false=>none
  | some .nilslice=>k (.str []) st
  | _=>none
 | .bslice len sz z ps=>match ks with
  | []=>match fillx G st.fr z ps with
   | some cs=>match Nat.beq cs.length (len*sz) with
    | true=>match zCZ sz len cs with
     | some es=>match es.all (ppS 12) with
      | true=>k (.sym st.mv) ⟨st.fr,st.H,(st.mv,.vec sz es)::st.V,st.m,st.mv+1⟩
      | false=>none
     | none=>none
    | false=>none
   | none=>none
  | _=>FXd st (xoS G ze st.fr st.H st.m (.bslice len sz z ps)) k
 | .mkslice l c sz bytes z=>match l.ev G st.fr with
  | some (.int _ n)=>match c.ev G st.fr with
   | some (.int _ c)=>match zCZ sz 1 z,Nat.beq z.length sz with
    | some [e],true=>gd (decide (0<=n/\n<=c/\c.toNat*bytes<=zg/\c.toNat<=zg))
     (k (.sym st.mv) ⟨st.fr,st.H,(st.mv,.vec sz (List.replicate n.toNat e))::st.V,st.m,st.mv+1⟩)
    | _,_=>none
   | _=>none
  | _=>none
 | .append x y sz bytes=>match zKs y with
  | true=>none
  | false=>match x.ev G st.fr with
   | some v=>match y.ev G st.fr with
    | some u=>match zBj st.H sz u with
     | some ys=>match zK6 u||ppS 12 (.agg ys) with
      | true=>match v with
       | .nilslice=>gd (decide (ys.length*bytes<=zg)) (k (.sym st.mv) ⟨st.fr,st.H,(st.mv,.vec sz ys)::st.V,st.m,st.mv+1⟩)
       | .sym j=>match st.V.get j with
        | some (.vec sz' es)=>match Nat.beq sz sz' with
         | true=>gd (decide ((es.length+ys.length)*bytes<=zg/\es.length+ys.length<=zg)) (k (.sym st.mv) ⟨st.fr,st.H,(st.mv,.vec sz (es++ys))::st.V.del j,st.m,st.mv+1⟩)
         | false=>none
        | _=>none
       | _=>none
      | false=>none
     | none=>none
    | none=>none
   | none=>none
 | .idxA x i l s a=>match ks with
  | []=>FXd st (xoS G ze st.fr st.H st.m (.idxA x i l s a)) k
  | _=>match i.ev G st.fr with
   | some (.int kd n)=>zKJ n l fun m=>FXd st (xoS G ze st.fr st.H st.m (.idxA x (.c (.int kd (.ofNat m))) l s a)) k
   | _=>none
 | .iaddrA x i l s=>match ks with
  | []=>FXd st (xoS G ze st.fr st.H st.m (.iaddrA x i l s)) k
  | _=>match i.ev G st.fr with
   | some (.int kd n)=>zKJ n l fun m=>FXd st (xoS G ze st.fr st.H st.m (.iaddrA x (.c (.int kd (.ofNat m))) l s)) k
   | _=>none
 | .mkmap=>k (.sym st.mv) ⟨st.fr,st.H,(st.mv,.mp [])::st.V,st.m,st.mv+1⟩
 | .lookup ag kd m x z ok=>match m.ev G st.fr with
  | some (.sym j)=>match st.V.get j with
   | some (.mp es)=>match x.ev G st.fr with
    | some kv=>match zCB ag kd kv with
     | true=>match ks with
      | []=>lkB ag kd kv es fun o=>k (match o with
       | some u=>lkV ok true u
       | none=>lkV ok false z) st
      | ks=>dK wk ks (lkR ok z (mfind ag kd kv es)) (dko ks fun v=>k v st)
     | false=>none
    | none=>none
   | _=>none
  | _=>none
 | .mupd ag kd m x y=>match m.ev G st.fr with
  | some (.sym j)=>match st.V.get j with
   | some (.mp es)=>match x.ev G st.fr with
    | some kv=>match y.ev G st.fr with
     | some u=>match zCB ag kd kv&&ppS 12 kv&&ppS 12 u with
      | true=>bd (mput ag kd kv u es) fun es'=>k (.tup []) ⟨st.fr,st.H,(j,.mp es')::st.V.del j,st.m,st.mv⟩
      | false=>none
     | none=>none
    | none=>none
   | _=>none
  | _=>none
 | .call f args=>match evs G st.fr args with
  | some vs=>fcall wk tb f vs ks st k
  | none=>none
 | .callv f args=>match f.ev G st.fr with
  | some (.func (.func f) first caps)=>match evs G st.fr args with
   | some vs=>fcall wk tb f (first++vs++caps) ks st k
   | none=>none
  | _=>none
 | .build z ps=>match ks with
  | []=>FXd st (xoS G ze st.fr st.H st.m (.build z ps)) k
  | ks=>FXd st (xoS G ze st.fr st.H st.m (.build z ps)) fun v st=>dK wk ks (some v) (dko ks fun v=>k v st)
 | .mov _ | .beq _ _ _ | .peq _ _ _ | .ieq _ _ _ _ _ | .seq _ _ _ | .meq _ _ _ | .feq _ _ _ | .un _ _ | .conv _ _ | .s2s _ | .idxb _ _ | .cntb _ _ | .fld _ _ _ _ | .ext _ _
 | .box _ _ | .alloc _ | .nilchk _ | .lenS _ | .lenK _ | .min _ _ | .max _ _ | .mkfunc _ _ _ | .mkif _ _ | .tas _ _ _ _=>FXd st (xoS G ze st.fr st.H st.m o) k
 | _=>none
structure FEnt where
 f:Nat
 grow:List (Nat×Nat)
 val:List AV->Heap->Vecs->Option (AV×Heap×Vecs)
structure FOp where
 o:XOper
 ks:List K
 h:Option (List D)
def q1 (d:Nat) (o:XO):FOp:=⟨⟨some d,o,none⟩,[],none⟩
def q0 (o:XO):FOp:=⟨⟨none,o,none⟩,[],none⟩
def qk (d:Nat) (ks:List K) (o:XO):FOp:=⟨⟨some d,o,none⟩,ks,none⟩
def qh (d:Nat) (ds:List D) (o:XO):FOp:=⟨⟨some d,o,none⟩,[],some ds⟩
abbrev TbH:=List FEnt
def zJy:TbH->Nat->Option FEnt
 | [],_=>none
 | s::r,f=>match Nat.beq f s.f with
  | true=>some s
  | false=>zJy r f
def zHh {β:Type} (hm sm:List Nat) (vs:List AV) (st:Sta) (k:List AV->Heap->Vecs->Option β):Option β:=
 match zHq hm&&zHq sm with
 | true=>match zp (rnV hm sm 8) vs with
  | some vs=>match rnH st.H hm sm 0 hm with
   | some H=>match rnVs st.V 0 sm with
    | some V=>k vs H V
    | none=>none
   | none=>none
  | none=>none
 | false=>none
def zLd {β:Type} (pins:Nat) (vs:List AV) (st:Sta) (F:List Nat->List Nat->Option β):Option β:=
 (fun hm=>F hm (zCw st.H hm (vs.foldl (fun a v=>zFi 8 v a) []))) (zE8 st.H 30 0 (vs.foldl (fun a v=>hsA 8 v a) (List.range pins)))
def zRH {β:Type} (c:Cut) (st:Sta) (k:List AV->Heap->Vecs->Option β):Option β:=
 match zMB st.fr c.slots with
 | none=>none
 | some vs=>zLd c.pins vs st fun hm sm=>zHh hm sm vs st k
def atJ {β:Type} (F:List AV->Heap->Vecs->Option β) (vs:List AV) (H:Heap) (V:Vecs):Option β:=F vs H V
def cutO {β:Type} (c:Cut) (F:List AV->Heap->Vecs->Option β) (st:Sta):Option β:=zRH c (zDV c.grow st) (atJ F)
def zMK {β:Type} (e:FEnt) (ds:List D) (args:List AV) (st:Sta) (k:AV->Sta->Option β):Option β:=
 (fun st=>zLd 0 args st fun hm sm=>zHh hm sm args st fun args' H V=>dD true ds (e.val args' H V) (ddo ds fun v H2 V2=>
  k (zH6 e.grow st.mv v) (zGZ e.grow hm sm st H2 V2))) (growA e.grow args st)
def ffrz {β:Type} (st:Sta) (v:AV) (k:AV->Sta->Option β):Option β:=
 match zK7 v with
 | true=>k (symV st.V v) (frzVS st)
 | false=>(fun F=>(fun HF=>match frz HF [] 8 v with
  | some v'=>k v' (frzS F HF st)
  | none=>none) (zEC F st.H)) (zE8 st.H 30 0 (hsA 8 v []))
def zRI {β:Type} (G:Cx) (th:TbH) (ds:List D) (st:Sta) (o:XO) (k:AV->Sta->Option β):Option β:=match o with
 | .call f args=>match zJy th f with
  | some e=>match evs G st.fr args with
   | some vs=>zMK e ds vs st k
   | none=>none
  | none=>none
 | .callv f args=>match f.ev G st.fr with
  | some (.func (.func f) first caps)=>match zJy th f with
   | some e=>match evs G st.fr args with
    | some vs=>zMK e ds (first++vs++caps) st k
    | none=>none
   | none=>none
  | _=>none
 | _=>none
def fopT {β:Type} (G:Cx) (tb:TbF) (th:TbH) (st:Sta) (o:FOp) (k:AV->Sta->Option β):Option β:=match o.h with
 | none=>fop true G tb st o.o.op o.ks k
 | some ds=>zRI G th ds st o.o.op k
def fopR {β:Type} (G:Cx) (tb:TbF) (th:TbH) (st:Sta) (o:FOp) (k:AV->Sta->Option β):Option β:=match isFz o.h o.o.op with
 | true=>FXd st (xoS G ze st.fr st.H st.m o.o.op) fun v st=>ffrz st v k
 | false=>fopT G tb th st o k
def brF {β:Type} (t:Nat) (c:Bool) (st:Sta) (k:Bool->Sta->Option β):Option β:=
 br c (k true ⟨st.fr.put t (.bool true),st.H,st.V,st.m,st.mv⟩) (k false ⟨st.fr.put t (.bool false),st.H,st.V,st.m,st.mv⟩)
def fops {β:Type} (G:Cx) (tb:TbF) (th:TbH):List FOp->(Sta->Option β)->Sta->Option β
 | [],k,st=>k st
 | o::r,k,st=>match o.o.guard with
  | none=>fopR G tb th st o fun v st=>fops G tb th r k (st.put o.o.dst v)
  | some (t,b)=>match st.fr.get t with
   | some (.bool c)=>brF t c st fun c st=>match c==b with
    | true=>fopR G tb th st o fun v st=>fops G tb th r k (st.put o.o.dst v)
    | false=>fops G tb th r k (st.put o.o.dst (.tup []))
   | some (.tup [])=>fops G tb th r k (st.put o.o.dst (.tup []))
   | _=>none
def toQ (o:FOp):TOp:=⟨o.o,o.ks,o.h.map fun _=>[]⟩
def fopQ {β:Type} (G:Cx) (tb:TbF) (th:TbH) (st:Sta) (o:FOp) (k:AV->Sta->Option β):Option β:=match Nat.ble (clsQ (toQ o)) 1 with
 | true=>fopT G tb th st o fun v st'=>match Nat.beq st'.mv st.mv with
  | true=>k v st'
  | false=>none
 | false=>fopT G tb th st o k
def loF (fr:Fr):List FOp->Option Nat
 | []=>none
 | o::r=>match o.o.op with
  | .store (.t a) _ _=>match o.ks with
   | []=>loF fr r
   | _=>match fr.get a with
    | some (.ptr h _)=>match loF fr r with
     | some l=>some (Min.min h l)
     | none=>some h
    | _=>loF fr r
  | _=>loF fr r
def okQ (lo:Option Nat) (G:Cx) (st:Sta) (o:FOp):Bool:=match clsQ (toQ o) with
 | 1=>match lo with
  | none=>true
  | some l=>(zGV o.o.op.opnds).all (fun g=>match st.fr.get g with
   | some v=>ltH 12 l v
   | none=>true)&&ltHp l st.H
 | 2=>match o.o.op with
  | .store x _ _=>match lo with
   | some l=>match x.ev G st.fr with
    | some (.ptr h _)=>Nat.ble l h
    | _=>false
   | none=>false
  | _=>true
 | _=>true
def zGu {β:Type} (lo:Option Nat) (G:Cx) (tb:TbF) (th:TbH):List FOp->(Sta->Option β)->Sta->Option β
 | [],k,st=>k st
 | o::r,k,st=>match okQ lo G st o with
  | true=>match o.o.guard with
   | none=>fopQ G tb th st o fun v st=>zGu lo G tb th r k (st.put o.o.dst v)
   | some (t,b)=>match st.fr.get t with
    | some (.bool c)=>brF t c st fun c st=>match c==b with
     | true=>fopQ G tb th st o fun v st=>zGu lo G tb th r k (st.put o.o.dst v)
     | false=>zGu lo G tb th r k (st.put o.o.dst (.tup []))
    | some (.tup [])=>zGu lo G tb th r k (st.put o.o.dst (.tup []))
    | _=>none
  | false=>none
def fopD {β:Type} (G:Cx) (tb:TbF) (st:Sta) (o:XO) (ks:List K) (k:AV->Sta->Option β):Option β:=
 match o with
 | .s2b _ | .mkslice _ _ _ _ _ | .append _ _ _ _ | .mkmap | .mupd _ _ _ _ _ | .b2s _ | .lookup _ _ _ _ _ _=>none
 | .bslice len sz z ps=>FXd st (xoS G ze st.fr st.H st.m (.bslice len sz z ps)) k
 | o=>fop false G tb ⟨st.fr,st.H,[],st.m,st.mv⟩ o ks fun v st'=>k v ⟨st'.fr,st'.H,st.V,st'.m,st'.mv⟩
def zG5 {β:Type} (G:Cx) (tb:TbF):List FOp->(Sta->Option β)->Sta->Option β
 | [],k,st=>k st
 | o::r,k,st=>match o.o.guard with
  | none=>fopD G tb st o.o.op o.ks fun v st=>zG5 G tb r k (st.put o.o.dst v)
  | some (t,b)=>match st.fr.get t with
   | some (.bool c)=>brF t c st fun c st=>match c==b with
    | true=>fopD G tb st o.o.op o.ks fun v st=>zG5 G tb r k (st.put o.o.dst v)
    | false=>zG5 G tb r k (st.put o.o.dst (.tup []))
   | some (.tup [])=>zG5 G tb r k (st.put o.o.dst (.tup []))
   | _=>none
inductive FC where
 | skip
 | ret
 | exit (i:Nat)
 | reg (ops:List FOp)
 | draw (pn:List Nat) (ops:List FOp) (ds:List XD)
 | drawQ (ops:List FOp) (ds:List XD)
 | seq (a b:FC)
 | cond (c:XV) (a b:FC)
 | block (i:Nat) (b:FC)
 | loop (id:Nat) (c:Cut) (b:FC)
 | unroll (k:Nat) (b:FC)
 | seqJ (id:Nat) (c:Cut) (a b:FC)
def ef:FC->XC
 | .skip=>.skip
 | .ret=>.ret
 | .exit i=>.exit i
 | .reg ops=>.reg (ops.map FOp.o)
 | .draw _ ops ds=>.draw (ops.map FOp.o) ds
 | .drawQ ops ds=>.draw (ops.map FOp.o) ds
 | .seq a b=>.seq (ef a) (ef b)
 | .cond c a b=>.cond c (ef a) (ef b)
 | .block i b=>.block i (ef b)
 | .loop _ _ b=>.loop (ef b)
 | .unroll _ b=>.loop (ef b)
 | .seqJ _ _ a b=>.seq (ef a) (ef b)
abbrev zEG {β:Type} (K:Ext->Sta->Option β) (k:Sta->Option β):Ext->Sta->Option β
 | .normal,st=>k st
 | .exit i,st=>K (.exit i) st
 | .ret,st=>K .ret st
abbrev zIW {β:Type} (id:Nat) (K:Ext->Sta->Option β):Ext->Sta->Option β
 | .normal,st=>K .normal st
 | .exit i,st=>match Nat.beq i id with
  | true=>K .normal st
  | false=>K (.exit i) st
 | .ret,st=>K .ret st
def zN9 {β:Type} (c:Cut) (K:Ext->Sta->Option β) (F:List AV->Heap->Vecs->Option β):Ext->Sta->Option β
 | .normal,st=>cutO c F st
 | .exit i,st=>K (.exit i) st
 | .ret,st=>K .ret st
def zId {β:Type} (B:(Ext->Sta->Option β)->Sta->Option β) (c:Cut) (K:Ext->Sta->Option β):Nat->List AV->Heap->Vecs->Option β
 | 0,_,_,_=>none
 | n+1,vs,H,V=>B (zN9 c K (zId B c K n)) (mkW c vs H V)
noncomputable def FUEL:Nat:=Classical.choose (⟨1180591620717411303424,rfl⟩:∃n:Nat,n=1180591620717411303424)
theorem zIX:FUEL=1180591620717411303424:=Classical.choose_spec (⟨1180591620717411303424,rfl⟩:∃n:Nat,n=1180591620717411303424)
def zFC {β:Type} (B:(Ext->Sta->Option β)->Sta->Option β) (K:Ext->Sta->Option β):Nat->Sta->Option β
 | 0,_=>none
 | n+1,st=>B (zEG K (zFC B K n)) st
def FT {β:Type} (U:Nat) (G:Cx) (tb:TbF) (th:TbH):FC->(Ext->Sta->Option β)->Sta->Option β
 | .skip,K,st=>K .normal st
 | .ret,K,st=>K .ret st
 | .exit i,K,st=>K (.exit i) st
 | .reg ops,K,st=>fops G tb th ops (K .normal) st
 | .draw pn ops ds,K,st=>match zMC (ops.map FOp.o) ds&&pn.all (zN6 st.fr) with
  | true=>zG5 G tb ops (K .normal) st
  | false=>none
 | .drawQ ops ds,K,st=>match zFW (ops.map toQ) ds&&seqQ 0 [] [] [] (ops.map toQ) ds with
  | true=>zGu (loF st.fr ops) G tb th ops (K .normal) st
  | false=>none
 | .seq a b,K,st=>FT U G tb th a (zEG K (FT U G tb th b K)) st
 | .cond c a b,K,st=>match c.ev G st.fr with
  | some (.bool cb)=>match c with
   | .t n=>brF n cb st fun cb st=>match cb with
    | true=>FT U G tb th a K st
    | false=>FT U G tb th b K st
   | _=>br cb (FT U G tb th a K st) (FT U G tb th b K st)
  | _=>none
 | .block i b,K,st=>FT U G tb th b (zIW i K) st
 | .unroll k b,K,st=>zFC (FT U G tb th b) K k st
 | .loop _ c b,K,st=>cutO c (zId (FT U G tb th b) c K U) st
 | .seqJ _ c a b,K,st=>FT U G tb th a (zEG K (cutO c fun vs H V=>FT U G tb th b K (mkW c vs H V))) st
def zGv (id:Nat):FC->Bool
 | .seq a b | .cond _ a b=>zGv id a||zGv id b
 | .block _ b=>zGv id b
 | .loop i _ b=>Nat.beq id i||zGv id b
 | .unroll _ b=>zGv id b
 | .seqJ i _ a b=>Nat.beq id i||(zGv id a||zGv id b)
 | _=>false
def FTat {β:Type} (U:Nat) (G:Cx) (tb:TbF) (th:TbH) (id:Nat):FC->(Ext->Sta->Option β)->List Nat->List AV->Heap->Vecs->Option β
 | .seq a b,K,gs=>match zGv id a with
  | true=>FTat U G tb th id a (zEG K (FT U G tb th b K)) gs
  | false=>FTat U G tb th id b K gs
 | .cond _ a b,K,gs=>match zGv id a with
  | true=>FTat U G tb th id a K gs
  | false=>FTat U G tb th id b K gs
 | .block i b,K,gs=>FTat U G tb th id b (zIW i K) gs
 | .unroll _ b,K,gs=>match gs with
  | []=>fun _ _ _=>none
  | n::gs=>FTat U G tb th id b (zEG K (zFC (FT U G tb th b) K n)) gs
 | .loop i c b,K,gs=>match gs with
  | []=>fun _ _ _=>none
  | n::gs=>match Nat.beq id i with
   | true=>atJ (zId (FT U G tb th b) c K n)
   | false=>FTat U G tb th id b (zN9 c K (zId (FT U G tb th b) c K n)) gs
 | .seqJ i c a b,K,gs=>match Nat.beq id i with
  | true=>atJ fun vs H V=>FT U G tb th b K (mkW c vs H V)
  | false=>match zGv id a with
   | true=>FTat U G tb th id a (zEG K (cutO c fun vs H V=>FT U G tb th b K (mkW c vs H V))) gs
   | false=>FTat U G tb th id b K gs
 | _,_,_=>fun _ _ _=>none
def endV (res:List XR):Ext->Sta->Option AV
 | .exit _,_=>none
 | _,st=>match ress st.H st.fr res with
  | some vs=>zAs st.H st.V 8 (zBt vs)
  | none=>none
def zQD (n:Nat):AV->Bool
 | .sym j=>Nat.blt j n
 | v=>ppS 12 v
def outB (n:Nat):Heap->Bool
 | []=>true
 | (_,.cells _ cs)::r=>cs.all (zQD n)&&outB n r
 | _=>false
def ownB:Vecs->Bool
 | []=>true
 | (_,o)::r=>o.owns&&ownB r
def endO (res:List XR) (pn:List Nat):Ext->Sta->Option (AV×Heap×Vecs)
 | .exit _,_=>none
 | _,st=>match ress st.H st.fr res with
  | some vs=>match zK7 (zBt vs) with
   | false=>match hasH 8 (zBt vs)||!pinE st.fr 0 pn with
    | false=>zHh (List.range pn.length) (zCw st.H (List.range pn.length) []) [] st fun _ H V=>match outB V.length H&&ownB V with
     | true=>some (zBt vs,H,V)
     | false=>none
    | true=>none
   | true=>match pinE st.fr 0 pn with
    | true=>zHh (List.range pn.length) (zCw st.H (List.range pn.length) (zFi 8 (zBt vs) [])) [zBt vs] st fun us H V=>match us with
     | [u]=>match zK7 u&&(outB V.length H&&ownB V) with
      | true=>some (u,H,V)
      | false=>none
     | _=>none
    | false=>none
  | none=>none
end Go.Sy
namespace Go.Sy
theorem zUl {β:Type} {b:Bool} {x:Option β} {r:β} (h:gd b x=some r):b=true/\x=some r:=by
 cases b
 ·cases h
 ·exact ⟨rfl,h⟩
theorem zBI {β:Type} {p:Prop} [Decidable p] {x:Option β} {r:β} (h:gd (decide p) x=some r):p/\x=some r:=
 let ⟨a,b⟩:=zUl h;⟨of_decide_eq_true a,b⟩
theorem zIY {β:Type} {b:Bool} {x y:Option β} {r:β} (h:br b x y=some r):(b=true/\x=some r)\/(b=false/\y=some r):=by
 cases b
 ·exact .inr ⟨rfl,h⟩
 ·exact .inl ⟨rfl,h⟩
theorem zIZ {α β:Type} {o:Option α} {f:α->Option β} {r:β} (h:bd o f=some r):∃a,o=some a/\f a=some r:=by
 cases o with
 | none=>cases h
 | some a=>exact ⟨a,rfl,h⟩
theorem zHy {β:Type} {t:Nat} {c:Bool} {st:Sta} {k:Bool->Sta->Option β} {r:β} (h:brF t c st k=some r):k c ⟨st.fr.put t (.bool c),st.H,st.V,st.m,st.mv⟩=some r:=by
 rcases zIY h with ⟨rfl,h⟩ | ⟨rfl,h⟩ <;> exact h
def WKs (vs us:List AV):Prop:=vs.length=us.length/\∀(i:Nat) v u,vs[i]? = some v->us[i]? = some u->WK v u
theorem WKs.rfl' {vs:List AV}:WKs vs vs:=⟨rfl,fun i v u h h'=>by rw [h] at h';cases h';exact .refl _⟩
theorem WKs.nil {us:List AV} (h:WKs [] us):us=[]:=by
 cases us with
 | nil=>rfl
 | cons a b=>exact absurd h.1 (by simp)
theorem WKs.cons {v u:AV} {vs us:List AV} (h:WK v u) (hs:WKs vs us):WKs (v::vs) (u::us):=⟨by simp [hs.1],fun i a b ha hb=>by
 cases i with
 | zero=>simp at ha hb;subst ha;subst hb;exact h
 | succ i=>exact hs.2 i a b (by simpa using ha) (by simpa using hb)⟩
theorem WKs.uncons {v:AV} {vs us:List AV} (h:WKs (v::vs) us):∃u us',us=u::us'/\WK v u/\WKs vs us':=by
 cases us with
 | nil=>exact absurd h.1 (by simp)
 | cons u us=>exact ⟨u,us,rfl,h.2 0 v u rfl rfl,by simpa using h.1,fun i a b ha hb=>h.2 (i+1) a b (by simpa using ha) (by simpa using hb)⟩
theorem WKs.split {a b us:List AV} (h:WKs (a++b) us):WKs a (us.take a.length)/\WKs b (us.drop a.length):=by
 obtain ⟨h1,h2⟩:=h;rw [List.length_append] at h1;refine ⟨⟨by rw [List.length_take];omega,fun i v u hv hu=>?_⟩,⟨by rw [List.length_drop];omega,fun i v u hv hu=>?_⟩⟩
 ·have hi:=(List.getElem?_eq_some_iff.1 hv).1;rw [List.getElem?_take,if_pos hi] at hu;exact h2 i v u (by rw [List.getElem?_append_left hi];exact hv) hu
 ·rw [List.getElem?_drop] at hu;exact h2 (a.length+i) v u (by rw [List.getElem?_append_right (by omega)];simpa using hv) hu
theorem zNE:∀{a b:List (AV×AV)},mflat a=mflat b->a=b
 | [],[],_=>rfl
 | [],(k,v)::b,h=>by cases h
 | (k,v)::a,[],h=>by cases h
 | (k,v)::a,(k',v')::b,h=>by
  simp only [mflat,List.cons.injEq] at h;obtain ⟨rfl,rfl,h⟩:=h;rw [zNE h]
theorem zAk {β:Type} {r:β}:∀{ds:List D} {wk:Bool} {F:List AV->Heap->Vecs->Option β} {vs:List AV} {H:Heap} {V:Vecs},din wk ds (dout ds F) vs H V=some r->∃us,WKs vs us/\(wk=false->us=vs)/\F us H V=some r
 | [],wk,F,vs,H,V,h=>by
  cases vs with
  | nil=>
   cases H with
   | nil=>
    cases V with
    | nil=>exact ⟨[],.rfl',fun _=>rfl,h⟩
    | cons=>cases h
   | cons=>cases h
  | cons=>cases h
 | .v .b::ds,wk,F,vs,H,V,h=>by
  cases vs with
  | nil=>cases h
  | cons v vs=>
   cases v <;> first | (cases h;done) | skip
   obtain ⟨us,h1,h2,h3⟩:=zAk (ds:=ds) h;exact ⟨_,.cons (.refl _) h1,fun e=>by rw [h2 e],h3⟩
 | .v (.i k)::ds,wk,F,vs,H,V,h=>by
  cases vs with
  | nil=>cases h
  | cons v vs=>
   cases v <;> first | (cases h;done) | skip
   rename_i k' n;simp only [din] at h;split at h
   ·rename_i e;have:=zFo e;subst this;obtain ⟨us,h1,h2,h3⟩:=zAk (ds:=ds) h;exact ⟨_,.cons (.refl _) h1,fun e=>by rw [h2 e],h3⟩
   ·cases h
 | .v .s::ds,wk,F,vs,H,V,h=>by
  cases vs with
  | nil=>cases h
  | cons v vs=>
   cases v <;> first | (cases h;done) | skip
   obtain ⟨us,h1,h2,h3⟩:=zAk (ds:=ds) h;exact ⟨_,.cons (.refl _) h1,fun e=>by rw [h2 e],h3⟩
 | .v (.l sz)::ds,wk,F,vs,H,V,h=>by
  cases vs with
  | nil=>cases h
  | cons v vs=>
   cases v <;> first | (cases h;done) | skip
   ·simp only [din] at h;split at h
    ·obtain ⟨us,h1,h2,h3⟩:=zAk (ds:=ds) h;exact ⟨_,.cons (.nil _) h1,fun e=>by simp_all,h3⟩
    ·cases h
   ·simp only [din] at h;split at h
    ·rename_i e;have:=zb e;subst this;obtain ⟨us,h1,h2,h3⟩:=zAk (ds:=ds) h;exact ⟨_,.cons (.refl _) h1,fun e=>by rw [h2 e],h3⟩
    ·cases h
 | .v .av::ds,wk,F,vs,H,V,h=>by
  cases vs with
  | nil=>cases h
  | cons v vs=>
   obtain ⟨us,h1,h2,h3⟩:=zAk (ds:=ds) h;exact ⟨_,.cons (.refl _) h1,fun e=>by rw [h2 e],h3⟩
 | .v (.c u)::ds,wk,F,vs,H,V,h=>by
  cases vs with
  | nil=>cases h
  | cons v vs=>
   simp only [din] at h;split at h
   ·rename_i e;have:=zNp 20 _ _ e;subst this;obtain ⟨us,h1,h2,h3⟩:=zAk (ds:=ds) h;exact ⟨_,.cons (.refl _) h1,fun e=>by rw [h2 e],h3⟩
   ·cases h
 | .v (.agg n)::ds,wk,F,vs,H,V,h=>by
  cases vs with
  | nil=>cases h
  | cons v vs=>
   cases v <;> first | (cases h;done) | skip
   rename_i cs;simp only [din] at h;split at h
   ·rename_i e;have:=zb e;subst this;obtain ⟨us,h1,h2,h3⟩:=zAk (ds:=ds) h;obtain ⟨s1,s2⟩:=h1.split;exact ⟨_,.cons (.agg s1.1 s1.2) s2,fun e=>by rw [h2 e];simp,h3⟩
   ·cases h
 | .v (.tup n)::ds,wk,F,vs,H,V,h=>by
  cases vs with
  | nil=>cases h
  | cons v vs=>
   cases v <;> first | (cases h;done) | skip
   rename_i cs;simp only [din] at h;split at h
   ·rename_i e;have:=zb e;subst this;obtain ⟨us,h1,h2,h3⟩:=zAk (ds:=ds) h;obtain ⟨s1,s2⟩:=h1.split;exact ⟨_,.cons (.tup s1.1 s1.2) s2,fun e=>by rw [h2 e];simp,h3⟩
   ·cases h
 | .v (.ep off)::ds,wk,F,vs,H,V,h=>by
  cases vs with
  | nil=>cases h
  | cons v vs=>
   cases v <;> first | (cases h;done) | skip
   simp only [din] at h;split at h
   ·rename_i e;have:=zb e;subst this;obtain ⟨us,h1,h2,h3⟩:=zAk (ds:=ds) h;obtain ⟨u,us',rfl,k1,k2⟩:=h1.uncons;exact ⟨_,.cons (.eptr _ k1) k2,fun e=>by have:=h2 e;simp_all,h3⟩
   ·cases h
 | .v (.ifc t)::ds,wk,F,vs,H,V,h=>by
  cases vs with
  | nil=>cases h
  | cons v vs=>
   cases v <;> first | (cases h;done) | skip
   simp only [din] at h;split at h
   ·rename_i e;have:=zb e;subst this;obtain ⟨us,h1,h2,h3⟩:=zAk (ds:=ds) h;obtain ⟨u,us',rfl,k1,k2⟩:=h1.uncons;exact ⟨_,.cons (.iface _ k1) k2,fun e=>by have:=h2 e;simp_all,h3⟩
   ·cases h
 | .hc hh str n::ds,wk,F,vs,H,V,h=>by
  cases vs with
  | cons=>cases h
  | nil=>
   cases H with
   | nil=>cases h
   | cons p H=>
    obtain ⟨h',o⟩:=p;cases o <;> first | (cases h;done) | skip
    simp only [din] at h;split at h
    ·rename_i e;simp only [Bool.and_eq_true,beq_iff_eq] at e;obtain ⟨⟨e1,e2⟩,e3⟩:=e;have:=zb e1;subst this;subst e2;obtain ⟨us,h1,h2,h3⟩:=zAk (ds:=ds) h;rw [h2 rfl] at h3;exact ⟨[],.rfl',fun _=>rfl,h3⟩
    ·cases h
 | .vec j sz::ds,wk,F,vs,H,V,h=>by
  cases vs with
  | cons=>cases h
  | nil=>
   cases V with
   | nil=>cases h
   | cons p V=>
    obtain ⟨j',o⟩:=p;cases o <;> first | (cases h;done) | skip
    simp only [din] at h;split at h
    ·rename_i e;simp only [Bool.and_eq_true] at e;obtain ⟨e1,e2⟩:=e;have:=zb e1;subst this;have:=zb e2;subst this;obtain ⟨us,h1,h2,h3⟩:=zAk (ds:=ds) h;rw [h2 rfl] at h3;exact ⟨[],.rfl',fun _=>rfl,h3⟩
    ·cases h
 | .mp j::ds,wk,F,vs,H,V,h=>by
  cases vs with
  | cons=>cases h
  | nil=>
   cases V with
   | nil=>cases h
   | cons p V=>
    obtain ⟨j',o⟩:=p;cases o <;> first | (cases h;done) | skip
    simp only [din] at h;split at h
    ·rename_i e;have:=zb e;subst this;obtain ⟨us,h1,h2,h3⟩:=zAk (ds:=ds) h;rw [h2 rfl] at h3;exact ⟨[],.rfl',fun _=>rfl,h3⟩
    ·cases h
 | .mpc j es0::ds,wk,F,vs,H,V,h=>by
  cases vs with
  | cons=>cases h
  | nil=>
   cases V with
   | nil=>cases h
   | cons p V=>
    obtain ⟨j',o⟩:=p;cases o <;> first | (cases h;done) | skip
    simp only [din] at h;split at h
    ·rename_i e;rw [Bool.and_eq_true] at e;have:=zb e.1;subst this;have:=zNE (AV.agg.inj (zNp 20 _ _ e.2));subst this;obtain ⟨us,h1,h2,h3⟩:=zAk (ds:=ds) h;rw [h2 rfl] at h3;exact ⟨[],.rfl',fun _=>rfl,h3⟩
    ·cases h
theorem zOS {β:Type} {ag:Bool} {kd:List Kd} {kv:AV} {r:β}:∀{es:List (AV×AV)} {k:Option AV->Option β},lkB ag kd kv es k=some r->∃o,mfind ag kd kv es=some o/\k o=some r
 | [],k,h=>⟨none,rfl,h⟩
 | (j,v)::es,k,h=>by
  simp only [lkB] at h;split at h
  ·rename_i b hb;cases b with
   | true=>exact ⟨some v,by simp only [mfind,hb],h⟩
   | false=>
    obtain ⟨o,h1,h2⟩:=zOS (es:=es) (k:=k) h;exact ⟨o,by simp only [mfind,hb];exact h1,h2⟩
  ·cases h
theorem zI0 {β:Type} {wk:Bool} {ks:List K} {o:Option AV} {k:AV->Option β} {r:β} (h:dK wk ks o (dko ks k)=some r):∃v u,o=some v/\WK v u/\(wk=false->u=v)/\k u=some r:=by
 cases o with
 | none=>cases h
 | some v=>
  obtain ⟨us,h1,h2,h3⟩:=zAk h;obtain ⟨u,us',rfl,k1,k2⟩:=h1.uncons;have:=k2.nil;subst this;exact ⟨v,u,rfl,k1,fun e=>by have:=h2 e;simp_all,h3⟩
theorem zUm {β:Type} {wk:Bool} {ds:List D} {o:Option (AV×Heap×Vecs)} {k:AV->Heap->Vecs->Option β} {r:β} (h:dD wk ds o (ddo ds k)=some r):∃v u H V,o=some (v,H,V)/\WK v u/\(wk=false->u=v)/\k u H V=some r:=by
 cases o with
 | none=>cases h
 | some p=>
  obtain ⟨v,H,V⟩:=p;obtain ⟨us,h1,h2,h3⟩:=zAk h;obtain ⟨u,us',rfl,k1,k2⟩:=h1.uncons;have:=k2.nil;subst this;exact ⟨v,u,H,V,rfl,k1,fun e=>by have:=h2 e;simp_all,h3⟩
def VIP:VI->Prop
 | .vec _ es=>∀e∈es,PP e
 | .mp es=>∀p∈es,PP p.1/\PP p.2
 | .vptr _ _ _=>True
structure CPS (st:Sta):Prop where
 fr:FrCP st.mv st.m st.fr
 H:HCP st.mv st.m st.H
 V:∀j vi,st.V.get j=some vi->j<st.mv/\VIP vi
 lt:∀p∈st.H,p.1<st.m
theorem CPS.newV {st:Sta} (s:CPS st) {vi:VI} (h:VIP vi):CPS ⟨st.fr,st.H,(st.mv,vi)::st.V,st.m,st.mv+1⟩:=
 ⟨s.fr.mono (Nat.le_succ _) (Nat.le_refl _),s.H.mono (Nat.le_succ _) (Nat.le_refl _),fun j v hv=>by
  rw [Vecs.get_cons] at hv;split at hv
  ·rename_i e;cases hv;exact ⟨by show j<st.mv+1;omega,h⟩
  ·have:=s.V j v hv;exact ⟨Nat.lt_succ_of_lt this.1,this.2⟩,s.lt⟩
theorem CPS.setV {st:Sta} (s:CPS st) {j:Nat} {vi:VI} (hj:j<st.mv) (h:VIP vi):CPS ⟨st.fr,st.H,(j,vi)::st.V.del j,st.m,st.mv⟩:=
 ⟨s.fr,s.H,fun i v hv=>by
  rw [Vecs.get_cons] at hv;split at hv
  ·rename_i e;subst e;cases hv;exact ⟨hj,h⟩
  ·rw [Vecs.get_del] at hv;split at hv
   ·cases hv
   ·exact s.V i v hv,s.lt⟩
theorem CPS.appV {st:Sta} (s:CPS st) {j:Nat} {vi:VI} (h:VIP vi):CPS ⟨st.fr,st.H,(st.mv,vi)::st.V.del j,st.m,st.mv+1⟩:=
 ⟨s.fr.mono (Nat.le_succ _) (Nat.le_refl _),s.H.mono (Nat.le_succ _) (Nat.le_refl _),fun i v hv=>by
  rw [Vecs.get_cons] at hv;split at hv
  ·rename_i e;cases hv;exact ⟨by show i<st.mv+1;omega,h⟩
  ·rw [Vecs.get_del] at hv;split at hv
   ·cases hv
   ·have:=s.V i v hv;exact ⟨Nat.lt_succ_of_lt this.1,this.2⟩,s.lt⟩
theorem CPS.put {st:Sta} (s:CPS st) {n:Nat} {v:AV} (h:CP st.mv st.m v):CPS ⟨st.fr.put n v,st.H,st.V,st.m,st.mv⟩:=
 ⟨fun t u e=>by
  rw [Fr.get_put] at e;split at e
  ·cases e;exact h
  ·exact s.fr t u e,s.H,s.V,s.lt⟩
theorem CPS.putd {st:Sta} (s:CPS st) {d:Option Nat} {v:AV} (h:CP st.mv st.m v):CPS (st.put d v):=by
 cases d with
 | none=>exact s
 | some n=>exact s.put h
def tbS (tb:TbF):TblS:=tb.map fun s=>(s.1,(fun args=>∀x∈args,PP x),s.2)
theorem zOT {tb:TbF} {f:Nat} {g:List AV->Option AV} {args:List AV} {v:AV} {k:AV->Prop} (hl:zLc tb f=some g) (hv:g args=some v) (hp:∀x∈args,PP x) (hk:k v):zEB (tbS tb) f args k:=by
 induction tb with
 | nil=>cases hl
 | cons s r ih=>
  simp only [zLc] at hl;simp only [tbS,List.map_cons,zEB];split at hl
  ·rename_i e;cases hl;simp only [e,hv];exact ⟨hp,hk⟩
  ·rename_i e;simp only [e];exact ih hl
theorem zRJ {tb:TbF} {f:Nat} {g:List AV->Option AV} (h:zLc tb f=some g):(f,g)∈tb:=by
 induction tb with
 | nil=>cases h
 | cons s r ih=>
  simp only [zLc] at h;split at h
  ·rename_i e;cases h;rw [zb e];exact .head _
  ·exact .tail _ (ih h)
structure Stp {β:Type} (G:Cx) (tb:TbF) (st:Sta) (wk:Bool) (k:AV->Sta->Option β) (r:β) (W:(AV->Sta->Prop)->Prop) (v u:AV) (st':Sta):Prop where
 k:k u st'=some r
 wkn:WK v u
 eq:wk=false->u=v
 cp:CP st'.mv st'.m u
 cst:CPS st'
 w:∀C:AV->Sta->Prop,C v st'->W C
 le:st.mv<=st'.mv
section
variable {β:Type} {P:Program} {G:Cx} {tb:TbF} {st:Sta} {k:AV->Sta->Option β} {r:β} {wk:Bool}
theorem zSO {H:Heap} {sz n m:Nat} {u:AV} {ys:List AV} (hH:HCP n m H) (hcu:CP n m u) (he:zBj H sz u=some ys) (hpp:(zK6 u||ppS 12 (.agg ys))=true):∀e∈ys,PP e:=by
 rw [Bool.or_eq_true] at hpp;rcases hpp.symm with hpp | hpp
 ·have hcy:CP n m (.agg ys):=by
   refine .agg _ fun e hin=>?_
   cases u with
   | nilslice=>cases he;cases hin
   | lst sz' es=>
    simp only [zBj] at he;split at he
    ·cases he;cases hcu with
     | lst _ _ h=>exact (h e hin).cp
    ·cases he
   | row=>
    simp only [zBj] at he;split at he
    ·split at he
     ·rename_i str cs hg;split at he
      ·obtain ⟨_,q2,_,q4,q5⟩:=zW he;obtain ⟨i,hi⟩:=List.getElem?_of_mem hin;obtain ⟨r1,r2⟩:=zJ q5;obtain ⟨r3,r4,r5⟩:=zD (r2 i e hi);obtain ⟨str',cs',e1,hcs⟩:=hH.get hg;cases e1;refine zBe r5 fun z hz=>hcs z ?_
       rw [r4] at hz;exact List.mem_of_mem_drop (List.mem_of_mem_take (List.mem_of_mem_drop (List.mem_of_mem_take hz)))
      ·cases he
     ·cases he
    ·cases he
   | str s=>
    simp only [zBj] at he;split at he
    ·cases he;obtain ⟨b,_,rfl⟩:=List.mem_map.1 hin;exact .int _ _
    ·cases he
   | _=>cases he
  have:=zBK 12 hcy hpp;cases this with
  | agg _ h=>exact h
 ·cases u with
  | lst sz' es=>
   simp only [zBj] at he;split at he
   ·cases he;cases hcu with
    | lst _ _ h=>exact h
   ·cases he
  | _=>cases hpp
theorem zRK {sz len n m:Nat} {cs es:List AV} (hr:zCZ sz len cs=some es) (hcp:∀c∈cs,CP n m c) (hp:es.all (ppS 12)=true):∀e∈es,PP e:=by
 obtain ⟨h1,h2,h3,h4,h5⟩:=zW hr;intro e he;obtain ⟨i,hi⟩:=List.getElem?_of_mem he;obtain ⟨q1,q2⟩:=zJ h5;obtain ⟨q3,q4,q5⟩:=zD (q2 i e hi);refine zBK (n:=n) (k:=m) 12 (zBe q5 fun x hx=>hcp x ?_) (List.all_eq_true.1 hp e he)
 rw [q4] at hx;exact List.mem_of_mem_take (List.mem_of_mem_drop (List.mem_of_mem_take hx))
theorem zOU {ag:Bool} {kd:List Kd} {kv:AV}:∀{es:List (AV×AV)} {u:AV},(∀p∈es,PP p.1/\PP p.2)->mfind ag kd kv es=some (some u)->PP u:=by
 intro es
 induction es with
 | nil=>intro u _ h;cases h
 | cons q r ih=>
  intro u hq h;simp only [mfind] at h;split at h
  ·cases h;exact (hq _ (.head _)).2
  ·exact ih (fun p hp=>hq p (.tail _ hp)) h
  ·cases h
theorem zUn {ag:Bool} {kd:List Kd} {kv u:AV} (hkp:PP kv) (hup:PP u):∀{es es':List (AV×AV)},(∀p∈es,PP p.1/\PP p.2)->mput ag kd kv u es=some es'->∀p∈es',PP p.1/\PP p.2:=by
 intro es
 induction es with
 | nil=>intro es' _ h p hp;cases h;simp only [List.mem_singleton] at hp;subst hp;exact ⟨hkp,hup⟩
 | cons q r ih=>
  intro es' hq h p hp;simp only [mput] at h;split at h
  ·cases h;rcases List.mem_cons.1 hp with rfl | hp
   ·exact ⟨hkp,hup⟩
   ·exact hq p (.tail _ hp)
  ·split at h
   ·rename_i r' hr;cases h;rcases List.mem_cons.1 hp with rfl | hp
    ·exact hq _ (.head _)
    ·exact ih (fun p hp=>hq p (.tail _ hp)) hr p hp
   ·cases h
  ·cases h
theorem zLC {n:Int} {lo hi:Option AV} {k:Int->Int->Option β} (h:zMJ n lo hi k=some r):∃l u,k l u=some r/\∀C:Int->Int->Prop,C l u->zGz n lo hi C:=by
 unfold zMJ at h;split at h
 ·split at h
  ·exact ⟨_,_,h,fun C hc=>hc⟩
  ·obtain ⟨h1,h2⟩:=zBI h;exact ⟨_,_,h2,fun C hc=>⟨h1,hc⟩⟩
  ·cases h
 ·split at h
  ·obtain ⟨h1,h2⟩:=zBI h;exact ⟨_,_,h2,fun C hc=>⟨h1,hc⟩⟩
  ·obtain ⟨h1,h2⟩:=zBI h;exact ⟨_,_,h2,fun C hc=>⟨h1,hc⟩⟩
  ·cases h
 ·cases h
theorem zGw {n:Int}:∀{l:Nat} {k:Nat->Option β},zKJ n l k=some r->∃m,m<l/\n=.ofNat m/\k m=some r
 | 0,k,h=>by cases h
 | l+1,k,h=>by
  rcases zIY h with ⟨e,h⟩ | ⟨_,h⟩
  ·exact ⟨l,Nat.lt_succ_self _,of_decide_eq_true e,h⟩
  ·obtain ⟨m,h1,h2,h3⟩:=zGw h;exact ⟨m,Nat.lt_succ_of_lt h1,h2,h3⟩
theorem zIe {n:Int} {m:Nat} (hn:n=.ofNat m):∀{l:Nat} {C:Nat->Prop},C m->zFU n l C
 | 0,C,_=>trivial
 | l+1,C,h=>⟨zIe hn h,fun e=>by
  have:m=l:=by rw [hn] at e;exact Int.ofNat.inj e
  exact this▸h⟩
theorem zNF {f:Nat} {vs:List AV} {ks:List K} (htb:TbW P G (tbS tb)) (s:CPS st) (hcp:∀x∈vs,CP st.mv st.m x) (h:fcall wk tb f vs ks st k=some r):∃v u st',Stp G tb st wk k r (wcall (tbS tb) f vs st) v u st':=by
 have key:∀{args:List AV} {k':AV->Option β},(∀x∈args,PP x)->zN8 wk tb f args ks k'=some r->∃v u,PP v/\WK v u/\(wk=false->u=v)/\k' u=some r/\∀C:AV->Prop,C v->zEB (tbS tb) f args C:=fun {args k'} hp h=>by
  unfold zN8 at h;split at h
  ·rename_i g hg;have hmem:=zRJ hg;have hin:(f,(fun args:List AV=>∀x∈args,PP x),g)∈tbS tb:=List.mem_map.2 ⟨_,hmem,rfl⟩
   split at h
   ·obtain ⟨v,h1,h2⟩:=zIZ h;exact ⟨v,v,(htb _ hin args v hp h1).2.1,.refl _,fun _=>rfl,h2,fun C hc=>zOT hg h1 hp hc⟩
   ·obtain ⟨v,u,h1,h2,h3,h4⟩:=zI0 h;exact ⟨v,u,(htb _ hin args v hp h1).2.1,h2,h3,h4,fun C hc=>zOT hg h1 hp hc⟩
  ·cases h
 unfold fcall at h;split at h
 ·rename_i hh;have hp:∀x∈vs,PP x:=fun x hx=>zHg 8 (hcp x hx) (by have:=List.any_eq_false.1 hh x hx;simpa using this)
  obtain ⟨v,u,h1,h2,h3,h4,h5⟩:=key hp h;exact ⟨v,u,st,h4,h2,h3,(h2.pp h1).cp,s,fun C hc=>by unfold wcall;simp only [hh];exact h5 _ hc,(by first | exact Nat.le_refl _ | exact Nat.le_succ _)⟩
 ·rename_i hh;split at h
  ·rename_i args' hargs;have hp:∀x∈args',PP x:=by
    obtain ⟨m1,m2⟩:=zAj hargs;intro x hx;obtain ⟨i,hi⟩:=List.getElem?_of_mem hx;have hlt:i<vs.length:=by have:=(List.getElem?_eq_some_iff.1 hi).1;omega
    have hv:=List.getElem?_eq_getElem hlt;exact frz_pp s 8 (hcp _ (List.mem_of_getElem? hv)) (m2 i _ x hv hi)
   obtain ⟨v,u,h1,h2,h3,h4,h5⟩:=key hp h;split at h4
   ·rename_i hsc;have hsv:zAM 8 v=true:=scalar_wk 8 h2 hsc;exact ⟨v,u,st,h4,h2,h3,(h2.pp h1).cp,s,fun C hc=>by unfold wcall;simp only [hh,hargs];exact h5 _ (by simp only [hsv];exact hc),(by first | exact Nat.le_refl _ | exact Nat.le_succ _)⟩
   ·cases h4
  ·cases h
where
 scalar_wk:∀(d:Nat) {v u:AV},WK v u->zAM d u=true->zAM d v=true:=by
  intro d
  induction d with
  | zero=>intro v u _ h;cases h
  | succ d ih=>
   intro v u hw h;have al:∀{cs cs':List AV},cs.length=cs'.length->(∀(i:Nat) c c',cs[i]? = some c->cs'[i]? = some c'->WK c c')->cs'.all (zAM d)=true->cs.all (zAM d)=true:=fun hl hi ha=>by
    rw [List.all_eq_true] at ha ⊢;intro c hc;obtain ⟨i,hi'⟩:=List.getElem?_of_mem hc;have hlt:=(List.getElem?_eq_some_iff.1 hi').1;have h2:=List.getElem?_eq_getElem (show i<_ from hl▸hlt)
    exact ih (hi i c _ hi' h2) (ha _ (List.mem_of_getElem? h2))
   cases hw with
   | refl=>exact h
   | nil=>cases h
   | eptr=>cases h
   | iface t hw=>exact ih hw h
   | agg hl hi=>exact al hl hi h
   | tup hl hi=>exact al hl hi h
 frz_pp {st:Sta} (s:CPS st):∀(d:Nat) {v v':AV},CP st.mv st.m v->frz st.H st.V d v=some v'->PP v':=by
  intro d
  induction d with
  | zero=>intro v v' _ h;cases h
  | succ d ih=>
   intro v v' hcp h;have al:∀{l l':List AV},(∀e∈l,CP st.mv st.m e)->zp (frz st.H st.V d) l=some l'->∀e∈l',PP e:=fun hl hm=>by
    obtain ⟨m1,m2⟩:=zAj hm;intro x hx;obtain ⟨i,hi⟩:=List.getElem?_of_mem hx;have hlt:=(List.getElem?_eq_some_iff.1 hi).1;have hv:=List.getElem?_eq_getElem (show i<_ from m1▸hlt)
    exact ih (hl _ (List.mem_of_getElem? hv)) (m2 i _ x hv hi)
   unfold frz at h;split at h
   ·split at h
    ·rename_i hV;cases h;exact .lst _ _ (s.V _ _ hV).2
    ·cases h
   ·split at h
    ·rename_i hg;obtain ⟨str,cs,e,hc⟩:=s.H.get hg;cases e;split at h
     ·rename_i cs' hcs;cases h;exact .eptr _ _ (.agg _ (al hc hcs))
     ·cases h
    ·cases h
   ·cases hcp with
    | func _ _ _ ha hb=>
     split at h
     ·rename_i a' hA;split at h
      ·rename_i b' hB;cases h;exact .func _ _ _ (al ha hA) (al hb hB)
      ·cases h
     ·cases h
   ·cases hcp with
    | agg _ hc=>
     split at h
     ·rename_i cs' hcs;cases h;exact .agg _ (al hc hcs)
     ·cases h
   ·split at h
    ·rename_i hg;obtain ⟨str,cs,e,hc⟩:=s.H.get hg;cases e;split at h
     ·split at h
      ·rename_i hre;split at h
       ·rename_i hpp;cases h;refine .lst _ _ fun e he=>?_
        obtain ⟨h1,h2,h3,h4,h5⟩:=zW hre;obtain ⟨i,hi⟩:=List.getElem?_of_mem he;obtain ⟨q1,q2⟩:=zJ h5;obtain ⟨q3,q4,q5⟩:=zD (q2 i e hi);refine zBK (n:=st.mv) (k:=st.m) 8 (zBe q5 fun x hx=>hc x ?_) (List.all_eq_true.1 hpp e he)
        rw [q4] at hx;exact List.mem_of_mem_drop (List.mem_of_mem_take (List.mem_of_mem_drop (List.mem_of_mem_take hx)))
       ·cases h
      ·cases h
     ·cases h
    ·cases h
   ·split at h
    ·cases h
    ·rename_i hh;cases h;exact zHg d hcp hh
theorem zM8 (htb:TbW P G (tbS tb)) (hG:GPP G) {o:XO} {ks:List K} (hok:opOK o=true) (s:CPS st) (h:fop wk G tb st o ks k=some r):∃v u st',Stp G tb st wk k r (wop G (tbS tb) st o ks) v u st':=by
 have dfl:∀{o':XO},zIU o'=true->opOK o'=true->FXd st (xoS G ze st.fr st.H st.m o') k=some r->∃v u st',Stp G tb st wk k r (fun C=>WXd st (xoS G ze st.fr st.H st.m o') C) v u st':=fun {o'} hd hok h=>by
  unfold FXd at h;split at h
  ·rename_i v H m e;obtain ⟨h1,h2⟩:=zKu hd hok hG s.fr s.H e;obtain ⟨h3,h4⟩:=zMF hd s.lt e;exact ⟨v,v,_,h,.refl _,fun _=>rfl,h1,⟨s.fr.mono (Nat.le_refl _) h4,h2,s.V,h3⟩,fun C hc=>by unfold WXd;simp only [e];exact hc,(by first | exact Nat.le_refl _ | exact Nat.le_succ _)⟩
  ·cases h
 have val:∀{v u:AV} {W:(AV->Sta->Prop)->Prop},WK v u->(wk=false->u=v)->CP st.mv st.m u->k u st=some r->(∀C:AV->Sta->Prop,C v st->W C)->∃v u st',Stp G tb st wk k r W v u st':=fun hw he hc hk hC=>⟨_,_,st,hk,hw,he,hc,s,hC,(by first | exact Nat.le_refl _ | exact Nat.le_succ _)⟩
 have val0:∀{v:AV} {W:(AV->Sta->Prop)->Prop},CP st.mv st.m v->k v st=some r->(∀C:AV->Sta->Prop,C v st->W C)->∃v u st',Stp G tb st wk k r W v u st':=fun hc hk hC=>val (.refl _) (fun _=>rfl) hc hk hC
 have symv:CP (st.mv+1) st.m (.sym st.mv):=.sym _ (Nat.lt_succ_self _);have nil:CP st.mv st.m (.tup []):=.tup _ fun e he=>by cases he
 cases o <;> try (cases h;done)
 all_goals try (exact dfl rfl hok h)
 case build z ps=>
  simp only [fop] at h
  delta wop;dsimp only
  cases ks with
  | nil=>exact dfl rfl hok h
  | cons k0 ks=>
   dsimp only at h;unfold FXd at h;split at h
   ·rename_i v H m e;obtain ⟨h1,h2⟩:=zKu (o:=.build z ps) rfl hok hG s.fr s.H e;obtain ⟨h3,h4⟩:=zMF (o:=.build z ps) rfl s.lt e;obtain ⟨v',u,e1,e2,e3,e4⟩:=zI0 h;cases e1;exact ⟨v,u,_,e4,e2,e3,e2.cp h1,⟨s.fr.mono (Nat.le_refl _) h4,h2,s.V,h3⟩,fun C hc=>by unfold WXd;simp only [e];exact hc,(by first | exact Nat.le_refl _ | exact Nat.le_succ _)⟩
   ·cases h
 case idxA x i l sz ag=>
  simp only [fop] at h
  delta wop;dsimp only
  cases ks with
  | nil=>exact dfl rfl hok h
  | cons k0 ks=>
   dsimp only at h ⊢;split at h
   ·rename_i kd n hi;rw [hi];obtain ⟨m,h1,h2,h3⟩:=zGw h;have hok':opOK (.idxA x (.c (.int kd (.ofNat m))) l sz ag)=true:=by
     simp only [opOK,XO.opnds,zH,List.all_append,List.all_cons,List.all_nil,Bool.and_true,Bool.and_eq_true] at hok ⊢;exact ⟨hok.1,rfl⟩
    obtain ⟨v,u,st',q⟩:=dfl (o':=.idxA x (.c (.int kd (.ofNat m))) l sz ag) rfl hok' h3;refine ⟨v,u,st',q.k,q.wkn,q.eq,q.cp,q.cst,fun C hc=>⟨⟨by rw [h2];exact Int.natCast_nonneg _,by rw [h2];exact Int.ofNat_lt.2 h1⟩,zIe h2 (q.w C hc)⟩,q.le⟩
   ·cases h
 case iaddrA x i l sz=>
  simp only [fop] at h
  delta wop;dsimp only
  cases ks with
  | nil=>exact dfl rfl hok h
  | cons k0 ks=>
   dsimp only at h ⊢;split at h
   ·rename_i kd n hi;rw [hi];obtain ⟨m,h1,h2,h3⟩:=zGw h;have hok':opOK (.iaddrA x (.c (.int kd (.ofNat m))) l sz)=true:=by
     simp only [opOK,XO.opnds,zH,List.all_append,List.all_cons,List.all_nil,Bool.and_true,Bool.and_eq_true] at hok ⊢;exact ⟨hok.1,rfl⟩
    obtain ⟨v,u,st',q⟩:=dfl (o':=.iaddrA x (.c (.int kd (.ofNat m))) l sz) rfl hok' h3;refine ⟨v,u,st',q.k,q.wkn,q.eq,q.cp,q.cst,fun C hc=>⟨⟨by rw [h2];exact Int.natCast_nonneg _,by rw [h2];exact Int.ofNat_lt.2 h1⟩,zIe h2 (q.w C hc)⟩,q.le⟩
   ·cases h
 case pick cc x y=>
  simp only [fop] at h
  delta wop;dsimp only
  have hok':(xvOK cc=true/\xvOK x=true)/\xvOK y=true:=by simp only [opOK,XO.opnds,zH,List.all_append,List.all_cons,List.all_nil,Bool.and_true,Bool.and_eq_true] at hok;exact hok
  split at h
  ·rename_i cb hcb;rw [hcb];split at h
   ·rename_i n;rcases zIY h with ⟨rfl,h2⟩ | ⟨rfl,h2⟩
    ·split at h2
     ·rename_i v hv;exact ⟨v,v,_,h2,.refl _,fun _=>rfl,zE hG s.fr hok'.1.2 hv,s.put (.bool _),fun C hc=>by simp only [Br,hv];exact hc,(by first | exact Nat.le_refl _ | exact Nat.le_succ _)⟩
     ·cases h2
    ·split at h2
     ·rename_i v hv;exact ⟨v,v,_,h2,.refl _,fun _=>rfl,zE hG s.fr hok'.2 hv,s.put (.bool _),fun C hc=>by simp only [Br,hv];exact hc,(by first | exact Nat.le_refl _ | exact Nat.le_succ _)⟩
     ·cases h2
   ·rename_i hne;cases cc with
    | t n=>exact absurd rfl (hne n)
    | _=>exact dfl rfl hok h
  ·cases h
 case bin op x y=>
  simp only [fop] at h
  delta wop;dsimp only
  split at h
  ·rename_i s1 hx;rw [hx];split at h
   ·split at h
    ·rename_i s2 hy;rw [hy];obtain ⟨h1,h2⟩:=zBI h;exact val0 (.str _) h2 fun C hc=>⟨h1,hc⟩
    ·cases h
   ·obtain ⟨v,u,st',q⟩:=dfl rfl hok h;refine ⟨v,u,st',q.k,q.wkn,q.eq,q.cp,q.cst,fun C hc=>?_,q.le⟩
    have:=q.w C hc;cases op <;> first | exact this | (rename_i hne;exact absurd rfl hne)
  ·rename_i k1 n1 hx;rw [hx];split at h
   ·split at h
    ·rename_i k2 n2 hy;rw [hy];split at h
     ·rename_i hk;obtain ⟨h1,h2⟩:=zBI h;exact val0 (.int _ _) h2 fun C hc=>by simp only [hk];exact ⟨h1,hc⟩
     ·cases h
    ·cases h
   ·split at h
    ·rename_i k2 n2 hy;rw [hy];split at h
     ·rename_i hk;obtain ⟨h1,h2⟩:=zBI h;exact val0 (.int _ _) h2 fun C hc=>by simp only [hk];exact ⟨h1,hc⟩
     ·cases h
    ·cases h
   ·split at h
    ·rename_i k2 n2 hy;rw [hy];obtain ⟨h1,h2⟩:=zBI h;exact val0 (.int _ _) h2 fun C hc=>⟨h1,hc⟩
    ·cases h
   ·split at h
    ·rename_i k2 n2 hy;rw [hy];obtain ⟨h1,h2⟩:=zBI h;exact val0 (.int _ _) h2 fun C hc=>⟨h1,hc⟩
    ·cases h
   ·obtain ⟨v,u,st',q⟩:=dfl rfl hok h;refine ⟨v,u,st',q.k,q.wkn,q.eq,q.cp,q.cst,fun C hc=>?_,q.le⟩
    have:=q.w C hc;rename_i g1 g2 g3 g4;cases op <;> first | exact this | exact absurd rfl g1 | exact absurd rfl g2 | exact absurd rfl g3 | exact absurd rfl g4
  ·cases h
 case aeq neg kd x y=>
  simp only [fop] at h
  delta wop;dsimp only
  split at h
  ·rename_i a hx;split at h
   ·rename_i b hy;split at h
    ·rename_i q hq;rw [hx,hy];exact val0 (by unfold bneg;exact .bool _) h fun C hc=>by simp only [hq];exact hc
    ·cases h
   ·cases h
  ·cases h
 case idxS x i=>
  simp only [fop] at h
  delta wop;dsimp only
  split at h
  ·rename_i s1 hx;split at h
   ·rename_i kd n hi;rw [hx,hi];obtain ⟨c,h1,h2⟩:=zIZ h;exact val0 (.int _ _) h2 fun C hc=>⟨c,h1,hc⟩
   ·cases h
  ·cases h
 case slcS x lo hi=>
  simp only [fop] at h
  delta wop;dsimp only
  split at h
  ·rename_i s1 hx;split at h
   ·rename_i lo' hlo;split at h
    ·rename_i hi' hhi;rw [hx];simp only [hlo,hhi];obtain ⟨l,u,h1,h2⟩:=zLC h;exact val0 (.str _) h1 fun C hc=>h2 _ hc
    ·cases h
   ·cases h
  ·cases h
 case slcL x lo hi mx sz=>
  simp only [fop] at h
  delta wop;dsimp only
  split at h
  ·rename_i sz' es hx;split at h
   ·rename_i hb;split at h
    ·split at h
     ·rename_i lo' hlo;split at h
      ·rename_i hi' hhi;rw [hx];simp only [hb,hlo,hhi];obtain ⟨l,u,h1,h2⟩:=zLC h;have hok':xvOK x=true:=by
        simp only [opOK,XO.opnds,zH,List.all_append,List.all_cons,List.all_nil,Bool.and_true,Bool.and_eq_true] at hok;exact hok.1.1.1
       have hcx:=zE hG s.fr hok' hx;cases hcx with
       | lst _ _ hes=>exact val0 (.lst _ _ fun e he=>hes e (List.mem_of_mem_take (List.mem_of_mem_drop he))) h1 fun C hc=>h2 _ hc
      ·cases h
     ·cases h
    ·cases h
   ·cases h
  ·rename_i hx;have hx':=hx;have hh:=h;unfold FXd at hh;split at hh
   ·rename_i v H m e;rw [hx];have:v=.nilslice/\H=st.H/\m=st.m:=by
     simp only [xoS,hx] at e;split at e
     ·split at e
      ·rename_i hq;cases e;refine ⟨?_,rfl,rfl⟩
       have hv:∀{v0:AV},some AV.nilslice=some v0->v0=.nilslice:=fun h=>by cases h;rfl
       rename_i v0 _ _ _ q1 _ _ _ _;have:=hv q1;subst this;simp only [xslice] at hq
       repeat' split at hq
       all_goals first | (cases hq;done) | (cases hq;rfl)
      ·cases e
     ·cases e
    obtain ⟨rfl,rfl,rfl⟩:=this;exact val0 .nilslice hh fun C hc=>by unfold WXd;simp only [e];exact hc
   ·cases hh
  ·cases h
 case iaddrS x i sz=>
  simp only [fop] at h
  delta wop;dsimp only
  have hok':xvOK x=true/\xvOK i=true:=by simp only [opOK,XO.opnds,zH,List.all_append,List.all_cons,List.all_nil,Bool.and_true,Bool.and_eq_true] at hok;exact hok
  split at h
  ·rename_i sz' es hx;split at h
   ·rename_i hb;split at h
    ·rename_i kd n hi;rw [hx];simp only [hb,hi];obtain ⟨v,u,h1,h2,h3,h4⟩:=zI0 h;have hcx:=zE hG s.fr hok'.1 hx;cases hcx with
     | lst _ _ hes=>
      have hpv:PP v:=by
       unfold ixN at h1;split at h1
       ·exact hes v (List.mem_of_getElem? h1)
       ·cases h1
      exact val (.eptr 0 h2) (fun e=>by rw [h3 e]) (.eptr _ _ (h2.pp hpv)) h4 fun C hc=>⟨v,h1,hc⟩
    ·cases h
   ·cases h
  ·rename_i j hx;split at h
   ·rename_i sz' es hV;split at h
    ·rename_i hb;split at h
     ·rename_i kd n hi;rw [hx];simp only [hV,hb,hi];obtain ⟨h1,h2⟩:=zBI h;exact ⟨_,_,_,h2,.refl _,fun _=>rfl,symv,s.newV trivial,fun C hc=>⟨h1,hc⟩,(by first | exact Nat.le_refl _ | exact Nat.le_succ _)⟩
     ·cases h
    ·cases h
   ·cases h
  ·rename_i hx;split at h
   ·rename_i kd n hi;rw [hx];simp only [hi];obtain ⟨m,h1,h2,h3⟩:=zGw h;have hok2:opOK (.iaddrS x (.c (.int kd (.ofNat m))) sz)=true:=by
     simp only [opOK,XO.opnds,zH,List.all_append,List.all_cons,List.all_nil,Bool.and_true,Bool.and_eq_true];exact ⟨hok'.1,rfl⟩
    obtain ⟨v,u,st',q⟩:=dfl (o':=.iaddrS x (.c (.int kd (.ofNat m))) sz) rfl hok2 h3;refine ⟨v,u,st',q.k,q.wkn,q.eq,q.cp,q.cst,fun C hc=>⟨⟨by rw [h2];exact Int.natCast_nonneg _,by rw [h2];exact Int.ofNat_lt.2 h1⟩,zIe h2 (q.w C hc)⟩,q.le⟩
   ·cases h
  ·cases h
 case lenL x=>
  simp only [fop] at h
  delta wop;dsimp only
  split at h
  ·rename_i j hx;split at h
   ·rename_i sz es hV;rw [hx];simp only [hV];exact val0 (.int _ _) h fun C hc=>hc
   ·cases h
  ·rename_i hne;obtain ⟨v,u,st',q⟩:=dfl rfl hok h;refine ⟨v,u,st',q.k,q.wkn,q.eq,q.cp,q.cst,fun C hc=>?_,q.le⟩
   split
   ·rename_i j hx;exact absurd hx (hne j)
   ·exact q.w C hc
 case load x sz ag=>
  simp only [fop] at h
  delta wop;dsimp only
  split at h
  ·rename_i p hx;split at h
   ·rename_i j i off hp;split at h
    ·rename_i sz' es hV;rw [hx];simp only [hp,hV];obtain ⟨v,u,h1,h2,h3,h4⟩:=zI0 h;have hpv:PP v:=by
      unfold ldE at h1;split at h1
      ·rename_i e he;exact zM5 ((s.V _ _ hV).2 e (List.mem_of_getElem? he)).cells h1
      ·cases h1
     exact val h2 h3 (h2.pp hpv).cp h4 fun C hc=>⟨v,h1,hc⟩
    ·cases h
   ·cases h
  ·rename_i hne;obtain ⟨v,u,st',q⟩:=dfl rfl hok h;refine ⟨v,u,st',q.k,q.wkn,q.eq,q.cp,q.cst,fun C hc=>?_,q.le⟩
   split
   ·rename_i j hx;exact absurd hx (hne j)
   ·exact q.w C hc
 case faddr x f=>
  simp only [fop] at h
  delta wop;dsimp only
  split at h
  ·rename_i p hx;split at h
   ·rename_i j i off hp;split at h
    ·rename_i sz' es hV;rw [hx];simp only [hp,hV];exact ⟨_,_,_,h,.refl _,fun _=>rfl,symv,s.newV trivial,fun C hc=>hc,(by first | exact Nat.le_refl _ | exact Nat.le_succ _)⟩
    ·cases h
   ·cases h
  ·rename_i hne;obtain ⟨v,u,st',q⟩:=dfl rfl hok h;refine ⟨v,u,st',q.k,q.wkn,q.eq,q.cp,q.cst,fun C hc=>?_,q.le⟩
   split
   ·rename_i j hx;exact absurd hx (hne j)
   ·exact q.w C hc
 case store x y sz=>
  simp only [fop] at h
  delta wop;dsimp only
  have hok':xvOK x=true/\xvOK y=true:=by simp only [opOK,XO.opnds,zH,List.all_append,List.all_cons,List.all_nil,Bool.and_true,Bool.and_eq_true] at hok;exact hok
  split at h
  ·rename_i p hx;split at h
   ·rename_i j i off hp;split at h
    ·rename_i sz' es hV;split at h
     ·rename_i v hy;split at h
      ·rename_i hb;split at h
       ·rename_i new hc';rw [hx];simp only [hp,hV,hy,hb,hc'];simp only [Bool.and_eq_true] at hb;have hpv:PP v:=zBK 12 (zE hG s.fr hok'.2 hy) hb.2;refine ⟨_,_,_,h,.refl _,fun _=>rfl,nil,s.setV (s.V _ _ hV).1 (fun e he=>?_),fun C hc=>hc,(by first | exact Nat.le_refl _ | exact Nat.le_succ _)⟩
        rcases List.mem_or_eq_of_mem_set he with he | rfl
        ·exact (s.V _ _ hV).2 e he
        ·exact hpv
       ·cases h
      ·cases h
     ·cases h
    ·cases h
   ·cases h
  ·rename_i hne;obtain ⟨v,u,st',q⟩:=dfl rfl hok h;refine ⟨v,u,st',q.k,q.wkn,q.eq,q.cp,q.cst,fun C hc=>?_,q.le⟩
   split
   ·rename_i j hx;exact absurd hx (hne j)
   ·exact q.w C hc
 case s2b x=>
  simp only [fop] at h
  delta wop;dsimp only
  split at h
  ·rename_i s1 hx;rw [hx];refine ⟨_,_,_,h,.refl _,fun _=>rfl,symv,s.newV (fun e he=>?_),fun C hc=>hc,(by first | exact Nat.le_refl _ | exact Nat.le_succ _)⟩
   obtain ⟨b,_,rfl⟩:=List.mem_map.1 he;exact .int _ _
  ·cases h
 case b2s x=>
  simp only [fop] at h
  delta wop;dsimp only
  split at h
  ·rename_i j hx;split at h
   ·rename_i sz es hV;split at h
    ·rename_i hb;rw [hx];simp only [hV,hb];obtain ⟨q,h1,h2⟩:=zIZ h;exact val0 (.str _) h2 fun C hc=>⟨q,h1,hc⟩
    ·cases h
   ·cases h
  ·rename_i sz es hx;split at h
   ·rename_i hb;rw [hx];simp only [hb];obtain ⟨q,h1,h2⟩:=zIZ h;exact val0 (.str _) h2 fun C hc=>⟨q,h1,hc⟩
   ·cases h
  ·rename_i hx;rw [hx];exact val0 (.str _) h fun C hc=>hc
  ·cases h
 case bslice len sz z ps=>
  simp only [fop] at h
  delta wop;dsimp only
  cases ks with
  | cons k0 ks=>exact dfl rfl hok h
  | nil=>
   dsimp only at h ⊢;split at h
   ·rename_i cs hf;split at h
    ·rename_i hl;split at h
     ·rename_i es hr;split at h
      ·rename_i hp;simp only [hf,hl,hr,hp];simp only [opOK,XO.opnds,Bool.and_eq_true] at hok;have hz:z.all (z7 12)=true:=hok.2;have hcp:∀c'∈cs,CP st.mv st.m c':=zHs hG s.fr (by simpa [List.all_map] using hok.1) (fun c' hc=>(zAt 12 (List.all_eq_true.1 hz c' hc)).cp) hf
       exact ⟨_,_,_,h,.refl _,fun _=>rfl,symv,s.newV (zRK hr hcp hp),fun C hc=>hc,(by first | exact Nat.le_refl _ | exact Nat.le_succ _)⟩
      ·cases h
     ·cases h
    ·cases h
   ·cases h
 case mkslice l cx sz bytes z=>
  simp only [fop] at h
  delta wop;dsimp only
  split at h
  ·rename_i k1 n hl;split at h
   ·rename_i k2 m hcx;split at h
    ·rename_i e hr hz;rw [hl];simp only [hcx,hr,hz];obtain ⟨h1,h2⟩:=zBI h;simp only [opOK,XO.opnds,Bool.and_eq_true] at hok;have hzp:z.all (z7 12)=true:=hok.2;have hzz:∀c'∈z,PP c':=fun c' hc=>zAt 12 (List.all_eq_true.1 hzp c' hc)
     have hpe:PP e:=by
      obtain ⟨q1,q2,q3,q4,q5⟩:=zW hr;have hec:=(zJ q5).2 0 e rfl;obtain ⟨_,q7,q8⟩:=zD hec;refine zLz q8 fun x hx=>hzz x ?_
      rw [q7] at hx;exact List.mem_of_mem_take (List.mem_of_mem_drop (List.mem_of_mem_take hx))
     exact ⟨_,_,_,h2,.refl _,fun _=>rfl,symv,s.newV (fun x hx=>by rw [(List.mem_replicate.1 hx).2];exact hpe),fun C hc=>⟨h1,hc⟩,(by first | exact Nat.le_refl _ | exact Nat.le_succ _)⟩
    ·cases h
   ·cases h
  ·cases h
 case append x y sz bytes=>
  simp only [fop] at h
  delta wop;dsimp only
  have hok':xvOK x=true/\xvOK y=true:=by simp only [opOK,XO.opnds,zH,List.all_append,List.all_cons,List.all_nil,Bool.and_true,Bool.and_eq_true] at hok;exact hok
  split at h
  ·cases h
  ·rename_i hcl;split at h
   ·rename_i v hx;split at h
    ·rename_i u hy;split at h
     ·rename_i ys he;split at h
      ·rename_i hpp;have hys:=zSO s.H (zE hG s.fr hok'.2 hy) he hpp;split at h
       ·obtain ⟨h1,h2⟩:=zBI h;rw [hx,hy];simp only [hcl,he,hpp];exact ⟨_,_,_,h2,.refl _,fun _=>rfl,symv,s.newV hys,fun C hc=>⟨h1,hc⟩,(by first | exact Nat.le_refl _ | exact Nat.le_succ _)⟩
       ·rename_i j;split at h
        ·rename_i sz' es hV;split at h
         ·rename_i hb;obtain ⟨h1,h2⟩:=zBI h;rw [hx,hy];simp only [hcl,he,hpp,hV,hb];exact ⟨_,_,_,h2,.refl _,fun _=>rfl,symv,s.appV (fun e he=>(List.mem_append.1 he).elim ((s.V _ _ hV).2 e) (hys e)),fun C hc=>⟨h1,hc⟩,(by first | exact Nat.le_refl _ | exact Nat.le_succ _)⟩
         ·cases h
        ·cases h
       ·cases h
      ·cases h
     ·cases h
    ·cases h
   ·cases h
 case mkmap=>
  exact ⟨_,_,_,h,.refl _,fun _=>rfl,symv,s.newV (fun p hp=>by cases hp),fun C hc=>hc,(by first | exact Nat.le_refl _ | exact Nat.le_succ _)⟩
 case lookup ag kd m x z ok=>
  simp only [fop] at h
  delta wop;dsimp only
  have hz:z7 12 z=true:=by simp only [opOK,XO.opnds,zH,Bool.and_eq_true] at hok;exact hok.2
  split at h
  ·rename_i j hm;split at h
   ·rename_i es hV;split at h
    ·rename_i kv hx;split at h
     ·rename_i hko;rw [hm];simp only [hV,hx,hko];have hl:∀{b:Bool} {u:AV},PP u->PP (lkV ok b u):=fun {b u} hu=>by
       cases ok
       ·exact hu
       ·exact .tup _ fun e he=>by
         simp only [List.mem_cons,List.not_mem_nil,or_false] at he;rcases he with rfl | rfl
         ·exact hu
         ·exact .bool _
      split at h
      ·obtain ⟨q,h1,h2⟩:=zOS h;cases q with
       | some u=>
        have hp:PP (lkV ok true u):=hl (zOU (s.V _ _ hV).2 h1);exact val (.refl _) (fun _=>rfl) hp.cp h2 fun C hc=>⟨_,by rw [h1];rfl,hc⟩
       | none=>
        have hp:PP (lkV ok false z):=hl (zAt 12 hz);exact val (.refl _) (fun _=>rfl) hp.cp h2 fun C hc=>⟨_,by rw [h1];rfl,hc⟩
      obtain ⟨v,u,h1,h2,h3,h4⟩:=zI0 h;have hpv:PP v:=by
       unfold lkR at h1;split at h1
       ·rename_i hf;cases h1;exact hl (zOU (s.V _ _ hV).2 hf)
       ·cases h1;exact hl (zAt 12 hz)
       ·cases h1
      exact val h2 h3 (h2.pp hpv).cp h4 fun C hc=>⟨v,h1,hc⟩
     ·cases h
    ·cases h
   ·cases h
  ·cases h
 case mupd ag kd m x y=>
  simp only [fop] at h
  delta wop;dsimp only
  have hok':(xvOK m=true/\xvOK x=true)/\xvOK y=true:=by simp only [opOK,XO.opnds,zH,List.all_append,List.all_cons,List.all_nil,Bool.and_true,Bool.and_eq_true] at hok;exact hok
  split at h
  ·rename_i j hm;split at h
   ·rename_i es hV;split at h
    ·rename_i kv hx;split at h
     ·rename_i u hy;split at h
      ·rename_i hb;rw [hm];simp only [hV,hx,hy,hb];simp only [Bool.and_eq_true] at hb;obtain ⟨es',h1,h2⟩:=zIZ h;have hkp:PP kv:=zBK 12 (zE hG s.fr hok'.1.2 hx) hb.1.2;have hup:PP u:=zBK 12 (zE hG s.fr hok'.2 hy) hb.2;exact ⟨_,_,_,h2,.refl _,fun _=>rfl,nil,s.setV (s.V _ _ hV).1 (zUn hkp hup (s.V _ _ hV).2 h1),fun C hc=>⟨es',h1,hc⟩,(by first | exact Nat.le_refl _ | exact Nat.le_succ _)⟩
      ·cases h
     ·cases h
    ·cases h
   ·cases h
  ·cases h
 case call f xs=>
  simp only [fop] at h
  delta wop;dsimp only
  have hok':xs.all xvOK=true:=by simp only [opOK,XO.opnds,zH,Bool.and_true] at hok;exact hok
  split at h
  ·rename_i vs hv;rw [hv];exact zNF htb s (zD6 hG s.fr hok' hv) h
  ·cases h
 case callv fx xs=>
  simp only [fop] at h
  delta wop;dsimp only
  have hok':xvOK fx=true/\xs.all xvOK=true:=by simp only [opOK,XO.opnds,zH,List.all_append,List.all_cons,List.all_nil,Bool.and_true,Bool.and_eq_true] at hok;exact hok
  split at h
  ·rename_i f first caps hf;split at h
   ·rename_i vs hv;rw [hf];simp only [hv];refine zNF htb s (fun x hx=>?_) h
    have hcf:=zE hG s.fr hok'.1 hf;cases hcf with
    | func _ _ _ q1 q2=>
     rcases List.mem_append.1 hx with hx | hx
     ·rcases List.mem_append.1 hx with hx | hx
      ·exact q1 x hx
      ·exact zD6 hG s.fr hok'.2 hv x hx
     ·exact q2 x hx
   ·cases h
  ·cases h
end
end Go.Sy
namespace Go.Sy
theorem zLe {h:Nat} {l:List Nat} {k:Nat} (e:posN h 0 l=some k):k<l.length:=by
 obtain ⟨j,h1,h2⟩:=zDe e;have:=(List.getElem?_eq_some_iff.1 h2).1;omega
theorem zRL {hm sm:List Nat} {n k:Nat}:∀(d:Nat) {v v':AV},CP n k v->rnV hm sm d v=some v'->CP sm.length hm.length v':=by
 intro d
 induction d with
 | zero=>intro v v' _ h;cases h
 | succ d ih=>
  intro v v' hc h;have al:∀{xs ys:List AV},(∀e∈xs,CP n k e)->zp (rnV hm sm d) xs=some ys->∀e∈ys,CP sm.length hm.length e:=fun hx hm' e he=>by
   obtain ⟨m1,m2⟩:=zAj hm';obtain ⟨i,hi⟩:=List.getElem?_of_mem he;have hlt:=(List.getElem?_eq_some_iff.1 hi).1;have hv:=List.getElem?_eq_getElem (show i<_ from m1▸hlt)
   exact ih (hx _ (List.mem_of_getElem? hv)) (m2 i _ e hv hi)
  unfold rnV at h;cases hc with
  | ptr h0 o hk=>
   simp only at h;split at h
   ·rename_i i hi;cases h;exact .ptr _ _ (zLe hi)
   ·cases h
  | row h0 o l s c e hk=>
   simp only at h;split at h
   ·rename_i i hi;cases h;exact .row _ _ _ _ _ _ (zLe hi)
   ·cases h
  | map h0 hk=>
   simp only at h;split at h
   ·rename_i i hi;cases h;exact .map _ (zLe hi)
   ·cases h
  | sym j hj=>
   simp only at h;split at h
   ·rename_i i hi;cases h;exact .sym _ (zLe hi)
   ·cases h
  | func f a b ha hb=>
   simp only at h;split at h
   ·rename_i a' hA;split at h
    ·rename_i b' hB;cases h;exact .func _ _ _ (al ha hA) (al hb hB)
    ·cases h
   ·cases h
  | iface t u hu=>
   simp only at h;split at h
   ·rename_i u' hu';cases h;exact .iface _ _ (ih hu hu')
   ·cases h
  | agg cs hcs=>
   simp only at h;split at h
   ·rename_i cs' hc';cases h;exact .agg _ (al hcs hc')
   ·cases h
  | tup cs hcs=>
   simp only at h;split at h
   ·rename_i cs' hc';cases h;exact .tup _ (al hcs hc')
   ·cases h
  | bool b=>cases h;exact .bool _
  | int q m=>cases h;exact .int _ _
  | str s=>cases h;exact .str _
  | nilptr=>cases h;exact .nilptr
  | nilslice=>cases h;exact .nilslice
  | nilmap=>cases h;exact .nilmap
  | nilfunc=>cases h;exact .nilfunc
  | niliface=>cases h;exact .niliface
  | eptr e off hp=>cases h;exact .eptr _ _ hp
  | lst sz es hp=>cases h;exact .lst _ _ hp
def CPW (H:Heap) (V:Vecs):Prop:=CPS ⟨[],H,V,H.length,V.length⟩
theorem CPW.mk' {H:Heap} {V:Vecs} (h:CPW H V) {fr:Fr} (hf:FrCP V.length H.length fr):CPS ⟨fr,H,V,H.length,V.length⟩:=⟨hf,h.H,h.V,h.lt⟩
theorem zF1 {β:Type} {r:β} {hm sm:List Nat} {vs:List AV} {st:Sta} {k:List AV->Heap->Vecs->Option β} (s:CPS st) (hc:∀v∈vs,CP st.mv st.m v) (h:zHh hm sm vs st k=some r):
  ∃us H V,k us H V=some r/\(∀v∈us,CP V.length H.length v)/\us.length=vs.length/\CPW H V/\H.length=hm.length/\V.length=sm.length/\H.keys=List.range' 0 hm.length/\∀C:List AV->Heap->Vecs->Prop,C us H V->zCb hm sm vs st C:=by
 unfold zHh at h;split at h
 ·rename_i hnd;split at h
  ·rename_i us hus;split at h
   ·rename_i H hH;split at h
    ·rename_i V hV;obtain ⟨h1,h2,h3⟩:=zGj hH;obtain ⟨v1,v2⟩:=zGA hV;obtain ⟨m1,m2⟩:=zAj hus;have hcp:∀v∈us,CP V.length H.length v:=fun v hv=>by
      obtain ⟨i,hi⟩:=List.getElem?_of_mem hv;have hlt:=(List.getElem?_eq_some_iff.1 hi).1;have hv':=List.getElem?_eq_getElem (show i<_ from m1▸hlt)
      rw [v1,h1];exact zRL 8 (hc _ (List.mem_of_getElem? hv')) (m2 i _ v hv' hi)
     refine ⟨us,H,V,h,hcp,m1,⟨fun t v e=>(by cases e),fun p hp=>?_,fun j vi hj=>?_,fun p hp=>?_⟩,h1,v1,h2,fun C hC=>?_⟩
     ·obtain ⟨j,h0,str,cs,cs',_,rfl,hg,hcs⟩:=h3 p hp;refine ⟨str,cs',rfl,fun c hcm=>?_⟩
      obtain ⟨_,_,e,hcc⟩:=s.H.get hg;cases e;obtain ⟨m1,m2⟩:=zAj hcs;obtain ⟨i,hi⟩:=List.getElem?_of_mem hcm;have hlt:=(List.getElem?_eq_some_iff.1 hi).1;have hv':=List.getElem?_eq_getElem (show i<_ from m1▸hlt)
      show CP V.length H.length c
      rw [v1,h1];exact zRL 8 (hcc _ (List.mem_of_getElem? hv')) (m2 i _ c hv' hi)
     ·obtain ⟨q,s',rfl,h5,h6,_⟩:=v2 j vi hj;have:=(List.getElem?_eq_some_iff.1 h5).1;exact ⟨by show 0+q<V.length;omega,(s.V _ _ h6).2⟩
     ·have:p.1∈H.keys:=List.mem_map_of_mem hp;rw [h2,List.mem_range'] at this;obtain ⟨i,hi,e⟩:=this;show p.1<H.length
      omega
     ·unfold zCb;simp only [hnd,hus,hH,hV];exact hC
    ·cases h
   ·cases h
  ·cases h
 ·cases h
theorem CPS.thaw {st:Sta} (s:CPS st) {h sz h2:Nat} {v:AV} {es:List AV} (ht:zH4 st.H h sz v=some (h2,es)):CPS ⟨st.fr,st.H.del h2,(st.mv,.vec sz es)::st.V,st.m,st.mv+1⟩:=by
 obtain ⟨l,cp,ex,str,cs,rfl,_,hg,hl,hr,hp⟩:=zG4 ht;obtain ⟨q1,q2,q3,q4,q5⟩:=zW hr;obtain ⟨_,_,ec,hcp⟩:=s.H.get hg;cases ec;have hes:∀e∈es,PP e:=by
  intro e he;obtain ⟨i,hi⟩:=List.getElem?_of_mem he;obtain ⟨_,p2⟩:=zJ q5;obtain ⟨_,p4,p5⟩:=zD (p2 i e hi);refine zBK (n:=st.mv) (k:=st.m) 12 (zBe p5 fun x hx=>hcp x ?_) (List.all_eq_true.1 hp e he)
  rw [p4] at hx;exact List.mem_of_mem_take (List.mem_of_mem_drop (List.mem_of_mem_take hx))
 have s':=s.newV (vi:=.vec sz es) hes;exact ⟨s'.fr,fun p hp=>s'.H p ((Heap.sub_del _ _).subset hp),s'.V,fun p hp=>s'.lt p ((Heap.sub_del _ _).subset hp)⟩
theorem zFD {h:Nat}:∀{g:List (Nat×Nat)} {st:Sta},CPS st->CPS (growC h g st)/\(growC h g st).fr=st.fr/\(growC h g st).m=st.m/\st.mv<=(growC h g st).mv
 | [],st,s=>⟨s,rfl,rfl,Nat.le_refl _⟩
 | (i,sz)::g,st,s=>by
  simp only [growC];split
  ·rename_i str cs hg;split
   ·have s':=s.newV (vi:=.vec sz []) fun e he=>by cases he
    have hcs:∀c∈cs.set i (.sym st.mv),CP (st.mv+1) st.m c:=fun c hc=>by
     rcases List.mem_or_eq_of_mem_set hc with hc | rfl
     ·obtain ⟨_,_,e,hcc⟩:=s'.H.get hg;cases e;exact hcc c hc
     ·exact .sym _ (Nat.lt_succ_self _)
    obtain ⟨a,b,c,d⟩:=zFD (h:=h) (g:=g) (st:=⟨st.fr,st.H.put h (.cells str (cs.set i (.sym st.mv))),(st.mv,.vec sz [])::st.V,st.m,st.mv+1⟩) ⟨s'.fr,s'.H.put hcs,s'.V,fun p hp=>by
     have:p.1∈(st.H.put h (.cells str (cs.set i (.sym st.mv)))).keys:=List.mem_map_of_mem hp;rcases zCc hp with rfl | hp
     ·exact s.lt (h,.cells str cs) (Heap.mem_of_get hg)
     ·exact s.lt p hp⟩
    exact ⟨a,b,c,Nat.le_trans (Nat.le_succ _) d⟩
   ·split
    ·rename_i h2 es ht;have s1:=s.thaw ht;have hh':(st.H.del h2).get h=some (.cells str cs):=by
      obtain ⟨_,_,_,_,_,_,hne,_⟩:=zG4 ht;exact (Heap.get_del hne).trans hg
     have hcs:∀c∈cs.set i (.sym st.mv),CP (st.mv+1) st.m c:=fun c hc=>by
      rcases List.mem_or_eq_of_mem_set hc with hc | rfl
      ·obtain ⟨_,_,e,hcc⟩:=s1.H.get hh';cases e;exact hcc c hc
      ·exact .sym _ (Nat.lt_succ_self _)
     obtain ⟨a,b,c,d⟩:=zFD (h:=h) (g:=g) (st:=⟨st.fr,(st.H.del h2).put h (.cells str (cs.set i (.sym st.mv))),(st.mv,.vec sz es)::st.V,st.m,st.mv+1⟩) ⟨s1.fr,s1.H.put hcs,s1.V,fun p hp=>by
      rcases zCc hp with rfl | hp
      ·exact s1.lt (h,.cells str cs) (Heap.mem_of_get hh')
      ·exact s1.lt p hp⟩
     exact ⟨a,b,c,Nat.le_trans (Nat.le_succ _) d⟩
    ·exact zFD s
   ·exact zFD s
  ·exact ⟨s,rfl,rfl,Nat.le_refl _⟩
theorem zD9:∀{g:List (Nat×Nat)} {st:Sta},CPS st->CPS (zDV g st)
 | [],st,s=>s
 | (t,sz)::g,st,s=>by
  simp only [zDV];split
  ·split
   ·exact zD9 ((s.newV (vi:=.vec sz []) fun e he=>by cases he).put (.sym _ (Nat.lt_succ_self _)))
   ·split
    ·rename_i ht;exact zD9 ((s.thaw ht).put (.sym _ (Nat.lt_succ_self _)))
    ·exact zD9 s
   ·exact zD9 s
  ·split
   ·exact zD9 (zFD s).1
   ·exact zD9 s
theorem zFE {β:Type} {r:β} {c:Cut} {F:List AV->Heap->Vecs->Option β} {st:Sta} (s:CPS st) (h:cutO c F st=some r):∃vs H V,F vs H V=some r/\CPS (mkW c vs H V)/\∀C:Inv,C vs H V->cutP c C st:=by
 have s:=zD9 (g:=c.grow) s;unfold cutO zRH at h;split at h
 ·cases h
 ·rename_i vs hvs;unfold zLd at h;have hcp:∀v∈vs,CP (zDV c.grow st).mv (zDV c.grow st).m v:=fun v hv=>by
   obtain ⟨h1,h2⟩:=zKA hvs;obtain ⟨i,hi⟩:=List.getElem?_of_mem hv;have hlt:=(List.getElem?_eq_some_iff.1 hi).1;have ht:=List.getElem?_eq_getElem (show i<_ from h1▸hlt)
   exact s.fr _ _ (h2 i _ v ht hi)
  obtain ⟨us,H,V,h1,h2,h3,h4,_,_,_,h5⟩:=zF1 s hcp h;refine ⟨us,H,V,h1,h4.mk' fun t v e=>?_,fun C hC=>?_⟩
  ·obtain ⟨i,_,hi⟩:=zJw e;exact h2 v (List.mem_of_getElem? hi)
  ·unfold cutP canon;rw [hvs];exact h5 C hC
def heOf (e:FEnt):HEnt:=⟨e.f,e.grow,fun args H V=>(∀x∈args,CP V.length H.length x)/\CPW H V/\H.keys=List.range' 0 H.length,e.val⟩
structure FOK (P:Program) (G:Cx) (e:FEnt):Prop where
 h:HOK P G (heOf e)
 v:∀args H V v H2 V2,(∀x∈args,CP V.length H.length x)->CPW H V->H.keys=List.range' 0 H.length->e.val args H V=some (v,H2,V2)->∀j vi,V2.get j=some vi->j<V2.length/\VIP vi
def toT (th:TbH) (o:FOp):TOp:=⟨o.o,o.ks,o.h.map fun _=>th.map heOf⟩
theorem zJz {f:Nat}:∀{th:TbH},zG0 (th.map heOf) f=(zJy th f).map heOf
 | []=>rfl
 | s::r=>by
  simp only [List.map_cons,zG0,zJy];have e:Nat.beq f (heOf s).f=Nat.beq f s.f:=rfl;rw [e];cases Nat.beq f s.f with
  | true=>rfl
  | false=>exact zJz
section
variable {β:Type} {P:Program} {G:Cx} {tb:TbF} {th:TbH} {st:Sta} {r:β}
theorem zRM {g:List (Nat×Nat)} {args:List AV} (s:CPS st):CPS (growA g args st)/\(growA g args st).fr=st.fr/\(growA g args st).m=st.m/\st.mv<=(growA g args st).mv:=by
 unfold growA;split
 ·exact zFD s
 ·exact ⟨s,rfl,rfl,Nat.le_refl _⟩
theorem WK.rnB {v u:AV} {mv:Nat} (h:WK v u):WK (Sy.rnB mv v) (Sy.rnB mv u):=by
 cases h with
 | refl=>exact .refl _
 | nil sz=>exact .nil sz
 | eptr off h=>exact .eptr off h
 | iface t h=>exact .iface t h
 | agg hl h=>exact .agg hl h
 | tup hl h=>exact .tup hl h
theorem zML {e:FEnt} (he:FOK P G e) {ds:List D} {args:List AV} {k:AV->Sta->Option β} (s:CPS st) (hcp:∀x∈args,CP st.mv st.m x) (h:zMK e ds args st k=some r):∃v u st',Stp G tb st true k r (zDx (heOf e) args st) v u st':=by
 obtain ⟨s1,e1,e2,e3⟩:=zRM (g:=e.grow) (args:=args) s;unfold zMK zLd at h;have hcp1:∀x∈args,CP (growA e.grow args st).mv (growA e.grow args st).m x:=fun x hx=>(hcp x hx).mono e3 (by rw [e2];exact Nat.le_refl _)
 obtain ⟨us,H,V,h1,h2,h3,h4,h5,h6,h7,h8⟩:=zF1 s1 hcp1 h;obtain ⟨v,u,H2,V2,g1,g2,_,g3⟩:=zUm h1;have hk:H.keys=List.range' 0 H.length:=by rw [h7,h5]
 obtain ⟨o,_⟩:=he.h.2 us H V v H2 V2 ⟨h2,h4,hk⟩ g1;have hV2:=he.v us H V v H2 V2 h2 h4 hk g1;generalize hst1:growA e.grow args st=st1 at *;have fin:∀C:AV->Sta->Prop,C (zH6 e.grow st1.mv v) (zGZ e.grow (zE8 st1.H 30 0 (args.foldl (fun a v=>hsA 8 v a) (List.range 0))) (zCw st1.H (zE8 st1.H 30 0 (args.foldl (fun a v=>hsA 8 v a) (List.range 0))) (args.foldl (fun a v=>zFi 8 v a) [])) st1 H2 V2)->zDx (heOf e) args st C:=fun C hC=>by
  unfold zDx;have hst1':growA (heOf e).grow args st=st1:=hst1;simp only [hst1'];unfold zHr;refine h8 _ ⟨⟨h2,h4,hk⟩,?_⟩
  have g1:(heOf e).val us H V=some (v,H2,V2):=g1;simp only [g1];exact hC
 cases hi:inpl e.grow with
 | true=>
  have hst:∀hm sm,zGZ e.grow hm sm st1 H2 V2=⟨st1.fr,st1.H,zGY sm V2 st1.V,st1.m,st1.mv⟩:=fun hm sm=>by unfold zGZ;rw [hi]
  have hrs:∀x,zH6 e.grow st1.mv x=x:=fun x=>by unfold zH6;rw [hi]
  rw [hst,hrs] at g3;have hppv:PP v:=(he.h.into hi ⟨h2,h4,hk⟩ g1).2.2.2.1;refine ⟨v,u,_,g3,g2,fun e=>(by cases e),(g2.pp hppv).cp,⟨s1.fr,s1.H,?_,s1.lt⟩,fun C hC=>fin C ?_,e3⟩
  ·intro j vi hj;obtain ⟨vi0,h0,⟨i,q1,q2⟩ | ⟨rfl,_⟩⟩:=zNz hj
   ·exact ⟨(s1.V _ _ h0).1,(hV2 _ _ q2).2⟩
   ·exact s1.V _ _ h0
  ·rw [hst,hrs];exact hC
 | false=>
 have hst:∀hm sm,zGZ e.grow hm sm st1 H2 V2=⟨st1.fr,zFV hm st1.mv H2 st1.H,zH5 sm st1.mv V2 st1.V,st1.m,st1.mv+V2.length⟩:=fun hm sm=>by unfold zGZ;rw [hi]
 have hrs:∀x,zH6 e.grow st1.mv x=rnB st1.mv x:=fun x=>by unfold zH6;rw [hi]
 rw [hst,hrs] at g3;have hres:CP (st1.mv+V2.length) st1.m (rnB st1.mv u):=by
  rcases o.pp with hp | ⟨j,rfl,hj⟩
  ·have hpu:=g2.pp hp;have:rnB st1.mv u=u:=by cases hpu <;> rfl
   rw [this];exact hpu.cp
  ·cases g2;exact .sym _ (by show st1.mv+j<st1.mv+V2.length;omega)
 refine ⟨_,_,_,g3,g2.rnB,fun e=>(by cases e),hres,⟨?_,?_,?_,?_⟩,fun C hC=>?_,Nat.le_trans e3 (Nat.le_add_right _ _)⟩
 ·exact s1.fr.mono (Nat.le_add_right _ _) (Nat.le_refl _)
 ·intro p hp;have hH2:H2.keys=H.keys:=o.keys;have hlen:H2.length=H.length:=by have:=congrArg List.length hH2;simpa [Heap.keys] using this
  rcases zFB (hm:=_) (by rw [hlen,h5]) (by rw [hH2,h7]) (fun p hp=>let ⟨a,b,c,_⟩:=o.cells p hp;⟨a,b,c⟩) hp with ⟨q1,_⟩ | ⟨i,str,cs,ho,q1,q2,q3,q4⟩
  ·obtain ⟨str,cs,e,hcc⟩:=s1.H p q1;exact ⟨str,cs,e,fun c hc=>(hcc c hc).mono (Nat.le_add_right _ _) (Nat.le_refl _)⟩
  ·refine ⟨str,_,q3,fun c hc=>?_⟩
   obtain ⟨c0,hc0,rfl⟩:=List.mem_map.1 hc;obtain ⟨str',cs',e',hcc⟩:=o.cells _ q2;cases e';rcases hcc c0 hc0 with hp | ⟨j,rfl,hj⟩
   ·have:rnB st1.mv c0=c0:=by cases hp <;> rfl
    rw [this];exact hp.cp
   ·exact .sym _ (by show st1.mv+j<st1.mv+V2.length;omega)
 ·intro j vi hj;rcases zB1 hj with ⟨j',rfl,hj'⟩ | ⟨_,hj'⟩
  ·refine ⟨?_,(hV2 _ _ hj').2⟩
   have:=(hV2 _ _ hj').1;show st1.mv+j'<st1.mv+V2.length
   omega
  ·have:=s1.V _ _ hj';exact ⟨Nat.lt_of_lt_of_le this.1 (Nat.le_add_right _ _),this.2⟩
 ·intro p hp;have:p.1∈(zFV _ st1.mv H2 st1.H).keys:=List.mem_map_of_mem hp;rw [zMG] at this;obtain ⟨q,hq,e⟩:=List.mem_map.1 this;rw [←e];exact s1.lt q hq
 ·exact fin C (by rw [hst,hrs];exact hC)
end
end Go.Sy
