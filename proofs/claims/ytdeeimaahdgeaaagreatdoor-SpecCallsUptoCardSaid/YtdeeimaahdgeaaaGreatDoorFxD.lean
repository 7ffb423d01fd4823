/- A LIBRARY: WHAT A FUNCTION'S CODE RECKONS, AS A LEAN FUNCTION, AND THAT ITS WORD IS THE MODEL'S: part 4 of 6. No condition. -/
import Derived.Test.YtdeeimaahdgeaaaGreatDoorFxC
set_option linter.unusedVariables false
set_option linter.unusedSimpArgs false
namespace Go.Sy
def HFn (P:Program) (G:Cx) (f:Nat) (args:List AV) (H:Heap) (V:Vecs) (v:AV) (H2:Heap) (V2:Vecs):Prop:=
 ∀(E:Env) (w:World) (β:Nat->Option Nat) (b:Array Value),SR G 0 E w { tmps:=#[],defers:=[] } β ⟨[],H,V,H.length,V.length⟩->VRs E w args b.toList->(∀x∈args,CP V.length H.length x) →
  Calls P f b w λ e h=>∃i d j,e=.returned i/\VR d h v i/\(∀p∈H2,d.ρ p.1=E.ρ p.1)/\SR G 0 d h { tmps:=#[],defers:=[] } j ⟨[],H2,V2,H2.length,V2.length⟩/\Kp E.Z (BS E β H V) w d.Z (BS d j H2 V2) h
structure HOut (v:AV) (H H2:Heap) (V2:Vecs):Prop where
 pp:PP v\/∃j,v=.sym j/\j<V2.length
 keys:H2.keys=H.keys
 cells:∀p∈H2,∃str cs,p.2=.cells str cs/\∀c∈cs,PP c\/∃j,c=.sym j/\j<V2.length
 qz:∀j vi,V2.get j=some vi->vi.qz=true
def HFnI (P:Program) (G:Cx) (f:Nat) (args:List AV) (V:Vecs) (v:AV) (V2:Vecs):Prop:=
 (∀j p,V.get j=some p->∃n o h,p=.vec n o/\V2.get j=some (.vec n h)/\h.length=o.length) ∧
 ∀(E:Env) (w:World) (β:Nat->Option Nat) (b:Array Value),SR G 0 E w { tmps:=#[],defers:=[] } β ⟨[],[],V,0,V.length⟩->VRs E w args b.toList->(∀x∈args,CP V.length 0 x) →
  Calls P f b w λ e i=>∃l d,e=.returned l/\VR d i v l/\d.σ=E.σ/\SR G 0 d i { tmps:=#[],defers:=[] } β ⟨[],[],V2,0,V.length⟩/\Kp E.Z (BS E β [] V) w d.Z (BS d β [] V2) i
def HOK (P:Program) (G:Cx) (e:HEnt):Prop:=Enters P e.f/\∀args H V v H2 V2,e.pre args H V->e.val args H V=some (v,H2,V2)->HOut v H H2 V2/\match inpl e.grow with
 | true=>H=[]/\H2=[]/\PP v/\HFnI P G e.f args V v V2
 | false=>HFn P G e.f args H V v H2 V2
section
variable {P:Program} {G:Cx} {nt:Nat} {E:Env} {w:World} {a:Act} {β:Nat->Option Nat} {st:Sta}
 {Z0 B0:Nat->Prop} {w0:World} {dl:List Deferred} {tb:TblS}
theorem zRZ {H:Heap} {fr:Fr} (hr:HR E H w) (O:FrR E w fr a nt) (N:GR G E w) {o:Oper} {n:XO} (hc:zB1 P o.op=some n) {f:Nat} {args:List AV} (aa:Enters P f)
  (S:(∃xs,n=.call f xs/\evs G fr xs=some args)\/∃I xs first d vs,n=.qL I xs/\I.ev G fr=some (.func (.func f) first d)/\evs G fr xs=some vs/\args=first++vs++d):
  ∃cargs:Array Value,VRs E w args cargs.toList/\(execOp a.eval o).run P w=.ok (.enter f cargs) w:=by
 have M:∀call:Sy.Call,xoS G call fr H 0 n=call f args H 0:=by
  intro call;rcases S with ⟨xs,rfl,h⟩ | ⟨I,xs,first,d,vs,rfl,u,q,rfl⟩
  ·simp only [xoS,h]
  ·simp only [xoS,u,q,applyf]
 have no:(∀b:Bool,Done P E H w 0 (execOp a.eval o) (.bool b) H 0)->False:=by
  intro D;obtain ⟨cv,E1,w1,_,_,v1,Q⟩:=D true;obtain ⟨af,E2,w2,_,_,v2,F⟩:=D false;cases v1;cases v2;rcases Q with Q | ⟨Q,W⟩
  ·rcases F with F | ⟨F,l⟩
   ·rw [Q] at F;cases F
   ·rw [Q] at F;cases F
  ·cases W
 have cb:∀b,xoS G (λ _ _ H nx=>some (.bool b,H,nx)) fr H 0 n=some (.bool b,H,0):=λ b=>M _
 have p:Fresh E 0 0:=λ h u q=>by omega
 by_cases K:∃c,o.op=.call c
 rotate_left
 ·exact (no λ b=>zQ4 hr O N (λ c h=>K ⟨c,h⟩) hc p (cb b)).elim
 obtain ⟨⟨callee,B,ts⟩,R⟩:=K;rw [R] at hc;have y:∀{x:Operand} {ax:XV} {j:List XV} {first d vs:List AV},callee=.value x->copd x=some ax->copds B.toList=some j->ax.ev G fr=some (.func (.func f) first d)->evs G fr j=some vs->args=first++vs++d →
   ∃cargs:Array Value,VRs E w args cargs.toList/\(execOp a.eval o).run P w=.ok (.enter f cargs) w:=by
  intro x ax j first d vs W l e3 e4 e5 e6;subst W;subst e6;have J:=zH O N l e4;generalize T:a.eval x=cx at J;cases J with
  | func _ _ _ vf vc ab ad rf rc=>
   have z:=zD1 O N e3 e5;have u:VRs E w first vf.toList:=⟨by simpa using ab,λ i x v M J=>rf i x v M (by simpa using J)⟩
   have q:VRs E w d vc.toList:=⟨by simpa using ad,λ i x v M J=>rc i x v M (by simpa using J)⟩
   refine ⟨vf++B.map a.eval++vc,by simpa using (u.append z).append q,?_⟩
   simp only [execOp,R,resolve,Sem.run_bind,T,Deferred.ofValue,Sem.run_pure,Result.andThen_ok,invoke];exact zIT aa
 have gen:∀{x:Operand},callee=.value x->(∃ax,copd x=some ax/\∃j,copds B.toList=some j/\n=.qL ax j)->∃cargs:Array Value,VRs E w args cargs.toList/\(execOp a.eval o).run P w=.ok (.enter f cargs) w:=by
  rintro x ec ⟨ax,A,j,has,e⟩
  rcases S with ⟨xs,l,h⟩ | ⟨I,xs,first,d,vs,l,u,q,U⟩
  ·rw [e] at l;cases l
  ·rw [e] at l;cases l;exact y ec A has u q U
 cases callee with
 | builtin b=>exact (no λ Y=>zLt hr O N R hc p (cb Y)).elim
 | value x=>
  cases x with
  | func f'=>
   simp only [zB1] at hc;split at hc
   ·rename_i fn X;split at hc
    ·obtain ⟨j,has,hc⟩:=za hc;cases hc;rcases S with ⟨xs,l,h⟩ | ⟨I,xs,first,d,vs,l,u,q,U⟩
     ·cases l;exact y (x:=.func f) (ax:=.c (.func (.func f) [] [])) rfl rfl has rfl h (by simp)
     ·cases l
    ·rename_i ac;obtain ⟨j,has,hc⟩:=za hc;exact (no λ Y=>zPK hr O N R X ac has hc (cb Y)).elim
   ·cases hc
  | tmp t=>
   obtain ⟨j,has,hc⟩:=za hc;cases hc;exact gen rfl ⟨_,rfl,j,has,rfl⟩
  | const ag=>
   obtain ⟨ax,A,hc⟩:=za hc;obtain ⟨j,has,hc⟩:=za hc;cases hc;exact gen rfl ⟨ax,A,j,has,rfl⟩
  | global g=>
   obtain ⟨j,has,hc⟩:=za hc;cases hc;exact gen rfl ⟨_,rfl,j,has,rfl⟩
 | invoke r m=>
  obtain ⟨ar,ae,hc⟩:=za hc;obtain ⟨j,has,hc⟩:=za hc;cases hc;rcases S with ⟨xs,l,h⟩ | ⟨I,xs,first,d,vs,l,u,q,U⟩
  ·cases l
  ·cases l
theorem zLL {h:Nat}:∀{l:List Nat} {i:Nat},posN h i l=none->h ∉ l
 | [],i,e=>by simp
 | a::r,i,e=>by
  simp only [posN] at e;split at e
  ·cases e
  ·rename_i b;have:=zLL e;simp only [QH,not_or];exact ⟨zA3 b,this⟩
theorem zDj {q:List Nat} {mv:Nat} {V:Vecs}:∀{V2:Vecs} {j:Nat} {vi:VI},(zJC q mv V2 V).get j=some vi->(∃b,j=mv+b/\V2.get b=some vi)\/(j ∉ q/\V.get j=some vi)
 | [],j,vi,h=>by
  refine .inr ?_
  simp only [zJC] at h
  induction V with
  | nil=>cases h
  | cons p r i=>
   obtain ⟨k,o⟩:=p;rw [List.filter_cons] at h;split at h
   ·rename_i d;rw [Vecs.qg] at h ⊢;split at h
    ·rename_i e;cases h;subst e;simp only [Bool.not_eq_true'] at d;exact ⟨zMk d,by simp⟩
    ·rename_i e;rw [if_neg e];exact i h
   ·rename_i d;obtain ⟨f,n⟩:=i h;refine ⟨f,?_⟩
    rw [Vecs.qg,if_neg ?_]
    ·exact n
    ·rintro rfl
     have:inN k q=true:=by simpa using d
     have mem:∀{l:List Nat},inN k l=true->k∈l:=by
      intro l
      induction l with
      | nil=>intro h;cases h
      | cons a r i=>
       intro h;simp only [inN] at h;split at h
       ·rename_i e;rw [zb e];exact .head _
       ·exact .tail _ (i h)
     exact f (mem this)
 | (k,o)::r,j,vi,h=>by
  simp only [zJC] at h;rw [Vecs.qg] at h;split at h
  ·rename_i e;cases h;exact .inl ⟨k,e.symm,by rw [Vecs.qg];simp⟩
  ·rename_i e;rcases zDj h with ⟨b,f,n⟩ | h
   ·refine .inl ⟨b,f,?_⟩
    rw [Vecs.qg,if_neg (by omega)]
    exact n
   ·exact .inr h
theorem zNQ {hm:List Nat} {mv:Nat} {H2 H:Heap}:(zGQ hm mv H2 H).keys=H.keys:=by
 unfold zGQ Heap.keys;rw [List.map_map];apply List.map_congr_left;intro p b;simp only [Function.comp];split
 ·split <;> rfl
 ·rfl
theorem zGu {hm:List Nat} {mv:Nat} {H2 H:Heap} (x:H2.length=hm.length) (A:H2.keys=List.range' 0 hm.length) (l:∀p∈H2,∃str cs,p.2=HO.cells str cs) {p:Nat×HO} (y:p∈zGQ hm mv H2 H):
  (p∈H/\p.1 ∉ hm)\/∃(i:Nat) (str:Bool) (cs:List AV) (o:HO),hm[i]? = some p.1/\(i,HO.cells str cs)∈H2/\p.2=.cells str (cs.map (w9 mv))/\(p.1,o)∈H:=by
 unfold zGQ at y;obtain ⟨q,v,e⟩:=Qf.1 y;split at e
 ·rename_i i B;obtain ⟨j,I,n⟩:=zEp B;have F:i=j:=by omega
  subst F;have f:i<H2.length:=by have:=(QD.1 n).1;omega
  have u:=QE f;have d:=Qn f;obtain ⟨str,cs,z⟩:=l _ d;have h:H2[i].1=i:=by
   have:H2.keys[i]? = some H2[i].1:=by simp [Heap.keys,u]
   rw [A,List.getElem?_range' (by omega)] at this
   simpa using this.symm
  have b:H2[i]=(i,HO.cells str cs):=Prod.ext h z;rw [u,b] at e;simp only at e;subst e;exact .inr ⟨i,str,cs,q.2,n,b▸d,rfl,v⟩
 ·rename_i D;subst e;exact .inl ⟨v,zLL D⟩
theorem zOK {V:Vecs}:∀{l:List Nat} {i:Nat} {b:Vecs},rnVs V i l=some b->∀(k s:Nat),l[k]? = some s->∃vi,b.get (i+k)=some vi/\V.get s=some vi
 | [],i,b,e,k,s,h=>by simp at h
 | p::r,i,b,e,k,s,h=>by
  have key:∀{V2:Vecs} {vi:VI},V.get p=some vi->rnVs V (i+1) r=some V2->b=(i,vi)::V2->∃vi,b.get (i+k)=some vi/\V.get s=some vi:=by
   intro V2 vi d f e;subst e;cases k with
   | zero=>
    simp at h;subst h;exact ⟨vi,by rw [Vecs.qg];simp,d⟩
   | succ k=>
    obtain ⟨j,o,n⟩:=zOK f k s (by simpa using h)
    refine ⟨j,?_,n⟩
    rw [Vecs.qg,if_neg (by omega)]
    rw [←o];congr 1;omega
  simp only [rnVs] at e;split at e
  ·rename_i u q d;split at e
   ·rename_i V2 f;cases e;exact key d f rfl
   ·cases e
  ·rename_i q d;split at e
   ·rename_i V2 f;cases e;exact key d f rfl
   ·cases e
  ·cases e
theorem SR.back (hG:GPP G) (s:SR G nt E w a β st) {hm M:List Nat} {H H2:Heap} {V V2:Vecs} (cv:CanV hm M st H V) {v:AV} {ag:Value} (o:HOut v H H2 V2) {E':Env} {β':Nat->Option Nat} {w':World} (hv:VR E' w' v ag) (hρ:∀p∈H2,E'.ρ p.1=(zAa E hm M).ρ p.1)
  (s':SR G 0 E' w' { tmps:=#[],defers:=[] } β' ⟨[],H2,V2,H2.length,V2.length⟩) (N:Kp (zAa E hm M).Z (BS (zAa E hm M) (λ i=>β (M.getD i 0)) H V) w E'.Z (BS E' β' H2 V2) w') {d:Option Nat} (hd:∀n,d=some n->n<nt):
  ∃E2 β2,SR G nt E2 w' (a.put d ag) β2 ⟨qv st.fr d (w9 st.mv v),zGQ hm st.mv H2 st.H,zJC M st.mv V2 st.V,st.m,st.mv+V2.length⟩/\Kp E.Z (BS E β st.H st.V) w E2.Z (BS E2 β2 (zGQ hm st.mv H2 st.H) (zJC M st.mv V2 st.V)) w':=by
 obtain ⟨g1,g2,g3⟩:=zHs cv.rh;obtain ⟨v1,v2⟩:=zHU cv.rv;have aw:∀{j h':Nat},hm[j]? = some h'->(zAa E hm M).ρ j=E.ρ h':=λ{j h'} e=>by
  show E.ρ (hm.getD j 0)=E.ρ h'
  rw [List.getD_eq_getElem?_getD,e];rfl
 have B:H2.keys=List.range' 0 hm.length:=o.keys.trans g2;have R:H2.length=hm.length:=by
  have:=congrArg List.length B
  simpa [Heap.keys] using this
 have ac:∀p∈H2,∃str cs,p.2=HO.cells str cs:=λ p y=>let ⟨str,cs,e,_⟩:=o.cells p y;⟨str,cs,e⟩
 have hB:∀{x},BS (zAa E hm M) (λ i=>β (M.getD i 0)) H V x->(∃q∈st.H,q.1∈hm/\E.ρ q.1=x)\/∃X l,X∈M/\st.V.get X=some l/\l.qz=true/\β X=some x:=by
  rintro x (⟨p,y,e⟩ | ⟨j,l,O,ho,z⟩)
  ·obtain ⟨j,h',str,cs,aq,e1,rfl,e3,e4⟩:=g3 p y;simp only [QV] at e;rw [aw e1] at e;exact .inl ⟨_,Heap.qh e3,QF e1,e⟩
  ·obtain ⟨kk,X,rfl,q2,q3,q4⟩:=v2 j l O;simp only [QV] at z;have az:M.getD kk 0=X:=by rw [List.getD_eq_getElem?_getD,q2];rfl
   rw [az] at z;exact .inr ⟨X,l,QF q2,q3,ho,z⟩
 have aa:∀{x},BS (zAa E hm M) (λ i=>β (M.getD i 0)) H V x->BS E β st.H st.V x:=λ F=>by
  rcases hB F with ⟨q,hq,_,e⟩ | ⟨X,l,_,f,S,W⟩
  ·exact .inl ⟨q,hq,e⟩
  ·exact .inr ⟨X,l,f,S,W⟩
 have al:∀p∈st.H,p.1 ∉ hm->¬BS (zAa E hm M) (λ i=>β (M.getD i 0)) H V (E.ρ p.1):=λ p y Q F=>by
  rcases hB F with ⟨q,hq,a6,e⟩ | ⟨X,l,_,f,S,W⟩
  ·exact Q (s.hr.inj p y q hq e.symm▸a6)
  ·exact (s.bz X l _ f S W).2 p y rfl
 have ad:∀j l b,st.V.get j=some l->l.qz=true->β j=some b->j ∉ M->¬BS (zAa E hm M) (λ i=>β (M.getD i 0)) H V b:=λ j l b f S W Q F=>by
  rcases hB F with ⟨q,hq,_,e⟩ | ⟨X,ah,ar,I,A,k3⟩
  ·exact (s.bz j l b f S W).2 q hq e
  ·exact Q (s.qT j X l ah b f I S A W k3▸ar)
 have ba:∀b,E.Z b->¬BS (zAa E hm M) (λ i=>β (M.getD i 0)) H V b:=λ b hz F=>by
  rcases hB F with ⟨q,hq,_,e⟩ | ⟨X,ah,ar,I,A,k3⟩
  ·exact s.hr.nz q hq (e▸hz)
  ·exact (s.bz X ah b I A k3).1 hz
 have hZ:∀b,E.Z b->E'.Z b/\w'.heap[b]? = w.heap[b]?:=λ b z=>⟨N.qG b z,N.wa b (s.hr.wg b z) (ba b z)⟩
 have Y:∀j l b,st.V.get j=some l->l.qz=true->β j=some b->b<w.heap.size:=λ j l b f S W=>(s.qU j l f).2.lt S W
 let E2:Env:=⟨E.ρ,E.D,E'.Z,λ i=>if i<st.mv then E.σ i else E'.σ (i-st.mv)⟩
 let β2:Nat->Option Nat:=λ i=>if i<st.mv then β i else β' (i-st.mv)
 have σn:∀j,E2.σ (st.mv+j)=E'.σ j:=λ j=>by
  show (if st.mv+j<st.mv then E.σ (st.mv+j) else E'.σ (st.mv+j-st.mv))=E'.σ j
  rw [if_neg (by omega),Nat.add_sub_cancel_left]
 have βn:∀j,β2 (st.mv+j)=β' j:=λ j=>by
  show (if st.mv+j<st.mv then β (st.mv+j) else β' (st.mv+j-st.mv))=β' j
  rw [if_neg (by omega),Nat.add_sub_cancel_left]
 have σo:∀j,j<st.mv->E2.σ j=E.σ j:=λ j O=>if_pos O
 have βo:∀j,j<st.mv->β2 j=β j:=λ j O=>if_pos O
 have mo:∀{x:AV} {cx:Value},CP st.mv st.m x->VR E w x cx->VR E2 w' x cx:=λ hc F=>
  VR.vd (E:=E) (E':=E2) (w:=w) (w':=w') (λ h _ hh=>⟨hh,rfl⟩) hZ N.qn σo F hc
 have mn:∀{x:AV} {cx:Value},PP x->VR E' w' x cx->VR E2 w' x cx:=λ y F=>VR.pp (E:=E') (E':=E2) (w:=w') (w':=w') (λ b z=>⟨z,rfl⟩) F y
 have af:VR E2 w' (w9 st.mv v) ag/\CP (st.mv+V2.length) st.m (w9 st.mv v):=by
  rcases o.pp with y | ⟨j,rfl,O⟩
  ·have:w9 st.mv v=v:=by cases y <;> rfl
   rw [this];exact ⟨mn y hv,y.cp⟩
  ·refine ⟨?_,.sym _ (Nat.add_lt_add_left O _)⟩
   cases hv with
   | sym _ _ he f=>exact .sym _ _ (he.trans (σn j).symm) f
 have J:∀{p:Nat×HO},p∈zGQ hm st.mv H2 st.H->∃o,(p.1,o)∈st.H:=λ{p} y=>by
  rcases zGu R B ac y with ⟨h,_⟩ | ⟨_,_,_,o,_,_,_,h⟩
  ·exact ⟨p.2,h⟩
  ·exact ⟨o,h⟩
 have ak:∀{i:Nat} {h:Nat} {oo:HO},hm[i]? = some h->(i,oo)∈H2->E'.ρ i=E.ρ h:=λ f S=>(hρ _ S).trans (aw f)
 have ae:∀{x},BS E' β' H2 V2 x->∀p∈st.H,p.1 ∉ hm->E.ρ p.1≠x:=λ{x} F p y Q e=>by
  rcases N.own x F with h | h
  ·exact al p y Q (e▸h)
  ·have:=s.hr.lt y;omega
 refine ⟨E2,β2,⟨⟨?_,λ p y=>?_,λ p y q hq e=>?_,λ p y=>?_,λ p y=>?_,s'.hr.wg⟩,?_,λ g u hg=>⟨VR.pp (E:=E) (E':=E2) (w:=w) (w':=w') hZ (s.hg g u hg).1 (hG g u hg),(s.hg g u hg).2.mono N.qn⟩,s.qC,?_,λ p y=>?_,λ j l O=>?_,λ j j2 i off O=>?_,λ j l b O ho z=>?_,λ j K l U b f S W h4 h5 h6=>?_⟩,?_⟩
 ·show (zGQ hm st.mv H2 st.H).keys.Nodup
  rw [zNQ];exact s.hr.nodup
 ·obtain ⟨o,h⟩:=J y;exact s.hr.qC (p.1,o) h
 ·obtain ⟨o1,f⟩:=J y;obtain ⟨o2,S⟩:=J hq;exact s.hr.inj (p.1,o1) f (q.1,o2) S e
 ·rcases zGu R B ac y with ⟨h,Q⟩ | ⟨i,str,cs,o2,I,A,k3,k4⟩
  ·obtain ⟨str,cs,e,aj⟩:=s.cH p h;have:=s.hr.obj p h;rw [e] at this ⊢;exact OR.vd (N.wa _ (s.hr.lt h) (al p h Q)) (λ hc hv=>mo hc hv) aj this
  ·have ai:=s'.hr.obj _ A;rw [k3];simp only at ai;rw [ak I A] at ai;obtain ⟨cc,ee,ff,q1,q2,q3,q4⟩:=ai;refine ⟨cc,ee,ff,q1,by simpa using q2,q3,λ i2 x F=>?_⟩
   rw [Qj] at F;cases hc2:cs[i2]? with
   | none=>rw [hc2] at F;cases F
   | some c=>
    rw [hc2] at F;cases F;obtain ⟨u,r1,r2,r3⟩:=q4 i2 c hc2;refine ⟨u,r1,r2,?_⟩
    obtain ⟨au,aq,ec,ao⟩:=o.cells _ A;cases ec;rcases ao c (QF hc2) with ab | ⟨j,rfl,O⟩
    ·have:w9 st.mv c=c:=by cases ab <;> rfl
     rw [this];exact mn ab r3
    ·cases r3 with
     | sym _ _ he f=>exact .sym _ _ (he.trans (σn j).symm) f
 ·rcases zGu R B ac y with ⟨h,Q⟩ | ⟨i,str,cs,o2,I,A,k3,k4⟩
  ·intro hz;rcases N.qN _ hz with f | f | f
   ·exact s.hr.nz p h f
   ·exact al p h Q f
   ·have:=s.hr.lt h;have f:w.heap.size<=E.ρ p.1:=f;omega
  ·have:=s'.hr.nz _ A;simp only at this;rw [ak I A] at this;exact this
 ·exact s.hf.ue s.qZ (λ hc hv=>mo hc hv) hd af.1
 ·exact (s.qZ.mono (Qy _ _) (QB _)).qv af.2
 ·rcases zGu R B ac y with ⟨h,Q⟩ | ⟨i,str,cs,o2,I,A,k3,k4⟩
  ·obtain ⟨str,cs,e,aj⟩:=s.cH p h;exact ⟨str,cs,e,λ c hc=>(aj c hc).mono (Qy _ _) (QB _)⟩
  ·refine ⟨str,_,k3,λ c hc=>?_⟩
   obtain ⟨c0,a7,rfl⟩:=Qf.1 hc;obtain ⟨au,aq,ec,ao⟩:=o.cells _ A;cases ec;rcases ao c0 a7 with ab | ⟨j,rfl,O⟩
   ·have:w9 st.mv c0=c0:=by cases ab <;> rfl
    rw [this];exact ab.cp
   ·exact .sym _ (Nat.add_lt_add_left O _)
 ·rcases zDj O with ⟨K,rfl,f⟩ | ⟨Q,f⟩
  ·obtain ⟨I,A⟩:=s'.qU K l f;refine ⟨Nat.add_lt_add_left I _,?_⟩
   cases l with
   | vec sz es=>
    obtain ⟨y,⟨e1,e2,e3⟩ | ⟨b,str,cs,cp,ex,e1,e2,e3,e4,e5,e6⟩⟩:=A
    ·exact ⟨y,.inl ⟨(βn K).trans e1,(σn K).trans e2,e3⟩⟩
    ·exact ⟨y,.inr ⟨b,str,cs,cp,ex,(βn K).trans e1,OR.pp (E:=E') (E':=E2) (w:=w') (w':=w') rfl (λ b z=>⟨z,rfl⟩) e4 e2,by rw [σn];exact e3,e4,e5,e6⟩⟩
   | mp es=>
    obtain ⟨y,b,e1,e2,e3⟩:=A;exact ⟨y,b,(βn K).trans e1,OR.pm (E:=E') (E':=E2) (w:=w') (w':=w') rfl (λ b z=>⟨z,rfl⟩) y e2,(σn K).trans e3⟩
   | qS j2 i off=>
    have:=o.qz _ _ f;cases this
  ·obtain ⟨I,A⟩:=s.qU j l f;refine ⟨Nat.lt_add_right _ I,A.mono (σo j I) (λ _=>βo j I) (λ b ho z=>N.wa b (Y j l b f ho z) (ad j l b f ho z Q)) hZ N.qn λ j2 i off e sz es a8=>?_⟩
   subst e;have T:=s.vp j j2 i off f;rcases zDj a8 with ⟨K,e1,_⟩ | ⟨_,S⟩
   ·omega
   ·exact ⟨βo j2 T,es,S,rfl⟩
 ·rcases zDj O with ⟨K,rfl,f⟩ | ⟨Q,f⟩
  ·have:=o.qz _ _ f;cases this
  ·exact Nat.lt_add_right _ (s.vp j j2 i off f)
 ·rcases zDj O with ⟨K,rfl,f⟩ | ⟨Q,f⟩
  ·rw [βn] at z;obtain ⟨z1,z2⟩:=s'.bz K l b f ho z;refine ⟨z1,λ p y e=>?_⟩
   rcases zGu R B ac y with ⟨h,Q⟩ | ⟨i,str,cs,o2,I,A,k3,k4⟩
   ·exact ae (.inr ⟨K,l,f,ho,z⟩) p h Q e
   ·exact z2 _ A ((ak I A).trans e)
  ·have T:=(s.qU j l f).1;rw [βo j T] at z;obtain ⟨z1,z2⟩:=s.bz j l b f ho z;refine ⟨λ hz=>?_,λ p y e=>?_⟩
   ·rcases N.qN _ hz with k | k | k
    ·exact z1 k
    ·exact ad j l b f ho z Q k
    ·have:=Y j l b f ho z;omega
   ·obtain ⟨oo,h⟩:=J y;exact z2 _ h e
 ·rcases zDj f with ⟨i1,rfl,I⟩ | ⟨a1,I⟩
  ·rcases zDj S with ⟨i2,rfl,A⟩ | ⟨ax,A⟩
   ·rw [βn] at h5 h6;rw [s'.qT i1 i2 l U b I A W h4 h5 h6]
   ·have T:=(s.qU K U A).1;rw [βn] at h5;rw [βo K T] at h6;rcases N.own b (.inr ⟨i1,l,I,W,h5⟩) with k | k
    ·exact (ad K U b A h4 h6 ax k).elim
    ·have:=Y K U b A h4 h6;omega
  ·have T:=(s.qU j l I).1;rw [βo j T] at h5;rcases zDj S with ⟨i2,rfl,A⟩ | ⟨ax,A⟩
   ·rw [βn] at h6;rcases N.own b (.inr ⟨i2,U,A,h4,h6⟩) with k | k
    ·exact (ad j l b I W h5 a1 k).elim
    ·have:=Y j l b I W h5;omega
   ·have ay:=(s.qU K U A).1;rw [βo K ay] at h6;exact s.qT j K l U b I A W h4 h5 h6
 ·refine ⟨N.qG,λ x F=>?_,λ x F=>?_,N.tape,N.os,N.output,N.size,λ x F z=>N.wa x F λ h=>z (aa h),N.qn⟩
  ·rcases N.qN x F with h | h | h
   ·exact .inl h
   ·exact .inr (.inl (aa h))
   ·exact .inr (.inr h)
  ·rcases F with ⟨p,y,e⟩ | ⟨j,l,O,ho,z⟩
   ·obtain ⟨oo,h⟩:=J y;exact .inl (.inl ⟨_,h,e⟩)
   ·rcases zDj O with ⟨K,rfl,f⟩ | ⟨Q,f⟩
    ·rw [βn] at z;rcases N.own x (.inr ⟨K,l,f,ho,z⟩) with k | k
     ·exact .inl (aa k)
     ·exact .inr k
    ·rw [βo j (s.qU j l f).1] at z;exact .inl (.inr ⟨j,l,f,ho,z⟩)
theorem Vecs.get_map {g:Nat->VI->VI}:∀{V:Vecs} {j:Nat},Vecs.get (V.map λ p=>(p.1,g p.1 p.2)) j=(Vecs.get V j).map (g j)
 | [],j=>rfl
 | (k,o)::r,j=>by
  rw [Qd,Vecs.qg,Vecs.qg];split
  ·rename_i e;subst e;rfl
  ·exact Vecs.get_map
def zPm (d:List Nat) (V2:Vecs) (k:Nat) (o:VI):VI:=match posN k 0 d with
 | some i=>match V2.get i with
  | some b=>b
  | none=>o
 | none=>o
theorem zOL {d:List Nat} {V2 V:Vecs} {j:Nat} {vi:VI} (h:(zIs d V2 V).get j=some vi):∃b,V.get j=some b/\((∃i,posN j 0 d=some i/\V2.get i=some vi)\/(vi=b/\∀i,posN j 0 d=some i->V2.get i=none)):=by
 have e:zIs d V2 V=V.map λ p=>(p.1,zPm d V2 p.1 p.2):=by
  unfold zIs;apply List.map_congr_left
  rintro ⟨k,o⟩ _
  unfold zPm;dsimp only;cases posN k 0 d with
  | none=>rfl
  | some i=>dsimp only;cases V2.get i <;> rfl
 rw [e,Vecs.get_map (g:=zPm d V2)] at h;unfold zPm at h;cases hv:V.get j with
 | none=>rw [hv] at h;cases h
 | some b=>
  rw [hv] at h;simp only [Option.map_some,QJ] at h;refine ⟨b,rfl,?_⟩
  cases hp:posN j 0 d with
  | none=>rw [hp] at h;exact .inr ⟨h.symm,λ i f=>by cases f⟩
  | some i=>
   rw [hp] at h;simp only at h;cases hq:V2.get i with
   | none=>rw [hq] at h;exact .inr ⟨h.symm,λ l f=>by cases f;exact hq⟩
   | some x=>rw [hq] at h;simp only at h;subst h;exact .inl ⟨i,rfl,hq⟩
theorem SR.uy (hG:GPP G) (s:SR G nt E w a β st) {f:List Nat} {V V2:Vecs} (cv:CanV [] f st [] V) {v:AV} {aa:Value} (z:PP v)
  (hl:∀j vi,V.get j=some vi->∃sz es q,vi=.vec sz es/\V2.get j=some (.vec sz q)/\q.length=es.length) {E':Env} {w':World} (hv:VR E' w' v aa) (hσ:E'.σ=(zAa E [] f).σ)
  (s':SR G 0 E' w' { tmps:=#[],defers:=[] } (λ i=>β (f.getD i 0)) ⟨[],[],V2,0,V.length⟩) (I:Kp (zAa E [] f).Z (BS (zAa E [] f) (λ i=>β (f.getD i 0)) [] V) w E'.Z (BS E' (λ i=>β (f.getD i 0)) [] V2) w') {d:Option Nat} (hd:∀n,d=some n->n<nt):
  ∃K β2,SR G nt K w' (a.put d aa) β2 ⟨qv st.fr d v,st.H,zIs f V2 st.V,st.m,st.mv⟩/\Kp E.Z (BS E β st.H st.V) w K.Z (BS K β2 st.H (zIs f V2 st.V)) w':=by
 obtain ⟨v1,v2⟩:=zHU cv.rv;have v3:=zOK cv.rv;have af:∀{i j:Nat},posN j 0 f=some i->f.getD i 0=j/\j∈f:=λ{i j} h=>by
  obtain ⟨k,e1,X⟩:=zEp h;have:i=k:=by omega
  subst this;exact ⟨by rw [List.getD_eq_getElem?_getD,X];rfl,QF X⟩
 have hB:∀{x},BS (zAa E [] f) (λ i=>β (f.getD i 0)) [] V x->∃J vi,J∈f/\st.V.get J=some vi/\vi.qz=true/\β J=some x:=by
  rintro x (⟨p,z,e⟩ | ⟨j,vi,S,Q,y⟩)
  ·cases z
  ·obtain ⟨kk,J,rfl,q2,q3,q4⟩:=v2 j vi S;simp only [QV] at y;have ah:f.getD kk 0=J:=by rw [List.getD_eq_getElem?_getD,q2];rfl
   rw [ah] at y;exact ⟨J,vi,QF q2,q3,Q,y⟩
 have Y:∀{x},BS (zAa E [] f) (λ i=>β (f.getD i 0)) [] V x->BS E β st.H st.V x:=λ F=>by
  obtain ⟨J,vi,_,l,B,U⟩:=hB F;exact .inr ⟨J,vi,l,B,U⟩
 have ag:∀p∈st.H,¬BS (zAa E [] f) (λ i=>β (f.getD i 0)) [] V (E.ρ p.1):=λ p z F=>by
  obtain ⟨J,vi,_,l,B,U⟩:=hB F;exact (s.bz J vi _ l B U).2 p z rfl
 have ae:∀j vi b,st.V.get j=some vi->vi.qz=true->β j=some b->j ∉ f->¬BS (zAa E [] f) (λ i=>β (f.getD i 0)) [] V b:=λ j vi b l B U hn F=>by
  obtain ⟨J,o,ab,T,R,k3⟩:=hB F;exact hn (s.qT j J vi o b l T B R U k3▸ab)
 have aq:∀b,E.Z b->¬BS (zAa E [] f) (λ i=>β (f.getD i 0)) [] V b:=λ b hz F=>by
  obtain ⟨J,o,ab,T,R,k3⟩:=hB F;exact (s.bz J o b T R k3).1 hz
 have hZ:∀b,E.Z b->E'.Z b/\w'.heap[b]? = w.heap[b]?:=λ b y=>⟨I.qG b y,I.wa b (s.hr.wg b y) (aq b y)⟩
 have W:∀j vi b,st.V.get j=some vi->vi.qz=true->β j=some b->b<w.heap.size:=λ j vi b l B U=>(s.qU j vi l).2.lt B U
 let K:Env:=⟨E.ρ,E.D,E'.Z,E.σ⟩
 have σn:∀{i j},posN j 0 f=some i->E'.σ i=E.σ j:=λ{i j} h=>by
  rw [hσ];show E.σ (f.getD i 0)=E.σ j
  rw [(af h).1]
 have βn:∀{i j},posN j 0 f=some i->(λ i=>β (f.getD i 0)) i=β j:=λ{i j} h=>by
  show β (f.getD i 0)=β j
  rw [(af h).1]
 have mo:∀{x:AV} {cx:Value},CP st.mv st.m x->VR E w x cx->VR K w' x cx:=λ hc F=>
  VR.vd (E:=E) (E':=K) (w:=w) (w':=w') (λ h _ hh=>⟨hh,rfl⟩) hZ I.qn (λ _ _=>rfl) F hc
 have mn:∀{x:AV} {cx:Value},PP x->VR E' w' x cx->VR K w' x cx:=λ z F=>VR.pp (E:=E') (E':=K) (w:=w') (w':=w') (λ b y=>⟨y,rfl⟩) F z
 have ac:∀{i j},posN j 0 f=some i->∃vi,V.get i=some vi/\st.V.get j=some vi:=λ{i j} h=>by
  obtain ⟨k,e1,X⟩:=zEp h;have:i=k:=by omega
  subst this;obtain ⟨vi,a1,a2⟩:=v3 i j X;exact ⟨vi,by simpa using a1,a2⟩
 have N:∀{j vi},(zIs f V2 st.V).get j=some vi->(∃i sz es q,posN j 0 f=some i/\V2.get i=some vi/\vi=.vec sz q/\st.V.get j=some (.vec sz es)/\q.length=es.length)\/(st.V.get j=some vi/\j ∉ f):=λ{j vi} h=>by
  obtain ⟨o,h0,⟨i,l,B⟩ | ⟨rfl,B⟩⟩:=zOL h
  ·obtain ⟨O,T,R⟩:=ac l;obtain ⟨sz,es,q,q1,q2,q3⟩:=hl i O T;subst q1;rw [q2] at B;cases B;exact .inl ⟨i,sz,es,q,l,q2,rfl,R,q3⟩
  ·refine .inr ⟨h0,?_⟩
   cases z:posN j 0 f with
   | none=>exact zLL z
   | some i=>
    obtain ⟨O,T,R⟩:=ac z;obtain ⟨sz,es,q,q1,q2,q3⟩:=hl i O T;rw [B i z] at q2;cases q2
 have A:∀{j vi},(zIs f V2 st.V).get j=some vi->∃o,st.V.get j=some o/\o.qz=vi.qz:=λ{j vi} h=>by
  rcases N h with ⟨i,sz,es,q,_,_,rfl,k,_⟩ | ⟨k,_⟩
  ·exact ⟨_,k,rfl⟩
  ·exact ⟨_,k,rfl⟩
 refine ⟨K,β,⟨⟨s.hr.nodup,s.hr.qC,s.hr.inj,λ p z=>?_,λ p z hz=>?_,s'.hr.wg⟩,?_,λ g u hg=>⟨VR.pp (E:=E) (E':=K) (w:=w) (w':=w') hZ (s.hg g u hg).1 (hG g u hg),(s.hg g u hg).2.mono I.qn⟩,s.qC,?_,s.cH,λ j vi S=>?_,λ j j2 i off S=>?_,λ j vi b S Q y=>?_,λ j j' vi au b l B U h4 h5 h6=>?_⟩,?_⟩
 ·obtain ⟨str,cs,e,ak⟩:=s.cH p z;have:=s.hr.obj p z;rw [e] at this ⊢;exact OR.vd (I.wa _ (s.hr.lt z) (ag p z)) (λ hc hv=>mo hc hv) ak this
 ·rcases I.qN _ hz with l | l | l
  ·exact s.hr.nz p z l
  ·exact ag p z l
  ·have:=s.hr.lt z;have l:w.heap.size<=E.ρ p.1:=l;omega
 ·exact s.hf.ue s.qZ (λ hc hv=>mo hc hv) hd (mn z hv)
 ·exact s.qZ.qv z.cp
 ·rcases N S with ⟨i,sz,es,q,l,B,rfl,h4,h5⟩ | ⟨l,hn⟩
  ·obtain ⟨T,R⟩:=s'.qU i _ B;refine ⟨(s.qU j _ h4).1,?_⟩
   obtain ⟨ad,⟨e1,X,e3⟩ | ⟨b,str,cs,cp,ex,e1,X,e3,e4,e5,e6⟩⟩:=R
   ·exact ⟨ad,.inl ⟨(βn l).symm.trans e1,(σn l).symm.trans X,e3⟩⟩
   ·refine ⟨ad,.inr ⟨b,str,cs,cp,ex,(βn l).symm.trans e1,OR.pp (E:=E') (E':=K) (w:=w') (w':=w') rfl (λ b y=>⟨y,rfl⟩) e4 X,?_,e4,e5,e6⟩⟩
    have:K.σ j=E'.σ i:=(σn l).symm;rw [this];exact e3
  ·obtain ⟨T,R⟩:=s.qU j vi l;refine ⟨T,R.mono rfl (λ _=>rfl) (λ b Q y=>I.wa b (W j vi b l Q y) (ae j vi b l Q y hn)) hZ I.qn λ j2 i off e sz es ao=>?_⟩
   refine ⟨rfl,?_⟩
   rcases N ao with ⟨i',ar,aj,q,a1,a2,a3,a4,a5⟩ | ⟨a1,_⟩
   ·cases a3;exact ⟨aj,a4,a5.symm⟩
   ·exact ⟨es,a1,rfl⟩
 ·rcases N S with ⟨_,_,_,_,_,_,e,_⟩ | ⟨l,_⟩
  ·cases e
  ·exact s.vp j j2 i off l
 ·obtain ⟨o,h0,M⟩:=A S;obtain ⟨z1,z2⟩:=s.bz j o b h0 (M.trans Q) y;refine ⟨λ hz=>?_,z2⟩
  rcases N S with ⟨i,sz,es,q,l,B,rfl,h4,h5⟩ | ⟨l,hn⟩
  ·exact (s'.bz i _ b B rfl ((βn l).trans y)).1 hz
  ·rcases I.qN _ hz with k | k | k
   ·exact z1 k
   ·exact ae j vi b l Q y hn k
   ·have:=W j vi b l Q y;omega
 ·obtain ⟨o,h0,M⟩:=A l;obtain ⟨O,ai,al⟩:=A B;exact s.qT j j' o O b h0 ai (M.trans U) (al.trans h4) h5 h6
 ·refine ⟨I.qG,λ x F=>?_,λ x F=>?_,I.tape,I.os,I.output,I.size,λ x F y=>I.wa x F λ h=>y (Y h),I.qn⟩
  ·rcases I.qN x F with h | h | h
   ·exact .inl h
   ·exact .inr (.inl (Y h))
   ·exact .inr (.inr h)
  ·rcases F with ⟨p,z,e⟩ | ⟨j,vi,S,Q,y⟩
   ·exact .inl (.inl ⟨p,z,e⟩)
   ·obtain ⟨o,h0,M⟩:=A S;exact .inl (.inr ⟨j,o,h0,M.trans Q,y⟩)
theorem zIy {H:Heap} {h sz b:Nat} {v:AV} {es:List AV} (e:zJB H h sz v=some (b,es)):∃l c x str cs,v=.row b 0 l sz c x/\b≠h/\H.get b=some (.cells str cs)/\cs.length=l*sz/\zEe sz l cs=some es/\es.all (ppS 12)=true:=by
 unfold zJB at e;split at e
 ·split at e
  ·rename_i f;split at e
   ·rename_i i;split at e
    ·rename_i n;split at e
     ·rename_i o;split at e
      ·rename_i j;cases e;simp only [QA,Bool.not_eq_true'] at f;obtain ⟨d,a2,a3⟩:=f;have d:=zb d;have a2:=zb a2;subst d;subst a2;exact ⟨_,_,_,_,_,rfl,zA3 a3,i,zb n,o,j⟩
      ·cases e
     ·cases e
    ·cases e
   ·cases e
  ·cases e
 ·cases e
theorem Heap.qQ:∀{H:Heap} {h k:Nat},h≠k->(H.del h).get k=H.get k
 | [],_,_,_=>rfl
 | (i,o)::r,h,k,b=>by
  simp only [Heap.del];split
  ·rename_i d;have:=zb d;subst this;have:Nat.beq i k=false:=by
    cases e:Nat.beq i k with
    | false=>rfl
    | true=>exact absurd (zb e) b
   simp only [Heap.get,this]
  ·simp only [Heap.get];split
   ·rfl
   ·exact Heap.qQ b
theorem SR.vR (hG:GPP G) (s:SR G nt E w a β st) {h sz y:Nat} {v:AV} {es:List AV} {u:Value} (ht:zJB st.H h sz v=some (y,es)) (hu:VR E w v u):
  ∃β',SR G nt ⟨E.ρ,E.D,E.Z,λ i=>if i=st.mv then u else E.σ i⟩ w a β' ⟨st.fr,st.H.del y,(st.mv,.vec sz es)::st.V,st.m,st.mv+1⟩/\u.oneCell'=true/\Kp E.Z (BS E β st.H st.V) w E.Z (BS ⟨E.ρ,E.D,E.Z,λ i=>if i=st.mv then u else E.σ i⟩ β' (st.H.del y) ((st.mv,.vec sz es)::st.V)) w:=by
 obtain ⟨l,cp,ex,str,T,rfl,_,S,hl,hr,o⟩:=zIy ht;have M:=RowV.v8 hu;have hσ:∀i,i<st.mv->(if i=st.mv then u else E.σ i)=E.σ i:=λ i hi=>by
  have:i≠st.mv:=by omega
  simp [this]
 have hm:∀{v:AV} {cv:Value},CP st.mv st.m v->VR E w v cv->VR ⟨E.ρ,E.D,E.Z,λ i=>if i=st.mv then u else E.σ i⟩ w v cv:=λ hc W=>
  VR.vd (E:=E) (E':=⟨E.ρ,E.D,E.Z,λ i=>if i=st.mv then u else E.σ i⟩) (w:=w) (w':=w) (λ h _ hh=>⟨hh,rfl⟩) (λ b K=>⟨K,rfl⟩) (.refl w) hσ W hc
 have A:∀j z,st.V.get j=some z->j≠st.mv:=λ j z h=>by have:=(s.qU j z h).1;omega
 have f:=Heap.qh S;have d:∀{p:Nat×HO},p∈st.H.del y->p∈st.H/\p.1≠y:=λ o=>Heap.wV s.hr.nodup o
 obtain ⟨q1,q2,q3,q4,q5⟩:=zAm hr;obtain ⟨_,_,ec,R⟩:=s.cH _ f;cases ec;have I:∀e∈es,PP e:=by
  intro e he;obtain ⟨i,hi⟩:=List.getElem?_of_mem he;obtain ⟨_,p2⟩:=zY q5;obtain ⟨_,p4,p5⟩:=zO (p2 i e hi);refine zC3 (n:=st.mv) (k:=st.m) 12 (zCy p5 λ x hx=>R x ?_) (QG.1 o e he)
  rw [p4] at hx;exact QP (QW (QP hx))
 have F:∀c∈T,PP c:=by
  rw [List.take_of_length_le (by omega)] at q5
  exact zGT q5 I
 have N:RowV w (E.ρ y) es.length sz cp ex u:=by rw [q2];exact M
 refine ⟨λ j=>if j=st.mv then some (E.ρ y) else β j,⟨⟨(s.hr.sub (Heap.wq _ _)).nodup,λ p o=>s.hr.qC p (d o).1,λ p o q hq e=>s.hr.inj p (d o).1 q (d hq).1 e,λ p o=>?_,λ p o=>s.hr.nz p (d o).1,s.hr.wg⟩,⟨s.hf.size,λ t v hu=>hm (s.qZ t v hu) (s.hf.get t v hu)⟩,λ g v S=>⟨hm (hG g v S).cp (s.hg g v S).1,(s.hg g v S).2⟩,s.qC,s.qZ.mono (QY _) (QB _),λ p o=>?_,λ j z h=>?_,λ j Y i off h=>?_,λ j z b h ho K=>?_,λ j X z J b B y O h4 U Q=>?_⟩,M.one,?_⟩
 ·obtain ⟨str,T,e,F⟩:=s.cH p (d o).1;have:=s.hr.obj p (d o).1;rw [e] at this ⊢;exact OR.vd rfl (λ hc W=>hm hc W) F this
 ·obtain ⟨str,T,e,F⟩:=s.cH p (d o).1;exact ⟨str,T,e,λ c hc=>(F c hc).mono (QY _) (QB _)⟩
 ·rw [Vecs.qg] at h;split at h
  ·rename_i e;subst e;cases h;refine ⟨QU _,I,.inr ⟨E.ρ y,str,T,cp,ex,by simp,?_,by simpa using N,F,by rw [q2];exact q4,by rw [q2];exact q5⟩⟩
   exact OR.vd rfl (λ hc W=>hm hc W) R (s.hr.obj _ f)
  ·have B:=s.qU j z h;refine ⟨Nat.lt_succ_of_lt B.1,B.2.mono (by simp [A j z h]) (λ _=>by simp [A j z h]) (λ b _ _=>rfl) (λ b K=>⟨K,rfl⟩) (.refl w) λ Y i off e sz es I=>?_⟩
   subst e;have:=s.vp j Y i off h;rw [Vecs.qg,if_neg (by omega)] at I
   have aa:Y≠st.mv:=by omega
   exact ⟨by simp [aa],es,I,rfl⟩
 ·rw [Vecs.qg] at h;split at h
  ·cases h
  ·exact Nat.lt_succ_of_lt (s.vp j Y i off h)
 ·rw [Vecs.qg] at h;split at h
  ·rename_i e;subst e;simp only [if_true,QJ] at K;subst K;exact ⟨s.hr.nz _ f,λ p o e=>(d o).2 (s.hr.inj p (d o).1 _ f e)⟩
  ·simp only [if_neg (A j z h)] at K;obtain ⟨z1,z2⟩:=s.bz j z b h ho K;exact ⟨z1,λ p o=>z2 p (d o).1⟩
 ·rw [Vecs.qg] at B y;split at B
  ·rename_i e;subst e;split at y
   ·rename_i e;exact e
   ·simp only [if_true,QJ] at U;simp only [if_neg (A X J y)] at Q;subst U;exact absurd rfl ((s.bz X J _ y h4 Q).2 _ f)
  ·simp only [if_neg (A j z B)] at U;split at y
   ·rename_i e;subst e;simp only [if_true,QJ] at Q;subst Q;exact absurd rfl ((s.bz j z _ B O U).2 _ f)
   ·simp only [if_neg (A X J y)] at Q;exact s.qT j X z J b B y O h4 U Q
 ·refine Kp.less λ x hx=>?_
  rcases hx with ⟨p,o,e⟩ | ⟨j,z,B,y,O⟩
  ·exact .inl ⟨p,(d o).1,e⟩
  ·rw [Vecs.qg] at B;split at B
   ·rename_i e;subst e;simp only [if_true,QJ] at O;exact .inl ⟨_,f,O⟩
   ·simp only [if_neg (A j z B)] at O;exact .inr ⟨j,z,B,y,O⟩
theorem SR.uc (s:SR G nt E w a β st) {h i:Nat} {str:Bool} {cs:List AV} {v':AV} (T:st.H.get h=some (.cells str cs)) (U:∀c e f,w.heap[E.ρ h]? = some (Obj.cells c e f)->∃u,c[i]? = some u/\u.oneCell'=true/\VR E w v' u) (hc:CP st.mv st.m v'):
  SR G nt E w a β ⟨st.fr,st.H.put h (.cells str (cs.set i v')),st.V,st.m,st.mv⟩/\∀x,BS E β (st.H.put h (.cells str (cs.set i v'))) st.V x->BS E β st.H st.V x:=by
 have n:=Heap.qh T;have l:∀{p:Nat×HO},p∈st.H.put h (.cells str (cs.set i v'))->∃o,(p.1,o)∈st.H:=λ{p} d=>by
  rcases zDp d with rfl | d
  ·exact ⟨_,n⟩
  ·exact ⟨p.2,d⟩
 refine ⟨⟨⟨?_,λ p d=>?_,λ p d q N e=>?_,λ p d=>?_,λ p d=>?_,s.hr.wg⟩,s.hf,s.hg,s.qC,s.qZ,λ p d=>?_,s.qU,s.vp,λ j W b h y M=>?_,s.qT⟩,λ x v=>?_⟩
 ·show (st.H.put h _).keys.Nodup
  rw [Heap.wz];exact s.hr.nodup
 ·obtain ⟨o,y⟩:=l d;exact s.hr.qC (p.1,o) y
 ·obtain ⟨o1,A⟩:=l d;obtain ⟨R,J⟩:=l N;exact s.hr.inj (p.1,o1) A (q.1,R) J e
 ·rcases zDp d with rfl | d
  ·obtain ⟨D,I,F,q1,X,Q,S⟩:=s.hr.obj _ n;refine ⟨D,I,F,q1,by simpa using X,Q,λ i2 x v=>?_⟩
   rw [List.getElem?_set] at v;split at v
   ·rename_i e;subst e;split at v
    ·cases v;exact U D I F q1
    ·cases v
   ·exact S i2 x v
  ·exact s.hr.obj p d
 ·obtain ⟨o,y⟩:=l d;exact s.hr.nz (p.1,o) y
 ·rcases zDp d with rfl | d
  ·obtain ⟨_,_,K,B⟩:=s.cH _ n;cases K;refine ⟨str,_,rfl,λ c z=>?_⟩
   rcases List.mem_or_eq_of_mem_set z with h | rfl
   ·exact B c h
   ·exact hc
  ·exact s.cH p d
 ·obtain ⟨O,z2⟩:=s.bz j W b h y M;refine ⟨O,λ p d=>?_⟩
  obtain ⟨o,A⟩:=l d;exact z2 (p.1,o) A
 ·rcases v with ⟨p,d,e⟩ | h
  ·obtain ⟨o,y⟩:=l d;exact .inl ⟨_,y,e⟩
  ·exact .inr h
theorem SR.uk (F:GPP G) (s:SR G nt E w a β st) {h i sz b:Nat} {str:Bool} {cs:List AV} {v:AV} {es:List AV} (o:st.H.get h=some (.cells str cs)) (D:cs[i]? = some v) (n:zJB st.H h sz v=some (b,es)):
  ∃E' d,SR G nt E' w a d ⟨st.fr,(st.H.del b).put h (.cells str (cs.set i (.sym st.mv))),(st.mv,.vec sz es)::st.V,st.m,st.mv+1⟩/\Kp E.Z (BS E β st.H st.V) w E'.Z (BS E' d ((st.H.del b).put h (.cells str (cs.set i (.sym st.mv)))) ((st.mv,.vec sz es)::st.V)) w:=by
 obtain ⟨I,N,J,q1,O,K,B⟩:=s.hr.obj _ (Heap.qh o);obtain ⟨u,y,p,x⟩:=B i v D;obtain ⟨d,s1,M,q⟩:=s.vR F n x;obtain ⟨_,_,_,_,_,_,j,_⟩:=zIy n;have l:(st.H.del b).get h=some (.cells str cs):=(Heap.qQ j).trans o;obtain ⟨A,z⟩:=s1.uc (i:=i) (v':=.sym st.mv) l (λ c e f hc=>by
  have hc:w.heap[E.ρ h]? = some (Obj.cells c e f):=hc;rw [q1] at hc;cases hc;exact ⟨u,y,p,.sym _ _ (by simp) p⟩) (.sym _ (QU _))
 exact ⟨_,d,A,q.trans (Kp.less z)⟩
theorem SR.ur (l:GPP G) (s:SR G nt E w a β st) {t sz k f:Nat} {v:AV} {es:List AV} (n:st.fr.get t=some v) (i:zJB st.H k sz v=some (f,es)):
  ∃E' d,SR G nt E' w a d ⟨st.fr.put t (.sym st.mv),st.H.del f,(st.mv,.vec sz es)::st.V,st.m,st.mv+1⟩/\Kp E.Z (BS E β st.H st.V) w E'.Z (BS E' d (st.H.del f) ((st.mv,.vec sz es)::st.V)) w:=by
 obtain ⟨d,s1,j,h⟩:=s.vR l i (s.hf.get _ _ n);refine ⟨_,d,⟨s1.hr,⟨s1.hf.size,λ u x b=>?_⟩,s1.hg,s1.qC,λ u x b=>?_,s1.cH,s1.qU,s1.vp,s1.bz,s1.qT⟩,h⟩
 ·rw [Fr.qu] at b;split at b
  ·rename_i e;subst e;cases b;exact .sym _ _ (by simp) j
  ·exact s1.hf.get u x b
 ·rw [Fr.qu] at b;split at b
  ·cases b;exact .sym _ (QU _)
  ·exact s1.qZ u x b
theorem SR.ui (hG:GPP G) (s:SR G nt E w a β st) {h i sz:Nat} {str:Bool} {cs:List AV} (hh:st.H.get h=some (.cells str cs)) (hi:cs[i]? = some .qa):
  ∃E' β',SR G nt E' w a β' ⟨st.fr,st.H.put h (.cells str (cs.set i (.sym st.mv))),(st.mv,.vec sz [])::st.V,st.m,st.mv+1⟩/\Kp E.Z (BS E β st.H st.V) w E'.Z (BS E' β' (st.H.put h (.cells str (cs.set i (.sym st.mv)))) ((st.mv,.vec sz [])::st.V)) w:=by
 have hσ:∀i,i<st.mv->(if i=st.mv then Value.slice none 0 0 else E.σ i)=E.σ i:=λ i hi=>by
  have:i≠st.mv:=by omega
  simp [this]
 have R:∀{v:AV} {K:Value},CP st.mv st.m v->VR E w v K->VR ⟨E.ρ,E.D,E.Z,λ i=>if i=st.mv then .slice none 0 0 else E.σ i⟩ w v K:=λ hc hv=>
  VR.vd (E:=E) (E':=⟨E.ρ,E.D,E.Z,λ i=>if i=st.mv then .slice none 0 0 else E.σ i⟩) (w:=w) (w':=w) (λ h _ hh=>⟨hh,rfl⟩) (λ b I=>⟨I,rfl⟩) (.refl w) hσ hv hc
 have z:∀j l,st.V.get j=some l->j≠st.mv:=λ j l h=>by have:=(s.qU j l h).1;omega
 have y:=Heap.qh hh;have A:∀{p:Nat×HO},p∈st.H.put h (.cells str (cs.set i (.sym st.mv)))->∃o,(p.1,o)∈st.H:=λ{p} d=>by
  rcases zDp d with rfl | d
  ·exact ⟨_,y⟩
  ·exact ⟨p.2,d⟩
 refine ⟨⟨E.ρ,E.D,E.Z,λ i=>if i=st.mv then .slice none 0 0 else E.σ i⟩,λ j=>if j=st.mv then none else β j,⟨⟨?_,λ p d=>?_,λ p d q hq e=>?_,λ p d=>?_,λ p d=>?_,s.hr.wg⟩,⟨s.hf.size,λ u v hu=>R (s.qZ u v hu) (s.hf.get u v hu)⟩,λ g u X=>⟨R (hG g u X).cp (s.hg g u X).1,(s.hg g u X).2⟩,s.qC,s.qZ.mono (QY _) (QB _),λ p d=>?_,λ j l h=>?_,λ j Q i off h=>?_,λ j l b h J I=>?_,λ j j' l M b f F N h4 Y h6=>?_⟩,?_⟩
 ·show (st.H.put h _).keys.Nodup
  rw [Heap.wz];exact s.hr.nodup
 ·obtain ⟨o,J⟩:=A d;exact s.hr.qC (p.1,o) J
 ·obtain ⟨o1,f⟩:=A d;obtain ⟨o2,F⟩:=A hq;exact s.hr.inj (p.1,o1) f (q.1,o2) F e
 ·rcases zDp d with rfl | d
  ·obtain ⟨_,_,W,n⟩:=s.cH _ y;cases W;obtain ⟨cc,ee,ff,q1,q2,q3,q4⟩:=s.hr.obj _ y;refine ⟨cc,ee,ff,q1,by simpa using q2,q3,λ i2 x B=>?_⟩
   rw [List.getElem?_set] at B;split at B
   ·rename_i e;subst e;split at B
    ·cases B;obtain ⟨u,U,r2,S⟩:=q4 i _ hi;refine ⟨u,U,r2,?_⟩
     have hz:∀{K:Value},VR E w .qa K->K=.slice none 0 0:=λ h=>by cases h;rfl
     rw [hz S];exact .sym _ _ (by simp only [if_true]) rfl
    ·cases B
   ·obtain ⟨u,U,r2,S⟩:=q4 i2 x B;exact ⟨u,U,r2,R (n x (QF B)) S⟩
  ·obtain ⟨str,cs,e,n⟩:=s.cH p d;have:=s.hr.obj p d;rw [e] at this ⊢;exact OR.vd rfl (λ hc hv=>R hc hv) n this
 ·obtain ⟨o,J⟩:=A d;exact s.hr.nz (p.1,o) J
 ·rcases zDp d with rfl | d
  ·obtain ⟨_,_,W,n⟩:=s.cH _ y;cases W;refine ⟨str,_,rfl,λ c hc=>?_⟩
   rcases List.mem_or_eq_of_mem_set hc with h | rfl
   ·exact (n c h).mono (QY _) (QB _)
   ·exact .sym _ (QU _)
  ·obtain ⟨str,cs,e,n⟩:=s.cH p d;exact ⟨str,cs,e,λ c hc=>(n c hc).mono (QY _) (QB _)⟩
 ·rw [Vecs.qg] at h;split at h
  ·rename_i e;subst e;cases h;exact ⟨QU _,λ e he=>(by cases he),.inl ⟨by simp,by simp,rfl⟩⟩
  ·have f:=s.qU j l h;refine ⟨Nat.lt_succ_of_lt f.1,f.2.mono (by simp [z j l h]) (λ _=>by simp [z j l h]) (λ b _ _=>rfl) (λ b I=>⟨I,rfl⟩) (.refl w) λ Q i off e sz es O=>?_⟩
   subst e;have:=s.vp j Q i off h;rw [Vecs.qg,if_neg (by omega)] at O
   have T:Q≠st.mv:=by omega
   exact ⟨by simp [T],es,O,rfl⟩
 ·rw [Vecs.qg] at h;split at h
  ·cases h
  ·exact Nat.lt_succ_of_lt (s.vp j Q i off h)
 ·rw [Vecs.qg] at h;split at h
  ·rename_i e;subst e;simp at I
  ·simp only [if_neg (z j l h)] at I;obtain ⟨z1,z2⟩:=s.bz j l b h J I;refine ⟨z1,λ p d=>?_⟩
   obtain ⟨o,f⟩:=A d;exact z2 (p.1,o) f
 ·rw [Vecs.qg] at f F;split at f
  ·rename_i e;subst e;simp at Y
  ·split at F
   ·rename_i e;subst e;simp at h6
   ·simp only [if_neg (z j l f)] at Y;simp only [if_neg (z j' M F)] at h6;exact s.qT j j' l M b f F N h4 Y h6
 ·refine Kp.less λ x B=>?_
  rcases B with ⟨p,d,e⟩ | ⟨j,l,f,F,N⟩
  ·obtain ⟨o,J⟩:=A d;exact .inl ⟨_,J,e⟩
  ·rw [Vecs.qg] at f;split at f
   ·rename_i e;subst e;simp at N
   ·simp only [if_neg (z j l f)] at N;exact .inr ⟨j,l,f,F,N⟩
theorem SR.qE (b:GPP G) {h:Nat}:∀{g:List (Nat×Nat)} {E:Env} {β:Nat->Option Nat} {st:Sta},SR G nt E w a β st->(qE h g st).fr=st.fr/\∃E' q,SR G nt E' w a q (qE h g st)/\Kp E.Z (BS E β st.H st.V) w E'.Z (BS E' q (qE h g st).H (qE h g st).V) w
 | [],E,β,st,s=>⟨rfl,E,β,s,Kp.refl⟩
 | (i,sz)::g,E,β,st,s=>by
  simp only [Sy.qE];split
  ·rename_i str A p;split
   ·rename_i n;obtain ⟨y,x,s1,d⟩:=s.ui b p n (sz:=sz);obtain ⟨e,l,f,j,o⟩:=SR.qE b (g:=g) s1;exact ⟨e,l,f,j,d.trans o⟩
   ·rename_i v _ n;split
    ·rename_i z B u;obtain ⟨y,x,s1,d⟩:=s.uk b p n u;obtain ⟨e,l,f,j,o⟩:=SR.qE b (g:=g) s1;exact ⟨e,l,f,j,d.trans o⟩
    ·exact SR.qE b (g:=g) s
   ·exact SR.qE b (g:=g) s
  ·exact ⟨rfl,E,β,s,Kp.refl⟩
theorem SR.qI (d:GPP G) {g:List (Nat×Nat)} {args:List AV} (s:SR G nt E w a β st):(qI g args st).fr=st.fr/\∃E' b,SR G nt E' w a b (qI g args st)/\Kp E.Z (BS E β st.H st.V) w E'.Z (BS E' b (qI g args st).H (qI g args st).V) w:=by
 unfold Sy.qI;split
 ·exact SR.qE d s
 ·exact ⟨rfl,E,β,s,Kp.refl⟩
theorem zRd {o:Oper} {n:XO} {k:AV->Sta->Prop} (c:Ctx P G nt Z0 B0 w0 dl E w a β st o n) {e:HEnt} (he:HOK P G e) {args:List AV}
  (hk:(∃xs,n=.call e.f xs/\evs G st.fr xs=some args)\/∃z xs first d vs,n=.qL z xs/\z.ev G st.fr=some (.func (.func e.f) first d)/\evs G st.fr xs=some vs/\args=first++vs++d) (h:zEI e args st k):OpK P G nt Z0 B0 w0 dl o w a k:=by
 intro next Q hn;unfold zEI at h;obtain ⟨aa,E1,β1,s1,D⟩:=c.s.qI c.hG (g:=e.grow) (args:=args);generalize qI e.grow args st=j at *;have N:(∃xs,n=.call e.f xs/\evs G j.fr xs=some args)\/∃z xs first d vs,n=.qL z xs/\z.ev G j.fr=some (.func (.func e.f) first d)/\evs G j.fr xs=some vs/\args=first++vs++d:=by rw [aa];exact hk
 obtain ⟨l,hv,ac⟩:=zRZ s1.hr s1.hf s1.hg c.hc he.1 N;have R:∀x∈args,CP j.mv j.m x:=by
  rcases N with ⟨xs,rfl,M⟩ | ⟨z,xs,first,d,vs,rfl,h1,h2,rfl⟩
  ·have q:xs.all xvOK=true:=by have:=c.ok;simp only [opOK,XO.qb,zW,QT] at this;exact this
   exact zFd c.hG s1.qZ q M
  ·have q:xvOK z=true/\xs.all xvOK=true:=by have:=c.ok;simp only [opOK,XO.qb,zW,List.all_append,QX,List.all_nil,QT,QA] at this;exact this
   intro x p;have U:=zR c.hG s1.qZ q.1 h1;cases U with
   | func _ _ _ q1 q2=>
    rcases QI.1 p with p | p
    ·rcases QI.1 p with p | p
     ·exact q1 x p
     ·exact zFd c.hG s1.qZ q.2 h2 x p
    ·exact q2 x p
 unfold zIX at h;obtain ⟨A,H,V,⟨O,b⟩,cv,_,I,u,K,_⟩:=zJH c.hG s1 R hv h;split at b
 rotate_left
 ·exact b.elim
 rename_i v H2 V2 X;obtain ⟨ho,i⟩:=he.2 _ _ _ _ _ _ O X;unfold Oper.wp;rw [ac];unfold zIt zJD at b;cases hi:inpl e.grow with
 | false=>
  rw [hi] at i b;have i:HFn P G e.f A H V v H2 V2:=i;refine (i _ w _ l (K 0 { tmps:=#[],defers:=[] } [] ⟨rfl,λ t v h=>by cases h⟩ (λ t v h=>by cases h)) I u).mono λ ee w' M=>?_
  obtain ⟨y,E',β',rfl,k1,T,Y,k4⟩:=M;obtain ⟨S,W,s2,B⟩:=s1.back c.hG cv ho k1 T Y k4 c.hd;exact hn _ _ y S w' b ⟨W,s2,(c.kp.trans D).trans B,by rw [DRun.put_defers];exact c.df⟩
 | true=>
  rw [hi] at i b;obtain ⟨rfl,rfl,J,F,i⟩:=i;have ab:=(zHs cv.rh).1;generalize zF1 j.H 30 0 (args.foldl (λ a v=>hsA 8 v a) (List.range 0))=hm at *
  have:hm=[]:=by
   cases hm with
   | nil=>rfl
   | cons a r=>simp at ab
  subst this;refine (i _ w _ l (K 0 { tmps:=#[],defers:=[] } [] ⟨rfl,λ t v h=>by cases h⟩ (λ t v h=>by cases h)) I u).mono λ ee w' M=>?_
  obtain ⟨y,E',rfl,k1,T,Y,k4⟩:=M;obtain ⟨S,W,s2,B⟩:=s1.uy c.hG cv J F k1 T Y k4 c.hd;exact hn _ _ y S w' b ⟨W,s2,(c.kp.trans D).trans B,by rw [DRun.put_defers];exact c.df⟩
theorem HOK.of {e:HEnt} (i:inpl e.grow=false) (h:Enters P e.f) (d:∀args H V v H2 V2,e.pre args H V->e.val args H V=some (v,H2,V2)->HOut v H H2 V2/\HFn P G e.f args H V v H2 V2):HOK P G e:=
 ⟨h,λ args H V v H2 V2 a b=>⟨(d args H V v H2 V2 a b).1,by rw [i];exact (d args H V v H2 V2 a b).2⟩⟩
theorem HOK.uH {e:HEnt} (d:HOK P G e) (h:inpl e.grow=true) {args:List AV} {H H2:Heap} {V V2:Vecs} {v:AV} (a:e.pre args H V) (b:e.val args H V=some (v,H2,V2)):HOut v H H2 V2/\H=[]/\H2=[]/\PP v/\HFnI P G e.f args V v V2:=by
 have:=d.2 args H V v H2 V2 a b;rw [h] at this;exact this
theorem zOM {b:List HEnt} {f:Nat} {e:HEnt} (h:zIu b f=some e):e∈b/\e.f=f:=by
 induction b with
 | nil=>cases h
 | cons s r d=>
  simp only [zIu] at h;split at h
  ·rename_i q;cases h;exact ⟨.head _,(zb q).symm⟩
  ·exact ⟨.tail _ (d h).1,(d h).2⟩
theorem zEq {F:List Nat}:∀{H:Heap} {p:Nat×HO},p∈zFx F H->p∈H/\inN p.1 F=true
 | [],_,h=>by cases h
 | q::r,p,h=>by
  unfold zFx at h;split at h
  ·rename_i b;rcases QH.1 h with rfl | h
   ·exact ⟨.head _,b⟩
   ·exact ⟨.tail _ (zEq h).1,(zEq h).2⟩
  ·exact ⟨.tail _ (zEq h).1,(zEq h).2⟩
theorem zLM {F:List Nat}:∀(H:Heap),(zFx F H).Sublist H
 | []=>.slnil
 | q::r=>by
  unfold zFx;split
  ·exact .cons_cons _ (zLM r)
  ·exact .cons _ (zLM r)
theorem zAZ {F:List Nat}:∀{H:Heap} {p:Nat×HO},p∈zKG F H->p∈H/\inN p.1 F=false
 | [],_,h=>by cases h
 | q::r,p,h=>by
  unfold zKG at h;split at h
  ·exact ⟨.tail _ (zAZ h).1,(zAZ h).2⟩
  ·rename_i b;rcases QH.1 h with rfl | h
   ·exact ⟨.head _,b⟩
   ·exact ⟨.tail _ (zAZ h).1,(zAZ h).2⟩
theorem zLN {F:List Nat}:∀(H:Heap),(zKG F H).Sublist H
 | []=>.slnil
 | q::r=>by
  unfold zKG;split
  ·exact .cons _ (zLN r)
  ·exact .cons_cons _ (zLN r)
theorem zJI {b:Heap} {fr0:Fr}:∀{fr:Fr} {t:Nat} {u:AV},(zJE b fr0 fr).get t=some u->∃v,fr0.get t=some v/\u=frzV b v
 | [],_,_,h=>by cases h
 | (s,x)::r,t,u,h=>by
  unfold zJE at h;split at h
  ·rename_i v d;simp only [Fr.get] at h;split at h
   ·rename_i e;cases h;exact ⟨v,by rw [←zb e];exact d,rfl⟩
   ·exact zJI h
  ·exact zJI h
theorem zMl {mv m:Nat} {H:Heap} (B:HCP mv m H):∀(d:Nat) {v v':AV},CP mv m v->frz H [] d v=some v'->PP v':=by
 intro d
 induction d with
 | zero=>intro v v' _ h;cases h
 | succ d U=>
  intro v v' b h;have j:∀{l I:List AV},(∀e∈l,CP mv m e)->zw (frz H [] d) l=some I->∀e∈I,PP e:=λ R T=>by
   obtain ⟨m1,m2⟩:=zBf T;intro x p;obtain ⟨i,o⟩:=List.getElem?_of_mem p;have q:=(QD.1 o).1;have F:=QE (show i<_ from m1▸q)
   exact U (R _ (QF F)) (m2 i _ x F o)
  unfold frz at h;split at h
  ·split at h
   ·rename_i Y;cases Y
   ·cases h
  ·split at h
   ·rename_i u;obtain ⟨str,K,e,hc⟩:=B.get u;cases e;split at h
    ·rename_i z f;cases h;exact .qe _ _ (.agg _ (j hc f))
    ·cases h
   ·cases h
  ·cases b with
   | func _ _ _ W J=>
    split at h
    ·rename_i a' N;split at h
     ·rename_i b' X;cases h;exact .func _ _ _ (j W N) (j J X)
     ·cases h
    ·cases h
  ·cases b with
   | agg _ hc=>
    split at h
    ·rename_i z f;cases h;exact .agg _ (j hc f)
    ·cases h
  ·split at h
   ·rename_i u;obtain ⟨str,K,e,hc⟩:=B.get u;cases e;split at h
    ·split at h
     ·rename_i A;split at h
      ·rename_i y;cases h;refine .qp _ _ λ e D=>?_
       obtain ⟨h1,h2,h3,h4,M⟩:=zAm A;obtain ⟨i,o⟩:=List.getElem?_of_mem D;obtain ⟨q1,q2⟩:=zY M;obtain ⟨q3,Q,O⟩:=zO (q2 i e o);refine zC3 (n:=mv) (k:=m) 8 (zCy O λ x p=>hc x ?_) (QG.1 y e D)
       rw [Q] at p;exact QW (QP (QW (QP p)))
      ·cases h
     ·cases h
    ·cases h
   ·cases h
  ·split at h
   ·cases h
   ·rename_i S;cases h;exact zIP d b S
theorem Rs.ux {F:List Nat} {d:Option Nat} {v v':AV} {cv:Value} (hG:GPP G) (hd:∀n,d=some n->n<nt) (h:Rs G nt Z0 B0 w0 dl E w (a.put d cv) (st.put d v)) (hv:frz (zFx F st.H) [] 8 v=some v'):
  ∃E',Rs G nt Z0 B0 w0 dl E' w (a.put d cv) ((vj F (zFx F st.H) st).put d v'):=by
 obtain ⟨β,s,k0,ab⟩:=h.out;generalize S:zFx F st.H=B at *;have o:∀p∈B,p∈st.H:=λ p l=>(zEq (S▸l)).1
 have X:SR G nt E w (a.put d cv) β ⟨qv st.fr d v,B,[],st.m,st.mv⟩:=
  ⟨s.hr.sub (S▸zLM st.H),s.hf,s.hg,s.qC,s.qZ,λ p l=>s.cH p (o p l),λ j J O=>(by cases O),λ j j2 i off O=>(by cases O),λ j J b O=>(by cases O),λ j j' J ad b O=>(by cases O)⟩
 let T:Env:=⟨E.ρ,E.D,λ x=>E.Z x\/BS E β B [] x,E.σ⟩
 have up:∀{u N},VR (frzE E β B []) w u N->VR T w u N:=λ f=>VR.mono (E:=frzE E β B []) (E':=T) (λ _ h=>h.elim) (λ b K=>⟨K,rfl⟩) (.refl w) f
 have A:∀{u N},VR E w u N->VR T w u N:=λ f=>VR.mono (E:=E) (E':=T) (λ _ h=>⟨h,rfl⟩) (λ b K=>⟨.inl K,rfl⟩) (.refl w) f
 have M:∀x,BS E β B [] x->∃p∈B,E.ρ p.1=x:=λ x z=>by
  rcases z with z | ⟨j,J,O,_⟩
  ·exact z
  ·cases O
 have W:∀{u N},CP st.mv st.m u->VR E w u N->VR T w (frzV B u) N/\CP st.mv st.m (frzV B u):=λ{u N} hc f=>by
  unfold frzV;split
  ·exact ⟨A f,hc⟩
  ·split
   ·rename_i u' he;exact ⟨up (zFf X 8 hc f he),(zMl X.cH 8 hc he).cp⟩
   ·exact ⟨A f,hc⟩
 have ac:∀n,d=some n->VR E w v ((a.put d cv).tmps.getD n undef)/\CP st.mv st.m v:=λ n e=>by
  subst e;have y:(st.put (some n) v).fr.get n=some v:=by
   show (st.fr.put n v).get n=_
   rw [Fr.qu,if_pos rfl]
  exact ⟨s.hf.get n v y,s.qZ n v y⟩
 have aa:∀t u,d≠some t->st.fr.get t=some u->VR E w u ((a.put d cv).tmps.getD t undef)/\CP st.mv st.m u:=λ t u Y f=>by
  have y:(st.put d v).fr.get t=some u:=by
   cases d with
   | none=>exact f
   | some n=>
    show (st.fr.put n v).get t=_
    rw [Fr.qu,if_neg (λ e=>Y (by rw [e]))]
    exact f
  exact ⟨s.hf.get t u y,s.qZ t u y⟩
 have R:∀t u,((vj F B st).put d v').fr.get t=some u->VR T w u ((a.put d cv).tmps.getD t undef)/\CP st.mv st.m u:=λ t u f=>by
  by_cases e:d=some t
  ·subst e;obtain ⟨y,Q⟩:=ac t rfl;have:u=v':=by
    have f:((zJE B st.fr st.fr).put t v').get t=some u:=f;rw [Fr.qu,if_pos rfl] at f;cases f;rfl
   subst this;exact ⟨up (zFf X 8 Q y hv),(zMl X.cH 8 Q hv).cp⟩
  ·have f:(zJE B st.fr st.fr).get t=some u:=by
    cases d with
    | none=>exact f
    | some n=>
     have f:((zJE B st.fr st.fr).put n v').get t=some u:=f;rw [Fr.qu,if_neg (λ h=>e (by rw [h]))] at f
     exact f
   obtain ⟨u0,y,rfl⟩:=zJI f;obtain ⟨Q,U⟩:=aa t u0 e y;exact W U Q
 refine ⟨T,β,⟨⟨?_,?_,?_,?_,?_,?_⟩,⟨s.hf.size,λ t u f=>(R t u f).1⟩,λ g u h=>⟨A (s.hg g u h).1,(s.hg g u h).2⟩,s.qC,λ t u f=>(R t u f).2,λ p l=>s.cH p (zAZ l).1,λ j J h=>⟨(s.qU j J h).1,(s.qU j J h).2.mono rfl (λ _=>rfl) (λ b _ _=>rfl) (λ b K=>⟨.inl K,rfl⟩) (.refl w) λ _ _ _ _ sz es h=>⟨rfl,es,h,rfl⟩⟩,s.vp,λ j J b y Q U=>⟨?_,λ p l=>(s.bz j J b y Q U).2 p (zAZ l).1⟩,s.qT⟩,k0.trans ⟨λ x z=>.inl z,λ x z=>?_,λ x z=>?_,rfl,rfl,rfl,QB _,λ _ _ _=>rfl,.refl w⟩,ab⟩
 ·exact (s.hr.sub (zLN (F:=F) st.H)).nodup
 ·exact λ p l=>s.hr.qC p (zAZ l).1
 ·exact λ p l q I=>s.hr.inj p (zAZ l).1 q (zAZ I).1
 ·exact λ p l=>(s.hr.obj p (zAZ l).1).mono rfl A
 ·rintro p l (hz | hz)
  ·exact s.hr.nz p (zAZ l).1 hz
  ·obtain ⟨q,I,e⟩:=M _ hz;have:=s.hr.inj q (o q I) p (zAZ l).1 e;have y:=(zEq (S▸I)).2
   rw [this,(zAZ l).2] at y;cases y
 ·rintro b (K | K)
  ·exact s.hr.wg b K
  ·obtain ⟨q,I,rfl⟩:=M _ K;exact s.hr.lt (o q I)
 ·rintro (hz | hz)
  ·exact (s.bz j J b y Q U).1 hz
  ·obtain ⟨q,I,e⟩:=M _ hz;exact (s.bz j J b y Q U).2 q (o q I) e
 ·rcases z with z | z
  ·exact .inl z
  ·obtain ⟨q,I,e⟩:=M _ z;exact .inr (.inl (.inl ⟨q,o q I,e⟩))
 ·rcases z with ⟨p,l,e⟩ | z
  ·exact .inl (.inl ⟨p,(zAZ l).1,e⟩)
  ·exact .inl (.inr z)
theorem Fr.get_map {g:AV->AV}:∀{fr:Fr} {t:Nat},Fr.get (fr.map λ p=>(p.1,g p.2)) t=(Fr.get fr t).map g
 | [],t=>rfl
 | (k,o)::r,t=>by
  simp only [Qd,Fr.get];split
  ·rfl
  ·exact Fr.get_map
theorem Rs.ub {d:Option Nat} {v:AV} {cv:Value} (hd:∀n,d=some n->n<nt) (h:Rs G nt Z0 B0 w0 dl E w (a.put d cv) (st.put d v)):
  ∃E',Rs G nt Z0 B0 w0 dl E' w (a.put d cv) ((wP st).put d (wx st.V v)):=by
 obtain ⟨β,s,U,Q⟩:=h.out;have sF:SR G nt E w (a.put d cv) β ⟨qv st.fr d v,[],st.V,st.m,st.mv⟩:=
  ⟨⟨.nil,λ p l=>(by cases l),λ p l=>(by cases l),λ p l=>(by cases l),λ p l=>(by cases l),s.hr.wg⟩,s.hf,s.hg,s.qC,s.qZ,λ p l=>(by cases l),s.qU,s.vp,λ j y b o A M=>⟨(s.bz j y b o A M).1,λ p l=>(by cases l)⟩,s.qT⟩
 let K:Env:=⟨E.ρ,E.D,λ x=>E.Z x\/BS E β [] st.V x,E.σ⟩
 have up:∀{u B},VR (frzE E β [] st.V) w u B->VR K w u B:=λ f=>VR.mono (E:=frzE E β [] st.V) (E':=K) (λ _ h=>h.elim) (λ b I=>⟨I,rfl⟩) (.refl w) f
 have q:∀{u B},VR E w u B->VR K w u B:=λ f=>VR.mono (E:=E) (E':=K) (λ _ h=>⟨h,rfl⟩) (λ b I=>⟨.inl I,rfl⟩) (.refl w) f
 have J:∀{x},BS E β [] st.V x->∃j y,st.V.get j=some y/\y.qz=true/\β j=some x:=λ{x} z=>by
  rcases z with ⟨p,l,_⟩ | h
  ·cases l
  ·exact h
 have S:∀{u B},CP st.mv st.m u->VR E w u B->VR K w (wx st.V u) B/\CP st.mv st.m (wx st.V u):=λ{u B} hc f=>by
  unfold wx;split
  ·rename_i j;split
   ·rename_i Y es T;have o:frz [] st.V 1 (.sym j)=some (.qp Y es):=by simp only [frz,T]
    exact ⟨up (zFf sF 1 hc f o),.qp _ _ (s.qU j _ T).2.1⟩
   ·exact ⟨q f,hc⟩
  ·exact ⟨q f,hc⟩
 have R:∀n,d=some n->VR E w v ((a.put d cv).tmps.getD n undef)/\CP st.mv st.m v:=λ n e=>by
  subst e;have o:(st.put (some n) v).fr.get n=some v:=by
   show (st.fr.put n v).get n=_
   rw [Fr.qu,if_pos rfl]
  exact ⟨s.hf.get n v o,s.qZ n v o⟩
 have O:∀t u,d≠some t->st.fr.get t=some u->VR E w u ((a.put d cv).tmps.getD t undef)/\CP st.mv st.m u:=λ t u N f=>by
  have o:(st.put d v).fr.get t=some u:=by
   cases d with
   | none=>exact f
   | some n=>
    show (st.fr.put n v).get t=_
    rw [Fr.qu,if_neg (λ e=>N (by rw [e]))]
    exact f
  exact ⟨s.hf.get t u o,s.qZ t u o⟩
 have F:∀t u,((wP st).put d (wx st.V v)).fr.get t=some u->VR K w u ((a.put d cv).tmps.getD t undef)/\CP st.mv st.m u:=λ t u f=>by
  by_cases e:d=some t
  ·subst e;obtain ⟨o,A⟩:=R t rfl;have f:Fr.get (Fr.put (st.fr.map λ p=>(p.1,wx st.V p.2)) t (wx st.V v)) t=some u:=f
   rw [Fr.qu,if_pos rfl] at f;cases f;exact S A o
  ·have f:Fr.get (st.fr.map λ p=>(p.1,wx st.V p.2)) t=some u:=by
    cases d with
    | none=>exact f
    | some n=>
     have f:Fr.get (Fr.put (st.fr.map λ p=>(p.1,wx st.V p.2)) n (wx st.V v)) t=some u:=f
     rw [Fr.qu,if_neg (λ h=>e (by rw [h]))] at f
     exact f
   rw [Fr.get_map] at f;cases hg:Fr.get st.fr t with
   | none=>rw [hg] at f;cases f
   | some W=>
    rw [hg] at f;cases f;obtain ⟨A,M⟩:=O t W e hg;exact S M A
 refine ⟨K,β,⟨⟨s.hr.nodup,s.hr.qC,s.hr.inj,λ p l=>(s.hr.obj p l).mono rfl q,?_,?_⟩,⟨s.hf.size,λ t u f=>(F t u f).1⟩,λ g u h=>⟨q (s.hg g u h).1,(s.hg g u h).2⟩,s.qC,λ t u f=>(F t u f).2,s.cH,λ j y h=>(by cases h),λ j j2 i off h=>(by cases h),λ j y b h=>(by cases h),λ j j' y X b h=>(by cases h)⟩,U.trans ⟨λ x z=>.inl z,λ x z=>?_,λ x z=>?_,rfl,rfl,rfl,QB _,λ _ _ _=>rfl,.refl w⟩,Q⟩
 ·rintro p l (hz | hz)
  ·exact s.hr.nz p l hz
  ·obtain ⟨j,y,o,A,M⟩:=J hz;exact (s.bz j y _ o A M).2 p l rfl
 ·rintro b (I | I)
  ·exact s.hr.wg b I
  ·obtain ⟨j,y,o,A,M⟩:=J I;exact (s.qU j y o).2.lt A M
 ·rcases z with z | z
  ·exact .inl z
  ·exact .inr (.inl (.inr (J z)))
 ·rcases z with ⟨p,l,e⟩ | ⟨j,y,h,_⟩
  ·exact .inl (.inl ⟨p,l,e⟩)
  ·cases h
theorem zNR (u:TbW P G tb) {o:Oper} {t:TOp} {k:AV->Sta->Prop} (c:Ctx P G nt Z0 B0 w0 dl E w a β st o t.o.op) (i:∀es,t.h=some es->∀e∈es,HOK P G e) (h:wopT G tb st t k):OpK P G nt Z0 B0 w0 dl o w a k:=by
 unfold wopT at h;split at h
 ·exact zSV u c h
 ·rename_i es j;unfold zLD at h;split at h
  ·rename_i f n b;rw [b] at c;split at h
   ·rename_i e q;obtain ⟨p,rfl⟩:=zOM q;split at h
    ·rename_i v d;exact zRd c (i es j e p) (.inl ⟨n,rfl,d⟩) h
    ·exact h.elim
   ·exact h.elim
  ·rename_i y n b;rw [b] at c;split at h
   ·rename_i f first l x;split at h
    ·rename_i e q;obtain ⟨p,rfl⟩:=zOM q;split at h
     ·rename_i v d;exact zRd c (i es j e p) (.inr ⟨y,n,first,l,v,rfl,x,d,rfl⟩) h
     ·exact h.elim
    ·exact h.elim
   ·exact h.elim
  ·exact h.elim
theorem zR0 (n:TbW P G tb) {o:Oper} {t:TOp} {k:AV->Sta->Prop} (c:Ctx P G nt Z0 B0 w0 dl E w a β st o t.o.op) (i:∀es,t.h=some es->∀e∈es,HOK P G e) (h:wopR G tb st t k):OpK P G nt Z0 B0 w0 dl o w a k:=by
 unfold wopR at h;split at h
 ·rename_i u;have y:zKg t.o.op=true:=by
   cases ho:t.o.op <;> rw [ho] at u <;> first | rfl | cases u
  have A:=c.wy (k:=λ v st=>wfrz st v k) y h
  intro next Q x;refine A next Q λ v l q D p b d=>?_
  have b:wfrz l v k:=b;unfold wfrz at b;split at b
  ·obtain ⟨j,f⟩:=d.ub c.hd;exact x _ _ q j p b f
  ·simp only at b;split at b
   ·rename_i z B;obtain ⟨j,f⟩:=d.ux c.hG c.hd B;exact x z _ q j p b f
   ·exact b.elim
 ·exact zNR n c i h
end
end Go.Sy
namespace Go.Sy
section
variable {P:Program} {G:Cx} {nt:Nat} {E:Env} {w:World} {a:Act} {β:Nat->Option Nat} {st:Sta}
 {Z0 B0:Nat->Prop} {w0:World} {dl:List Deferred} {tb:TblS}
theorem SR.steps (s:SR G nt E w a β st) {E':Env} {w':World} {M:Act} {H':Heap} {fr':Fr} {A:Nat} (B:HR E' H' w') (t:Tr E st.H w E' H' w' st.m A) (F:FrR E' w' fr' M nt) (K:FrCP st.mv A fr') (J:HCP st.mv A H'):
  SR G nt E' w' M β ⟨fr',H',st.V,A,st.mv⟩/\Kp E.Z (BS E β st.H st.V) w E'.Z (BS E' β H' st.V) w':=by
 have y:∀b,E.Z b->E'.Z b/\w'.heap[b]? = w.heap[b]?:=λ b o=>⟨t.qG b o,t.wa b (s.hr.wg b o) λ p i e=>s.hr.nz p i (e▸o)⟩
 have l:∀j f b,st.V.get j=some f->f.qz=true->β j=some b->b<w.heap.size/\w'.heap[b]? = w.heap[b]?:=λ j f b d n v=>by
  have u:=(s.qU j f d).2.lt n v;exact ⟨u,t.wa b u λ p i e=>(s.bz j f b d n v).2 p i e⟩
 refine ⟨⟨B,F,s.hg.step s.hr t,λ h R=>?_,K,J,λ j f d=>⟨(s.qU j f d).1,?_⟩,s.vp,λ j f b d n v=>⟨λ O=>?_,λ p i e=>?_⟩,s.qT⟩,?_⟩
 ·rcases (t.qC h).1 R with d | d
  ·exact QZ (s.qC h d) t.le
  ·exact d.2
 ·exact (s.qU j f d).2.mono (congrFun t.sig j) (λ _=>rfl) (λ b Q o=>(l j f b d Q o).2) y t.qn λ _ _ _ _ T S h=>⟨rfl,S,h,rfl⟩
 ·have u:=s.bz j f b d n v;rcases t.qN b O with I | ⟨p,i,e⟩ | I
  ·exact u.1 I
  ·exact u.2 p i e
  ·have:=(l j f b d n v).1;omega
 ·have u:=s.bz j f b d n v;rcases t.own p i with ⟨q,D,N⟩ | I
  ·exact u.2 q D (N.trans e)
  ·have:=(l j f b d n v).1;omega
 ·refine ⟨t.qG,λ x z=>?_,λ x z=>?_,t.tape,t.os,t.output,t.size,λ x z o=>t.wa x z λ p i e=>o (.inl ⟨p,i,e⟩),t.qn⟩
  ·rcases t.qN x z with h | h | h
   ·exact .inl h
   ·exact .inr (.inl (.inl h))
   ·exact .inr (.inr h)
  ·rcases z with ⟨p,i,rfl⟩ | h
   ·rcases t.own p i with ⟨q,D,e⟩ | h
    ·exact .inl (.inl ⟨q,D,e⟩)
    ·exact .inr h
   ·exact .inl (.inr h)
theorem Rs.known (r:Rs G nt Z0 B0 w0 dl E w a st) {n:Nat} {v:AV} (h:st.fr.get n=some v):Rs G nt Z0 B0 w0 dl E w a ⟨st.fr.put n v,st.H,st.V,st.m,st.mv⟩:=
 let ⟨β,s,k,d⟩:=r.out
 ⟨β,s.known h,k,d⟩
theorem Rs.skip (r:Rs G nt Z0 B0 w0 dl E w a st) {d:Option Nat} (b:∀n,d=some n->n<nt):Rs G nt Z0 B0 w0 dl E w (a.put d undef) (st.put d (.qf [])):=
 let ⟨β,s,k,df⟩:=r.out
 ⟨β,⟨s.hr,s.hf.put id b (VR.qJ (vs:=#[]) VRs.nil),s.hg,s.qC,s.qZ.qv (.qf _ λ e f=>by cases f),s.cH,s.qU,s.vp,s.bz,s.qT⟩,k,by rw [DRun.put_defers];exact df⟩
theorem WK.vr {E:Env} {w:World} {v v':AV} (h:WK v v'):∀{cv:Value},VR E w v cv->VR E w v' cv:=by
 induction h with
 | refl v=>exact id
 | nil A=>intro cv d;cases d;exact .wb _ _ _ (QR _)
 | qe off h f=>
  intro cv d;cases d with
  | qe _ _ b o cv l z d hc=>
   refine .qe _ _ b o cv ?_ z (f d) hc
   cases h <;> first | exact l | rfl | cases l
 | iface t h f=>intro cv d;cases d with | iface _ _ cv d=>exact .iface _ _ cv (f d)
 | agg j h f=>
  intro cv d;cases d with
  | agg _ q e p y=>exact .agg _ q (j.symm.trans e) (λ i x v n d=>by
    have u:=(QD.1 n).1;have hc:=QE (show i<_ from j▸u)
    exact f i _ x hc n (p i _ v hc d)) y
 | qf j h f=>
  intro cv d;cases d with
  | qf _ q e p=>exact .qf _ q (j.symm.trans e) (λ i x v n d=>by
    have u:=(QD.1 n).1;have hc:=QE (show i<_ from j▸u)
    exact f i _ x hc n (p i _ v hc d))
theorem WK.pp {v v':AV} (h:WK v v'):PP v->PP v':=by
 have q:∀{n f:List AV},n.length=f.length->(∀(i:Nat) c p,n[i]? = some c->f[i]? = some p->PP c->PP p)->(∀e∈n,PP e)->∀e∈f,PP e:=λ j d h e o=>by
  obtain ⟨i,u⟩:=List.getElem?_of_mem o;have l:=(QD.1 u).1;have hc:=QE (show i<_ from j.symm▸l)
  exact d i _ e hc u (h _ (QF hc))
 induction h with
 | refl v=>exact id
 | nil x=>intro _;exact .qp _ _ λ e o=>by cases o
 | qe off h d=>intro b;cases b with | qe _ _ b=>exact .qe _ _ (d b)
 | iface t h d=>intro b;cases b with | iface _ _ b=>exact .iface _ _ (d b)
 | agg j h d=>intro b;cases b with | agg _ b=>exact .agg _ (q j d b)
 | qf j h d=>intro b;cases b with | qf _ b=>exact .qf _ (q j d b)
theorem WK.cp {n k:Nat} {v v':AV} (h:WK v v'):CP n k v->CP n k v':=by
 have u:∀{o f:List AV},o.length=f.length->(∀(i:Nat) c q,o[i]? = some c->f[i]? = some q->CP n k c->CP n k q)->(∀e∈o,CP n k e)->∀e∈f,CP n k e:=λ j d h e p=>by
  obtain ⟨i,x⟩:=List.getElem?_of_mem p;have l:=(QD.1 x).1;have hc:=QE (show i<_ from j.symm▸l)
  exact d i _ e hc x (h _ (QF hc))
 induction h with
 | refl v=>exact id
 | nil y=>intro _;exact .qp _ _ λ e p=>by cases p
 | qe off h d=>intro b;cases b with | qe _ _ b=>exact .qe _ _ (h.pp b)
 | iface t h d=>intro b;cases b with | iface _ _ b=>exact .iface _ _ (d b)
 | agg j h d=>intro b;cases b with | agg _ b=>exact .agg _ (u j d b)
 | qf j h d=>intro b;cases b with | qf _ b=>exact .qf _ (u j d b)
theorem Rs.uA {cv:Value} {d:Option Nat} {v v':AV} (r:Rs G nt Z0 B0 w0 dl E w (a.put d cv) (st.put d v)) (h:WK v v'):Rs G nt Z0 B0 w0 dl E w (a.put d cv) (st.put d v'):=by
 cases d with
 | none=>exact r
 | some n=>
  obtain ⟨β,s,j,i⟩:=r.out;have b:∀{t u},(st.fr.put n v').get t=some u->(t=n/\u=v')\/(t≠n/\(st.fr.put n v).get t=some u):=λ{t u} e=>by
   rw [Fr.qu] at e ⊢;split at e
   ·rename_i q;subst q;cases e;exact .inl ⟨rfl,rfl⟩
   ·rename_i q;exact .inr ⟨λ h=>q h.symm,by rw [if_neg q];exact e⟩
  have f:(st.fr.put n v).get n=some v:=by rw [Fr.qu,if_pos rfl]
  refine ⟨β,⟨s.hr,⟨s.hf.size,λ t u e=>?_⟩,s.hg,s.qC,λ t u e=>?_,s.cH,s.qU,s.vp,s.bz,s.qT⟩,j,i⟩
  ·rcases b e with ⟨rfl,rfl⟩ | ⟨_,e⟩
   ·exact h.vr (s.hf.get _ _ f)
   ·exact s.hf.get t u e
  ·rcases b e with ⟨rfl,rfl⟩ | ⟨_,e⟩
   ·exact h.cp (s.qZ _ _ f)
   ·exact s.qZ t u e
def At (pn:List Nat) (a b:Act):Prop:=∀t∈pn,b.tmps.getD t undef=a.tmps.getD t undef
theorem At.refl {pn:List Nat}:At pn a a:=λ _ _=>rfl
theorem At.trans {pn:List Nat} {b a2:Act} (h:At pn a b) (k:At pn b a2):At pn a a2:=λ t d=>(k t d).trans (h t d)
theorem At.put {pn:List Nat} {d:Option Nat} {cv:Value} (h:∀n,d=some n->n ∉ pn):At pn a (a.put d cv):=by
 intro t b;cases d with
 | none=>rfl
 | some n=>
  have:n≠t:=λ e=>h n rfl (e▸b)
  show (a.tmps.setIfInBounds n cv).getD t undef=a.tmps.getD t undef
  simp only [Array.getD_eq_getD_getElem?,Array.getElem?_setIfInBounds,if_neg this]
theorem zKL {pn:List Nat} {d:Option Nat} (h:(match d with | some d=>!inN d pn | none=>true)=true):∀n,d=some n->n ∉ pn:=by
 rintro n rfl
 simp only [Bool.not_eq_true'] at h;exact zMk h
theorem zVf {call:Call} {pn:List Nat} {K:Fr->Heap->Nat->Prop}:∀(ops:List XOper) {fr:Fr} {H:Heap} {nx:Nat},(∀o∈ops,∀n,o.dst=some n->n ∉ pn)->WN G call ops K fr H nx->WN G call ops (λ fr' H' b=>K fr' H' b/\∀t∈pn,fr'.get t=fr.get t) fr H nx:=by
 have key:∀(ops:List XOper) (f:Fr) {fr:Fr} {H:Heap} {nx:Nat},(∀o∈ops,∀n,o.dst=some n->n ∉ pn)->(∀t∈pn,fr.get t=f.get t)->WN G call ops K fr H nx->WN G call ops (λ fr' H' b=>K fr' H' b/\∀t∈pn,fr'.get t=f.get t) fr H nx:=by
  intro ops
  induction ops with
  | nil=>intro f fr H nx _ h k;exact ⟨k,h⟩
  | cons o r z=>
   intro f fr H nx j h k;have d:∀{v:AV},∀t∈pn,(qv fr o.dst v).get t=f.get t:=λ{v} t q=>by
    cases hdd:o.dst with
    | none=>exact h t q
    | some n=>
     have:n ∉ pn:=j o (.head _) n hdd;have i:n≠t:=λ e=>this (e▸q)
     rw [zOF,Fr.qu];simp only [i,i.symm,if_false];exact h t q
   have l:=λ{fr H nx}=>z f (fr:=fr) (H:=H) (nx:=nx) λ y x=>j y (.tail _ x)
   simp only [WN] at k ⊢;split at k
   ·obtain ⟨v,H',b,p,u⟩:=k;exact ⟨v,H',b,p,l d u⟩
   ·unfold zPi at k ⊢;split at k
    ·exact ⟨λ e=>let ⟨v,H',b,p,u⟩:=k.1 e;⟨v,H',b,p,l d u⟩,λ e=>l d (k.2 e)⟩
    ·exact l d k
    ·exact k.elim
 exact λ ops fr H nx j k=>key ops fr j (λ _ _=>rfl) k
theorem zNS (M:TbW P G tb) (hG:GPP G) (hm:zBe P G) {pn:List Nat} {ops:Array Oper} {Q:Exit->Act->World->Prop} {K:Sta->Prop}:∀(ts:List TOp) (p:List Oper) (k:Nat) {st:Sta},(∀j,p[j]? = ops[k+j]?)->ts.map TOp.o=p.map (zp P ops) →
  (∀o∈p,∀d,o.dst=some d->d<nt)->(∀t∈ts,opOK t.o.op=true)->(∀t∈ts,∀es,t.h=some es->∀e∈es,HOK P G e)->(∀t∈ts,∀n,t.o.dst=some n->n ∉ pn)->wops G tb ts K st->∀{E w a},Rs G nt Z0 B0 w0 dl E w a st->(∀D E' w' Y,K D->Rs G nt Z0 B0 w0 dl E' w' Y D->At pn a Y->Q .normal Y w')->wpOps P ops Q (List.range' k p.length) a w
 | [],[],k,st,_,_,_,_,_,_,h,E,w,a,r,I=>I st E w a h r .refl
 | [],o::p,k,st,_,J,_,_,_,_,h,E,w,a,r,I=>by cases J
 | t::ts,[],k,st,_,J,_,_,_,_,h,E,w,a,r,I=>by cases J
 | t::ts,o::p,k,st,W,J,l,T,O,F,h,E,w,a,r,I=>by
  simp only [Qd,List.cons.injEq] at J;obtain ⟨U,e2⟩:=J;have ho:ops[k]? = some o:=by have:=W 0;simpa using this.symm
  have S:∀j,p[j]? = ops[k+1+j]?:=λ j=>by have:=W (j+1);rw [List.getElem?_cons_succ] at this;rw [this];congr 1;omega
  have ab:∀o'∈p,∀d,o'.dst=some d->d<nt:=λ o' B=>l o' (.tail _ B)
  have R:∀f∈ts,opOK f.o.op=true:=λ f B=>T f (.tail _ B)
  have y:t.o.dst=o.dst:=by rw [U];exact zB8
  rw [QK,List.range'_succ,wpOps_cons];have ih:=λ st h E w a r=>zNS M hG hm (Q:=Q) (K:=K) ts p (k+1) (st:=st) S e2 ab R (λ f B=>O f (.tail _ B)) (λ f B=>F f (.tail _ B)) h (E:=E) (w:=w) (a:=a) r
  have u:∀{st:Sta},Rs G nt Z0 B0 w0 dl E w a st->wantx st.fr t.o.guard=some true->wopR G tb st t (λ v st=>∃x,WK v x/\wops G tb ts K (st.put t.o.dst x))->wpOp P ops Q k (wpOps P ops Q (List.range' (k+1) p.length)) a w:=by
   intro st r q h;obtain ⟨β,s,kp,df⟩:=r.out;have z:(zp P ops o).op≠.bad:=λ e=>by
    unfold wopR wopT at h;rw [U,e] at h;simp only [isFz] at h;split at h
    ·exact h
    ·exact h
   have c:Ctx P G nt Z0 B0 w0 dl E w a β st o t.o.op:=⟨s,kp,df,hG,hm,by rw [U];exact zEU z,l o (.head _),T t (.head _)⟩
   refine DRun.wpOp_of ho (zCw s.hf (by rw [←U];exact q) (.inr z)) (zR0 M c (O t (.head _)) h _ _ λ v D cv E' w' X r'=>?_)
   obtain ⟨x,aa,X⟩:=X;exact ih _ X E' w' _ (by rw [y];exact r'.uA aa) λ A E2 w2 a2 q1 q2 q3=>I A E2 w2 a2 q1 q2 ((At.put (by rw [←y];exact F t (.head _))).trans q3)
  have skip:∀{st:Sta},Rs G nt Z0 B0 w0 dl E w a st->wantx st.fr t.o.guard=some false->wops G tb ts K (st.put t.o.dst (.qf []))->wpOp P ops Q k (wpOps P ops Q (List.range' (k+1) p.length)) a w:=by
   intro st r q h;obtain ⟨β,s,kp,df⟩:=r.out;refine DRun.wpOp_not ho (zCw s.hf (by rw [←U];exact q) (.inl rfl)) ?_
   refine ih _ h E w _ ?_ λ A E2 w2 a2 q1 q2 q3=>I A E2 w2 a2 q1 q2 ((At.put (by rw [←y];exact F t (.head _))).trans q3)
   rw [y];exact r.skip (l o (.head _))
  simp only [wops] at h;split at h
  ·rename_i N;exact u r (by rw [N];rfl) h
  ·rename_i f b N;split at h
   ·rename_i c hc;unfold brT at h;rcases zDL h with ⟨rfl,i⟩ | ⟨rfl,i⟩
    ·have i:(match true==b with
      | true=>wopR G tb ⟨st.fr.put f (.bool true),st.H,st.V,st.m,st.mv⟩ t λ v st=>∃x,WK v x/\wops G tb ts K (st.put t.o.dst x)
      | false=>wops G tb ts K (Sta.put ⟨st.fr.put f (.bool true),st.H,st.V,st.m,st.mv⟩ t.o.dst (.qf []))):=i
     rw [qq hc] at i;have q:=zGO (b:=b) hc;rw [←N] at q;cases b with
     | true=>exact u (st:=⟨st.fr,st.H,st.V,st.m,st.mv⟩) r q i
     | false=>exact skip (st:=⟨st.fr,st.H,st.V,st.m,st.mv⟩) r q i
    ·have i:(match false==b with
      | true=>wopR G tb ⟨st.fr.put f (.bool false),st.H,st.V,st.m,st.mv⟩ t λ v st=>∃x,WK v x/\wops G tb ts K (st.put t.o.dst x)
      | false=>wops G tb ts K (Sta.put ⟨st.fr.put f (.bool false),st.H,st.V,st.m,st.mv⟩ t.o.dst (.qf []))):=i
     rw [qq hc] at i;have q:=zGO (b:=b) hc;rw [←N] at q;cases b with
     | true=>exact skip (st:=⟨st.fr,st.H,st.V,st.m,st.mv⟩) r q i
     | false=>exact u (st:=⟨st.fr,st.H,st.V,st.m,st.mv⟩) r q i
   ·rename_i hc;exact skip r (by rw [N];simp only [wantx,hc]) h
   ·exact h.elim
theorem zQP (z:TbW P G tb) (O:GPP G) (hm:zBe P G) (j:P.follows .mixedOrders=true) {pn:List Nat} {id:Nat} {ops:Array Oper} {ts:List TOp} {ds:List XD} {Q:Exit->Act->World->Prop} {K:Sta->Prop} (hc:zJ P (.region id ops true)=some (.draw (ts.map TOp.o) ds)) (l:zD8 nt (.draw (ts.map TOp.o) ds)=true)
  (J:∀t∈ts,opOK t.o.op=true) (M:∀t∈ts,∀n,t.o.dst=some n->n ∉ pn) (I:∀t∈pn,zPl st.fr t=true) (f:zNM (ts.map TOp.o) ds=true) (h:zCx G tb ts K st) (r:Rs G nt Z0 B0 w0 dl E w a st) (Y:∀v E' w' i,K v->Rs G nt Z0 B0 w0 dl E' w' i v->At pn a i->Q .normal i w'):(Code.region id ops true).wp P Q a w:=by
 obtain ⟨β,s,X,W⟩:=r.out;unfold zNM at f;rw [QA] at f;have b:=zM8 z O (V:=st.V) (mv:=st.mv) (K:=K) ts J s.qZ s.cH (λ p q=>s.qC p.1 (s.hr.qC p q)) h
 have b:=zVf (pn:=pn) _ (λ o ho=>by
  obtain ⟨t,A,e⟩:=Qf.1 ho;exact e▸M t A) b
 have u:∀t h o,st.fr.get t=some (.ptr h o)->h<st.m:=λ t h o B=>by
  obtain ⟨_,s,_,_⟩:=r.out;have:=s.qZ t _ B;cases this with
  | ptr _ _ hk=>exact hk
 obtain ⟨fr',H',aa,e,kd,d⟩:=zSQ zRY u f.1 f.2 b;obtain ⟨ab,hw⟩:=zRR (zT1 z O) hm j hc l e;refine hw E w a Q dl s.hr s.hf s.hg (λ h F D f=>by have:=s.qC h f;omega) W λ E' w' i S R N k4=>?_
 have:=s.steps S R N kd.cf kd.cH;refine Y _ E' w' i kd.k ⟨β,this.1,X.trans this.2,k4⟩ λ t A=>?_
 have q:=I t A;unfold zPl at q;split at q
 ·rename_i h off B;have F:=s.hf.get t _ B;have D:=N.get t _ ((d t A).trans B);generalize a.tmps.getD t undef=x at F;generalize i.tmps.getD t undef=y at D;cases F with
  | ptr _ _ T=>
   cases D with
   | ptr _ _ U=>rw [R.agree h T]
 ·cases q
theorem zMV (N:TbW P G tb) (W:GPP G) (hm:zBe P G) {pn:List Nat} {ops:Array Oper} {i:Nat} {o:Oper} {t:TOp} (ho:ops[i]? = some o) (y:t.o=zp P ops o) (O:∀d,o.dst=some d->d<nt) (M:opOK t.o.op=true) (D:∀es,t.h=some es->∀e∈es,HOK P G e) (A:∀n,t.o.dst=some n->n ∉ pn)
  {k:Sta->Prop} (h:zEa G tb st t k) (r:Rs G nt Z0 B0 w0 dl E w a st) {K:Act->World->Prop} {Q:Exit->Act->World->Prop} (T:∀x E' w' I,k x->Rs G nt Z0 B0 w0 dl E' w' I x->At pn a I->K I w'):wpOp P ops Q i K a w:=by
 have q:t.o.dst=o.dst:=by rw [y];exact zB8
 have l:∀{st:Sta},Rs G nt Z0 B0 w0 dl E w a st->wantx st.fr t.o.guard=some true->wopT G tb st t (λ v st=>∃p,WK v p/\k (st.put t.o.dst p))->wpOp P ops Q i K a w:=by
  intro st r j h;obtain ⟨β,s,S,R⟩:=r.out;have u:(zp P ops o).op≠.bad:=λ e=>by
   unfold wopT at h;split at h
   ·rw [y,e] at h;exact h
   ·rw [y,e] at h;exact h
  have c:Ctx P G nt Z0 B0 w0 dl E w a β st o t.o.op:=⟨s,S,R,W,hm,by rw [y];exact zEU u,O,M⟩
  refine DRun.wpOp_of ho (zCw s.hf (by rw [←y];exact j) (.inr u)) (zNR N c D h _ _ λ v x X E' w' F U=>?_)
  obtain ⟨p,J,F⟩:=F;exact T _ E' w' _ F (by rw [q];exact U.uA J) (At.put (by rw [←q];exact A))
 have skip:∀{st:Sta},Rs G nt Z0 B0 w0 dl E w a st->wantx st.fr t.o.guard=some false->k (st.put t.o.dst (.qf []))->wpOp P ops Q i K a w:=by
  intro st r j h;obtain ⟨β,s,S,R⟩:=r.out;refine DRun.wpOp_not ho (zCw s.hf (by rw [←y];exact j) (.inl rfl)) ?_
  refine T _ E w _ h ?_ (At.put (by rw [←q];exact A))
  rw [q];exact r.skip O
 simp only [zEa] at h;split at h
 ·rename_i z;exact l r (by rw [z];rfl) h
 ·rename_i B b z;split at h
  ·rename_i c hc;unfold brT at h;rcases zDL h with ⟨rfl,f⟩ | ⟨rfl,f⟩
   ·have f:(match true==b with
     | true=>wopT G tb ⟨st.fr.put B (.bool true),st.H,st.V,st.m,st.mv⟩ t λ v st=>∃p,WK v p/\k (st.put t.o.dst p)
     | false=>k (Sta.put ⟨st.fr.put B (.bool true),st.H,st.V,st.m,st.mv⟩ t.o.dst (.qf []))):=f
    rw [qq hc] at f;have j:=zGO (b:=b) hc;rw [←z] at j;cases b with
    | true=>exact l (st:=⟨st.fr,st.H,st.V,st.m,st.mv⟩) r j f
    | false=>exact skip (st:=⟨st.fr,st.H,st.V,st.m,st.mv⟩) r j f
   ·have f:(match false==b with
     | true=>wopT G tb ⟨st.fr.put B (.bool false),st.H,st.V,st.m,st.mv⟩ t λ v st=>∃p,WK v p/\k (st.put t.o.dst p)
     | false=>k (Sta.put ⟨st.fr.put B (.bool false),st.H,st.V,st.m,st.mv⟩ t.o.dst (.qf []))):=f
    rw [qq hc] at f;have j:=zGO (b:=b) hc;rw [←z] at j;cases b with
    | true=>exact skip (st:=⟨st.fr,st.H,st.V,st.m,st.mv⟩) r j f
    | false=>exact l (st:=⟨st.fr,st.H,st.V,st.m,st.mv⟩) r j f
  ·rename_i hc;exact skip r (by rw [z];simp only [wantx,hc]) h
  ·exact h.elim
theorem zRe {ops:Array Oper} {ds:List XD} (aa:ds.length=ops.size) (ha:DRun.Ahead ops ds) (W:DRun.Down ops) {Q:Exit->Act->World->Prop} (I:Nat->(Nat->Bool)->Act->World->Prop) (hQ:∀L a w,(∀j,j<ops.size->L j=true)->I 0 L a w->Q .normal a w)
  (hs:∀n L a w i o d,I (n+1) L a w->ops[i]? = some o->ds[i]? = some d->L i=false->(∀j,d.qc.testBit j=true->L j=true)->wpOp P ops Q i (λ R w'=>I n (λ j=>L j||j==i) R w') a w):
  ∀(fuel:Nat) (listed:Array Bool) (a:Act) (w:World),listed.size=ops.size->listed.toList.count false=fuel →
   (∀(k:Nat) (D:XD),listed.getD k false=true->ds[k]? = some D->∀j,D.qc.testBit j=true->listed.getD j false=true) →
   I fuel (λ j=>listed.getD j false) a w->wpAny P .any ops Q fuel listed a w:=by
 have done:∀(listed:Array Bool),listed.size=ops.size->Region.ready .any ops listed=[]->∀j,j<ops.size->listed.getD j false=true:=by
  intro listed b F j
  induction j using Nat.strongRecOn with
  | _ j X=>
   intro l;cases hl:listed.getD j false with
   | true=>rfl
   | false=>
    have p:j<listed.size:=b▸l
    have:j∈Region.ready .any ops listed:=by
     rw [mem_ready];refine ⟨?_,ops[j],Qe l,λ e O N=>?_⟩
     ·simpa [p] using hl
     ·have:=W j _ (Qe l) e O N;exact X e.on this (by omega)
    rw [F] at this;cases this
 intro fuel
 induction fuel with
 | zero=>
  intro listed a w b hc z v;refine ⟨?_,hQ _ a w (λ j l=>by
   have p:j<listed.size:=b▸l
   cases hl:listed.getD j false with
   | true=>rfl
   | false=>
    have A:listed[j]=false:=by simpa [p] using hl
    have:false∈listed.toList:=by rw [←A];simp
    have:=List.count_pos_iff.2 this;omega) v⟩
  cases F:Region.ready .any ops listed with
  | nil=>rfl
  | cons x r=>
   have hx:x∈Region.ready .any ops listed:=by rw [F];exact .head _
   obtain ⟨T,o,B,_⟩:=mem_ready.1 hx;have u:=(Array.getElem?_eq_some_iff.1 B).1;have p:x<listed.size:=b▸u
   have A:listed[x]=false:=by simpa [p] using T
   have:false∈listed.toList:=by rw [←A];simp
   have:=List.count_pos_iff.2 this;omega
 | succ fuel X=>
  intro listed a w b hc z v;refine ⟨λ F=>?_,λ i hi=>?_⟩
  ·have h0:=done listed b F;have:false∈listed.toList:=List.count_pos_iff.1 (by omega)
   obtain ⟨j,l,e⟩:=List.getElem_of_mem this;have Y:j<ops.size:=by rw [←b];simpa using l
   have U:=h0 j Y;have p:j<listed.size:=by simpa using l
   have e:listed[j]=false:=by simpa using e
   simp [p,e] at U
  ·obtain ⟨T,o,B,A⟩:=mem_ready.1 hi;have u:=(Array.getElem?_eq_some_iff.1 B).1;have f:i<listed.size:=b▸u
   have hL:listed.getD i false=false:=by simpa [f] using T
   have J:∀j,(listed.setIfInBounds i true).getD j false=(listed.getD j false||j==i):=by
    intro j;by_cases l:i=j
    ·subst l;simp [f]
    ·have:(j==i)=false:=by simp;exact λ h=>l h.symm
     simp only [Array.getD_eq_getD_getElem?,Array.getElem?_setIfInBounds,if_neg l,this,Bool.or_false]
   have q:∀(d:XD),ds[i]? = some d->∀j,d.qc.testBit j=true->listed.getD j false=true:=by
    intro d M j l;obtain ⟨e,O,N,h | ⟨d',U,S⟩⟩:=ha i o d B M j l
    ·rw [h];exact A e O N
    ·exact z e.on d' (A e O N) U j S
   obtain ⟨d,M⟩:∃d,ds[i]? = some d:=⟨ds[i],QE (by omega)⟩
   have:=hs fuel _ a w i o d v B M hL (q d M);refine wpOp_mono (λ R w' h=>?_) this
   refine X _ R w' (by simpa using b) ?_ ?_ ?_
   ·have S:(listed.setIfInBounds i true).toList=listed.toList.set i true:=by simp
    rw [S,List.count_set (by simpa using f)]
    have h5:listed.toList[i]'(by simpa using f)=false:=by simpa [f] using hL
    have h6:0<listed.toList.count false:=List.count_pos_iff.2 (by rw [←h5];exact Qn _)
    simp only [h5];simp;simp at h6 hc;omega
   ·intro k D y K j l;rw [J] at y ⊢;rw [Bool.or_eq_true,beq_iff_eq] at y;rcases y with y | y
    ·rw [z k D y K j l];rfl
    ·subst y;rw [q D K j l];rfl
   ·have e:(λ j=>(listed.setIfInBounds i true).getD j false)=λ j=>listed.getD j false||j==i:=funext J
    rw [e];exact h
theorem zP3 {ops:Array Oper} (z:zMc 0 ops.toList=true):(zipD ops P ops.toList (Region.before ops).toList).length=ops.size/\DRun.Ahead ops (zipD ops P ops.toList (Region.before ops).toList)/\DRun.Down ops:=by
 obtain ⟨v,M⟩:=zMQ (ops:=ops);have p:∀{j:Nat} {d:XD},(zipD ops P ops.toList (Region.before ops).toList)[j]? = some d->(Region.before ops)[j]? = some d.qc:=λ h=>by
  obtain ⟨m,a,b⟩:=zLw h;rw [b];simpa using a
 have f:∀(l:List Oper) (i:List Nat),l.length=i.length->(zipD ops P l i).length=l.length:=by
  intro l
  induction l with
  | nil=>intro i _;simp [zipD]
  | cons o l O=>intro i n;cases i with
   | nil=>simp at n
   | cons m i=>simp [zipD,O i (by simpa using n)]
 refine ⟨by rw [f _ _ (by simp [v])];simp,?_,λ j o x e u q=>?_⟩
 ·intro j o d x F k I;obtain ⟨m,K,c2⟩:=M j o x;have:=p F;rw [K] at this;cases this;obtain ⟨e,u,q,h | ⟨N,D,J⟩⟩:=c2 k I
  ·exact ⟨e,u,q,.inl h⟩
  ·refine ⟨e,u,q,.inr ?_⟩
   have B:e.on<(zipD ops P ops.toList (Region.before ops).toList).length:=by
    rw [f _ _ (by simp [v])]
    have:=(Array.getElem?_eq_some_iff.1 D).1
    simpa [v] using this
   refine ⟨_,QE B,?_⟩
   have A:=p (QE B);have y:(Region.before ops)[e.on]? = some N:=D;rw [y] at A;rw [←Qu A];exact J
 ·have:=zKC z j o (by simpa using x) e u q
  omega
theorem zON {F:Nat->TOp->Prop} {listed:Nat}:∀{ts:List TOp} {ds:List XD} {i0:Nat},zMi F listed i0 ts ds->∀(i:Nat) t d,ts[i]? = some t->ds[i]? = some d->listed.testBit (i0+i)=false->d.qc &&& listed=d.qc->F (i0+i) t
 | [],ds,i0,h,i,t,d,f,_,_,_=>by simp at f
 | t0::ts,[],i0,h,i,t,d,_,b,_,_=>by simp at b
 | t0::ts,d0::ds,i0,h,i,t,d,f,b,l,n=>by
  simp only [zMi] at h;cases i with
  | zero=>
   simp only [List.getElem?_cons_zero,QJ] at f b;subst f;subst b;have:(!listed.testBit i0&&Nat.beq (d0.qc &&& listed) d0.qc)=true:=by
    rw [n];simp only [Nat.add_zero] at l;rw [l,Nat.beq_refl];rfl
   rw [this] at h;exact h.1
  | succ i=>
   have j:zMi F listed (i0+1) ts ds:=by
    split at h
    ·exact h.2
    ·exact h
   have:=zON j i t d (by simpa using f) (by simpa using b) (by rw [←l];congr 1;omega) n
   have e:i0+(i+1)=i0+1+i:=by omega
   rw [e];exact this
theorem zP4 (ad:TbW P G tb) (hG:GPP G) (hm:zBe P G) (O:P.follows .mixedOrders=true) {pn:List Nat} {id:Nat} {ops:Array Oper} {ts:List TOp} {ds:List XD} {Q:Exit->Act->World->Prop} {K:Sta->Prop} (hc:zJ P (.region id ops true)=some (.draw (ts.map TOp.o) ds)) (J:zD8 nt (.draw (ts.map TOp.o) ds)=true)
  (ac:∀t∈ts,opOK t.o.op=true) (ai:∀t∈ts,∀es,t.h=some es->∀e∈es,HOK P G e) (aj:∀t∈ts,∀n,t.o.dst=some n->n ∉ pn) (h:zPk G tb ts ds K ts.length 0 st) (r:Rs G nt Z0 B0 w0 dl E w a st) (hQ:∀p E' w' y,K p->Rs G nt Z0 B0 w0 dl E' w' y p->At pn a y->Q .normal y w'):(Code.region id ops true).wp P Q a w:=by
 simp only [zJ] at hc;split at hc
 rotate_left
 ·cases hc
 rename_i ab;split at hc
 rotate_left
 ·cases hc
 simp only [QJ,XC.draw.injEq] at hc;obtain ⟨e1,e2⟩:=hc;obtain ⟨hl,W,b⟩:=zP3 (P:=P) ab;rw [e2] at hl W;have M:ts.length=ops.size:=by
  have:=congrArg List.length e1
  simpa using this.symm
 have Y:∀(i:Nat) o,ops[i]? = some o->∃t,ts[i]? = some t/\t.o=zp P ops o:=λ i o B=>by
  have v:(ops.toList.map (zp P ops))[i]? = some (zp P ops o):=by simp [B]
  rw [e1,Qj] at v;cases A:ts[i]? with
  | none=>rw [A] at v;cases v
  | some t=>rw [A] at v;exact ⟨t,rfl,by simpa using v⟩
 refine wp_region_any O ?_
 have r':Rs G nt Z0 B0 w0 dl E { w with drawn:=w.drawn+1 } a st:=by
  obtain ⟨β,s,kp,df⟩:=r.out;obtain ⟨d1,d2⟩:=zGq (w':={ w with drawn:=w.drawn+1 }) s.hr ⟨rfl,rfl,rfl,rfl⟩ st.m
  have:=s.steps d1 d2 ⟨s.hf.size,λ t u A=>d2.vr s.hr (s.hf.get t u A)⟩ s.qZ s.cH
  exact ⟨β,this.1,kp.trans this.2,df⟩
 refine zRe hl W b (λ n L y w'=>∃listed st E,(∀j,j<ops.size->L j=listed.testBit j)/\(∀j,ops.size<=j->listed.testBit j=false)/\zPk G tb ts ds K n listed st/\Rs G nt Z0 B0 w0 dl E w' y st/\At pn a y) (λ L y w' _ ⟨listed,p,E',_,_,z,hr,F⟩=>hQ p E' w' y z hr F) ?_ ops.size _ a _ (by simp) (by simp) ?_ ⟨0,st,E,λ j x=>by simp [x],λ j _=>by simp,M▸h,r',.refl⟩
 ·rintro n L y w' i o d ⟨listed,p,E',hL,hhi,z,hr,F⟩ B I hLi hpre
  have R:=(Array.getElem?_eq_some_iff.1 B).1;obtain ⟨t,A,et⟩:=Y i o B;have l:=QF A;have ah:listed.testBit i=false:=(hL i R).symm.trans hLi;have hp:d.qc &&& listed=d.qc:=by
   apply Nat.eq_of_testBit_eq;intro j;rw [Nat.testBit_and];cases x:d.qc.testBit j with
   | false=>rfl
   | true=>
    have v:=hpre j x;have aa:j<ops.size:=by
     obtain ⟨e,U,T,h2 | ⟨d',h3,h4⟩⟩:=W i o d B I j x
     ·have:=b i o B e U T;omega
     ·have low:∀(i:Nat) (d:XD) (k:Nat),ds[i]? = some d->d.qc.testBit k=true->k<i:=by
       intro i
       induction i using Nat.strongRecOn with
       | _ i ih=>
        intro d k I z;have R:i<ops.size:=by have:=(QD.1 I).1;omega
        obtain ⟨e,U,T,h | ⟨d',h3,h4⟩⟩:=W i _ d (Qe R) I k z
        ·rw [h];exact b i _ (Qe R) e U T
        ·have h5:=b i _ (Qe R) e U T;have:=ih e.on h5 d' k h3 h4;omega
      have:=low i d j I x;omega
    rw [←hL j aa,v];rfl
  have q:=zON (i0:=0) z i t d A I (by rw [QV];exact ah) hp
  rw [QV] at q;refine zMV ad hG hm B et (λ dd af=>?_) (ac t l) (ai t l) (aj t l) q hr λ ag E2 w2 a2 ae X N=>⟨listed ||| 2 ^ i,ag,E2,λ j x=>?_,λ j x=>?_,ae,X,F.trans N⟩
  ·have v:=QG.1 J _ (List.mem_map_of_mem (f:=TOp.o) l);rw [et,zB8,af] at v
   simpa [Ql] using v
  ·rw [Nat.testBit_or,←hL j x,Nat.testBit_two_pow];congr 1;by_cases D:i=j
   ·subst D;simp
   ·have:¬j=i:=λ h=>D h.symm
    simp [D,this]
  ·rw [Nat.testBit_or,hhi j x,Nat.testBit_two_pow];have:¬i=j:=by omega
   simp [this]
 ·intro k dk z;by_cases S:k<ops.size
  ·simp [S] at z
  ·simp [S] at z
end
end Go.Sy
namespace Go.Sy
theorem zMW:∀{ts:List TOp} {ds:List XD},zGR ts ds=true->∀(i:Nat) t d,ts[i]? = some t->ds[i]? = some d->(∀x∈zIp t.o.op.qb,x∈d.looks)/\∀g b,t.o.guard=some (g,b)->g∈d.looks
 | [],ds,h,i,t,d,j,f=>by simp at j
 | o::r,[],h,i,t,d,j,f=>by simp at f
 | o::r,d0::ds,h,i,t,d,j,f=>by
  simp only [zGR,QA] at h;have mem:∀{n:Nat} {l:List Nat},inN n l=true->n∈l:=by
   intro n l
   induction l with
   | nil=>intro h;cases h
   | cons a r u=>
    intro h;simp only [inN] at h;split at h
    ·rename_i e;rw [zb e];exact .head _
    ·exact .tail _ (u h)
  cases i with
  | zero=>
   simp at j f;subst j;subst f;refine ⟨λ x q=>mem (QG.1 h.1.1 x q),λ g b p=>?_⟩
   have:=h.1.2;rw [p] at this;exact mem this
  | succ i=>exact zMW h.2 i t d (by simpa using j) (by simpa using f)
structure SeqQ (ts:List TOp) (ds:List XD) (i0:Nat) (bars hard rds:List Nat):Prop where
 b:∀(i:Nat) t d,ts[i]? = some t->ds[i]? = some d->2<=clsQ t->(∀c∈bars,d.qc.testBit c=true)/\∀(j:Nat) t',j<i->ts[j]? = some t'->2<=clsQ t'->d.qc.testBit (i0+j)=true
 h:∀(i:Nat) t d,ts[i]? = some t->ds[i]? = some d->clsQ t=1->(∀c∈hard,d.qc.testBit c=true)/\∀(j:Nat) t',j<i->ts[j]? = some t'->3<=clsQ t'->d.qc.testBit (i0+j)=true
 r:∀(i:Nat) t d,ts[i]? = some t->ds[i]? = some d->3<=clsQ t->(∀c∈rds,d.qc.testBit c=true)/\∀(j:Nat) t',j<i->ts[j]? = some t'->clsQ t'=1->d.qc.testBit (i0+j)=true
theorem zHV:∀{ts:List TOp} {ds:List XD} {i0:Nat} {x y B:List Nat},seqQ i0 x y B ts ds=true->SeqQ ts ds i0 x y B
 | [],ds,i0,x,y,B,h=>⟨λ i t d n=>by simp at n,λ i t d n=>by simp at n,λ i t d n=>by simp at n⟩
 | t0::r,[],i0,x,y,B,h=>by cases h
 | t0::r,d0::ds,i0,x,y,B,h=>by
  have A:∀j,i0+(j+1)=i0+1+j:=λ j=>by omega
  simp only [seqQ] at h;split at h
  ·rename_i hc;have q:=zHV h;refine ⟨λ i t d n o l=>?_,λ i t d n o l=>?_,λ i t d n o l=>?_⟩
   ·cases i with
    | zero=>simp at n;subst n;rw [hc] at l;omega
    | succ i=>
     obtain ⟨q1,v⟩:=q.b i t d (by simpa using n) (by simpa using o) l
     refine ⟨q1,λ j u z f e=>?_⟩
     cases j with
     | zero=>simp at f;subst f;rw [hc] at e;omega
     | succ j=>rw [A];exact v j u (by omega) (by simpa using f) e
   ·cases i with
    | zero=>simp at n;subst n;rw [hc] at l;omega
    | succ i=>
     obtain ⟨q1,v⟩:=q.h i t d (by simpa using n) (by simpa using o) l
     refine ⟨q1,λ j u z f e=>?_⟩
     cases j with
     | zero=>simp at f;subst f;rw [hc] at e;omega
     | succ j=>rw [A];exact v j u (by omega) (by simpa using f) e
   ·cases i with
    | zero=>simp at n;subst n;rw [hc] at l;omega
    | succ i=>
     obtain ⟨q1,v⟩:=q.r i t d (by simpa using n) (by simpa using o) l
     refine ⟨q1,λ j u z f e=>?_⟩
     cases j with
     | zero=>simp at f;subst f;rw [hc] at e;omega
     | succ j=>rw [A];exact v j u (by omega) (by simpa using f) e
  ·rename_i hc;rw [QA] at h;have q:=zHV h.2;refine ⟨λ i t d n o l=>?_,λ i t d n o l=>?_,λ i t d n o l=>?_⟩
   ·cases i with
    | zero=>simp at n;subst n;rw [hc] at l;omega
    | succ i=>
     obtain ⟨q1,v⟩:=q.b i t d (by simpa using n) (by simpa using o) l
     refine ⟨q1,λ j u z f e=>?_⟩
     cases j with
     | zero=>simp at f;subst f;rw [hc] at e;omega
     | succ j=>rw [A];exact v j u (by omega) (by simpa using f) e
   ·cases i with
    | zero=>
     simp at n o;subst n;subst o;exact ⟨λ c p=>QG.1 h.1 c p,λ j u z=>by omega⟩
    | succ i=>
     obtain ⟨q1,v⟩:=q.h i t d (by simpa using n) (by simpa using o) l
     refine ⟨q1,λ j u z f e=>?_⟩
     cases j with
     | zero=>simp at f;subst f;rw [hc] at e;omega
     | succ j=>rw [A];exact v j u (by omega) (by simpa using f) e
   ·cases i with
    | zero=>simp at n;subst n;rw [hc] at l;omega
    | succ i=>
     obtain ⟨q1,v⟩:=q.r i t d (by simpa using n) (by simpa using o) l
     refine ⟨λ c p=>q1 c (.tail _ p),λ j u z f e=>?_⟩
     cases j with
     | zero=>exact q1 i0 (.head _)
     | succ j=>rw [A];exact v j u (by omega) (by simpa using f) e
  ·rename_i hc;rw [QA] at h;have q:=zHV h.2;refine ⟨λ i t d n o l=>?_,λ i t d n o l=>?_,λ i t d n o l=>?_⟩
   ·cases i with
    | zero=>
     simp at n o;subst n;subst o;exact ⟨λ c p=>QG.1 h.1 c p,λ j u z=>by omega⟩
    | succ i=>
     obtain ⟨q1,v⟩:=q.b i t d (by simpa using n) (by simpa using o) l
     refine ⟨λ c p=>q1 c (.tail _ p),λ j u z f e=>?_⟩
     cases j with
     | zero=>exact q1 i0 (.head _)
     | succ j=>rw [A];exact v j u (by omega) (by simpa using f) e
   ·cases i with
    | zero=>simp at n;subst n;rw [hc] at l;omega
    | succ i=>
     obtain ⟨q1,v⟩:=q.h i t d (by simpa using n) (by simpa using o) l
     refine ⟨q1,λ j u z f e=>?_⟩
     cases j with
     | zero=>simp at f;subst f;rw [hc] at e;omega
     | succ j=>rw [A];exact v j u (by omega) (by simpa using f) e
   ·cases i with
    | zero=>simp at n;subst n;rw [hc] at l;omega
    | succ i=>
     obtain ⟨q1,v⟩:=q.r i t d (by simpa using n) (by simpa using o) l
     refine ⟨q1,λ j u z f e=>?_⟩
     cases j with
     | zero=>simp at f;subst f;rw [hc] at e;omega
     | succ j=>rw [A];exact v j u (by omega) (by simpa using f) e
  ·rename_i F D I;simp only [QA] at h;have q:=zHV h.2;refine ⟨λ i t d n o l=>?_,λ i t d n o l=>?_,λ i t d n o l=>?_⟩
   ·cases i with
    | zero=>
     simp at n o;subst n;subst o;exact ⟨λ c p=>QG.1 h.1.1 c p,λ j u z=>by omega⟩
    | succ i=>
     obtain ⟨q1,v⟩:=q.b i t d (by simpa using n) (by simpa using o) l
     refine ⟨λ c p=>q1 c (.tail _ p),λ j u z f e=>?_⟩
     cases j with
     | zero=>exact q1 i0 (.head _)
     | succ j=>rw [A];exact v j u (by omega) (by simpa using f) e
   ·cases i with
    | zero=>simp at n;subst n;exact absurd l D
    | succ i=>
     obtain ⟨q1,v⟩:=q.h i t d (by simpa using n) (by simpa using o) l
     refine ⟨λ c p=>q1 c (.tail _ p),λ j u z f e=>?_⟩
     cases j with
     | zero=>exact q1 i0 (.head _)
     | succ j=>rw [A];exact v j u (by omega) (by simpa using f) e
   ·cases i with
    | zero=>
     simp at n o;subst n;subst o;exact ⟨λ c p=>QG.1 h.1.2 c p,λ j u z=>by omega⟩
    | succ i=>
     obtain ⟨q1,v⟩:=q.r i t d (by simpa using n) (by simpa using o) l
     refine ⟨q1,λ j u z f e=>?_⟩
     cases j with
     | zero=>simp at f;subst f;exact absurd e D
     | succ j=>rw [A];exact v j u (by omega) (by simpa using f) e
structure SameQ (fr fr':Fr) (s0 s:Sta):Prop where
 H:s.H=s0.H
 V:s.V=s0.V
 m:s.m=s0.m
 mv:s.mv=s0.mv
 f0:∀t,s0.fr.get t=fr.get t
 f:∀t,s.fr.get t=fr'.get t
section
variable {G:Cx} {tb:TblS} {fr fr':Fr} {H H2:Heap} {V V2:Vecs} {m m2 mv mv2:Nat} {C C':AV->Sta->Prop}
theorem zWn {o o':XO} (e:xoS G ze fr H m o=xoS G ze fr' H m o') (d:∀v b s,C v b->SameQ fr fr' b s->C' v s) (h:WXd ⟨fr,H,V,m,mv⟩ (xoS G ze fr H m o) C):WXd ⟨fr',H,V,m,mv⟩ (xoS G ze fr' H m o') C':=by
 rw [←e];unfold WXd at h ⊢;split at h
 ·exact d _ _ _ h ⟨rfl,rfl,rfl,rfl,λ _=>rfl,λ _=>rfl⟩
 ·exact h.elim
theorem zHK {n:Int} {lo d:Option AV} {k e:Int->Int->Prop} (h:zHT n lo d k) (b:∀l u,k l u->e l u):zHT n lo d e:=by
 cases lo with
 | none=>
  cases d with
  | none=>exact b _ _ h
  | some u=>cases u <;> first | exact ⟨h.1,b _ _ h.2⟩ | exact h.elim
 | some l=>
  cases l with
  | int kl l=>
   cases d with
   | none=>exact ⟨h.1,b _ _ h.2⟩
   | some u=>cases u <;> first | exact ⟨h.1,b _ _ h.2⟩ | exact h.elim
  | _=>exact h.elim
theorem zD3 {n:Int}:∀{l:Nat} {k b:Nat->Prop},zGP n l k->(∀m,k m->b m)->zGP n l b
 | 0,k,b,h,d=>trivial
 | l+1,k,b,h,d=>⟨zD3 h.1 d,λ e=>d _ (h.2 e)⟩
theorem zGU {f:Nat} {args:List AV} {k d:AV->Prop}:∀{tb:TblS},zFw tb f args k->(∀v,k v->d v)->zFw tb f args d
 | [],h,_=>h.elim
 | s::r,h,b=>by
  simp only [zFw] at h ⊢;cases e:Nat.beq f s.1 with
  | true=>
   rw [e] at h;refine ⟨h.1,?_⟩
   have:=h.2;cases hv:s.2.2 args with
   | some v=>rw [hv] at this;exact b _ this
   | none=>rw [hv] at this;exact this.elim
  | false=>
   rw [e] at h;exact zGU h b
theorem zP5 {f:Nat} {vs:List AV} (d:∀v b s,C v b->SameQ fr fr' b s->C' v s) (h:wcall tb f vs ⟨fr,H,V,m,mv⟩ C):wcall tb f vs ⟨fr',H,V,m,mv⟩ C':=by
 have mk:∀{v:AV},C v ⟨fr,H,V,m,mv⟩->C' v ⟨fr',H,V,m,mv⟩:=λ h=>d _ _ _ h ⟨rfl,rfl,rfl,rfl,λ _=>rfl,λ _=>rfl⟩
 unfold wcall at h ⊢;cases hh:vs.any (hasH 8) with
 | false=>rw [hh] at h;exact zGU h λ v h=>mk h
 | true=>
  rw [hh] at h;simp only at h ⊢;cases hm:zw (frz H V 8) vs with
  | none=>rw [hm] at h;exact h.elim
  | some args=>
   rw [hm] at h;refine zGU h λ v h=>?_
   cases hs:zCh 8 v with
   | true=>rw [hs] at h;exact mk h
   | false=>rw [hs] at h;exact h.elim
theorem zWo {o:XO} {D:List K} (d:∀x∈o.qb,x.ev G fr=x.ev G fr') (I:∀v U s,C v U->SameQ fr fr' U s->C' v s) (h:wop G tb ⟨fr,H,V,m,mv⟩ o D C):wop G tb ⟨fr',H,V,m,mv⟩ o D C':=by
 have mk:∀{v:AV} {Y:Heap} {X:Vecs} {O M:Nat},C v ⟨fr,Y,X,O,M⟩->C' v ⟨fr',Y,X,O,M⟩:=λ h=>I _ _ _ h ⟨rfl,rfl,rfl,rfl,λ _=>rfl,λ _=>rfl⟩
 have e:∀{o':XO},(∀x∈o'.qb,x.ev G fr=x.ev G fr')->WXd ⟨fr,H,V,m,mv⟩ (xoS G ze fr H m o') C->WXd ⟨fr',H,V,m,mv⟩ (xoS G ze fr' H m o') C':=λ d h=>zWn (by rw [←zGK,←zGK];exact zPO d) I h
 cases o <;> try (exact h.elim)
 all_goals try (exact e d h)
 case qY x i l sz ag=>
  cases D with
  | nil=>exact e d h
  | cons T D=>
   simp only [wop] at h ⊢;rw [←d i (by simp [XO.qb])]
   split at h
   ·exact ⟨h.1,zD3 h.2 λ O Q=>e (λ y j=>by
     simp only [XO.qb,QI,Qc] at j;rcases j with rfl | rfl
     ·exact d _ (by simp [XO.qb])
     ·rfl) Q⟩
   ·exact h.elim
 case qy x i l sz=>
  cases D with
  | nil=>exact e d h
  | cons T D=>
   simp only [wop] at h ⊢;rw [←d i (by simp [XO.qb])]
   split at h
   ·exact ⟨h.1,zD3 h.2 λ O Q=>e (λ y j=>by
     simp only [XO.qb,QI,Qc] at j;rcases j with rfl | rfl
     ·exact d _ (by simp [XO.qb])
     ·rfl) Q⟩
   ·exact h.elim
 case pick c a b=>
  have p:=d c (by simp [XO.qb])
  have F:=d a (by simp [XO.qb])
  have e3:=d b (by simp [XO.qb])
  simp only [wop] at h ⊢;rw [←p];split at h
  ·rename_i W J;split at h
   ·rename_i n;have S:fr.get n=some (.bool W):=J;have N:fr'.get n=some (.bool W):=p.symm.trans J;rcases zDL h with ⟨rfl,h⟩ | ⟨rfl,h⟩
    ·simp only [Br,←F];cases hv:a.ev G fr with
     | some v=>
      rw [hv] at h;exact I _ _ _ h ⟨rfl,rfl,rfl,rfl,λ t=>by simp only [qq S],λ t=>by simp only [qq N]⟩
     | none=>rw [hv] at h;exact h.elim
    ·simp only [Br,←e3];cases hv:b.ev G fr with
     | some v=>
      rw [hv] at h;exact I _ _ _ h ⟨rfl,rfl,rfl,rfl,λ t=>by simp only [qq S],λ t=>by simp only [qq N]⟩
     | none=>rw [hv] at h;exact h.elim
   ·rename_i R;cases c with
    | t n=>exact absurd rfl (R n)
    | _=>exact e d h
  ·exact h.elim
 case bin op x y=>
  have p:=d x (by simp [XO.qb])
  have F:=d y (by simp [XO.qb])
  have B:=λ h=>e (o':=.bin op x y) d h
  simp only [wop] at h ⊢;rw [←p,←F];split at h
  ·rename_i s1 hx;cases op with
   | add=>
    simp only at h ⊢;split at h
    ·exact ⟨h.1,mk h.2⟩
    ·exact h.elim
   | _=>exact B h
  ·rename_i k1 n1 hx;cases op with
   | quo=>
    simp only at h ⊢;split at h
    ·split at h
     ·exact ⟨h.1,mk h.2⟩
     ·exact h.elim
    ·exact h.elim
   | rem=>
    simp only at h ⊢;split at h
    ·split at h
     ·exact ⟨h.1,mk h.2⟩
     ·exact h.elim
    ·exact h.elim
   | shl=>
    simp only at h ⊢;split at h
    ·exact ⟨h.1,mk h.2⟩
    ·exact h.elim
   | shr=>
    simp only at h ⊢;split at h
    ·exact ⟨h.1,mk h.2⟩
    ·exact h.elim
   | _=>exact B h
  ·exact h.elim
 case wC neg kd x y=>
  simp only [wop] at h ⊢;rw [←d x (by simp [XO.qb]),←d y (by simp [XO.qb])]
  split at h
  ·split at h
   ·split at h
    ·exact mk h
    ·exact h.elim
   ·exact h.elim
  ·exact h.elim
 case wF x i=>
  simp only [wop] at h ⊢;rw [←d x (by simp [XO.qb]),←d i (by simp [XO.qb])]
  split at h
  ·split at h
   ·obtain ⟨c,A,q⟩:=h;exact ⟨c,A,mk q⟩
   ·exact h.elim
  ·exact h.elim
 case wA x lo hi=>
  have p:evo G fr lo=evo G fr' lo:=zCB λ y j=>d y (by simp [XO.qb,j])
  have F:evo G fr hi=evo G fr' hi:=zCB λ y j=>d y (by simp [XO.qb,j])
  simp only [wop] at h ⊢;rw [←d x (by simp [XO.qb]),←p,←F]
  split at h
  ·split at h
   ·split at h
    ·exact zHK h λ l u h=>mk h
    ·exact h.elim
   ·exact h.elim
  ·exact h.elim
 case wu x lo hi mx sz=>
  have p:evo G fr lo=evo G fr' lo:=zCB λ y j=>d y (by simp [XO.qb,j])
  have F:evo G fr hi=evo G fr' hi:=zCB λ y j=>d y (by simp [XO.qb,j])
  have B:=λ h=>e (o':=.wu x lo hi mx sz) d h
  simp only [wop] at h ⊢;rw [←d x (by simp [XO.qb]),←p,←F]
  split at h
  ·split at h
   ·split at h
    ·split at h
     ·split at h
      ·exact zHK h λ l u h=>mk h
      ·exact h.elim
     ·exact h.elim
    ·exact h.elim
   ·exact h.elim
  ·exact B h
  ·exact h.elim
 case qB x i sz=>
  simp only [wop] at h ⊢;rw [←d x (by simp [XO.qb]),←d i (by simp [XO.qb])]
  split at h
  ·split at h
   ·split at h
    ·obtain ⟨v,A,q⟩:=h;exact ⟨v,A,mk q⟩
    ·exact h.elim
   ·exact h.elim
  ·split at h
   ·split at h
    ·split at h
     ·exact ⟨h.1,mk h.2⟩
     ·exact h.elim
    ·exact h.elim
   ·exact h.elim
  ·split at h
   ·exact ⟨h.1,zD3 h.2 λ O Q=>e (λ y j=>by
     simp only [XO.qb,QI,Qc] at j;rcases j with rfl | rfl
     ·exact d _ (by simp [XO.qb])
     ·rfl) Q⟩
   ·exact h.elim
  ·exact h.elim
 case wi x=>
  have B:=λ h=>e (o':=.wi x) d h
  simp only [wop] at h ⊢;rw [←d x (by simp [XO.qb])]
  split at h
  ·split at h
   ·exact mk h
   ·exact h.elim
  ·exact B h
 case load x sz ag=>
  have B:=λ h=>e (o':=.load x sz ag) d h
  simp only [wop] at h ⊢;rw [←d x (by simp [XO.qb])]
  split at h
  ·split at h
   ·split at h
    ·obtain ⟨v,A,q⟩:=h;exact ⟨v,A,mk q⟩
    ·exact h.elim
   ·exact h.elim
  ·exact B h
 case qP x f=>
  have B:=λ h=>e (o':=.qP x f) d h
  simp only [wop] at h ⊢;rw [←d x (by simp [XO.qb])]
  split at h
  ·split at h
   ·split at h
    ·exact mk h
    ·exact h.elim
   ·exact h.elim
  ·exact B h
 case store x y sz=>
  have B:=λ h=>e (o':=.store x y sz) d h
  simp only [wop] at h ⊢;rw [←d x (by simp [XO.qb]),←d y (by simp [XO.qb])]
  split at h
  ·split at h
   ·split at h
    ·split at h
     ·split at h
      ·split at h
       ·exact mk h
       ·exact h.elim
      ·exact h.elim
     ·exact h.elim
    ·exact h.elim
   ·exact h.elim
  ·exact B h
 case vu x=>
  simp only [wop] at h ⊢;rw [←d x (by simp [XO.qb])]
  split at h
  ·exact mk h
  ·exact h.elim
 case vb x=>
  simp only [wop] at h ⊢;rw [←d x (by simp [XO.qb])]
  split at h
  ·split at h
   ·split at h
    ·obtain ⟨v,A,q⟩:=h;exact ⟨v,A,mk q⟩
    ·exact h.elim
   ·exact h.elim
  ·split at h
   ·obtain ⟨v,A,q⟩:=h;exact ⟨v,A,mk q⟩
   ·exact h.elim
  ·exact mk h
  ·exact h.elim
 case qD len sz z ps=>
  cases D with
  | cons T D=>exact e d h
  | nil=>
   have p:fillx G fr z ps=fillx G fr' z ps:=zHI λ y j=>d y (by simp only [XO.qb];exact j)
   simp only [wop] at h ⊢;rw [←p];split at h
   ·split at h
    ·split at h
     ·split at h
      ·exact mk h
      ·exact h.elim
     ·exact h.elim
    ·exact h.elim
   ·exact h.elim
 case qK l c sz bytes z=>
  simp only [wop] at h ⊢;rw [←d l (by simp [XO.qb]),←d c (by simp [XO.qb])]
  split at h
  ·split at h
   ·split at h
    ·exact ⟨h.1,mk h.2⟩
    ·exact h.elim
   ·exact h.elim
  ·exact h.elim
 case append x y sz bytes=>
  simp only [wop] at h ⊢;rw [←d x (by simp [XO.qb]),←d y (by simp [XO.qb])]
  split at h
  ·exact h.elim
  ·split at h
   ·split at h
    ·split at h
     ·split at h
      ·split at h
       ·exact ⟨h.1,mk h.2⟩
       ·split at h
        ·split at h
         ·exact ⟨h.1,mk h.2⟩
         ·exact h.elim
        ·exact h.elim
       ·exact h.elim
      ·exact h.elim
     ·exact h.elim
    ·exact h.elim
   ·exact h.elim
 case wj=>exact mk h
 case lookup ag kd mm x z ok=>
  simp only [wop] at h ⊢;rw [←d mm (by simp [XO.qb]),←d x (by simp [XO.qb])]
  split at h
  ·split at h
   ·split at h
    ·split at h
     ·obtain ⟨v,A,q⟩:=h;exact ⟨v,A,mk q⟩
     ·exact h.elim
    ·exact h.elim
   ·exact h.elim
  ·exact h.elim
 case wB ag kd mm x y=>
  simp only [wop] at h ⊢;rw [←d mm (by simp [XO.qb]),←d x (by simp [XO.qb]),←d y (by simp [XO.qb])]
  split at h
  ·split at h
   ·split at h
    ·split at h
     ·split at h
      ·obtain ⟨v,A,q⟩:=h;exact ⟨v,A,mk q⟩
      ·exact h.elim
     ·exact h.elim
    ·exact h.elim
   ·exact h.elim
  ·exact h.elim
 case call f xs=>
  have p:evs G fr xs=evs G fr' xs:=zDi λ y j=>d y (by simp [XO.qb,j])
  simp only [wop] at h ⊢;rw [←p];split at h
  ·exact zP5 I h
  ·exact h.elim
 case qL fx xs=>
  have p:evs G fr xs=evs G fr' xs:=zDi λ y j=>d y (by simp [XO.qb,j])
  simp only [wop] at h ⊢;rw [←d fx (by simp [XO.qb]),←p]
  split at h
  ·split at h
   ·exact zP5 I h
   ·exact h.elim
  ·exact h.elim
theorem zSW {o:XO} (b:zX o=0) {v:AV} {H':Heap} {n:Nat} (h:xoS G ze fr H m o=some (v,H',n)):H'=H/\n=m/\∀H2 m2,xoS G ze fr H2 m2 o=some (v,H2,m2):=by
 cases o <;> first | (simp [zX] at b;done) | (simp only [xoS] at h ⊢;repeat' split at h) <;> first | (cases h;done) | (cases h;simp_all;done) | (cases h;simp_all;omega)
theorem zSX {o:XO} {p:List K} (q:zX o=0) (O:∀x,o≠.wi x) (F:∀v s,C v s->s.mv=mv) (D:∀v f,C v ⟨f,H,V,m,mv⟩->C' v ⟨f,H2,V2,m2,mv2⟩) (h:wop G tb ⟨fr,H,V,m,mv⟩ o p C):wop G tb ⟨fr,H2,V2,m2,mv2⟩ o p C':=by
 have mk:∀{v:AV} {f:Fr},C v ⟨f,H,V,m,mv⟩->C' v ⟨f,H2,V2,m2,mv2⟩:=λ h=>D _ _ h
 have d:∀{o':XO},zX o'=0->WXd ⟨fr,H,V,m,mv⟩ (xoS G ze fr H m o') C->WXd ⟨fr,H2,V2,m2,mv2⟩ (xoS G ze fr H2 m2 o') C':=λ q h=>by
  unfold WXd at h;split at h
  ·rename_i v R n e;obtain ⟨rfl,rfl,N⟩:=zSW q e;unfold WXd;rw [N H2 m2];exact mk h
  ·exact h.elim
 cases o <;> try (exact h.elim)
 all_goals try (simp [zX] at q;done)
 all_goals try (exact d q h)
 case qY x i l sz ag=>
  cases p with
  | nil=>exact d q h
  | cons M p=>
   simp only [wop] at h ⊢;split at h
   ·exact ⟨h.1,zD3 h.2 λ I z=>d rfl z⟩
   ·exact h.elim
 case qy x i l sz=>
  cases p with
  | nil=>exact d q h
  | cons M p=>
   simp only [wop] at h ⊢;split at h
   ·exact ⟨h.1,zD3 h.2 λ I z=>d rfl z⟩
   ·exact h.elim
 case pick c a b=>
  have j:=λ h=>d (o':=.pick c a b) rfl h
  simp only [wop] at h ⊢;split at h
  ·rename_i Q J;split at h
   ·rename_i n;rcases zDL h with ⟨rfl,h⟩ | ⟨rfl,h⟩
    ·simp only [Br];cases hv:a.ev G fr with
     | some v=>rw [hv] at h;exact mk h
     | none=>rw [hv] at h;exact h.elim
    ·simp only [Br];cases hv:b.ev G fr with
     | some v=>rw [hv] at h;exact mk h
     | none=>rw [hv] at h;exact h.elim
   ·exact j h
  ·exact h.elim
 case bin op x y=>
  have j:=λ h=>d (o':=.bin op x y) rfl h
  simp only [wop] at h ⊢;split at h
  ·cases op with
   | add=>
    simp only at h ⊢;split at h
    ·exact ⟨h.1,mk h.2⟩
    ·exact h.elim
   | _=>exact j h
  ·cases op with
   | quo=>
    simp only at h ⊢;split at h
    ·split at h
     ·exact ⟨h.1,mk h.2⟩
     ·exact h.elim
    ·exact h.elim
   | rem=>
    simp only at h ⊢;split at h
    ·split at h
     ·exact ⟨h.1,mk h.2⟩
     ·exact h.elim
    ·exact h.elim
   | shl=>
    simp only at h ⊢;split at h
    ·exact ⟨h.1,mk h.2⟩
    ·exact h.elim
   | shr=>
    simp only at h ⊢;split at h
    ·exact ⟨h.1,mk h.2⟩
    ·exact h.elim
   | _=>exact j h
  ·exact h.elim
 case wC neg kd x y=>
  simp only [wop] at h ⊢;split at h
  ·split at h
   ·split at h
    ·exact mk h
    ·exact h.elim
   ·exact h.elim
  ·exact h.elim
 case wF x i=>
  simp only [wop] at h ⊢;split at h
  ·split at h
   ·obtain ⟨c,B,A⟩:=h;exact ⟨c,B,mk A⟩
   ·exact h.elim
  ·exact h.elim
 case wA x lo hi=>
  simp only [wop] at h ⊢;split at h
  ·split at h
   ·split at h
    ·exact zHK h λ l u h=>mk h
    ·exact h.elim
   ·exact h.elim
  ·exact h.elim
 case wu x lo hi mx sz=>
  have j:=λ h=>d (o':=.wu x lo hi mx sz) rfl h
  simp only [wop] at h ⊢;split at h
  ·split at h
   ·split at h
    ·split at h
     ·split at h
      ·exact zHK h λ l u h=>mk h
      ·exact h.elim
     ·exact h.elim
    ·exact h.elim
   ·exact h.elim
  ·exact j h
  ·exact h.elim
 case qB x i sz=>
  simp only [wop] at h ⊢;split at h
  ·split at h
   ·split at h
    ·obtain ⟨v,B,A⟩:=h;exact ⟨v,B,mk A⟩
    ·exact h.elim
   ·exact h.elim
  ·split at h
   ·split at h
    ·split at h
     ·exact absurd (show mv+1=mv from F _ _ h.2) (by omega)
     ·exact h.elim
    ·exact h.elim
   ·exact h.elim
  ·split at h
   ·exact ⟨h.1,zD3 h.2 λ I z=>d rfl z⟩
   ·exact h.elim
  ·exact h.elim
 case wi x=>exact absurd rfl (O x)
 case qP x f=>
  have j:=λ h=>d (o':=.qP x f) rfl h
  simp only [wop] at h ⊢;split at h
  ·split at h
   ·split at h
    ·exact absurd (show mv+1=mv from F _ _ h) (by omega)
    ·exact h.elim
   ·exact h.elim
  ·exact j h
structure Ext1 (H H2:Heap) (mv ms:Nat):Prop where
 g:∀h,h<ms->H2.get h=H.get h
 c:∀h str cs,h<ms->H.get h=some (.cells str cs)->∀c∈cs,CP mv ms c
theorem zVg {ms:Nat} (x:Ext1 H H2 mv ms):∀(d:Nat) {v:AV},CP mv ms v->frz H2 V d v=frz H V d v:=by
 intro d
 induction d with
 | zero=>intro v _;rfl
 | succ d B=>
  intro v hc;have j:∀{l:List AV},(∀e∈l,CP mv ms e)->zw (frz H2 V d) l=zw (frz H V d) l:=by
   intro l
   induction l with
   | nil=>intro _;rfl
   | cons a r n=>intro u;simp only [zw,B (u a (.head _)),n λ e A=>u e (.tail _ A)]
  cases hc with
  | ptr h o i=>
   simp only [frz,x.g h i];cases hg:H.get h with
   | none=>rfl
   | some z=>
    cases z with
    | cells str q=>simp only [j (x.c h str q i hg)]
    | _=>rfl
  | row h o l s c e i=>simp only [frz,x.g h i]
  | func f a b D y=>simp only [frz,j D,j y]
  | agg q p=>simp only [frz,j p]
  | _=>rfl
def isS1:XO->Prop
 | .wi _ | .load _ _ _ | .lookup _ _ _ _ _ _ | .call _ _ | .qL _ _=>True
 | _=>False
theorem zSY {o:XO} {W:List K} {ms:Nat} (hG:GPP G) (j:opOK o=true) (x:Ext1 H H2 mv ms) (hf:∀t v,XV.t t∈o.qb->fr.get t=some v->CP mv ms v) (ho:isS1 o)
  (U:∀v,C v ⟨fr,H,V,m,mv⟩->C' v ⟨fr,H2,V,m2,mv⟩) (h:wop G tb ⟨fr,H,V,m,mv⟩ o W C):wop G tb ⟨fr,H2,V,m2,mv⟩ o W C':=by
 have mk:∀{v:AV},C v ⟨fr,H,V,m,mv⟩->C' v ⟨fr,H2,V,m2,mv⟩:=λ h=>U _ h
 have D:∀{y:XV} {v:AV},y∈o.qb->xvOK y=true->y.ev G fr=some v->CP mv ms v:=λ{y v} p l b=>by
  cases y with
  | t n=>exact hf n v p b
  | g n=>exact (hG n v b).cp
  | c u=>
   have:u=v:=by simpa [XV.ev] using b
   subst this;exact (zBz 12 l).cp
 have I:∀{B:List XV} {d:List AV},(∀y∈B,y∈o.qb/\xvOK y=true)->evs G fr B=some d->∀v∈d,CP mv ms v:=by
  intro B
  induction B with
  | nil=>intro d _ e v b;cases e;cases b
  | cons y r R=>
   intro d p e v b;simp only [evs] at e;split at e
   ·rename_i u hu;split at e
    ·rename_i us Q;cases e;rcases QH.1 b with rfl | b
     ·exact D (p y (.head _)).1 (p y (.head _)).2 hu
     ·exact R (λ z hz=>p z (.tail _ hz)) Q v b
    ·cases e
   ·cases e
 have q:∀{f:Nat} {d:List AV},(∀v∈d,CP mv ms v)->wcall tb f d ⟨fr,H,V,m,mv⟩ C->wcall tb f d ⟨fr,H2,V,m2,mv⟩ C':=λ{f d} F h=>by
  have T:zw (frz H2 V 8) d=zw (frz H V 8) d:=by
   clear h
   induction d with
   | nil=>rfl
   | cons a r R=>simp only [zw,zVg x 8 (F a (.head _)),R λ v b=>F v (.tail _ b)]
  unfold wcall at h ⊢;cases hh:d.any (hasH 8) with
  | false=>rw [hh] at h;exact zGU h λ v h=>mk h
  | true=>
   rw [hh] at h;simp only [T];simp only at h;split at h
   ·refine zGU h λ v h=>?_
    split at h
    ·exact mk h
    ·exact h.elim
   ·exact h.elim
 cases o <;> try (exact (show False from ho).elim)
 case wi y=>
  simp only [wop] at h ⊢;split at h
  ·split at h
   ·exact mk h
   ·exact h.elim
  ·unfold WXd at h;split at h
   ·rename_i v Y n e;obtain ⟨rfl,rfl,e2⟩:=zSW rfl e;unfold WXd;rw [e2 H2 m2];exact mk h
   ·exact h.elim
 case load y sz ag=>
  have l:xvOK y=true:=by simp only [opOK,XO.qb,zW,QT,QX,List.all_nil] at j;exact j
  simp only [wop] at h ⊢;split at h
  ·split at h
   ·split at h
    ·obtain ⟨v,N,J⟩:=h;exact ⟨v,N,mk J⟩
    ·exact h.elim
   ·exact h.elim
  ·unfold WXd at h;split at h
   ·rename_i v Y n e;have e':xoS G ze fr H2 m2 (.load y sz ag)=some (v,H2,m2)/\Y=H/\n=m:=by
     simp only [xoS] at e ⊢;cases b:y.ev G fr with
     | none=>rw [b] at e;cases e
     | some a=>
      rw [b] at e;simp only at e ⊢;have hc:=D (by simp [XO.qb]) l b
      have A:xload H2 sz ag a=xload H sz ag a:=by
       cases hc <;> first | rfl | (simp only [xload,x.g _ ‹_›];done) | skip
      rw [A];split at e
      ·cases e;exact ⟨rfl,rfl,rfl⟩
      ·cases e
    obtain ⟨e1,rfl,rfl⟩:=e';unfold WXd;rw [e1];exact mk h
   ·exact h.elim
 case lookup ag kd mm y z ok=>
  simp only [wop] at h ⊢;split at h
  ·split at h
   ·split at h
    ·split at h
     ·obtain ⟨v,N,J⟩:=h;exact ⟨v,N,mk J⟩
     ·exact h.elim
    ·exact h.elim
   ·exact h.elim
  ·exact h.elim
 case call f B=>
  have i:B.all xvOK=true:=by simp only [opOK,XO.qb,zW,QT] at j;exact j
  simp only [wop] at h ⊢;split at h
  ·rename_i d b;exact q (I (λ y p=>⟨by simp only [XO.qb];exact p,QG.1 i y p⟩) b) h
  ·exact h.elim
 case qL fx B=>
  have i:xvOK fx=true/\B.all xvOK=true:=by simp only [opOK,XO.qb,zW,List.all_append,QX,List.all_nil,QT,QA] at j;exact j
  simp only [wop] at h ⊢;split at h
  ·rename_i f first X O;split at h
   ·rename_i d b;refine q (λ v M=>?_) h
    have S:=D (by simp [XO.qb]) i.1 O
    cases S with
    | func _ _ _ q1 q2=>
     rcases QI.1 M with A | A
     ·rcases QI.1 A with A | A
      ·exact q1 v A
      ·exact I (λ y p=>⟨by simp [XO.qb,p],QG.1 i.2 y p⟩) b v A
     ·exact q2 v A
   ·exact h.elim
  ·exact h.elim
theorem zI2 {h:Nat}:∀{g:List (Nat×Nat)} {H:Heap} {V:Vecs} {mv:Nat},qE h g ⟨fr',H,V,m,mv⟩=⟨fr',(qE h g ⟨fr,H,V,m,mv⟩).H,(qE h g ⟨fr,H,V,m,mv⟩).V,(qE h g ⟨fr,H,V,m,mv⟩).m,(qE h g ⟨fr,H,V,m,mv⟩).mv⟩/\(qE h g ⟨fr,H,V,m,mv⟩).fr=fr
 | [],H,V,mv=>⟨rfl,rfl⟩
 | (i,e)::g,H,V,mv=>by
  simp only [qE];cases hg:H.get h with
  | none=>exact ⟨rfl,rfl⟩
  | some d=>
   cases d with
   | cells str b=>
    simp only;cases hc:b[i]? with
    | none=>exact zI2
    | some c=>
     cases c <;> simp only <;> (try exact zI2)
     all_goals
      split
      ·exact zI2
      ·exact zI2
   | _=>exact ⟨rfl,rfl⟩
theorem zT2 {g:List (Nat×Nat)} {args:List AV}:qI g args ⟨fr',H,V,m,mv⟩=⟨fr',(qI g args ⟨fr,H,V,m,mv⟩).H,(qI g args ⟨fr,H,V,m,mv⟩).V,(qI g args ⟨fr,H,V,m,mv⟩).m,(qI g args ⟨fr,H,V,m,mv⟩).mv⟩/\(qI g args ⟨fr,H,V,m,mv⟩).fr=fr:=by
 unfold qI;split
 ·exact zI2
 ·exact ⟨rfl,rfl⟩
theorem zQQ {hm e:List Nat} {vs:List AV} {st d:Sta} {k f:List AV->Heap->Vecs->Prop} (l:d.H=st.H) (j:d.V=st.V) (h:zDo hm e vs st k) (i:∀a b c,k a b c->f a b c):zDo hm e vs d f:=by
 unfold zDo at h ⊢;rw [l,j];split at h
 ·split at h
  ·split at h
   ·split at h
    ·exact i _ _ _ h
    ·exact h.elim
   ·exact h.elim
  ·exact h.elim
 ·exact h.elim
theorem zOO {e:HEnt} {args:List AV} (i:∀v f s,C v f->SameQ fr fr' f s->C' v s) (h:zEI e args ⟨fr,H,V,m,mv⟩ C):zEI e args ⟨fr',H,V,m,mv⟩ C':=by
 obtain ⟨g1,g2⟩:=zT2 (fr:=fr) (fr':=fr') (H:=H) (V:=V) (m:=m) (mv:=mv) (g:=e.grow) (args:=args);unfold zEI at h ⊢;rw [g1];generalize j:qI e.grow args ⟨fr,H,V,m,mv⟩=s at *;unfold zIX at h ⊢;refine zQQ (st:=s) rfl rfl h λ a b c d=>⟨d.1,?_⟩
 have:=d.2;split at this
 ·refine i _ _ _ this ?_
  unfold zIt;cases inpl e.grow <;> exact ⟨rfl,rfl,rfl,rfl,λ t=>by rw [←g2],λ t=>rfl⟩
 ·exact this.elim
theorem zOh {t:TOp} (d:∀x∈t.o.op.qb,x.ev G fr=x.ev G fr') (i:∀v n s,C v n->SameQ fr fr' n s->C' v s) (h:wopT G tb ⟨fr,H,V,m,mv⟩ t C):wopT G tb ⟨fr',H,V,m,mv⟩ t C':=by
 unfold wopT at h ⊢;split at h
 ·exact zWo d i h
 ·rename_i q z;unfold zLD at h ⊢;split at h
  ·rename_i f args b;rw [b] at d;have l:evs G fr args=evs G fr' args:=zDi λ y j=>d y (by simp [XO.qb,j])
   simp only [←l];cases hl:zIu q f with
   | none=>rw [hl] at h;exact h.elim
   | some e=>
    rw [hl] at h;simp only at h ⊢;cases hv:evs G fr args with
    | none=>rw [hv] at h;exact h.elim
    | some A=>rw [hv] at h;exact zOO i h
  ·rename_i p args b;rw [b] at d;have l:evs G fr args=evs G fr' args:=zDi λ y j=>d y (by simp [XO.qb,j])
   have B:=d p (by simp [XO.qb])
   simp only [←l,←B];cases hf:p.ev G fr with
   | none=>rw [hf] at h;exact h.elim
   | some D=>
    rw [hf] at h;cases D with
    | func fn first u=>
     cases fn with
     | func f=>
      simp only at h ⊢;cases hl:zIu q f with
      | none=>rw [hl] at h;exact h.elim
      | some e=>
       rw [hl] at h;simp only at h ⊢;cases hv:evs G fr args with
       | none=>rw [hv] at h;exact h.elim
       | some A=>rw [hv] at h;exact zOO i h
     | _=>exact h.elim
    | _=>exact h.elim
  ·exact h.elim
end
theorem HV.refl (s:Sta):HV s s:=⟨rfl,rfl,rfl,rfl⟩
theorem HV.trans {a b c:Sta} (h:HV a b) (k:HV b c):HV a c:=⟨k.H.trans h.H,k.V.trans h.V,k.m.trans h.m,k.mv.trans h.mv⟩
theorem HV.symm {a b:Sta} (h:HV a b):HV b a:=⟨h.H.symm,h.V.symm,h.m.symm,h.mv.symm⟩
section
variable {G:Cx} {tb:TblS} {s s1 r:Sta} {t:TOp}
theorem cls1 (b:t.h=none) (h:clsQ t=1):isS1 t.o.op:=by
 obtain ⟨⟨d,op,g⟩,f,e⟩:=t;simp only at b;subst b;simp only [clsQ] at h;cases op <;> first | trivial | (simp [zX] at h;done) | (simp only at h;split at h <;> cases h;done)
theorem cls0 (b:t.h=none) (h:clsQ t=0):zX t.o.op=0/\∀x,t.o.op≠.wi x:=by
 obtain ⟨⟨d,op,g⟩,i,f⟩:=t;simp only at b;subst b;simp only [clsQ] at h;cases op <;> first | (simp [zX] at h;done) | exact ⟨rfl,λ x e=>by cases e⟩ | (simp only at h;split at h <;> cases h;done)
structure Fit (G:Cx) (t:TOp) (s r:Sta):Prop where
 ag:∀g∈zIp t.o.op.qb,r.fr.get g=s.fr.get g
 gd:∀g b,t.o.guard=some (g,b)->r.fr.get g=s.fr.get g
 c1:clsQ t=1->r.V=s.V/\r.mv=s.mv/\∃ms,Ext1 s.H r.H s.mv ms/\∀g v,XV.t g∈t.o.op.qb->s.fr.get g=some v->CP s.mv ms v
 c2:2<=clsQ t->HV s r
theorem zSZ (X:GPP G) (D:opOK t.o.op=true) (z:Fit G t s r) {C C':AV->Sta->Prop} (O:clsQ t<=1->∀v b,C v b->HV s b)
  (u:∀v b x,C v b->(∀g,b.fr.get g=s.fr.get g)->(∀g,x.fr.get g=r.fr.get g)->(clsQ t<=1->HV r x)->(2<=clsQ t->HV b x)->C' v x) (h:wopT G tb s t C):wopT G tb r t C':=by
 obtain ⟨fr,H,V,m,mv⟩:=s;obtain ⟨fr',H',T,W,B⟩:=r;have M:∀x∈t.o.op.qb,x.ev G fr=x.ev G fr':=λ x U=>by
  cases x with
  | t n=>exact (z.ag n (zEo U)).symm
  | _=>rfl
 by_cases hc:2<=clsQ t
 ·obtain ⟨J,j,K,p⟩:=z.c2 hc;simp only at J j K p;subst J;subst j;subst K;subst p;exact zOh M (λ v b x h q=>u v b x h q.f0 q.f (λ h=>by omega) λ _=>⟨q.H,q.V,q.m,q.mv⟩) h
 ·have e:clsQ t<=1:=by omega
  have y:=zOh (C':=λ v x=>∃b,C v b/\SameQ fr fr' b x) M (λ v b x h q=>⟨b,h,q⟩) h
  have d:t.h=none:=by
   cases hh:t.h with
   | none=>rfl
   | some es=>unfold clsQ at e;rw [hh] at e;simp at e
  unfold wopT at y ⊢;rw [d] at y ⊢;have i:∀{v:AV} {f:Fr} {H2:Heap} {V2:Vecs} {m2 mv2:Nat},H2=H'->V2=T->m2=W->mv2=B->(∃b,C v b/\SameQ fr fr' b ⟨f,H,V,m,mv⟩)->C' v ⟨f,H2,V2,m2,mv2⟩:=λ{v f H2 V2 m2 mv2} q1 q2 R S ⟨b,h,q⟩=>by
   subst q1;subst q2;subst R;subst S;exact u v b _ h q.f0 q.f (λ _=>⟨rfl,rfl,rfl,rfl⟩) λ h=>by omega
  by_cases l:clsQ t=1
  ·obtain ⟨j,p,ms,N,A⟩:=z.c1 l;simp only at j p;subst j;subst p;refine zSY X D N (λ g v F Y=>A g v F (by rw [←Y];exact (z.ag g (zEo F)).symm)) (cls1 d l) (λ v h=>i rfl rfl rfl rfl h) y
  ·have Q:clsQ t=0:=by omega
   have I:=cls0 d Q;refine zSX I.1 I.2 (λ v x ⟨b,h,q⟩=>?_) (λ v f h=>i rfl rfl rfl rfl h) y
   rw [q.mv];exact (O e v b h).mv
theorem zR1 (N:GPP G) (K:opOK t.o.op=true) (n:Fit G t s r) (y:clsQ t<=1->HV s s1) (h:zEa G tb s t (λ x=>x=s1)) {k:Sta->Prop}
  (u:∀x,(clsQ t<=1->HV r x)->(2<=clsQ t->HV s1 x)->(∀g,x.fr.get g=if t.o.dst=some g then s1.fr.get g else r.fr.get g)->k x):zEa G tb r t k:=by
 have j:∀{x:Sta} {v:AV} {g:Nat},(x.put t.o.dst v).fr.get g=if t.o.dst=some g then some v else x.fr.get g:=λ{x v g}=>by
  cases hd:t.o.dst with
  | none=>simp [Sta.put,qv]
  | some d=>
   show (x.fr.put d v).get g=_
   rw [Fr.qu];simp
 have i:∀(x:Sta) (v:AV),HV x (x.put t.o.dst v):=λ x v=>by
  cases t.o.dst <;> exact ⟨rfl,rfl,rfl,rfl⟩
 have q:∀{s r:Sta},Fit G t s r->(clsQ t<=1->HV s s1)->(∀x,(clsQ t<=1->HV r x)->(2<=clsQ t->HV s1 x)->(∀g,x.fr.get g=if t.o.dst=some g then s1.fr.get g else r.fr.get g)->k x)->wopT G tb s t (λ v x=>∃l,WK v l/\x.put t.o.dst l=s1)->wopT G tb r t (λ v x=>∃l,WK v l/\k (x.put t.o.dst l)):=λ{s r} n y u h=>by
  refine zSZ N K n (λ z v J ⟨l,_,e⟩=>?_) (λ v J x ⟨l,M,e⟩ f0 f F I=>⟨l,M,u _ (λ z=>(F z).trans (i x l)) (λ D=>?_) λ g=>?_⟩) h
  ·have:=i J l;rw [e] at this;exact (y z).trans this.symm
  ·have A:=i J l;rw [e] at A;exact A.symm.trans ((I D).trans (i x l))
  ·rw [j,←e,j];split
   ·rfl
   ·exact f g
 have skip:∀{s r:Sta},(clsQ t<=1->HV s s1)->Fit G t s r->(∀x,(clsQ t<=1->HV r x)->(2<=clsQ t->HV s1 x)->(∀g,x.fr.get g=if t.o.dst=some g then s1.fr.get g else r.fr.get g)->k x)->s.put t.o.dst (.qf [])=s1->k (r.put t.o.dst (.qf [])):=λ{s r} y n u e=>by
  refine u _ (λ _=>i r _) (λ D=>?_) λ g=>?_
  ·have A:=i s (.qf []);rw [e] at A;exact A.symm.trans ((n.c2 D).trans (i r _))
  ·rw [j,←e,j];split <;> rfl
 unfold zEa at h ⊢;cases hg:t.o.guard with
 | none=>
  rw [hg] at h;exact q n y u h
 | some p=>
  obtain ⟨g,b⟩:=p;rw [hg] at h;simp only at h ⊢;rw [n.gd g b hg];split at h
  ·rename_i c hc;have B:r.fr.get g=some (.bool c):=(n.gd g b hg).trans hc;unfold brT at h ⊢;rcases zDL h with ⟨rfl,h⟩ | ⟨rfl,h⟩
   ·simp only [Br,qq B] at h ⊢;simp only [qq hc] at h;cases b with
    | true=>exact q n y u h
    | false=>exact skip y n u h
   ·simp only [Br,qq B] at h ⊢;simp only [qq hc] at h;cases b with
    | true=>exact skip y n u h
    | false=>exact q n y u h
  ·exact skip y n u h
  ·exact h.elim
end
section
variable {G:Cx} {tb:TblS} {s s1:Sta} {t:TOp}
theorem zLO {n:Int} {l:Nat} {k:Nat->Prop} (h:0<=n/\n<.ofNat l) (b:zGP n l k):∃m,k m:=by
 obtain ⟨m,rfl⟩:=Int.eq_ofNat_of_zero_le h.1;exact ⟨m,zDQ b m (Int.ofNat_lt.1 h.2) rfl⟩
theorem zGV {x:Option Out} {C:AV->Sta->Prop} (h:WXd s x C):∃v x,C v x:=by
 unfold WXd at h;split at h
 ·exact ⟨_,_,h⟩
 ·exact h.elim
theorem zOP {n:Int} {lo b:Option AV} {k:Int->Int->Prop} (h:zHT n lo b k):∃l u,k l u:=by
 cases lo with
 | none=>
  cases b with
  | none=>exact ⟨_,_,h⟩
  | some u=>cases u <;> first | exact ⟨_,_,h.2⟩ | exact h.elim
 | some l=>
  cases l with
  | int kl l=>
   cases b with
   | none=>exact ⟨_,_,h.2⟩
   | some u=>cases u <;> first | exact ⟨_,_,h.2⟩ | exact h.elim
  | _=>exact h.elim
theorem zP6 {f:Nat} {vs:List AV} {C:AV->Sta->Prop} (h:wcall tb f vs s C):∃v x,C v x:=by
 unfold wcall at h;split at h
 ·obtain ⟨_,_,_,_,v,_,h⟩:=zEx h;exact ⟨_,_,h⟩
 ·split at h
  ·obtain ⟨_,_,_,_,v,_,h⟩:=zEx h;split at h
   ·exact ⟨_,_,h⟩
   ·exact h.elim
  ·exact h.elim
theorem zP7 {o:XO} {d:List K} {C:AV->Sta->Prop} (h:wop G tb s o d C):∃v x,C v x:=by
 cases o <;> try (exact h.elim)
 all_goals try (exact zGV h)
 case qY x i l sz ag=>
  simp only [wop] at h;split at h
  ·exact zGV h
  ·split at h
   ·obtain ⟨m,h⟩:=zLO h.1 h.2;exact zGV h
   ·exact h.elim
 case qy x i l sz=>
  simp only [wop] at h;split at h
  ·exact zGV h
  ·split at h
   ·obtain ⟨m,h⟩:=zLO h.1 h.2;exact zGV h
   ·exact h.elim
 case pick c a b=>
  simp only [wop] at h;split at h
  ·split at h
   ·rcases zDL h with ⟨_,h⟩ | ⟨_,h⟩
    ·split at h
     ·exact ⟨_,_,h⟩
     ·exact h.elim
    ·split at h
     ·exact ⟨_,_,h⟩
     ·exact h.elim
   ·exact zGV h
  ·exact h.elim
 case wA x lo hi=>
  simp only [wop] at h;split at h
  ·split at h
   ·split at h
    ·obtain ⟨l,u,h⟩:=zOP h;exact ⟨_,_,h⟩
    ·exact h.elim
   ·exact h.elim
  ·exact h.elim
 case wu x lo hi mx sz=>
  simp only [wop] at h;split at h
  ·split at h
   ·split at h
    ·split at h
     ·split at h
      ·obtain ⟨l,u,h⟩:=zOP h;exact ⟨_,_,h⟩
      ·exact h.elim
     ·exact h.elim
    ·exact h.elim
   ·exact h.elim
  ·exact zGV h
  ·exact h.elim
 case call f xs=>
  simp only [wop] at h;split at h
  ·exact zP6 h
  ·exact h.elim
 case qL fx xs=>
  simp only [wop] at h;split at h
  ·split at h
   ·exact zP6 h
   ·exact h.elim
  ·exact h.elim
 all_goals
  simp only [wop] at h
  repeat' split at h
  all_goals first
   | exact h.elim
   | exact ⟨_,_,h⟩
   | (obtain ⟨m,h⟩:=zLO h.1 h.2;exact zGV h)
   | exact ⟨_,_,h.2⟩
   | exact zGV h
   | (obtain ⟨_,_,h⟩:=h;exact ⟨_,_,h⟩)
theorem zS0 {hm d:List Nat} {vs:List AV} {st:Sta} {k:List AV->Heap->Vecs->Prop} (h:zDo hm d vs st k):∃a b c,k a b c:=by
 unfold zDo at h
 repeat' split at h
 all_goals first | exact h.elim | exact ⟨_,_,_,h⟩
theorem zS1 {e:HEnt} {args:List AV} {C:AV->Sta->Prop} (h:zEI e args s C):∃v x,C v x:=by
 unfold zEI zIX at h;obtain ⟨a,b,c,h⟩:=zS0 h;have:=h.2;split at this
 ·exact ⟨_,_,this⟩
 ·exact this.elim
theorem zVh {C:AV->Sta->Prop} (h:wopT G tb s t C):∃v x,C v x:=by
 unfold wopT at h;split at h
 ·exact zP7 h
 ·unfold zLD at h
  repeat' split at h
  all_goals first | exact h.elim | exact zS1 h
theorem zQR {g:Nat} (h:zEa G tb s t (λ x=>x=s1)) (n:t.o.dst≠some g):s1.fr.get g=s.fr.get g:=by
 have f:∀{x:Sta} {v:AV},(x.put t.o.dst v).fr.get g=x.fr.get g:=λ{x v}=>by
  cases hdd:t.o.dst with
  | none=>rfl
  | some d=>
   show (x.fr.put d v).get g=_
   rw [Fr.qu,if_neg]
   rintro rfl
   exact n hdd
 have j:wopT G tb s t (λ v x=>∃l,WK v l/\x.put t.o.dst l=s1)->s1.fr.get g=s.fr.get g:=λ h=>by
  obtain ⟨fr,H,V,m,mv⟩:=s;have:=zOh (fr':=fr) (C':=λ _ _=>s1.fr.get g=fr.get g) (λ x _=>rfl) (λ v y x ⟨l,_,e⟩ q=>by rw [←e,f];exact q.f0 g) h
  obtain ⟨_,_,h⟩:=zVh this;exact h
 unfold zEa at h;split at h
 ·exact j h
 ·split at h
  ·rename_i b p u c hc;unfold brT at h;rcases zDL h with ⟨rfl,i⟩ | ⟨rfl,i⟩
   ·simp only [qq hc] at i;cases b with
    | true=>exact j i
    | false=>
     have i:s.put t.o.dst (.qf [])=s1:=i;rw [←i,f]
   ·simp only [qq hc] at i;cases b with
    | true=>
     have i:s.put t.o.dst (.qf [])=s1:=i;rw [←i,f]
    | false=>exact j i
  ·have h:s.put t.o.dst (.qf [])=s1:=h;rw [←h,f]
  ·exact h.elim
end
def frL (c:Nat->Sta) (ts:List TOp) (L:Nat->Bool):Nat->Nat->Option AV
 | 0,g=>(c 0).fr.get g
 | k+1,g=>match ts[k]? with
  | some t=>if L k=true/\t.o.dst=some g then (c (k+1)).fr.get g else frL c ts L k g
  | none=>frL c ts L k g
section
variable {G:Cx} {tb:TblS} {lo:Option Nat} {c:Nat->Sta} {ts:List TOp} {L:Nat->Bool} {g:Nat}
theorem zLP (ch:ChQ G tb lo ts c) {i:Nat} (h:∀k t,k<i->ts[k]? = some t->t.o.dst=some g->L k=true):∀k,k<=i->k<=ts.length->frL c ts L k g=(c k).fr.get g
 | 0,_,_=>rfl
 | k+1,f,j=>by
  have b:ts[k]? = some ts[k]:=QE (by omega)
  simp only [frL,b];split
  ·rfl
  ·rename_i d;rw [zLP ch h k (by omega) (by omega)]
   refine (zQR (ch.st k _ b) λ e=>d ⟨h k _ (by omega) b e,e⟩).symm
theorem zJJ {i:Nat} (h:∀k t,i<=k->ts[k]? = some t->L k=true->t.o.dst≠some g):∀k,i<=k->frL c ts L k g=frL c ts L i g
 | 0,d=>by
   have:i=0:=by omega
   subst this;rfl
 | k+1,d=>by
  by_cases e:i=k+1
  ·subst e;rfl
  ·simp only [frL];cases ht:ts[k]? with
   | none=>exact zJJ h k (by omega)
   | some t=>
    simp only;rw [if_neg λ b=>h k t (by omega) ht b.1 b.2]
    exact zJJ h k (by omega)
theorem zM9 (ch:ChQ G tb lo ts c) {a:Nat}:∀b,a<=b->b<=ts.length->(∀k t,a<=k->k<b->ts[k]? = some t->clsQ t<=1)->HV (c a) (c b)
 | 0,h,_,_=>by
   have:a=0:=by omega
   subst this;exact HV.refl _
 | b+1,h,j,f=>by
  by_cases e:a=b+1
  ·subst e;exact HV.refl _
  ·have d:ts[b]? = some ts[b]:=QE (by omega)
   exact (zM9 ch b (by omega) (by omega) λ k t i l=>f k t i (by omega)).trans (ch.hv b _ d (f b _ (by omega) (by omega) d))
structure AlQ (lo:Option Nat) (s r:Sta):Prop where
 V:r.V=s.V
 mv:r.mv=s.mv
 m:s.m<=r.m
 g:∀h,h<bndL lo s.m->r.H.get h=s.H.get h
theorem zNa (ch:ChQ G tb lo ts c) {a:Nat}:∀b,a<=b->b<=ts.length->(∀k t,a<=k->k<b->ts[k]? = some t->clsQ t<=2)->AlQ lo (c a) (c b)
 | 0,h,_,_=>by
   have:a=0:=by omega
   subst this;exact ⟨rfl,rfl,QB _,λ _ _=>rfl⟩
 | b+1,h,v,l=>by
  by_cases e:a=b+1
  ·subst e;exact ⟨rfl,rfl,QB _,λ _ _=>rfl⟩
  ·have f:ts[b]? = some ts[b]:=QE (by omega)
   have i:=zNa ch b (by omega) (by omega) λ k t n j=>l k t n (by omega)
   have hc:=l b _ (by omega) (by omega) f
   by_cases j:clsQ ts[b]=2
   ·obtain ⟨q1,u,o,p⟩:=ch.al b _ f j;exact ⟨q1.trans i.V,u.trans i.mv,Qk i.m o,λ h d=>(p h (QZ d (zOH i.m))).trans (i.g h d)⟩
   ·have q:=ch.hv b _ f (by omega)
    exact ⟨q.V.trans i.V,q.mv.trans i.mv,by rw [q.m];exact i.m,λ h d=>by rw [q.H];exact i.g h d⟩
end
section
variable {P:Program} {G:Cx} {nt:Nat} {E:Env} {w:World} {a:Act} {β:Nat->Option Nat} {st:Sta}
 {Z0 B0:Nat->Prop} {w0:World} {dl:List Deferred} {tb:TblS}
theorem Rs.same {s:Sta} (r:Rs G nt Z0 B0 w0 dl E w a st) (h:HV st s) (d:∀g,s.fr.get g=st.fr.get g):Rs G nt Z0 B0 w0 dl E w a s:=by
 obtain ⟨fr,H,V,m,mv⟩:=s;obtain ⟨f,b,i,j⟩:=h;simp only at f b i j;subst f;subst b;subst i;subst j;obtain ⟨β,s,n,l⟩:=r.out;exact ⟨β,⟨s.hr,⟨s.hf.size,λ t u e=>s.hf.get t u (by rw [←d t];exact e)⟩,s.hg,s.qC,λ t u e=>s.qZ t u (by rw [←d t];exact e),s.cH,s.qU,s.vp,s.bz,s.qT⟩,n,l⟩
theorem zLQ {n:Nat}:∀{l:List Nat},memb n l=true↔n∈l
 | []=>by simp [memb]
 | a::r=>by
  simp only [memb];split
  ·rename_i h;simp [zb h]
  ·rename_i h;have:=zA3 h;rw [zLQ];simp [this]
theorem zLR {x y:Option Nat} {i f:XD} (h:zGL x i y f=true):(∀d,x=some d->d ∉ f.looks)/\(∀d,y=some d->d ∉ i.looks)/\(∀d,x=some d->y≠some d):=by
 simp only [zGL,QA] at h;obtain ⟨⟨l,j⟩,n⟩:=h;refine ⟨λ d e b=>?_,λ d e b=>?_,λ d e o=>?_⟩
 ·subst e;simp [zLQ.2 b] at l
 ·subst e;simp [zLQ.2 b] at j
 ·subst e;subst o;simp at n
theorem zP8 (bf:TbW P G tb) (hG:GPP G) (hm:zBe P G) (ay:P.follows .mixedOrders=true) {pn:List Nat} {id:Nat} {ops:Array Oper} {ts:List TOp} {ds:List XD} {Q:Exit->Act->World->Prop} (hc:zJ P (.region id ops true)=some (.draw (ts.map TOp.o) ds)) (au:zD8 nt (.draw (ts.map TOp.o) ds)=true)
  (aw:∀t∈ts,opOK t.o.op=true) (bl:∀t∈ts,∀es,t.h=some es->∀e∈es,HOK P G e) (bm:∀t∈ts,∀n,t.o.dst=some n->n ∉ pn) (hq:(zGR ts ds&&seqQ 0 [] [] [] ts ds)=true) {lo:Option Nat} {c:Nat->Sta} (h0:c 0=st) (ch:ChQ G tb lo ts c) (r:Rs G nt Z0 B0 w0 dl E w a st)
  (hQ:∀E' w' a',Rs G nt Z0 B0 w0 dl E' w' a' (c ts.length)->At pn a a'->Q .normal a' w'):(Code.region id ops true).wp P Q a w:=by
 rw [QA] at hq;have ar:=zMW hq.1;have W:=zHV hq.2;simp only [zJ] at hc;split at hc
 rotate_left
 ·cases hc
 rename_i be;split at hc
 rotate_left
 ·cases hc
 rename_i J;simp only [QJ,XC.draw.injEq] at hc;obtain ⟨e1,e2⟩:=hc;obtain ⟨hl,ha,ao⟩:=zP3 (P:=P) be;rw [e2] at hl ha J;rw [e1] at J;have bn:ts.length=ops.size:=by
  have:=congrArg List.length e1
  simpa using this.symm
 have bc:∀(i:Nat) o,ops[i]? = some o->∃t,ts[i]? = some t/\t.o=zp P ops o:=λ i o ho=>by
  have D:(ops.toList.map (zp P ops))[i]? = some (zp P ops o):=by simp [ho]
  rw [e1,Qj] at D;cases y:ts[i]? with
  | none=>rw [y] at D;cases D
  | some t=>rw [y] at D;exact ⟨t,rfl,by simpa using D⟩
 have aa:∀(i:Nat) t,ts[i]? = some t->∃d,ds[i]? = some d:=λ i t y=>by
  have:=(QD.1 y).1;exact ⟨ds[i],QE (by omega)⟩
 have ab:∀(j k:Nat) tj tk dj I,j<k->ts[j]? = some tj->ts[k]? = some tk->ds[j]? = some dj->ds[k]? = some I->I.qc.testBit j=true\/zGL tj.o.dst dj tk.o.dst I=true:=λ j k tj tk dj I bh D S O h4=>by
  have:=(zIV J k tk.o I (by simp [S]) h4).2 j tj.o dj bh (by simp [D]) O
  simpa using this
 refine wp_region_any ay ?_
 have r':Rs G nt Z0 B0 w0 dl E { w with drawn:=w.drawn+1 } a st:=by
  obtain ⟨β,s,kp,df⟩:=r.out;obtain ⟨d1,d2⟩:=zGq (w':={ w with drawn:=w.drawn+1 }) s.hr ⟨rfl,rfl,rfl,rfl⟩ st.m
  have:=s.steps d1 d2 ⟨s.hf.size,λ t u y=>d2.vr s.hr (s.hf.get t u y)⟩ s.qZ s.cH
  exact ⟨β,this.1,kp.trans this.2,df⟩
 refine zRe hl ha ao (λ n L a' w'=>(∀(k:Nat) I,L k=true->ds[k]? = some I->∀j,I.qc.testBit j=true->L j=true)/\∃F E' N,N<=ts.length/\(∀(b:Nat) t,ts[b]? = some t->2<=clsQ t->(L b=true↔b<N))/\HV (c N) F/\(∀g,F.fr.get g=frL c ts L ts.length g)/\Rs G nt Z0 B0 w0 dl E' w' a' F/\At pn a a') ?_ ?_ ops.size _ a _ (by simp) (by simp) ?_ ⟨λ k I K=>?_,st,E,0,QR _,λ b t _ _=>?_,by rw [h0];exact HV.refl _,λ g=>?_,r',.refl⟩
 ·
  rintro L a' w' hall ⟨_,F,E',N,hjc,hb,hv,hf,hr,hat⟩
  refine hQ E' w' a' (hr.same ?_ λ g=>?_) hat
  ·refine hv.symm.trans (zM9 ch _ hjc (QB _) λ k t D S y=>?_)
   rcases Nat.lt_or_ge 1 (clsQ t) with U | U
   ·have:=(hb k t y U).1 (hall k (by omega))
    omega
   ·exact U
  ·rw [hf g];exact (zLP ch (i:=ts.length) (λ k t K y _=>hall k (by omega)) _ (QB _) (QB _)).symm
 ·rintro n L a' w' i o d ⟨U,F,E',N,hjc,hb,hv,hf,hr,hat⟩ ho hd hLi hpre
  have hi:=(Array.getElem?_eq_some_iff.1 ho).1;obtain ⟨t,y,et⟩:=bc i o ho;have M:=QF y;have bq:i<ts.length:=by omega
  obtain ⟨ac,ad⟩:=ar i t d y hd;have later:∀(k:Nat) q,i<k->ts[k]? = some q->L k=true->(∀g,q.o.dst=some g->g ∉ d.looks)/\∀g,t.o.dst=some g->q.o.dst≠some g:=λ k q K l z=>by
   obtain ⟨I,A⟩:=aa k q l;rcases ab i k t q d I K y l hd A with h | h
   ·have:=U k I z A i h;rw [hLi] at this;cases this
   ·obtain ⟨q1,q2,q3⟩:=zLR h;exact ⟨q2,q3⟩
  have T:∀g∈d.looks,F.fr.get g=(c i).fr.get g:=λ g X=>by
   rw [hf g,zJJ (i:=i) (λ k q K l z e=>?_) ts.length (by omega)]
   ·refine zLP ch (λ k q K l e=>?_) i (QB _) (by omega)
    obtain ⟨I,A⟩:=aa k q l;rcases ab k i q t I d K l y A hd with h | h
    ·exact hpre k h
    ·exact absurd X ((zLR h).1 g e)
   ·rcases Nat.lt_or_ge i k with af | af
    ·exact (later k q af l z).1 g e X
    ·have:k=i:=by omega
     subst this;rw [hLi] at z;cases z
  have ah:2<=clsQ t->N<=i/\HV (c i) F:=λ S=>by
   have D:N<=i:=by
    rcases Nat.lt_or_ge i N with h | h
    ·have:=(hb i t y S).2 h;rw [hLi] at this;cases this
    ·exact h
   refine ⟨D,(zM9 ch i D (by omega) λ k q a8 R l=>?_).symm.trans hv⟩
   rcases Nat.lt_or_ge 1 (clsQ q) with p | p
   ·have O:=(W.b i t d y hd S).2 k q R l p;rw [QV] at O;have:=(hb k q l p).1 (hpre k O);omega
   ·exact p
  obtain ⟨β',s',bp,bs⟩:=hr.out;have bg:Fit G t (c i) F:=by
   refine ⟨λ g X=>T g (ac g X),λ g b X=>T g (ad g b X),λ D=>?_,λ S=>(ah S).2⟩
   rcases Nat.le_total N i with a1 | bi
   ·have al:=zNa ch i a1 (by omega) λ k q a8 R l=>by
     rcases Nat.lt_or_ge 2 (clsQ q) with p | p
     ·have O:=(W.h i t d y hd D).2 k q R l p;rw [QV] at O;have:=(hb k q l (by omega)).1 (hpre k O)
      omega
     ·exact p
    obtain ⟨aj,ak⟩:=ch.rd i t y D;have low:∀{x:AV},CP (c i).mv (bndL lo (c i).m) x->CP (c N).mv (c N).m x->CP (c i).mv (bndL lo (c N).m) x:=λ hx hy=>by
     rw [al.mv] at hx ⊢;exact (hx.min hy).mono (QB _) (zTV al.m)
    refine ⟨hv.V.trans al.V.symm,hv.mv.trans al.mv.symm,bndL lo (c N).m,⟨λ h hh=>by rw [hv.H];exact (al.g h hh).symm,λ h str cs hh X cc ba=>?_⟩,λ g v X a6=>?_⟩
    ·have S:=ak h str cs (QZ hh (zOH al.m)) X cc ba;rw [al.g h hh] at X;obtain ⟨_,_,e,bj⟩:=(ch.cp N hjc).2.get X;cases e;exact low S (bj cc ba)
    ·have:=s'.qZ g v (by rw [T g (ac g (zEo X))];exact a6)
     rw [hv.mv,hv.m] at this;exact low (aj g v X a6) this
   ·have al:=zNa ch N bi hjc λ k q a8 R l=>by
     rcases Nat.lt_or_ge 2 (clsQ q) with p | p
     ·have z:=(hb k q l (by omega)).2 R
      obtain ⟨I,A⟩:=aa k q l;have af:i<k:=by
       rcases Nat.lt_or_ge i k with h | h
       ·exact h
       ·have:k=i:=by omega
        subst this;rw [y] at l;cases l;omega
      have O:=(W.r k q I l A p).2 i t af y D;rw [QV] at O;have:=U k I z A i O;rw [hLi] at this;cases this
     ·exact p
    obtain ⟨aj,ak⟩:=ch.rd i t y D;exact ⟨hv.V.trans al.V,hv.mv.trans al.mv,bndL lo (c i).m,⟨λ h hh=>by rw [hv.H];exact al.g h hh,ak⟩,aj⟩
  have ai:=zR1 hG (aw t M) bg (ch.hv i t y) (ch.st i t y) (k:=λ x=>(clsQ t<=1->HV F x)/\(2<=clsQ t->HV (c (i+1)) x)/\∀g,x.fr.get g=if t.o.dst=some g then (c (i+1)).fr.get g else F.fr.get g) λ x D S O=>⟨D,S,O⟩
  refine zMV bf hG hm ho et (λ dd bk=>?_) (aw t M) (bl t M) (bm t M) ai hr λ az E2 w2 a2 R aq ag=>⟨λ k I K A j hj=>?_,az,E2,?_⟩
  ·have D:=QG.1 au _ (List.mem_map_of_mem (f:=TOp.o) M);rw [et,zB8,bk] at D
   simpa [Ql] using D
  ·simp only [Bool.or_eq_true,beq_iff_eq] at K ⊢;rcases K with K | rfl
   ·exact .inl (U k I K A j hj)
   ·rw [hd] at A;cases A;exact .inl (hpre j hj)
  ·obtain ⟨k1,k2,k3⟩:=R;have a7:∀g,az.fr.get g=frL c ts (λ j=>L j||j==i) ts.length g:=λ g=>by
    rw [k3 g];by_cases Y:t.o.dst=some g
    ·rw [if_pos Y,zJJ (i:=i+1) (λ k q K l z e=>?_) ts.length (by omega)]
     ·simp only [frL,y];rw [if_pos ⟨by simp,Y⟩]
     ·simp only [Bool.or_eq_true,beq_iff_eq] at z;rcases z with z | rfl
      ·exact (later k q (by omega) l z).2 g Y e
      ·omega
    ·rw [if_neg Y,hf g];have:∀k,frL c ts L k g=frL c ts (λ j=>L j||j==i) k g:=by
      intro k
      induction k with
      | zero=>rfl
      | succ k ih=>
       simp only [frL];cases htk:ts[k]? with
       | none=>exact ih
       | some q=>
        simp only [Bool.or_eq_true,beq_iff_eq];by_cases ax:k=i
        ·subst ax;rw [y] at htk;cases htk;rw [if_neg λ h=>Y h.2,if_neg λ h=>Y h.2]
         exact ih
        ·simp only [ax,or_false,ih]
     exact this _
   rcases Nat.lt_or_ge 1 (clsQ t) with S | D
   ·obtain ⟨a1,_⟩:=ah S;refine ⟨i+1,by omega,λ b q l ae=>?_,k2 S,a7,aq,hat.trans ag⟩
    simp only [Bool.or_eq_true,beq_iff_eq]
    constructor
    ·rintro (hLb | rfl)
     ·have:=(hb b q l ae).1 hLb;omega
     ·omega
    ·intro bo;rcases Nat.lt_or_ge b i with h | h
     ·have O:=(W.b i t d y hd S).2 b q h l ae;rw [QV] at O;exact .inl (hpre b O)
     ·exact .inr (by omega)
   ·refine ⟨N,hjc,λ b q l ae=>?_,hv.trans (k1 D),a7,aq,hat.trans ag⟩
    simp only [Bool.or_eq_true,beq_iff_eq];have bb:b≠i:=by rintro rfl;rw [y] at l;cases l;omega
    simp only [bb,or_false];exact hb b q l ae
 ·intro k I K;by_cases B:k<ops.size
  ·simp [B] at K
  ·simp [B] at K
 ·by_cases B:k<ops.size
  ·simp [B] at K
  ·simp [B] at K
 ·by_cases B:b<ops.size
  ·simp [B]
  ·simp [B]
 ·have:∀k,frL c ts (λ j=>(Array.replicate ops.size false).getD j false) k g=st.fr.get g:=by
   intro k
   induction k with
   | zero=>simp only [frL,h0]
   | succ k ih=>
    simp only [frL];split
    ·rw [if_neg ?_]
     ·exact ih
     ·rintro ⟨h,_⟩
      by_cases B:k<ops.size
      ·simp [B] at h
      ·simp [B] at h
    ·exact ih
  exact (this _).symm
end
end Go.Sy
namespace Go.Sy
section
variable {P:Program} {G:Cx} {nt:Nat} {E:Env} {w:World} {a:Act} {β:Nat->Option Nat} {st:Sta}
 {Z0 B0:Nat->Prop} {w0:World} {dl:List Deferred} {tb:TblS}
theorem SR.um (hG:GPP G) (s:SR G nt E w a β st) {t sz:Nat} (U:st.fr.get t=some .qa):∃E' T,SR G nt E' w a T ⟨st.fr.put t (.sym st.mv),st.H,(st.mv,.vec sz [])::st.V,st.m,st.mv+1⟩/\Kp E.Z (BS E β st.H st.V) w E'.Z (BS E' T st.H ((st.mv,.vec sz [])::st.V)) w:=by
 have hσ:∀i,i<st.mv->(if i=st.mv then Value.slice none 0 0 else E.σ i)=E.σ i:=λ i hi=>by
  have:i≠st.mv:=by omega
  simp [this]
 have N:∀{v:AV} {y:Value},CP st.mv st.m v->VR E w v y->VR ⟨E.ρ,E.D,E.Z,λ i=>if i=st.mv then .slice none 0 0 else E.σ i⟩ w v y:=λ hc Q=>
  VR.vd (E:=E) (E':=⟨E.ρ,E.D,E.Z,λ i=>if i=st.mv then .slice none 0 0 else E.σ i⟩) (w:=w) (w':=w) (λ h _ hh=>⟨hh,rfl⟩) (λ b o=>⟨o,rfl⟩) (.refl w) hσ Q hc
 have f:∀j d,st.V.get j=some d->j≠st.mv:=λ j d h=>by have:=(s.qU j d h).1;omega
 refine ⟨⟨E.ρ,E.D,E.Z,λ i=>if i=st.mv then .slice none 0 0 else E.σ i⟩,λ j=>if j=st.mv then none else β j,⟨⟨s.hr.nodup,s.hr.qC,s.hr.inj,λ p S=>?_,s.hr.nz,s.hr.wg⟩,⟨s.hf.size,λ u v n=>?_⟩,λ g u J=>⟨N (hG g u J).cp (s.hg g u J).1,(s.hg g u J).2⟩,s.qC,λ u v n=>?_,s.cH.mono (QY _) (QB _),λ j d h=>?_,λ j F i off h=>?_,λ j d b h Y o=>?_,λ j R d z b l q A W K O=>?_⟩,?_⟩
 ·obtain ⟨str,cs,e,M⟩:=s.cH p S;have:=s.hr.obj p S;rw [e] at this ⊢;exact OR.vd rfl (λ hc Q=>N hc Q) M this
 ·rw [Fr.qu] at n;split at n
  ·rename_i e;subst e;cases n;have X:∀{y:Value},VR E w .qa y->y=.slice none 0 0:=λ h=>by cases h;rfl
   rw [X (s.hf.get _ _ U)];exact .sym _ _ (by simp only [if_true]) rfl
  ·exact N (s.qZ u v n) (s.hf.get u v n)
 ·rw [Fr.qu] at n;split at n
  ·cases n;exact .sym _ (QU _)
  ·exact (s.qZ u v n).mono (QY _) (QB _)
 ·rw [Vecs.qg] at h;split at h
  ·rename_i e;subst e;cases h;exact ⟨QU _,λ e he=>(by cases he),.inl ⟨by simp,by simp,rfl⟩⟩
  ·have l:=s.qU j d h;refine ⟨Nat.lt_succ_of_lt l.1,l.2.mono (by simp [f j d h]) (λ _=>by simp [f j d h]) (λ b _ _=>rfl) (λ b o=>⟨o,rfl⟩) (.refl w) λ F i off e sz es B=>?_⟩
   subst e;have:=s.vp j F i off h;rw [Vecs.qg,if_neg (by omega)] at B
   have I:F≠st.mv:=by omega
   exact ⟨by simp [I],es,B,rfl⟩
 ·rw [Vecs.qg] at h;split at h
  ·cases h
  ·exact Nat.lt_succ_of_lt (s.vp j F i off h)
 ·rw [Vecs.qg] at h;split at h
  ·rename_i e;subst e;simp at o
  ·simp only [if_neg (f j d h)] at o;exact s.bz j d b h Y o
 ·rw [Vecs.qg] at l q;split at l
  ·rename_i e;subst e;simp at K
  ·split at q
   ·rename_i e;subst e;simp at O
   ·simp only [if_neg (f j d l)] at K;simp only [if_neg (f R z q)] at O;exact s.qT j R d z b l q A W K O
 ·refine Kp.less λ x hx=>?_
  rcases hx with h | ⟨j,d,l,q,A⟩
  ·exact .inl h
  ·rw [Vecs.qg] at l;split at l
   ·rename_i e;subst e;simp at A
   ·simp only [if_neg (f j d l)] at A;exact .inr ⟨j,d,l,q,A⟩
theorem Rs.grow (b:GPP G):∀{g:List (Nat×Nat)} {E:Env} {st:Sta},Rs G nt Z0 B0 w0 dl E w a st->∃E',Rs G nt Z0 B0 w0 dl E' w a (zE6 g st)
 | [],E,st,r=>⟨E,r⟩
 | (t,sz)::g,E,st,r=>by
  simp only [zE6];split
  ·split
   ·rename_i j;obtain ⟨β,s,k,d⟩:=r.out;obtain ⟨E',i,e,f⟩:=s.um b j (sz:=sz);exact Rs.grow b ⟨i,e,k.trans f,d⟩
   ·rename_i v _ l;split
    ·rename_i n o j;obtain ⟨β,s,k,d⟩:=r.out;obtain ⟨E',i,e,f⟩:=s.ur b l j;exact Rs.grow b ⟨i,e,k.trans f,d⟩
    ·exact Rs.grow b r
   ·exact Rs.grow b r
  ·split
   ·rename_i h _ _;obtain ⟨β,s,k,d⟩:=r.out;obtain ⟨_,E',i,e,f⟩:=SR.qE b (h:=h) (g:=[(Nat.mod t 1000,sz)]) s;exact Rs.grow b ⟨i,e,k.trans f,d⟩
   ·exact Rs.grow b r
theorem Rs.cut (e:GPP G) {c:Cut} {Q:Inv} (r:Rs G nt Z0 B0 w0 dl E w a st) (h:cutP c Q st):∃vs H V,Q vs H V/\∃b,Rs G nt Z0 B0 w0 dl b w a (mkW c vs H V):=by
 obtain ⟨n,i⟩:=r.grow e (g:=c.grow);obtain ⟨β,s,k,d⟩:=i.out;obtain ⟨vs,H,V,j,b,l,s1,f⟩:=zWm e s h;exact ⟨vs,H,V,j,b,l,s1,k.trans f,d⟩
theorem zVi (ab:TbW P G tb) (hG:GPP G) (hm:zBe P G) (X:P.follows .mixedOrders=true) {pn:List Nat}:∀(c:Code) {M:TC} {gs:List Nat} {Q:Ext->Sta->Prop} {st:Sta} {QQ:Exit->Act->World->Prop},zJ P c=some (er M)->zD8 nt (er M)=true->tcOK M=true->tcH (HOK P G) M->tcN pn M=true->WT G tb M gs Q st->∀{E w a},Rs G nt Z0 B0 w0 dl E w a st →
  (∀x u E' w' D,Q x u->Rs G nt Z0 B0 w0 dl E' w' D u->At pn a D->QQ (zPN x) D w')->c.wp P QQ a w:=by
 intro c
 induction c with
 | skip=>
  intro M gs Q st QQ hc F q v p h E w a r A;simp only [zJ,QJ] at hc;cases M <;> cases hc
  exact wp_skip (A .normal st E w a h r .refl)
 | label l=>
  intro M gs Q st QQ hc F q v p h E w a r A;simp only [zJ,QJ] at hc;cases M <;> cases hc
  exact wp_label (A .normal st E w a h r .refl)
 | ret=>
  intro M gs Q st QQ hc F q v p h E w a r A;simp only [zJ,QJ] at hc;cases M <;> cases hc
  exact wp_ret (A .ret st E w a h r .refl)
 | exit i=>
  intro M gs Q st QQ hc F q v p h E w a r A;simp only [zJ,QJ] at hc;cases M <;> cases hc
  exact wp_exit (A (.exit i) st E w a h r .refl)
 | region id ac draw=>
  intro M gs Q st QQ hc F q v p h E w a r A;cases draw with
  | false=>
   simp only [zJ,QJ] at hc;cases M <;> simp only [er] at hc <;> first | (cases hc;done) | skip
   rename_i ts;injection hc with hc
   have ah:∀o∈ac.toList,∀d,o.dst=some d->d<nt:=λ o ho d az=>by
    have F:((ts.map TOp.o).all λ o=>match o.dst with | some d=>Nat.blt d nt | none=>true)=true:=F
    rw [←hc] at F;have B:=QG.1 F _ (List.mem_map_of_mem (f:=zp P ac) ho);rw [zB8,az] at B
    simpa [Ql] using B
   refine wp_region ?_
   have:=zNS ab hG hm (Q:=QQ) (K:=Q .normal) ts ac.toList 0 (λ j=>by simp) hc.symm ah (λ t O=>QG.1 q t O) v (λ t O=>zKL (QG.1 p t O)) h r λ u E' w' D B z=>A .normal u E' w' D B z
   rw [List.range_eq_range']
   simpa using this
  | true=>
   have ae:=hc;have:∃xs ds,zJ P (.region id ac true)=some (.draw xs ds):=by
    simp only [zJ] at hc ⊢;split at hc
    ·split at hc
     ·rename_i T e2;exact ⟨_,_,rfl⟩
     ·cases hc
    ·cases hc
   obtain ⟨xs,ds,e⟩:=this;rw [e] at hc;simp only [QJ] at hc;cases M <;> simp only [er] at hc <;> first | (cases hc;done) | skip
   ·rename_i a6 ts ai;simp only [WT] at h;split at h
    ·rename_i hD;rw [QA] at hD;simp only [tcN,QA] at p;have aj:∀{t:Nat} {l:List Nat},inN t l=true->t∈l:=by
      intro t l
      induction l with
      | nil=>intro h;cases h
      | cons a r ih=>
       intro h;simp only [inN] at h;split at h
       ·rename_i e;rw [zb e];exact .head _
       ·exact .tail _ (ih h)
     exact zQP ab hG hm X ae F (λ t O=>QG.1 q t O) (λ t O=>zKL (QG.1 p.1 t O)) (λ t O=>QG.1 hD.2 t (aj (QG.1 p.2 t O))) hD.1 h r λ u E' w' D B z=>A .normal u E' w' D B z
    ·exact h.elim
   ·rename_i ts ai;exact zP4 ab hG hm X ae F (λ t O=>QG.1 q t O) v (λ t O=>zKL (QG.1 p t O)) h r λ u E' w' D B z=>A .normal u E' w' D B z
   ·rename_i ts ai;obtain ⟨hq,lo,c,h0,aw,ax⟩:=h;exact zP8 ab hG hm X ae F (λ t O=>QG.1 q t O) v (λ t O=>zKL (QG.1 p t O)) hq h0 aw r λ E' w' D z N=>A .normal _ E' w' D ax z N
 | seq x y Y aa=>
  intro M gs Q st QQ hc F q v p h E w a r A;simp only [zJ] at hc;obtain ⟨xa,ha,hc⟩:=za hc;obtain ⟨xb,U,hc⟩:=za hc;simp only [QJ] at hc;cases M <;> simp only [er] at hc <;> first | (cases hc;done) | skip
  ·rename_i ta S;injection hc with T e2
   subst T;subst e2;simp only [er,zD8,QA] at F;simp only [tcOK,QA] at q;simp only [tcN,QA] at p;refine wp_seq (Y ha F.1 q.1 v.1 p.1 h r λ x u E' w' D B z N=>?_)
   cases x with
   | normal=>exact aa U F.2 q.2 v.2 p.2 B z λ x2 ag E2 w2 a2 q1 q2 q3=>A x2 ag E2 w2 a2 q1 q2 (N.trans q3)
   | exit i=>exact A (.exit i) u E' w' D B z N
   | ret=>exact A .ret u E' w' D B z N
  ·rename_i cc J ta S;injection hc with T e2
   subst T;subst e2;simp only [er,zD8,QA] at F;simp only [tcOK,QA] at q;simp only [tcN,QA] at p;obtain ⟨ay,au⟩:=h;refine wp_seq (Y ha F.1 q.1 v.1 p.1 ay r λ x u E' w' D B z N=>?_)
   cases x with
   | normal=>
    obtain ⟨vs,H,V,q1,E1,q2⟩:=z.cut hG B;exact aa U F.2 q.2 v.2 p.2 (au _ _ _ q1) q2 λ x2 ag E2 w2 a2 r1 r2 r3=>A x2 ag E2 w2 a2 r1 r2 (N.trans r3)
   | exit i=>exact A (.exit i) u E' w' D B z N
   | ret=>exact A .ret u E' w' D B z N
 | cond cv x y Y aa=>
  intro M gs Q st QQ hc F q v p h E w a r A;simp only [zJ] at hc;obtain ⟨xv,hv,hc⟩:=za hc;obtain ⟨xa,ha,hc⟩:=za hc;obtain ⟨xb,U,hc⟩:=za hc;simp only [QJ] at hc;cases M <;> simp only [er] at hc <;> first | (cases hc;done) | skip
  rename_i cx ta S;injection hc with e0 T e2
  subst e0;subst T;subst e2;simp only [er,zD8,QA] at F;simp only [tcOK,QA] at q;simp only [tcN,QA] at p;simp only [WT] at h;obtain ⟨β,s,kp,df⟩:=r.out;split at h
  ·rename_i cb al;have R:=(zH s.hf s.hg hv al).of_bool;split at h
   ·rename_i n;have ad:st.fr.get n=some (.bool cb):=al;unfold brT at h;rcases zDL h with ⟨rfl,z⟩ | ⟨rfl,z⟩
    ·exact wp_cond_true R (Y ha F.1 q.1 v.1 p.1 z (r.known ad) A)
    ·exact wp_cond_false R (aa U F.2 q.2 v.2 p.2 z (r.known ad) A)
   ·rcases zDL h with ⟨rfl,z⟩ | ⟨rfl,z⟩
    ·exact wp_cond_true R (Y ha F.1 q.1 v.1 p.1 z r A)
    ·exact wp_cond_false R (aa U F.2 q.2 v.2 p.2 z r A)
  ·exact h.elim
 | block i b ih=>
  intro M gs Q st QQ hc F q v p h E w a r A;simp only [zJ] at hc;obtain ⟨xb,U,hc⟩:=za hc;simp only [QJ] at hc;cases M <;> simp only [er] at hc <;> first | (cases hc;done) | skip
  rename_i j S;injection hc with e0 T
  subst e0;subst T;refine wp_block (ih U F q v p h r λ x u E' w' D B z N=>?_)
  cases x with
  | normal=>exact A .normal u E' w' D B z N
  | ret=>exact A .ret u E' w' D B z N
  | exit j=>
   show (if j=i then QQ .normal D w' else QQ (.exit j) D w')
   simp only [zPS] at B;split at B
   ·rename_i e;rw [if_pos (zb e)];exact A .normal u E' w' D B z N
   ·rename_i e;rw [if_neg (zA3 e)];exact A (.exit j) u E' w' D B z N
 | loop b ih=>
  intro M gs Q st QQ hc F q v p h E w a r A;simp only [zJ] at hc;obtain ⟨xb,U,hc⟩:=za hc;simp only [QJ] at hc;cases M <;> simp only [er] at hc <;> first | (cases hc;done) | skip
  ·rename_i cc I S _;injection hc with T
   subst T;obtain ⟨⟨n0,h0⟩,af⟩:=h;obtain ⟨aq,H0,V0,q1,E1,q2⟩:=r.cut hG h0;refine wp_loop_ghost (λ n a1 w1=>∃vs H V E,I (n::gs) vs H V/\Rs G nt Z0 B0 w0 dl E w1 a1 (mkW cc vs H V)/\At pn a a1) n0 ⟨aq,H0,V0,E1,q1,q2,.refl⟩ ?_
   rintro n a1 w1 ⟨vs,H,V,E2,k1,k2,k3⟩
   refine ih U F q v p (af n _ _ _ k1) k2 λ x u E' w' D B z N=>?_
   cases x with
   | normal=>
    obtain ⟨n',ar,ak⟩:=B;obtain ⟨ao,H',V',q1,E3,q2⟩:=z.cut hG ak;exact ⟨n',ar,ao,H',V',E3,q1,q2,k3.trans N⟩
   | exit i=>exact A (.exit i) u E' w' D B z (k3.trans N)
   | ret=>exact A .ret u E' w' D B z (k3.trans N)
  ·rename_i k S _;injection hc with T
   subst T;refine wp_loop_ghost (λ n a1 w1=>∃st E,zMj (λ n Q st=>WT G tb S (n::gs) Q st) Q n st/\Rs G nt Z0 B0 w0 dl E w1 a1 st/\At pn a a1) k ⟨st,E,h,r,.refl⟩ ?_
   rintro n a1 w1 ⟨st1,E1,k1,k2,k3⟩
   cases n with
   | zero=>exact k1.elim
   | succ n=>
    refine ih U F q v p k1 k2 λ x u E' w' D B z N=>?_
    cases x with
    | normal=>exact ⟨n,QU n,u,E',B,z,k3.trans N⟩
    | exit i=>exact A (.exit i) u E' w' D B z (k3.trans N)
    | ret=>exact A .ret u E' w' D B z (k3.trans N)
 | scope b ih=>
  intro M gs Q st QQ hc F q v p h E w a r A;simp only [zJ] at hc;have U:=ih (QQ:=λ e a w=>QQ e a w/\∃x,e=zPN x) hc F q v p h r λ x u E' w' D B z N=>⟨A x u E' w' D B z N,x,rfl⟩
  intro b' k cs;obtain ⟨e,a₁,w₁,⟨hq,x,rfl⟩,W⟩:=U b' (.inScope b::k) cs;cases x with
  | normal=>exact ⟨.normal,a₁,w₁,hq,.head step_scope (Steps.trans W (.one step_inScope))⟩
  | exit id=>exact ⟨.exit id,a₁,w₁,hq,λ k' hk=>.head step_scope (W k' (by simpa [exitTo] using hk))⟩
  | ret=>exact ⟨.ret,a₁,w₁,hq,.of_steps (.one step_scope) W⟩
 | refuse a7=>
  intro M gs Q st QQ hc F q v p h E w a r A;simp only [zJ,QJ] at hc;cases M <;> simp only [er] at hc <;> first | (cases hc;done) | skip
  injection hc with e0 T e2
  subst e0;exact h.elim
 | _=>
  intro M gs Q st QQ hc;simp [zJ] at hc
theorem zVj {x y:Code} {z:XC} (h:mpat P x y=some z):∃p m i D j W f d e,z=.seq p (.wN m i D j W f d e):=by
 unfold mpat at h;split at h
 ·split at h
  ·split at h
   ·obtain ⟨m,_,h⟩:=za h;obtain ⟨b,_,h⟩:=za h;cases h;exact ⟨_,_,_,_,_,_,_,_,_,rfl⟩
   ·cases h
  ·cases h
 ·cases h
theorem zUx {f:TC} {m:XV} {h:Nat} {D:List Nat} {i W e:Nat} {d:List XOper} {b:XC}:er f≠.wN m h D i W e d b:=by
 cases f <;> simp [er]
theorem zS2 (M:TbW P G tb) (hG:GPP G) (hm:zBe P G) (F:P.follows .mixedOrders=true) {pn:List Nat}:∀(c:Code) {l:TC} {gs:List Nat} {Q:Ext->Sta->Prop} {st:Sta} {QQ:Exit->Act->World->Prop},zIK P c=some (er l)->zD8 nt (er l)=true->tcOK l=true->tcH (HOK P G) l->tcN pn l=true->WT G tb l gs Q st->∀{E w a},Rs G nt Z0 B0 w0 dl E w a st →
  (∀x b E' w' n,Q x b->Rs G nt Z0 B0 w0 dl E' w' n b->At pn a n->QQ (zPN x) n w')->c.wp P QQ a w:=by
 intro c
 induction c with
 | seq x y K I=>
  intro l gs Q st QQ hc o f j d h E w a r q;simp only [zIK] at hc;split at hc
  ·rename_i z hz;simp only [QJ] at hc;subst hc;obtain ⟨p,m,it,D,en,W,ab,aa,Y,e⟩:=zVj hz;cases l <;> simp only [er] at e <;> first | (cases e;done) | skip
   ·injection e with _ e2;exact (zUx e2).elim
   ·injection e with _ e2;exact (zUx e2).elim
  obtain ⟨xa,ha,hc⟩:=za hc;obtain ⟨xb,hb,hc⟩:=za hc;simp only [QJ] at hc;cases l <;> simp only [er] at hc <;> first | (cases hc;done) | skip
  ·rename_i ta R;injection hc with e1 e2
   subst e1;subst e2;simp only [er,zD8,QA] at o;simp only [tcOK,QA] at f;simp only [tcN,QA] at d;refine wp_seq (K ha o.1 f.1 j.1 d.1 h r λ x b E' w' n A u B=>?_)
   cases x with
   | normal=>exact I hb o.2 f.2 j.2 d.2 A u λ S v O U a2 q1 X q3=>q S v O U a2 q1 X (B.trans q3)
   | exit i=>exact q (.exit i) b E' w' n A u B
   | ret=>exact q .ret b E' w' n A u B
  ·rename_i cc J ta R;injection hc with e1 e2
   subst e1;subst e2;simp only [er,zD8,QA] at o;simp only [tcOK,QA] at f;simp only [tcN,QA] at d;obtain ⟨N,T⟩:=h;refine wp_seq (K ha o.1 f.1 j.1 d.1 N r λ x b E' w' n A u B=>?_)
   cases x with
   | normal=>
    obtain ⟨vs,H,V,q1,E1,X⟩:=u.cut hG A;exact I hb o.2 f.2 j.2 d.2 (T _ _ _ q1) X λ S v O U a2 r1 r2 r3=>q S v O U a2 r1 r2 (B.trans r3)
   | exit i=>exact q (.exit i) b E' w' n A u B
   | ret=>exact q .ret b E' w' n A u B
 | _=>
  intro l gs Q st QQ hc o f j d h E w a r q;exact zVi M hG hm F _ (by simpa only [zIK] using hc) o f j d h r q
theorem zQS (s:SR G nt E w a β st):∀(d:Nat) {v v':AV} {cv:Value},CP st.mv st.m v->VR E w v cv->zBy st.H st.V d v=some v'->VR (frzE E β st.H st.V) w v' cv/\PP v':=by
 have n:∀{v:AV} {cv:Value},PP v->VR E w v cv->VR (frzE E β st.H st.V) w v cv:=λ hp l=>VR.pp (E:=E) (E':=frzE E β st.H st.V) (w:=w) (w':=w) (λ b Q=>⟨.inl Q,rfl⟩) l hp
 intro d
 induction d with
 | zero=>intro v v' cv _ _ h;cases h
 | succ d ih=>
  intro v v' cv O l h;have K:∀{F M:List AV} {vs:List Value},(∀e∈F,CP st.mv st.m e)->VRs E w F vs->zw (zBy st.H st.V d) F=some M->VRs (frzE E β st.H st.V) w M vs/\∀e∈M,PP e:=λ{F M vs} hc A Y=>by
   obtain ⟨m1,m2⟩:=zBf Y;have key:∀(i:Nat) y u,M[i]? = some y->vs[i]? = some u->VR (frzE E β st.H st.V) w y u/\PP y:=λ i y u D I=>by
    have N:i<F.length:=by have:=(QD.1 D).1;omega
    have o:=QE N;exact ih (hc _ (QF o)) (A.2 i _ u o I) (m2 i _ y o D)
   refine ⟨⟨m1.trans A.1,λ i y u D I=>(key i y u D I).1⟩,λ e B=>?_⟩
   obtain ⟨i,N⟩:=List.getElem?_of_mem B;have T:i<vs.length:=by have:=(QD.1 N).1;have:=A.1;omega
   exact (key i e _ N (QE T)).2
  cases O with
  | sym j S=>
   simp only [zBy] at h;split at h
   ·rename_i sz es hV;cases h;have:frz st.H st.V 1 (.sym j)=some (.qp sz es):=by simp only [frz,hV]
    exact ⟨zFf s 1 (.sym j S) l this,.qp _ _ (zF2 s hV).1⟩
   ·cases h
  | agg cs hc=>
   simp only [zBy] at h;split at h
   ·rename_i z p;cases h;obtain ⟨vs,rfl,J,R⟩:=l.qV;obtain ⟨g1,g2⟩:=K hc J p;exact ⟨VR.qM g1 R,.agg _ g2⟩
   ·cases h
  | qf cs hc=>
   simp only [zBy] at h;split at h
   ·rename_i z p;cases h;obtain ⟨vs,rfl,J⟩:=l.w8;obtain ⟨g1,g2⟩:=K hc J p;exact ⟨VR.qJ g1,.qf _ g2⟩
   ·cases h
  | ptr hh off hk=>
   simp only [zBy] at h;split at h
   ·rename_i str cs hg;split at h
    ·rename_i z p;cases h;have q:=Heap.qh hg;have W:=s.hr.obj _ q;obtain ⟨vs,J,R,k3⟩:=zKI W;obtain ⟨_,_,e1,aa⟩:=s.cH.get hg;cases e1;obtain ⟨g1,g2⟩:=K aa J p;refine ⟨?_,.qe _ _ (.agg _ g2)⟩
     cases l with
     | ptr _ _ hd=>
      have:=VR.qe (E:=frzE E β st.H st.V) (w:=w) (.agg z) off (E.ρ hh) 0 (.agg vs.toArray) rfl (.inr (.inl ⟨_,q,rfl⟩)) (VR.qM (by simpa using g1) (λ v l=>R v (by simpa using l))) (λ j c S=>by
       rw [QV];exact k3 j c (by simpa [Value.cells] using S))
      rw [QV] at this;exact this
    ·cases h
   ·cases h
  | iface t u I=>
   simp only [zBy] at h;split at h
   ·rename_i u' U;cases h;cases l with
    | iface _ _ cu X=>
     obtain ⟨g1,g2⟩:=ih I X U;exact ⟨.iface _ _ cu g1,.iface _ _ g2⟩
   ·cases h
  | func f x y ha Q=>
   simp only [zBy] at h;split at h
   ·rename_i x' o;split at h
    ·rename_i y' D;cases h;cases l with
     | func _ _ _ vf vc hf hc rf rc=>
      obtain ⟨⟨g1,g2⟩,p1⟩:=K (vs:=vf.toList) ha ⟨by simpa using hf,λ i x v o l=>rf i x v o (by simpa using l)⟩ o
      obtain ⟨⟨g3,g4⟩,p2⟩:=K (vs:=vc.toList) Q ⟨by simpa using hc,λ i x v o l=>rc i x v o (by simpa using l)⟩ D
      exact ⟨.func _ _ _ vf vc (by simpa using g1) (by simpa using g3) (λ i x v o l=>g2 i x v o (by simpa using l)) (λ i x v o l=>g4 i x v o (by simpa using l)),.func _ _ _ p1 p2⟩
    ·cases h
   ·cases h
  | qe e off B=>cases h;exact ⟨n (.qe _ _ B) l,.qe _ _ B⟩
  | qp sz es B=>cases h;exact ⟨n (.qp _ _ B) l,.qp _ _ B⟩
  | bool b=>cases h;exact ⟨n (.bool _) l,.bool _⟩
  | int k m=>cases h;exact ⟨n (.int _ _) l,.int _ _⟩
  | str s=>cases h;exact ⟨n (.str _) l,.str _⟩
  | ql=>cases h;exact ⟨n .ql l,.ql⟩
  | qa=>cases h;exact ⟨n .qa l,.qa⟩
  | qj=>cases h;exact ⟨n .qj l,.qj⟩
  | qi=>cases h;exact ⟨n .qi l,.qi⟩
  | qd=>cases h;exact ⟨n .qd l,.qd⟩
  | _=>cases h
theorem zI3 {n k:Nat}:∀{i:Nat} {args:List AV},(∀x∈args,CP n k x)->FrCP n k (qF i args)
 | i,[],h,t,v,e=>by cases e
 | i,x::r,h,t,v,e=>by
  simp only [qF,Fr.get] at e;split at e
  ·cases e;exact h _ (.head _)
  ·exact zI3 (λ y b=>h y (.tail _ b)) t v e
theorem zEV:∀h:TC,tcN [] h=true
 | .skip | .ret | .exit _=>rfl
 | .wD d=>by
  simp only [tcN,QG];intro t _;cases t.o.dst <;> rfl
 | .draw f d e=>by
  simp only [tcN,List.all_nil,QT,QG];intro t _;cases t.o.dst <;> rfl
 | .wS d e=>by
  simp only [tcN,QG];intro t _;cases t.o.dst <;> rfl
 | .qO d e=>by
  simp only [tcN,QG];intro t _;cases t.o.dst <;> rfl
 | .seq a b=>by simp only [tcN,zEV a,zEV b];rfl
 | .we _ _ a b=>by simp only [tcN,zEV a,zEV b];rfl
 | .cond _ a b=>by simp only [tcN,zEV a,zEV b];rfl
 | .block _ b=>by simp only [tcN,zEV b]
 | .loop _ _ b=>by simp only [tcN,zEV b]
 | .qA _ b=>by simp only [tcN,zEV b]
theorem zWN {f:Nat} {xf:XF} {tc:TC} (hx:FnX P f xf) (K:xf.body=er tc) (au:tcOK tc=true) (hG:GPP G) (hm:zBe P G) (ah:P.follows .mixedOrders=true) (aw:TbW P G tb) (ay:tcH (HOK P G) tc) {args:List AV} {v:AV} (aa:args.length=xf.np) (ak:∀x∈args,PP x)
  (h:WT G tb tc [] (endP xf.res λ u=>u=v) ⟨qF 0 args,[],[],0,0⟩):Enters P f/\∀H nx,FnT P G f args H nx v H nx:=by
 obtain ⟨fn,aj,o,W⟩:=hx.ok;unfold zNq at o;obtain ⟨U,M,o⟩:=za o;obtain ⟨xc,a6,o⟩:=za o;obtain ⟨rs,a1,o⟩:=za o;split at o
 rotate_left
 ·cases o
 rename_i Q;rw [QA] at Q;simp only [QJ] at o;subst o;simp only at K aa h;subst K;have a8:fn.params.size+fn.nfree<=fn.ntmps:=QM Q.2;refine ⟨⟨fn,U,aj,M,W⟩,λ H nx E w l S ai hg ba=>?_⟩
 have a7:l.size=args.length:=by rw [ai.1];simp
 have al:∀{x:AV} {cx:Value},PP x->VR E w x cx->VR ⟨E.ρ,λ _=>False,E.Z,E.σ⟩ w x cx:=λ A hv=>VR.pp (E:=E) (E':=⟨E.ρ,λ _=>False,E.Z,E.σ⟩) (w:=w) (w':=w) (λ b K=>⟨K,rfl⟩) hv A
 have s0:SR G fn.ntmps ⟨E.ρ,λ _=>False,E.Z,E.σ⟩ w { tmps:=l++Array.replicate (fn.ntmps-l.size) undef,defers:=[] } (λ _=>none) ⟨qF 0 args,[],[],0,0⟩:=by
  refine ⟨⟨.nil,λ p A=>by simp at A,λ p A=>by simp at A,λ p A=>by simp at A,λ p A=>by simp at A,S.wg⟩,⟨?_,λ t u ht=>?_⟩,λ g u X=>⟨al (hG g u X) (hg g u X).1,(hg g u X).2⟩,λ h hh=>hh.elim,zI3 λ x hx=>(ak x hx).cp,λ p A=>(by cases A),λ j vi R=>(by cases R),λ j j2 i off R=>(by cases R),λ j vi b R=>(by cases R),λ j j' vi bb b R=>(by cases R)⟩
  ·simp;omega
  ·obtain ⟨i,rfl,hi⟩:=zLx ht;obtain ⟨Y,h1,h2⟩:=ai.getElem? hi;have h3:l[i]? = some Y:=by simpa using h1
   have h4:=(Array.getElem?_eq_some_iff.1 h3).1;simp only [QV];rw [Array.getD_eq_getD_getElem?,Array.getElem?_append_left h4,h3];exact al (ak u (QF hi)) h2
 have r0:Rs G fn.ntmps E.Z (λ _=>False) w [] ⟨E.ρ,λ _=>False,E.Z,E.σ⟩ w { tmps:=l++Array.replicate (fn.ntmps-l.size) undef,defers:=[] } ⟨qF 0 args,[],[],0,0⟩:=by
  refine ⟨_,s0,Kp.less λ x hx=>?_,rfl⟩
  rcases hx with ⟨p,A,_⟩ | ⟨j,vi,R,_⟩
  ·cases A
  ·cases R
 refine calls_of_wp aj M (zS2 aw hG hm ah U a6 Q.1 au ay (pn:=[]) (zEV tc) h r0 λ x d E' w' a' B r' _=>?_)
 obtain ⟨β,s,N,df⟩:=r'.out;have ad:∀{x:Ext},(∀i,x≠.exit i)->endP rs (λ u=>u=v) x d->a'.defers=[]/\∃ae,(results fn a'.tmps).run P w'=.ok ae w'/\∃Y E',(Ending.returned ae)=.returned Y/\HR E' H w'/\Tr E H w E' H w' nx nx/\VR E' w' v Y:=by
  intro x aq B;have:∃I,ress d.H d.fr rs=some I/\(match zBy d.H d.V 8 (zCM I) with | some v'=>v'=v | none=>False):=by
   cases x with
   | exit i=>exact absurd rfl (aq i)
   | normal=>
    unfold endP endW at B;simp only at B;split at B
    ·rename_i I J;exact ⟨I,J,B⟩
    ·exact B.elim
   | ret=>
    unfold endP endW at B;simp only at B;split at B
    ·rename_i I J;exact ⟨I,J,B⟩
    ·exact B.elim
  obtain ⟨I,J,B⟩:=this;obtain ⟨Y,e1,e2⟩:=zLd s.hr s.hf a1 J;split at B
  rotate_left
  ·exact B.elim
  rename_i v' az;subst B;have ao:CP d.mv d.m (zCM I):=by
   have af:∀{rs:List XR} {I:List AV},ress d.H d.fr rs=some I->∀u∈I,CP d.mv d.m u:=by
    intro rs
    induction rs with
    | nil=>intro I h u hu;cases h;cases hu
    | cons q qs ih=>
     intro I h u hu;simp only [ress] at h;split at h
     ·rename_i z F;split at h
      ·rename_i zs ar;cases h;rcases QH.1 hu with rfl | hu
       ·cases q with
        | t n=>exact s.qZ n _ F
        | cell n sz ag=>
         simp only [zPh] at F;split at F
         ·rename_i ab ax;exact zM4 s.cH (s.qZ n ab ax) F
         ·cases F
       ·exact ih ar u hu
      ·cases h
     ·cases h
   have T:=af J;cases I with
   | nil=>exact .qf _ λ e he=>by cases he
   | cons u us=>
    cases us with
    | nil=>exact T u (.head _)
    | cons u2 us=>exact .qf _ T
  obtain ⟨k1,k2⟩:=zQS s 8 ao e2 az;have hZ:∀z,(frzE E' β d.H d.V).Z z->E.Z z\/w.heap.size<=z:=by
   rintro z (F | F)
   ·rcases N.qN z F with h | h | h
    ·exact .inl h
    ·exact h.elim
    ·exact .inr h
   ·rcases N.own z F with h | h
    ·exact h.elim
    ·exact .inr h
  have ac:∀z,(frzE E' β d.H d.V).Z z->z<w'.heap.size:=by
   rintro b (K | ⟨p,A,rfl⟩ | ⟨j,vi,q1,q2,q3⟩)
   ·exact s.hr.wg b K
   ·exact s.hr.lt A
   ·exact (s.qU j vi q1).2.lt q2 q3
  have O:∀x,x<w.heap.size->w'.heap[x]? = w.heap[x]?:=λ x hx=>N.wa x hx λ h=>h
  refine ⟨df,Y,e1,Y,⟨E.ρ,E.D,(frzE E' β d.H d.V).Z,E.σ⟩,rfl,⟨S.nodup,S.qC,S.inj,λ p A=>?_,λ p A F=>?_,ac⟩,⟨QB _,λ _ _=>rfl,λ h=>⟨.inl,λ h=>h.elim id λ⟨x,y⟩=>by omega⟩,λ z F=>.inl (N.qG z F),λ z F=>(hZ z F).imp id .inr,λ p A=>.inl ⟨p,A,rfl⟩,N.tape,N.os,N.output,N.size,λ x hx _=>O x hx,N.qn,rfl⟩,?_⟩
  ·refine (S.obj p A).mono (O _ (S.lt A)) λ hv=>?_
   exact VR.mono (E:=E) (E':=⟨E.ρ,E.D,(frzE E' β d.H d.V).Z,E.σ⟩) (λ _ h=>⟨h,rfl⟩) (λ b K=>⟨.inl (N.qG b K),O b (S.wg b K)⟩) N.qn hv
  ·rcases hZ _ F with h | h
   ·exact S.nz p A h
   ·have:=S.lt A;have h:w.heap.size<=E.ρ p.1:=h;omega
  ·exact VR.pp (E:=frzE E' β d.H d.V) (E':=⟨E.ρ,E.D,(frzE E' β d.H d.V).Z,E.σ⟩) (w:=w') (w':=w') (λ b K=>⟨K,rfl⟩) k1 k2
 cases x with
 | normal=>exact ad (λ i e=>by cases e) B
 | ret=>exact ad (λ i e=>by cases e) B
 | exit i=>exact B.elim
end
end Go.Sy
namespace Go.Sy
section
variable {P:Program} {G:Cx} {tb:TblS}
theorem zLS {fr:Fr}:∀{pn:List Nat} {i0:Nat},pinE fr i0 pn=true->∀(j t:Nat),pn[j]? = some t->fr.get t=some (.ptr (i0+j) 0)
 | [],i0,h,j,t,e=>by simp at e
 | t0::r,i0,h,j,t,e=>by
  simp only [pinE,QA] at h;obtain ⟨b,d⟩:=h;cases j with
  | zero=>
   simp only [List.getElem?_cons_zero,QJ] at e;subst e;split at b
   ·rename_i i f;rw [f,zb b];rfl
   ·cases b
  | succ j=>
   have:=zLS d j t (by simpa using e)
   rw [this];congr 2;omega
theorem zRf {E:Env} {w:World} {h o:Nat} {cv:Value} (b:VR E w (.ptr h o) cv):cv=.pointer (some ⟨E.ρ h,o,none⟩):=by
 cases b;rfl
theorem zOi {n k:Nat} {H:Heap} {fr:Fr} (i:FrCP n k fr) (l:HCP n k H):∀{rs:List XR} {vs:List AV},ress H fr rs=some vs->∀u∈vs,CP n k u:=by
 intro rs
 induction rs with
 | nil=>intro vs h u d;cases h;cases d
 | cons q x o=>
  intro vs h u d;simp only [ress] at h;split at h
  ·rename_i z b;split at h
   ·rename_i p f;cases h;rcases QH.1 d with rfl | d
    ·cases q with
     | t n=>exact i n _ b
     | cell n v y=>
      simp only [zPh] at b;split at b
      ·rename_i j e;exact zM4 l (i n j e) b
      ·cases b
    ·exact o f u d
   ·cases h
  ·cases h
theorem zNb {n k:Nat} {vs:List AV} (h:∀u∈vs,CP n k u):CP n k (zCM vs):=by
 cases vs with
 | nil=>exact .qf _ λ e d=>by cases d
 | cons u b=>
  cases b with
  | nil=>exact h u (.head _)
  | cons f b=>exact .qf _ h
theorem zWp {f:Nat} {xf:XF} {T:TC} (hx:FnX P f xf) (hb:xf.body=er T) (aj:tcOK T=true) (hG:GPP G) (hm:zBe P G) (ac:P.follows .mixedOrders=true) (ak:TbW P G tb) (ao:tcH (HOK P G) T) {pn:List Nat} (aw:tcN pn T=true)
  {args:List AV} {H:Heap} {V:Vecs} {v:AV} {H2:Heap} {V2:Vecs} (U:args.length=xf.np) (ax:pinE (qF 0 args) 0 pn=true)
  (h:WT G tb T [] (endH xf.res pn λ u H' V'=>u=v/\H'=H2/\V'=V2) ⟨qF 0 args,H,V,H.length,V.length⟩):Enters P f/\HFn P G f args H V v H2 V2:=by
 obtain ⟨fn,ae,l,O⟩:=hx.ok;unfold zNq at l;obtain ⟨J,z,l⟩:=za l;obtain ⟨xc,ay,l⟩:=za l;obtain ⟨rs,ar,l⟩:=za l;split at l
 rotate_left
 ·cases l
 rename_i B;rw [QA] at B;simp only [QJ] at l;subst l;simp only at hb U h;subst hb;have a1:fn.params.size+fn.nfree<=fn.ntmps:=QM B.2;refine ⟨⟨fn,J,ae,z,O⟩,λ E w β d s ad ag=>?_⟩
 have az:d.size=args.length:=by rw [ad.1];simp
 have I:FrR E w (qF 0 args) { tmps:=d++Array.replicate (fn.ntmps-d.size) undef,defers:=[] } fn.ntmps:=by
  refine ⟨?_,λ t u ht=>?_⟩
  ·simp;omega
  ·obtain ⟨i,rfl,hi⟩:=zLx ht;obtain ⟨D,h1,h2⟩:=ad.getElem? hi;have h3:d[i]? = some D:=by simpa using h1
   have h4:=(Array.getElem?_eq_some_iff.1 h3).1;simp only [QV];rw [Array.getD_eq_getD_getElem?,Array.getElem?_append_left h4,h3];exact h2
 have s0:SR G fn.ntmps E w { tmps:=d++Array.replicate (fn.ntmps-d.size) undef,defers:=[] } β ⟨qF 0 args,H,V,H.length,V.length⟩:=
  ⟨s.hr,I,s.hg,s.qC,zI3 ag,s.cH,s.qU,s.vp,s.bz,s.qT⟩
 have r0:Rs G fn.ntmps E.Z (BS E β H V) w [] E w { tmps:=d++Array.replicate (fn.ntmps-d.size) undef,defers:=[] } ⟨qF 0 args,H,V,H.length,V.length⟩:=⟨β,s0,Kp.refl,rfl⟩;refine calls_of_wp ae z (zS2 ak hG hm ac J ay B.1 aj ao aw h r0 λ x j E' w' a' n r' aq=>?_)
 obtain ⟨β',F,kp,df⟩:=r'.out;have X:∀{x:Ext},(∀i,x≠.exit i)->endH rs pn (λ u H' V'=>u=v/\H'=H2/\V'=V2) x j->a'.defers=[]/\∃ab,(results fn a'.tmps).run P w'=.ok ab w' ∧
   ∃D E' β',(Ending.returned ab)=.returned D/\VR E' w' v D/\(∀p∈H2,E'.ρ p.1=E.ρ p.1)/\SR G 0 E' w' { tmps:=#[],defers:=[] } β' ⟨[],H2,V2,H2.length,V2.length⟩/\Kp E.Z (BS E β H V) w E'.Z (BS E' β' H2 V2) w':=by
  intro x ah n;have:∃y,ress j.H j.fr rs=some y/\(match zMh (zCM y) with
    | false=>match hasH 8 (zCM y)||!pinE j.fr 0 pn with
     | false=>zDo (List.range pn.length) (zDK j.H (List.range pn.length) []) [] j λ _ H V=>(zCM y)=v/\H=H2/\V=V2
     | true=>False
    | true=>match pinE j.fr 0 pn with
     | true=>zDo (List.range pn.length) (zDK j.H (List.range pn.length) (zGc 8 (zCM y) [])) [zCM y] j λ us H V=>match us with
      | [u]=>u=v/\H=H2/\V=V2
      | _=>False
     | false=>False):=by
   cases x with
   | exit i=>exact absurd rfl (ah i)
   | normal=>
    unfold endH endW at n;simp only at n;split at n
    ·rename_i y q;exact ⟨y,q,n⟩
    ·exact n.elim
   | ret=>
    unfold endH endW at n;simp only at n;split at n
    ·rename_i y q;exact ⟨y,q,n⟩
    ·exact n.elim
  obtain ⟨y,q,n⟩:=this;obtain ⟨D,e1,e2⟩:=zLd F.hr F.hf ar q;have K:∀{hm:List Nat} {sm:List Nat} {S:Heap} {V3:Vecs},pinE j.fr 0 pn=true->hm=List.range pn.length->CanV hm sm j S V3->∀p∈S,(zAa E' hm sm).ρ p.1=E.ρ p.1:=λ{hm sm S V3} o au cn p hp=>by
   subst au;obtain ⟨_,g2,_⟩:=zHs cn.rh;have W:p.1<pn.length:=by
    have:p.1∈S.keys:=Qf.2 ⟨p,hp,rfl⟩;rw [g2,List.mem_range'] at this;obtain ⟨i,h1,h2⟩:=this;rw [List.length_range] at h1;omega
   have R:=QE W;have f1:=zRf (I.get _ _ (zLS ax p.1 _ R));have f2:=zRf (F.hf.get _ _ (zLS o p.1 _ R));have f3:=aq _ (QF R);rw [f1,f2] at f3;simp only [QV,Value.pointer.injEq,QJ,Addr.mk.injEq,and_true] at f3;show E'.ρ ((List.range pn.length).getD p.1 0)=E.ρ p.1
   rw [List.getD_eq_getElem?_getD,List.getElem?_range W];exact f3
  split at n
  ·split at n
   rotate_left
   ·exact n.elim
   rename_i A;rw [Bool.or_eq_false_iff] at A;obtain ⟨hh,o⟩:=A;simp only [Bool.not_eq_false'] at o;obtain ⟨ai,S,V3,⟨q1,q2,q3⟩,cn,_,_,_,N,Q⟩:=zJH hG F (vs0:=[]) (cvs:=[]) (λ v hv=>by cases hv) ⟨rfl,λ i x u hx=>by simp at hx⟩ n
   subst q2;subst q3;have Y:PP v:=q1▸zIP 8 (zNb (zOi F.qZ F.cH q)) hh
   rw [q1] at e2;exact ⟨df,D,e1,D,_,_,rfl,VR.pp (E:=E') (E':=zAa E' _ _) (w:=w') (w':=w') (λ b hb=>⟨hb,rfl⟩) e2 Y,K o rfl cn,N 0 { tmps:=#[],defers:=[] } [] ⟨rfl,λ t v h=>by cases h⟩ (λ t v h=>by cases h),kp.trans Q⟩
  ·split at n
   rotate_left
   ·exact n.elim
   rename_i o;have af:∀u∈[zCM y],CP j.mv j.m u:=λ u hu=>by
    rw [Qc.1 hu];exact zNb (zOi F.qZ F.cH q)
   have aa:VRs E' w' [zCM y] [D]:=⟨rfl,λ i x u hx hu=>by
    cases i with
    | zero=>cases hx;cases hu;exact e2
    | succ i=>simp at hx⟩
   obtain ⟨ai,S,V3,M,cn,_,al,_,N,Q⟩:=zJH hG F af aa n;split at M
   rotate_left
   ·exact M.elim
   rename_i u;obtain ⟨rfl,rfl,rfl⟩:=M;exact ⟨df,D,e1,D,_,_,rfl,al.2 0 _ _ rfl rfl,K o rfl cn,N 0 { tmps:=#[],defers:=[] } [] ⟨rfl,λ t v h=>by cases h⟩ (λ t v h=>by cases h),kp.trans Q⟩
 cases x with
 | normal=>exact X (λ i e=>by cases e) n
 | ret=>exact X (λ i e=>by cases e) n
 | exit i=>exact n.elim
end
end Go.Sy
namespace Go.Sy
def OptJ (β:Type):Type:=Option β
def gd {β:Type} (b:Bool) (x:Option β):Option β:=(match b with
 | true=>x
 | false=>none:OptJ β)
def br {β:Type} (b:Bool) (x y:Option β):Option β:=(match b with
 | true=>x
 | false=>y:OptJ β)
def bd {α β:Type} (o:Option α) (f:α->Option β):Option β:=(match o with
 | some a=>f a
 | none=>none:OptJ β)
inductive D where
 | v (k:K)
 | hc (h:Nat) (str:Bool) (n:Nat)
 | vec (j sz:Nat)
 | mp (j:Nat)
 | uv (j:Nat) (es:List (AV×AV))
abbrev DT (β:Type):List D->Type
 | []=>Option β
 | .v .b::r=>Bool->DT β r
 | .v (.i _)::r=>Int->DT β r
 | .v .s::r=>List Nat->DT β r
 | .v (.l _)::r=>List AV->DT β r
 | .v .av::r=>AV->DT β r
 | .v (.c _)::r=>DT β r
 | .v (.agg _)::r=>DT β r
 | .v (.qf _)::r=>DT β r
 | .v (.ep _)::r=>DT β r
 | .v (.uD _)::r=>DT β r
 | .hc _ _ _::r=>DT β r
 | .vec _ _::r=>List AV->DT β r
 | .mp _::r=>List (AV×AV)->DT β r
 | .uv _ _::r=>DT β r
def mflat:List (AV×AV)->List AV
 | []=>[]
 | (k,v)::r=>k::v::mflat r
def din {β:Type}:(wk:Bool)->(ds:List D)->DT β ds->List AV->Heap->Vecs->Option β
 | wk,[],P,d,H,V=>match d with
  | []=>match H with
   | []=>match V with
    | []=>P
    | _=>none
   | _=>none
  | _=>none
 | wk,.v .b::r,P,d,H,V=>match d with
  | .bool b::d=>din wk r (P b) d H V
  | _=>none
 | wk,.v (.i k)::r,P,d,H,V=>match d with
  | .int I n::d=>match ksame k I with
   | true=>din wk r (P n) d H V
   | false=>none
  | _=>none
 | wk,.v .s::r,P,d,H,V=>match d with
  | .str s::d=>din wk r (P s) d H V
  | _=>none
 | wk,.v (.l z)::r,P,d,H,V=>match d with
  | .qp o p::d=>match Nat.beq z o with
   | true=>din wk r (P p) d H V
   | false=>none
  | .qa::d=>match wk with
   | true=>din wk r (P []) d H V
   | false=>none
  | _=>none
 | wk,.v .av::r,P,d,H,V=>match d with
  | v::d=>din wk r (P v) d H V
  | _=>none
 | wk,.v (.c v)::r,P,d,H,V=>match d with
  | u::d=>match wC 20 u v with
   | true=>din wk r P d H V
   | false=>none
  | _=>none
 | wk,.v (.agg n)::r,P,d,H,V=>match d with
  | .agg f::d=>match Nat.beq f.length n with
   | true=>din wk r P (f++d) H V
   | false=>none
  | _=>none
 | wk,.v (.qf n)::r,P,d,H,V=>match d with
  | .qf f::d=>match Nat.beq f.length n with
   | true=>din wk r P (f++d) H V
   | false=>none
  | _=>none
 | wk,.v (.ep off)::r,P,d,H,V=>match d with
  | .qe e x::d=>match Nat.beq off x with
   | true=>din wk r P (e::d) H V
   | false=>none
  | _=>none
 | wk,.v (.uD t)::r,P,d,H,V=>match d with
  | .iface B e::d=>match Nat.beq t B with
   | true=>din wk r P (e::d) H V
   | false=>none
  | _=>none
 | wk,.hc h str n::r,P,d,H,V=>match d with
  | []=>match H with
   | (F,.cells y f)::H=>match Nat.beq h F&&str==y&&Nat.beq f.length n with
    | true=>din false r P f H V
    | false=>none
   | _=>none
  | _=>none
 | wk,.vec j z::r,P,d,H,V=>match d with
  | []=>match V with
   | (q,.vec o p)::V=>match Nat.beq j q&&Nat.beq z o with
    | true=>din false r (P p) [] H V
    | false=>none
   | _=>none
  | _=>none
 | wk,.mp j::r,P,d,H,V=>match d with
  | []=>match V with
   | (q,.mp p)::V=>match Nat.beq j q with
    | true=>din false r (P p) [] H V
    | false=>none
   | _=>none
  | _=>none
 | wk,.uv j A::r,P,d,H,V=>match d with
  | []=>match V with
   | (q,.mp p)::V=>match Nat.beq j q&&wC 20 (.agg (mflat p)) (.agg (mflat A)) with
    | true=>din false r P [] H V
    | false=>none
   | _=>none
  | _=>none
def dout {β:Type}:(ds:List D)->(List AV->Heap->Vecs->Option β)->DT β ds
 | [],F=>F [] [] []
 | .v .b::r,F=>λ b=>dout r λ d H V=>F (.bool b::d) H V
 | .v (.i k)::r,F=>λ n=>dout r λ d H V=>F (.int k n::d) H V
 | .v .s::r,F=>λ s=>dout r λ d H V=>F (.str s::d) H V
 | .v (.l o)::r,F=>λ f=>dout r λ d H V=>F (.qp o f::d) H V
 | .v .av::r,F=>λ v=>dout r λ d H V=>F (v::d) H V
 | .v (.c v)::r,F=>dout r λ d H V=>F (v::d) H V
 | .v (.agg n)::r,F=>dout r λ d H V=>F (.agg (d.take n)::d.drop n) H V
 | .v (.qf n)::r,F=>dout r λ d H V=>F (.qf (d.take n)::d.drop n) H V
 | .v (.ep off)::r,F=>dout r λ d H V=>match d with
  | e::d=>F (.qe e off::d) H V
  | []=>none
 | .v (.uD t)::r,F=>dout r λ d H V=>match d with
  | e::d=>F (.iface t e::d) H V
  | []=>none
 | .hc h str n::r,F=>dout r λ d H V=>F [] ((h,.cells str d)::H) V
 | .vec j o::r,F=>λ f=>dout r λ d H V=>F d H ((j,.vec o f)::V)
 | .mp j::r,F=>λ f=>dout r λ d H V=>F d H ((j,.mp f)::V)
 | .uv j f::r,F=>dout r λ d H V=>F d H ((j,.mp f)::V)
def dK {β:Type} (wk:Bool) (b:List K) (o:Option AV) (f:DT β (b.map .v)):Option β:=match o with
 | some v=>din wk (b.map .v) f [v] [] []
 | none=>none
def dko {β:Type} (b:List K) (k:AV->Option β):DT β (b.map .v):=dout (b.map .v) λ d _ _=>match d with
 | [v]=>k v
 | _=>none
def dD {β:Type} (wk:Bool) (ds:List D) (o:Option (AV×Heap×Vecs)) (f:DT β ds):Option β:=match o with
 | some (v,H,V)=>din wk ds f [v] H V
 | none=>none
def ddo {β:Type} (ds:List D) (k:AV->Heap->Vecs->Option β):DT β ds:=dout ds λ b H V=>match b with
 | [v]=>k v H V
 | _=>none
abbrev TbF:=List (Nat×(List AV->Option AV))
def zMm:TbF->Nat->Option (List AV->Option AV)
 | [],_=>none
 | s::r,f=>match Nat.beq f s.1 with
  | true=>some s.2
  | false=>zMm r f
def zPn {β:Type} (wk:Bool) (tb:TbF) (f:Nat) (args:List AV) (b:List K) (k:AV->Option β):Option β:=
 match zMm tb f with
 | some g=>match b with
  | []=>bd (g args) k
  | _=>dK wk b (g args) (dko b k)
 | none=>none
def fcall {β:Type} (wk:Bool) (tb:TbF) (f:Nat) (args:List AV) (b:List K) (st:Sta) (k:AV->Sta->Option β):Option β:=
 match args.any (hasH 8) with
 | false=>zPn wk tb f args b λ v=>k v st
 | true=>match zw (frz st.H st.V 8) args with
  | some args=>zPn wk tb f args b λ v=>match zCh 8 v with
   | true=>k v st
   | false=>none
  | none=>none
def zNT {β:Type} (n:Int) (lo b:Option AV) (k:Int->Int->Option β):Option β:=
 match lo with
 | none=>match b with
  | none=>k 0 n
  | some (.int _ h)=>gd (decide (0<=h/\h<=n)) (k 0 h)
  | _=>none
 | some (.int _ l)=>match b with
  | none=>gd (decide (0<=l/\l<=n)) (k l n)
  | some (.int _ h)=>gd (decide (0<=l/\l<=h/\h<=n)) (k l h)
  | _=>none
 | _=>none
abbrev FXd {β:Type} (st:Sta) (x:Option Out) (k:AV->Sta->Option β):Option β:=match x with
 | some (v,H,m)=>k v ⟨st.fr,H,st.V,m,st.mv⟩
 | none=>none
def zLT {β:Type} (n:Int):Nat->(Nat->Option β)->Option β
 | 0,_=>none
 | m+1,k=>br (decide (n=.ofNat m)) (k m) (zLT n m k)
def lkB {β:Type} (e:Bool) (kd:List Kd) (d:AV):List (AV×AV)->(Option AV->Option β)->Option β
 | [],k=>k none
 | (j,v)::r,k=>match eqk e kd d j with
  | some b=>br b (k (some v)) (lkB e kd d r k)
  | none=>none
def fop {β:Type} (wk:Bool) (G:Cx) (tb:TbF) (st:Sta) (o:XO) (B:List K) (k:AV->Sta->Option β):Option β:=
 match o with
 | .bin op x y=>match x.ev G st.fr with
  | some (.str a)=>match op with
   | .add=>match y.ev G st.fr with
    | some (.str b)=>gd (decide (a.length+b.length<=zc)) (k (.str (a++b)) st)
    | _=>none
   | op=>FXd st (xoS G ze st.fr st.H st.m (.bin op x y)) k
  | some (.int D a)=>match op with
   | .quo=>match y.ev G st.fr with
    | some (.int S b)=>match ksame D S with
     | true=>gd (decide (b≠0)) (k (.int D (wrapx D (a.tdiv b))) st)
     | false=>none
    | _=>none
   | .rem=>match y.ev G st.fr with
    | some (.int S b)=>match ksame D S with
     | true=>gd (decide (b≠0)) (k (.int D (a.tmod b)) st)
     | false=>none
    | _=>none
   | .shl=>match y.ev G st.fr with
    | some (.int _ b)=>gd (decide (0<=b)) (k (.int D (wrapx D (a*2 ^ (Min.min b.toNat D.bits)))) st)
    | _=>none
   | .shr=>match y.ev G st.fr with
    | some (.int _ b)=>gd (decide (0<=b)) (k (.int D (a.fdiv (2 ^ (Min.min b.toNat D.bits)))) st)
    | _=>none
   | op=>FXd st (xoS G ze st.fr st.H st.m (.bin op x y)) k
  | _=>none
 | .wC neg kd x y=>match x.ev G st.fr with
  | some (.agg a)=>match y.ev G st.fr with
   | some (.agg b)=>match eqv kd a b with
    | some r=>k (bneg neg r) st
    | none=>none
   | _=>none
  | _=>none
 | .pick c a b=>match c.ev G st.fr with
  | some (.bool W)=>match c with
   | .t n=>br W (match a.ev G st.fr with
     | some v=>k v ⟨st.fr.put n (.bool true),st.H,st.V,st.m,st.mv⟩
     | none=>none) (match b.ev G st.fr with
     | some v=>k v ⟨st.fr.put n (.bool false),st.H,st.V,st.m,st.mv⟩
     | none=>none)
   | _=>FXd st (xoS G ze st.fr st.H st.m (.pick c a b)) k
  | _=>none
 | .wF x i=>match x.ev G st.fr with
  | some (.str s)=>match i.ev G st.fr with
   | some (.int _ n)=>bd (ixN s n) λ c=>k (.int .u8 (.ofNat c)) st
   | _=>none
  | _=>none
 | .wA x lo I=>match x.ev G st.fr with
  | some (.str s)=>match evo G st.fr lo with
   | some lo=>match evo G st.fr I with
    | some I=>zNT (.ofNat s.length) lo I λ l h=>k (.str ((s.take h.toNat).drop l.toNat)) st
    | none=>none
   | none=>none
  | _=>none
 | .wu x lo I U d=>match x.ev G st.fr with
  | some (.qp A q)=>match Nat.beq d A with
   | true=>match U with
    | none=>match evo G st.fr lo with
     | some lo=>match evo G st.fr I with
      | some I=>zNT (.ofNat q.length) lo I λ l h=>k (.qp d ((q.take h.toNat).drop l.toNat)) st
      | none=>none
     | none=>none
    | some _=>none
   | false=>none
  | some .qa=>FXd st (xoS G ze st.fr st.H st.m (.wu x lo I U d)) k
  | _=>none
 | .qB x i d=>match x.ev G st.fr with
  | some (.qp A q)=>match Nat.beq d A with
   | true=>match i.ev G st.fr with
    | some (.int _ n)=>dK wk B (ixN q n) (dko B λ v=>k (.qe v 0) st)
    | _=>none
   | false=>none
  | some (.sym j)=>match st.V.get j with
   | some (.vec A q)=>match Nat.beq d A with
    | true=>match i.ev G st.fr with
     | some (.int _ n)=>gd (decide (0<=n/\n<.ofNat q.length)) (k (.sym st.mv) ⟨st.fr,st.H,(st.mv,.qS j n.toNat 0)::st.V,st.m,st.mv+1⟩)
     | _=>none
    | false=>none
   | _=>none
  | some (.row _ _ l _ _ _)=>match i.ev G st.fr with
   | some (.int kd n)=>zLT n l λ m=>FXd st (xoS G ze st.fr st.H st.m (.qB x (.c (.int kd (.ofNat m))) d)) k
   | _=>none
  | _=>none
 | .wi x=>match x.ev G st.fr with
  | some (.sym j)=>match st.V.get j with
   | some (.vec _ q)=>k (.int .i64 (.ofNat q.length)) st
   | _=>none
  | _=>FXd st (xoS G ze st.fr st.H st.m (.wi x)) k
 | .load x d F=>match x.ev G st.fr with
  | some (.sym p)=>match st.V.get p with
   | some (.qS j i off)=>match st.V.get j with
    | some (.vec _ q)=>dK wk B (ldE q i off d F) (dko B λ v=>k v st)
    | _=>none
   | _=>none
  | _=>FXd st (xoS G ze st.fr st.H st.m (.load x d F)) k
 | .qP x off=>match x.ev G st.fr with
  | some (.sym p)=>match st.V.get p with
   | some (.qS j i o)=>match st.V.get j with
    | some (.vec _ _)=>k (.sym st.mv) ⟨st.fr,st.H,(st.mv,.qS j i (o+off))::st.V,st.m,st.mv+1⟩
    | _=>none
   | _=>none
  | _=>FXd st (xoS G ze st.fr st.H st.m (.qP x off)) k
 | .store x y d=>match x.ev G st.fr with
  | some (.sym p)=>match st.V.get p with
   | some (.qS j i off)=>match st.V.get j with
    | some (.vec A q)=>match y.ev G st.fr with
     | some v=>match Nat.beq off 0&&Nat.beq d A&&ppS 12 v with
      | true=>match cellsOf v d with
       | some _=>k (.qf []) ⟨st.fr,st.H,(j,.vec A (q.set i v))::st.V.del j,st.m,st.mv⟩
       | none=>none
      | false=>none
     | none=>none
    | _=>none
   | _=>none
  | _=>FXd st (xoS G ze st.fr st.H st.m (.store x y d)) k
 | .vu x=>match x.ev G st.fr with
  | some (.str s)=>k (.sym st.mv) ⟨st.fr,st.H,(st.mv,.vec 1 (s.map λ b=>.int .u8 (.ofNat b)))::st.V,st.m,st.mv+1⟩
  | _=>none
 | .vb x=>match x.ev G st.fr with
  | some (.sym j)=>match st.V.get j with
   | some (.vec d q)=>match Nat.beq d 1 with
    | true=>bd (zAN q) λ s=>k (.str s) st
    | false=>none
   | _=>none
  | some (.qp d q)=>match Nat.beq d 1 with
   | true=>bd (zAN q) λ s=>k (.str s) st
   | false=>none
  | some .qa=>k (.str []) st
  | _=>none
 | .qD len d z N=>match B with
  | []=>match fillx G st.fr z N with
   | some T=>match Nat.beq T.length (len*d) with
    | true=>match zEe d len T with
     | some q=>match q.all (ppS 12) with
      | true=>k (.sym st.mv) ⟨st.fr,st.H,(st.mv,.vec d q)::st.V,st.m,st.mv+1⟩
      | false=>none
     | none=>none
    | false=>none
   | none=>none
  | _=>FXd st (xoS G ze st.fr st.H st.m (.qD len d z N)) k
 | .qK l c d bytes z=>match l.ev G st.fr with
  | some (.int _ n)=>match c.ev G st.fr with
   | some (.int _ c)=>match zEe d 1 z,Nat.beq z.length d with
    | some [e],true=>gd (decide (0<=n/\n<=c/\c.toNat*bytes<=zg/\c.toNat<=zg))
     (k (.sym st.mv) ⟨st.fr,st.H,(st.mv,.vec d (List.replicate n.toNat e))::st.V,st.m,st.mv+1⟩)
    | _,_=>none
   | _=>none
  | _=>none
 | .append x y d bytes=>match zLC y with
  | true=>none
  | false=>match x.ev G st.fr with
   | some v=>match y.ev G st.fr with
    | some u=>match zCC st.H d u with
     | some M=>match zMg u||ppS 12 (.agg M) with
      | true=>match v with
       | .qa=>gd (decide (M.length*bytes<=zg)) (k (.sym st.mv) ⟨st.fr,st.H,(st.mv,.vec d M)::st.V,st.m,st.mv+1⟩)
       | .sym j=>match st.V.get j with
        | some (.vec A q)=>match Nat.beq d A with
         | true=>gd (decide ((q.length+M.length)*bytes<=zg/\q.length+M.length<=zg)) (k (.sym st.mv) ⟨st.fr,st.H,(st.mv,.vec d (q++M))::st.V.del j,st.m,st.mv+1⟩)
         | false=>none
        | _=>none
       | _=>none
      | false=>none
     | none=>none
    | none=>none
   | none=>none
 | .qY x i l s a=>match B with
  | []=>FXd st (xoS G ze st.fr st.H st.m (.qY x i l s a)) k
  | _=>match i.ev G st.fr with
   | some (.int kd n)=>zLT n l λ m=>FXd st (xoS G ze st.fr st.H st.m (.qY x (.c (.int kd (.ofNat m))) l s a)) k
   | _=>none
 | .qy x i l s=>match B with
  | []=>FXd st (xoS G ze st.fr st.H st.m (.qy x i l s)) k
  | _=>match i.ev G st.fr with
   | some (.int kd n)=>zLT n l λ m=>FXd st (xoS G ze st.fr st.H st.m (.qy x (.c (.int kd (.ofNat m))) l s)) k
   | _=>none
 | .wj=>k (.sym st.mv) ⟨st.fr,st.H,(st.mv,.mp [])::st.V,st.m,st.mv+1⟩
 | .lookup F kd m x z ok=>match m.ev G st.fr with
  | some (.sym j)=>match st.V.get j with
   | some (.mp q)=>match x.ev G st.fr with
    | some J=>match zDO F kd J with
     | true=>match B with
      | []=>lkB F kd J q λ o=>k (match o with
       | some u=>lkV ok true u
       | none=>lkV ok false z) st
      | B=>dK wk B (lkR ok z (mfind F kd J q)) (dko B λ v=>k v st)
     | false=>none
    | none=>none
   | _=>none
  | _=>none
 | .wB F kd m x y=>match m.ev G st.fr with
  | some (.sym j)=>match st.V.get j with
   | some (.mp q)=>match x.ev G st.fr with
    | some J=>match y.ev G st.fr with
     | some u=>match zDO F kd J&&ppS 12 J&&ppS 12 u with
      | true=>bd (mput F kd J u q) λ R=>k (.qf []) ⟨st.fr,st.H,(j,.mp R)::st.V.del j,st.m,st.mv⟩
      | false=>none
     | none=>none
    | none=>none
   | _=>none
  | _=>none
 | .call f args=>match evs G st.fr args with
  | some Q=>fcall wk tb f Q B st k
  | none=>none
 | .qL f args=>match f.ev G st.fr with
  | some (.func (.func f) first O)=>match evs G st.fr args with
   | some Q=>fcall wk tb f (first++Q++O) B st k
   | none=>none
  | _=>none
 | .build z N=>match B with
  | []=>FXd st (xoS G ze st.fr st.H st.m (.build z N)) k
  | B=>FXd st (xoS G ze st.fr st.H st.m (.build z N)) λ v st=>dK wk B (some v) (dko B λ v=>k v st)
 | .vt _ | .beq _ _ _ | .vH _ _ _ | .vI _ _ _ _ _ | .seq _ _ _ | .vO _ _ _ | .vN _ _ _ | .un _ _ | .conv _ _ | .vV _ | .w3 _ _ | .w4 _ _ | .vS _ _ _ _ | .ext _ _
 | .box _ _ | .alloc _ | .wo _ | .w7 _ | .wL _ | .min _ _ | .max _ _ | .q9 _ _ _ | .wM _ _ | .vF _ _ _ _=>FXd st (xoS G ze st.fr st.H st.m o) k
 | _=>none
structure FEnt where
 f:Nat
 grow:List (Nat×Nat)
 val:List AV->Heap->Vecs->Option (AV×Heap×Vecs)
structure FOp where
 o:XOper
 ks:List K
 h:Option (List D)
def q1 (d:Nat) (o:XO):FOp:=⟨⟨some d,o,none⟩,[],none⟩
abbrev TbH:=List FEnt
def zKM:TbH->Nat->Option FEnt
 | [],_=>none
 | s::r,f=>match Nat.beq f s.f with
  | true=>some s
  | false=>zKM r f
def zIQ {β:Type} (hm b:List Nat) (vs:List AV) (st:Sta) (k:List AV->Heap->Vecs->Option β):Option β:=
 match zIW hm&&zIW b with
 | true=>match zw (rnV hm b 8) vs with
  | some vs=>match rnH st.H hm b 0 hm with
   | some H=>match rnVs st.V 0 b with
    | some V=>k vs H V
    | none=>none
   | none=>none
  | none=>none
 | false=>none
def zMn {β:Type} (b:Nat) (vs:List AV) (st:Sta) (F:List Nat->List Nat->Option β):Option β:=
 (λ d=>F d (zDK st.H d (vs.foldl (λ a v=>zGc 8 v a) []))) (zF1 st.H 30 0 (vs.foldl (λ a v=>hsA 8 v a) (List.range b)))
def zS3 {β:Type} (c:Cut) (st:Sta) (k:List AV->Heap->Vecs->Option β):Option β:=
 match zNL st.fr c.qF with
 | none=>none
 | some b=>zMn c.pins b st λ d e=>zIQ d e b st k
def atJ {β:Type} (F:List AV->Heap->Vecs->Option β) (vs:List AV) (H:Heap) (V:Vecs):Option β:=F vs H V
def cutO {β:Type} (c:Cut) (F:List AV->Heap->Vecs->Option β) (st:Sta):Option β:=zS3 c (zE6 c.grow st) (atJ F)
def zNU {β:Type} (e:FEnt) (ds:List D) (args:List AV) (st:Sta) (k:AV->Sta->Option β):Option β:=
 (λ st=>zMn 0 args st λ d f=>zIQ d f args st λ b H V=>dD true ds (e.val b H V) (ddo ds λ v H2 V2=>
  k (zJD e.grow st.mv v) (zIt e.grow d f st H2 V2))) (qI e.grow args st)
def ffrz {β:Type} (st:Sta) (v:AV) (k:AV->Sta->Option β):Option β:=
 match zMh v with
 | true=>k (wx st.V v) (wP st)
 | false=>(λ F=>(λ b=>match frz b [] 8 v with
  | some d=>k d (vj F b st)
  | none=>none) (zFx F st.H)) (zF1 st.H 30 0 (hsA 8 v []))
def zS4 {β:Type} (G:Cx) (th:TbH) (ds:List D) (st:Sta) (o:XO) (k:AV->Sta->Option β):Option β:=match o with
 | .call f args=>match zKM th f with
  | some e=>match evs G st.fr args with
   | some d=>zNU e ds d st k
   | none=>none
  | none=>none
 | .qL f args=>match f.ev G st.fr with
  | some (.func (.func f) first b)=>match zKM th f with
   | some e=>match evs G st.fr args with
    | some d=>zNU e ds (first++d++b) st k
    | none=>none
   | none=>none
  | _=>none
 | _=>none
def fopT {β:Type} (G:Cx) (tb:TbF) (th:TbH) (st:Sta) (o:FOp) (k:AV->Sta->Option β):Option β:=match o.h with
 | none=>fop true G tb st o.o.op o.ks k
 | some b=>zS4 G th b st o.o.op k
def fopR {β:Type} (G:Cx) (tb:TbF) (th:TbH) (st:Sta) (o:FOp) (k:AV->Sta->Option β):Option β:=match isFz o.h o.o.op with
 | true=>FXd st (xoS G ze st.fr st.H st.m o.o.op) λ v st=>ffrz st v k
 | false=>fopT G tb th st o k
def brF {β:Type} (t:Nat) (c:Bool) (st:Sta) (k:Bool->Sta->Option β):Option β:=
 br c (k true ⟨st.fr.put t (.bool true),st.H,st.V,st.m,st.mv⟩) (k false ⟨st.fr.put t (.bool false),st.H,st.V,st.m,st.mv⟩)
def fops {β:Type} (G:Cx) (tb:TbF) (th:TbH):List FOp->(Sta->Option β)->Sta->Option β
 | [],k,st=>k st
 | o::r,k,st=>match o.o.guard with
  | none=>fopR G tb th st o λ v st=>fops G tb th r k (st.put o.o.dst v)
  | some (t,b)=>match st.fr.get t with
   | some (.bool c)=>brF t c st λ c st=>match c==b with
    | true=>fopR G tb th st o λ v st=>fops G tb th r k (st.put o.o.dst v)
    | false=>fops G tb th r k (st.put o.o.dst (.qf []))
   | some (.qf [])=>fops G tb th r k (st.put o.o.dst (.qf []))
   | _=>none
def toQ (o:FOp):TOp:=⟨o.o,o.ks,o.h.map λ _=>[]⟩
def fopQ {β:Type} (G:Cx) (tb:TbF) (th:TbH) (st:Sta) (o:FOp) (k:AV->Sta->Option β):Option β:=match Nat.ble (clsQ (toQ o)) 1 with
 | true=>fopT G tb th st o λ v b=>match Nat.beq b.mv st.mv with
  | true=>k v b
  | false=>none
 | false=>fopT G tb th st o k
def loF (fr:Fr):List FOp->Option Nat
 | []=>none
 | o::r=>match o.o.op with
  | .store (.t a) _ _=>match o.ks with
   | []=>loF fr r
   | _=>match fr.get a with
    | some (.ptr h _)=>match loF fr r with
     | some l=>some (Min.min h l)
     | none=>some h
    | _=>loF fr r
  | _=>loF fr r
def okQ (lo:Option Nat) (G:Cx) (st:Sta) (o:FOp):Bool:=match clsQ (toQ o) with
 | 1=>match lo with
  | none=>true
  | some l=>(zIp o.o.op.qb).all (λ g=>match st.fr.get g with
   | some v=>ltH 12 l v
   | none=>true)&&ltHp l st.H
 | 2=>match o.o.op with
  | .store x _ _=>match lo with
   | some l=>match x.ev G st.fr with
    | some (.ptr h _)=>Nat.ble l h
    | _=>false
   | none=>false
  | _=>true
 | _=>true
def zHL {β:Type} (lo:Option Nat) (G:Cx) (tb:TbF) (th:TbH):List FOp->(Sta->Option β)->Sta->Option β
 | [],k,st=>k st
 | o::r,k,st=>match okQ lo G st o with
  | true=>match o.o.guard with
   | none=>fopQ G tb th st o λ v st=>zHL lo G tb th r k (st.put o.o.dst v)
   | some (t,b)=>match st.fr.get t with
    | some (.bool c)=>brF t c st λ c st=>match c==b with
     | true=>fopQ G tb th st o λ v st=>zHL lo G tb th r k (st.put o.o.dst v)
     | false=>zHL lo G tb th r k (st.put o.o.dst (.qf []))
    | some (.qf [])=>zHL lo G tb th r k (st.put o.o.dst (.qf []))
    | _=>none
  | false=>none
def fopD {β:Type} (G:Cx) (tb:TbF) (st:Sta) (o:XO) (e:List K) (k:AV->Sta->Option β):Option β:=
 match o with
 | .vu _ | .qK _ _ _ _ _ | .append _ _ _ _ | .wj | .wB _ _ _ _ _ | .lookup _ _ _ _ _ _=>none
 | .qD len d z f=>FXd st (xoS G ze st.fr st.H st.m (.qD len d z f)) k
 | .vb x=>match x.ev G st.fr with
  | some (.row h off len d str cap)=>match content st.H 1 (.row h off len d str cap) with
   | some (_,i)=>bd (zAN i) λ s=>k (.str s) st
   | none=>none
  | _=>none
 | o=>fop false G tb ⟨st.fr,st.H,[],st.m,st.mv⟩ o e λ v b=>k v ⟨b.fr,b.H,st.V,b.m,b.mv⟩
def zIz {β:Type} (G:Cx) (tb:TbF):List FOp->(Sta->Option β)->Sta->Option β
 | [],k,st=>k st
 | o::r,k,st=>match o.o.guard with
  | none=>fopD G tb st o.o.op o.ks λ v st=>zIz G tb r k (st.put o.o.dst v)
  | some (t,b)=>match st.fr.get t with
   | some (.bool c)=>brF t c st λ c st=>match c==b with
    | true=>fopD G tb st o.o.op o.ks λ v st=>zIz G tb r k (st.put o.o.dst v)
    | false=>zIz G tb r k (st.put o.o.dst (.qf []))
   | some (.qf [])=>zIz G tb r k (st.put o.o.dst (.qf []))
   | _=>none
inductive FC where
 | skip
 | ret
 | exit (i:Nat)
 | wD (ops:List FOp)
 | draw (pn:List Nat) (ops:List FOp) (ds:List XD)
 | qO (ops:List FOp) (ds:List XD)
 | seq (a b:FC)
 | cond (c:XV) (a b:FC)
 | block (i:Nat) (b:FC)
 | loop (id:Nat) (c:Cut) (b:FC)
 | qA (k:Nat) (b:FC)
 | we (id:Nat) (c:Cut) (a b:FC)
def ef:FC->XC
 | .skip=>.skip
 | .ret=>.ret
 | .exit i=>.exit i
 | .wD d=>.wD (d.map FOp.o)
 | .draw _ d e=>.draw (d.map FOp.o) e
 | .qO d e=>.draw (d.map FOp.o) e
 | .seq a b=>.seq (ef a) (ef b)
 | .cond c a b=>.cond c (ef a) (ef b)
 | .block i b=>.block i (ef b)
 | .loop _ _ b=>.loop (ef b)
 | .qA _ b=>.loop (ef b)
 | .we _ _ a b=>.seq (ef a) (ef b)
abbrev zFB {β:Type} (K:Ext->Sta->Option β) (k:Sta->Option β):Ext->Sta->Option β
 | .normal,st=>k st
 | .exit i,st=>K (.exit i) st
 | .ret,st=>K .ret st
abbrev zKh {β:Type} (id:Nat) (K:Ext->Sta->Option β):Ext->Sta->Option β
 | .normal,st=>K .normal st
 | .exit i,st=>match Nat.beq i id with
  | true=>K .normal st
  | false=>K (.exit i) st
 | .ret,st=>K .ret st
def zPo {β:Type} (c:Cut) (K:Ext->Sta->Option β) (F:List AV->Heap->Vecs->Option β):Ext->Sta->Option β
 | .normal,st=>cutO c F st
 | .exit i,st=>K (.exit i) st
 | .ret,st=>K .ret st
def zJK {β:Type} (B:(Ext->Sta->Option β)->Sta->Option β) (c:Cut) (K:Ext->Sta->Option β):Nat->List AV->Heap->Vecs->Option β
 | 0,_,_,_=>none
 | n+1,b,H,V=>B (zPo c K (zJK B c K n)) (mkW c b H V)
noncomputable def FUEL:Nat:=Classical.choose (⟨1180591620717411303424,rfl⟩:∃n:Nat,n=1180591620717411303424)
theorem zDM:FUEL=1180591620717411303424:=Classical.choose_spec (⟨1180591620717411303424,rfl⟩:∃n:Nat,n=1180591620717411303424)
def zGv {β:Type} (B:(Ext->Sta->Option β)->Sta->Option β) (K:Ext->Sta->Option β):Nat->Sta->Option β
 | 0,_=>none
 | n+1,st=>B (zFB K (zGv B K n)) st
def FT {β:Type} (U:Nat) (G:Cx) (tb:TbF) (th:TbH):FC->(Ext->Sta->Option β)->Sta->Option β
 | .skip,K,st=>K .normal st
 | .ret,K,st=>K .ret st
 | .exit i,K,st=>K (.exit i) st
 | .wD d,K,st=>fops G tb th d (K .normal) st
 | .draw j d e,K,st=>match zNM (d.map FOp.o) e&&j.all (zPl st.fr) with
  | true=>zIz G tb d (K .normal) st
  | false=>none
 | .qO d e,K,st=>match zGR (d.map toQ) e&&seqQ 0 [] [] [] (d.map toQ) e with
  | true=>zHL (loF st.fr d) G tb th d (K .normal) st
  | false=>none
 | .seq a b,K,st=>FT U G tb th a (zFB K (FT U G tb th b K)) st
 | .cond c a b,K,st=>match c.ev G st.fr with
  | some (.bool f)=>match c with
   | .t n=>brF n f st λ f st=>match f with
    | true=>FT U G tb th a K st
    | false=>FT U G tb th b K st
   | _=>br f (FT U G tb th a K st) (FT U G tb th b K st)
  | _=>none
 | .block i b,K,st=>FT U G tb th b (zKh i K) st
 | .qA k b,K,st=>zGv (FT U G tb th b) K k st
 | .loop _ c b,K,st=>cutO c (zJK (FT U G tb th b) c K U) st
 | .we _ c a b,K,st=>FT U G tb th a (zFB K (cutO c λ h H V=>FT U G tb th b K (mkW c h H V))) st
def zHM (id:Nat):FC->Bool
 | .seq a b | .cond _ a b=>zHM id a||zHM id b
 | .block _ b=>zHM id b
 | .loop i _ b=>Nat.beq id i||zHM id b
 | .qA _ b=>zHM id b
 | .we i _ a b=>Nat.beq id i||(zHM id a||zHM id b)
 | _=>false
def FTat {β:Type} (U:Nat) (G:Cx) (tb:TbF) (th:TbH) (id:Nat):FC->(Ext->Sta->Option β)->List Nat->List AV->Heap->Vecs->Option β
 | .seq a b,K,d=>match zHM id a with
  | true=>FTat U G tb th id a (zFB K (FT U G tb th b K)) d
  | false=>FTat U G tb th id b K d
 | .cond _ a b,K,d=>match zHM id a with
  | true=>FTat U G tb th id a K d
  | false=>FTat U G tb th id b K d
 | .block i b,K,d=>FTat U G tb th id b (zKh i K) d
 | .qA _ b,K,d=>match d with
  | []=>λ _ _ _=>none
  | n::d=>FTat U G tb th id b (zFB K (zGv (FT U G tb th b) K n)) d
 | .loop i c b,K,d=>match d with
  | []=>λ _ _ _=>none
  | n::d=>match Nat.beq id i with
   | true=>atJ (zJK (FT U G tb th b) c K n)
   | false=>FTat U G tb th id b (zPo c K (zJK (FT U G tb th b) c K n)) d
 | .we i c a b,K,d=>match Nat.beq id i with
  | true=>atJ λ e H V=>FT U G tb th b K (mkW c e H V)
  | false=>match zHM id a with
   | true=>FTat U G tb th id a (zFB K (cutO c λ e H V=>FT U G tb th b K (mkW c e H V))) d
   | false=>FTat U G tb th id b K d
 | _,_,_=>λ _ _ _=>none
def endV (b:List XR):Ext->Sta->Option AV
 | .exit _,_=>none
 | _,st=>match ress st.H st.fr b with
  | some d=>zBy st.H st.V 8 (zCM d)
  | none=>none
def zR2 (n:Nat):AV->Bool
 | .sym j=>Nat.blt j n
 | v=>ppS 12 v
def outB (n:Nat):Heap->Bool
 | []=>true
 | (_,.cells _ b)::r=>b.all (zR2 n)&&outB n r
 | _=>false
def ownB:Vecs->Bool
 | []=>true
 | (_,o)::r=>o.qz&&ownB r
def endO (d:List XR) (pn:List Nat):Ext->Sta->Option (AV×Heap×Vecs)
 | .exit _,_=>none
 | _,st=>match ress st.H st.fr d with
  | some b=>match zMh (zCM b) with
   | false=>match hasH 8 (zCM b)||!pinE st.fr 0 pn with
    | false=>zIQ (List.range pn.length) (zDK st.H (List.range pn.length) []) [] st λ _ H V=>match outB V.length H&&ownB V with
     | true=>some (zCM b,H,V)
     | false=>none
    | true=>none
   | true=>match pinE st.fr 0 pn with
    | true=>zIQ (List.range pn.length) (zDK st.H (List.range pn.length) (zGc 8 (zCM b) [])) [zCM b] st λ e H V=>match e with
     | [u]=>match zMh u&&(outB V.length H&&ownB V) with
      | true=>some (u,H,V)
      | false=>none
     | _=>none
    | false=>none
  | none=>none
theorem zVk {β:Type} {b:Bool} {x:Option β} {r:β} (h:gd b x=some r):b=true/\x=some r:=by
 cases b
 ·cases h
 ·exact ⟨rfl,h⟩
theorem zCY {β:Type} {p:Prop} [Decidable p] {x:Option β} {r:β} (h:gd (decide p) x=some r):p/\x=some r:=
 let ⟨a,b⟩:=zVk h;⟨QO a,b⟩
theorem zKi {β:Type} {b:Bool} {x y:Option β} {r:β} (h:br b x y=some r):(b=true/\x=some r)\/(b=false/\y=some r):=by
 cases b
 ·exact .inr ⟨rfl,h⟩
 ·exact .inl ⟨rfl,h⟩
theorem zKj {α β:Type} {o:Option α} {f:α->Option β} {r:β} (h:bd o f=some r):∃a,o=some a/\f a=some r:=by
 cases o with
 | none=>cases h
 | some a=>exact ⟨a,rfl,h⟩
theorem zI4 {β:Type} {t:Nat} {c:Bool} {st:Sta} {k:Bool->Sta->Option β} {r:β} (h:brF t c st k=some r):k c ⟨st.fr.put t (.bool c),st.H,st.V,st.m,st.mv⟩=some r:=by
 rcases zKi h with ⟨rfl,h⟩ | ⟨rfl,h⟩ <;> exact h
def WKs (vs b:List AV):Prop:=vs.length=b.length/\∀(i:Nat) v u,vs[i]? = some v->b[i]? = some u->WK v u
theorem WKs.vQ {vs:List AV}:WKs vs vs:=⟨rfl,λ i v u h b=>by rw [h] at b;cases b;exact .refl _⟩
theorem WKs.nil {d:List AV} (h:WKs [] d):d=[]:=by
 cases d with
 | nil=>rfl
 | cons a b=>exact absurd h.1 (by simp)
theorem WKs.cons {v u:AV} {vs f:List AV} (h:WK v u) (j:WKs vs f):WKs (v::vs) (u::f):=⟨by simp [j.1],λ i a b d e=>by
 cases i with
 | zero=>simp at d e;subst d;subst e;exact h
 | succ i=>exact j.2 i a b (by simpa using d) (by simpa using e)⟩
theorem WKs.wZ {v:AV} {vs d:List AV} (h:WKs (v::vs) d):∃u e,d=u::e/\WK v u/\WKs vs e:=by
 cases d with
 | nil=>exact absurd h.1 (by simp)
 | cons u d=>exact ⟨u,d,rfl,h.2 0 v u rfl rfl,by simpa using h.1,λ i a b f j=>h.2 (i+1) a b (by simpa using f) (by simpa using j)⟩
theorem WKs.split {a b f:List AV} (h:WKs (a++b) f):WKs a (f.take a.length)/\WKs b (f.drop a.length):=by
 obtain ⟨n,j⟩:=h;rw [QC] at n;refine ⟨⟨by rw [Qm];omega,λ i v u e d=>?_⟩,⟨by rw [Qr];omega,λ i v u e d=>?_⟩⟩
 ·have l:=(QD.1 e).1;rw [List.getElem?_take,if_pos l] at d;exact j i v u (by rw [Qv l];exact e) d
 ·rw [List.getElem?_drop] at d;exact j (a.length+i) v u (by rw [List.getElem?_append_right (by omega)];simpa using e) d
theorem zOQ:∀{a b:List (AV×AV)},mflat a=mflat b->a=b
 | [],[],_=>rfl
 | [],(k,v)::b,h=>by cases h
 | (k,v)::a,[],h=>by cases h
 | (k,v)::a,(e,d)::b,h=>by
  simp only [mflat,List.cons.injEq] at h;obtain ⟨rfl,rfl,h⟩:=h;rw [zOQ h]
theorem zBg {β:Type} {r:β}:∀{ds:List D} {wk:Bool} {F:List AV->Heap->Vecs->Option β} {vs:List AV} {H:Heap} {V:Vecs},din wk ds (dout ds F) vs H V=some r->∃x,WKs vs x/\(wk=false->x=vs)/\F x H V=some r
 | [],wk,F,vs,H,V,h=>by
  cases vs with
  | nil=>
   cases H with
   | nil=>
    cases V with
    | nil=>exact ⟨[],.vQ,λ _=>rfl,h⟩
    | cons=>cases h
   | cons=>cases h
  | cons=>cases h
 | .v .b::ds,wk,F,vs,H,V,h=>by
  cases vs with
  | nil=>cases h
  | cons v vs=>
   cases v <;> first | (cases h;done) | skip
   obtain ⟨x,q,f,d⟩:=zBg (ds:=ds) h;exact ⟨_,.cons (.refl _) q,λ e=>by rw [f e],d⟩
 | .v (.i k)::ds,wk,F,vs,H,V,h=>by
  cases vs with
  | nil=>cases h
  | cons v vs=>
   cases v <;> first | (cases h;done) | skip
   rename_i R n;simp only [din] at h;split at h
   ·rename_i e;have:=zGh e;subst this;obtain ⟨x,q,f,d⟩:=zBg (ds:=ds) h;exact ⟨_,.cons (.refl _) q,λ e=>by rw [f e],d⟩
   ·cases h
 | .v .s::ds,wk,F,vs,H,V,h=>by
  cases vs with
  | nil=>cases h
  | cons v vs=>
   cases v <;> first | (cases h;done) | skip
   obtain ⟨x,q,f,d⟩:=zBg (ds:=ds) h;exact ⟨_,.cons (.refl _) q,λ e=>by rw [f e],d⟩
 | .v (.l N)::ds,wk,F,vs,H,V,h=>by
  cases vs with
  | nil=>cases h
  | cons v vs=>
   cases v <;> first | (cases h;done) | skip
   ·simp only [din] at h;split at h
    ·obtain ⟨x,q,f,d⟩:=zBg (ds:=ds) h;exact ⟨_,.cons (.nil _) q,λ e=>by simp_all,d⟩
    ·cases h
   ·simp only [din] at h;split at h
    ·rename_i e;have:=zb e;subst this;obtain ⟨x,q,f,d⟩:=zBg (ds:=ds) h;exact ⟨_,.cons (.refl _) q,λ e=>by rw [f e],d⟩
    ·cases h
 | .v .av::ds,wk,F,vs,H,V,h=>by
  cases vs with
  | nil=>cases h
  | cons v vs=>
   obtain ⟨x,q,f,d⟩:=zBg (ds:=ds) h;exact ⟨_,.cons (.refl _) q,λ e=>by rw [f e],d⟩
 | .v (.c u)::ds,wk,F,vs,H,V,h=>by
  cases vs with
  | nil=>cases h
  | cons v vs=>
   simp only [din] at h;split at h
   ·rename_i e;have:=zOB 20 _ _ e;subst this;obtain ⟨x,q,f,d⟩:=zBg (ds:=ds) h;exact ⟨_,.cons (.refl _) q,λ e=>by rw [f e],d⟩
   ·cases h
 | .v (.agg n)::ds,wk,F,vs,H,V,h=>by
  cases vs with
  | nil=>cases h
  | cons v vs=>
   cases v <;> first | (cases h;done) | skip
   rename_i M;simp only [din] at h;split at h
   ·rename_i e;have:=zb e;subst this;obtain ⟨x,q,f,d⟩:=zBg (ds:=ds) h;obtain ⟨s1,A⟩:=q.split;exact ⟨_,.cons (.agg s1.1 s1.2) A,λ e=>by rw [f e];simp,d⟩
   ·cases h
 | .v (.qf n)::ds,wk,F,vs,H,V,h=>by
  cases vs with
  | nil=>cases h
  | cons v vs=>
   cases v <;> first | (cases h;done) | skip
   rename_i M;simp only [din] at h;split at h
   ·rename_i e;have:=zb e;subst this;obtain ⟨x,q,f,d⟩:=zBg (ds:=ds) h;obtain ⟨s1,A⟩:=q.split;exact ⟨_,.cons (.qf s1.1 s1.2) A,λ e=>by rw [f e];simp,d⟩
   ·cases h
 | .v (.ep off)::ds,wk,F,vs,H,V,h=>by
  cases vs with
  | nil=>cases h
  | cons v vs=>
   cases v <;> first | (cases h;done) | skip
   simp only [din] at h;split at h
   ·rename_i e;have:=zb e;subst this;obtain ⟨x,q,f,d⟩:=zBg (ds:=ds) h;obtain ⟨u,z,rfl,y,I⟩:=q.wZ;exact ⟨_,.cons (.qe _ y) I,λ e=>by have:=f e;simp_all,d⟩
   ·cases h
 | .v (.uD t)::ds,wk,F,vs,H,V,h=>by
  cases vs with
  | nil=>cases h
  | cons v vs=>
   cases v <;> first | (cases h;done) | skip
   simp only [din] at h;split at h
   ·rename_i e;have:=zb e;subst this;obtain ⟨x,q,f,d⟩:=zBg (ds:=ds) h;obtain ⟨u,z,rfl,y,I⟩:=q.wZ;exact ⟨_,.cons (.iface _ y) I,λ e=>by have:=f e;simp_all,d⟩
   ·cases h
 | .hc S str n::ds,wk,F,vs,H,V,h=>by
  cases vs with
  | cons=>cases h
  | nil=>
   cases H with
   | nil=>cases h
   | cons p H=>
    obtain ⟨Q,o⟩:=p;cases o <;> first | (cases h;done) | skip
    simp only [din] at h;split at h
    ·rename_i e;simp only [QA,beq_iff_eq] at e;obtain ⟨⟨J,B⟩,T⟩:=e;have:=zb J;subst this;subst B;obtain ⟨x,q,f,d⟩:=zBg (ds:=ds) h;rw [f rfl] at d;exact ⟨[],.vQ,λ _=>rfl,d⟩
    ·cases h
 | .vec j N::ds,wk,F,vs,H,V,h=>by
  cases vs with
  | cons=>cases h
  | nil=>
   cases V with
   | nil=>cases h
   | cons p V=>
    obtain ⟨K,o⟩:=p;cases o <;> first | (cases h;done) | skip
    simp only [din] at h;split at h
    ·rename_i e;simp only [QA] at e;obtain ⟨J,B⟩:=e;have:=zb J;subst this;have:=zb B;subst this;obtain ⟨x,q,f,d⟩:=zBg (ds:=ds) h;rw [f rfl] at d;exact ⟨[],.vQ,λ _=>rfl,d⟩
    ·cases h
 | .mp j::ds,wk,F,vs,H,V,h=>by
  cases vs with
  | cons=>cases h
  | nil=>
   cases V with
   | nil=>cases h
   | cons p V=>
    obtain ⟨K,o⟩:=p;cases o <;> first | (cases h;done) | skip
    simp only [din] at h;split at h
    ·rename_i e;have:=zb e;subst this;obtain ⟨x,q,f,d⟩:=zBg (ds:=ds) h;rw [f rfl] at d;exact ⟨[],.vQ,λ _=>rfl,d⟩
    ·cases h
 | .uv j O::ds,wk,F,vs,H,V,h=>by
  cases vs with
  | cons=>cases h
  | nil=>
   cases V with
   | nil=>cases h
   | cons p V=>
    obtain ⟨K,o⟩:=p;cases o <;> first | (cases h;done) | skip
    simp only [din] at h;split at h
    ·rename_i e;rw [QA] at e;have:=zb e.1;subst this;have:=zOQ (AV.agg.inj (zOB 20 _ _ e.2));subst this;obtain ⟨x,q,f,d⟩:=zBg (ds:=ds) h;rw [f rfl] at d;exact ⟨[],.vQ,λ _=>rfl,d⟩
    ·cases h
theorem zP9 {β:Type} {l:Bool} {kd:List Kd} {d:AV} {r:β}:∀{es:List (AV×AV)} {k:Option AV->Option β},lkB l kd d es k=some r->∃o,mfind l kd d es=some o/\k o=some r
 | [],k,h=>⟨none,rfl,h⟩
 | (j,v)::es,k,h=>by
  simp only [lkB] at h;split at h
  ·rename_i b e;cases b with
   | true=>exact ⟨some v,by simp only [mfind,e],h⟩
   | false=>
    obtain ⟨o,q,n⟩:=zP9 (es:=es) (k:=k) h;exact ⟨o,by simp only [mfind,e];exact q,n⟩
  ·cases h
theorem zKk {β:Type} {wk:Bool} {b:List K} {o:Option AV} {k:AV->Option β} {r:β} (h:dK wk b o (dko b k)=some r):∃v u,o=some v/\WK v u/\(wk=false->u=v)/\k u=some r:=by
 cases o with
 | none=>cases h
 | some v=>
  obtain ⟨p,j,f,l⟩:=zBg h;obtain ⟨u,i,rfl,d,n⟩:=j.wZ;have:=n.nil;subst this;exact ⟨v,u,rfl,d,λ e=>by have:=f e;simp_all,l⟩
theorem zVl {β:Type} {wk:Bool} {ds:List D} {o:Option (AV×Heap×Vecs)} {k:AV->Heap->Vecs->Option β} {r:β} (h:dD wk ds o (ddo ds k)=some r):∃v u H V,o=some (v,H,V)/\WK v u/\(wk=false->u=v)/\k u H V=some r:=by
 cases o with
 | none=>cases h
 | some p=>
  obtain ⟨v,H,V⟩:=p;obtain ⟨n,i,d,j⟩:=zBg h;obtain ⟨u,f,rfl,b,l⟩:=i.wZ;have:=l.nil;subst this;exact ⟨v,u,H,V,rfl,b,λ e=>by have:=d e;simp_all,j⟩
def VIP:VI->Prop
 | .vec _ b=>∀e∈b,PP e
 | .mp b=>∀p∈b,PP p.1/\PP p.2
 | .qS _ _ _=>True
structure CPS (st:Sta):Prop where
 fr:FrCP st.mv st.m st.fr
 H:HCP st.mv st.m st.H
 V:∀j vi,st.V.get j=some vi->j<st.mv/\VIP vi
 lt:∀p∈st.H,p.1<st.m
theorem CPS.wQ {st:Sta} (s:CPS st) {vi:VI} (h:VIP vi):CPS ⟨st.fr,st.H,(st.mv,vi)::st.V,st.m,st.mv+1⟩:=
 ⟨s.fr.mono (QY _) (QB _),s.H.mono (QY _) (QB _),λ j v b=>by
  rw [Vecs.qg] at b;split at b
  ·rename_i e;cases b;exact ⟨by show j<st.mv+1;omega,h⟩
  ·have:=s.V j v b;exact ⟨Nat.lt_succ_of_lt this.1,this.2⟩,s.lt⟩
theorem CPS.uw {st:Sta} (s:CPS st) {j:Nat} {vi:VI} (d:j<st.mv) (h:VIP vi):CPS ⟨st.fr,st.H,(j,vi)::st.V.del j,st.m,st.mv⟩:=
 ⟨s.fr,s.H,λ i v b=>by
  rw [Vecs.qg] at b;split at b
  ·rename_i e;subst e;cases b;exact ⟨d,h⟩
  ·rw [Vecs.qQ] at b;split at b
   ·cases b
   ·exact s.V i v b,s.lt⟩
theorem CPS.uE {st:Sta} (s:CPS st) {j:Nat} {vi:VI} (h:VIP vi):CPS ⟨st.fr,st.H,(st.mv,vi)::st.V.del j,st.m,st.mv+1⟩:=
 ⟨s.fr.mono (QY _) (QB _),s.H.mono (QY _) (QB _),λ i v b=>by
  rw [Vecs.qg] at b;split at b
  ·rename_i e;cases b;exact ⟨by show i<st.mv+1;omega,h⟩
  ·rw [Vecs.qQ] at b;split at b
   ·cases b
   ·have:=s.V i v b;exact ⟨Nat.lt_succ_of_lt this.1,this.2⟩,s.lt⟩
theorem CPS.put {st:Sta} (s:CPS st) {n:Nat} {v:AV} (h:CP st.mv st.m v):CPS ⟨st.fr.put n v,st.H,st.V,st.m,st.mv⟩:=
 ⟨λ t u e=>by
  rw [Fr.qu] at e;split at e
  ·cases e;exact h
  ·exact s.fr t u e,s.H,s.V,s.lt⟩
theorem CPS.qv {st:Sta} (s:CPS st) {d:Option Nat} {v:AV} (h:CP st.mv st.m v):CPS (st.put d v):=by
 cases d with
 | none=>exact s
 | some n=>exact s.put h
def tbS (tb:TbF):TblS:=tb.map λ s=>(s.1,(λ args=>∀x∈args,PP x),s.2)
theorem zQa {tb:TbF} {f:Nat} {g:List AV->Option AV} {args:List AV} {v:AV} {k:AV->Prop} (b:zMm tb f=some g) (j:g args=some v) (d:∀x∈args,PP x) (h:k v):zFw (tbS tb) f args k:=by
 induction tb with
 | nil=>cases b
 | cons s r i=>
  simp only [zMm] at b;simp only [tbS,Qd,zFw];split at b
  ·rename_i e;cases b;simp only [e,j];exact ⟨d,h⟩
  ·rename_i e;simp only [e];exact i b
theorem zS5 {tb:TbF} {f:Nat} {g:List AV->Option AV} (h:zMm tb f=some g):(f,g)∈tb:=by
 induction tb with
 | nil=>cases h
 | cons s r b=>
  simp only [zMm] at h;split at h
  ·rename_i e;cases h;rw [zb e];exact .head _
  ·exact .tail _ (b h)
structure Stp {β:Type} (G:Cx) (tb:TbF) (st:Sta) (wk:Bool) (k:AV->Sta->Option β) (r:β) (W:(AV->Sta->Prop)->Prop) (v u:AV) (st':Sta):Prop where
 k:k u st'=some r
 vE:WK v u
 eq:wk=false->u=v
 cp:CP st'.mv st'.m u
 wW:CPS st'
 w:∀C:AV->Sta->Prop,C v st'->W C
 le:st.mv<=st'.mv
section
variable {β:Type} {P:Program} {G:Cx} {tb:TbF} {st:Sta} {k:AV->Sta->Option β} {r:β} {wk:Bool}
theorem zT3 {H:Heap} {sz n m:Nat} {u:AV} {o:List AV} (J:HCP n m H) (l:CP n m u) (d:zCC H sz u=some o) (f:(zMg u||ppS 12 (.agg o))=true):∀e∈o,PP e:=by
 rw [Bool.or_eq_true] at f;rcases f.symm with f | f
 ·have p:CP n m (.agg o):=by
   refine .agg _ λ e j=>?_
   cases u with
   | qa=>cases d;cases j
   | qp q K=>
    simp only [zCC] at d;split at d
    ·cases d;cases l with
     | qp _ _ h=>exact (h e j).cp
    ·cases d
   | row=>
    simp only [zCC] at d;split at d
    ·split at d
     ·rename_i str S A;split at d
      ·obtain ⟨_,U,_,T,F⟩:=zAm d;obtain ⟨i,M⟩:=List.getElem?_of_mem j;obtain ⟨R,N⟩:=zY F;obtain ⟨Q,B,D⟩:=zO (N i e M);obtain ⟨x,I,O,v⟩:=J.get A;cases O;refine zCy D λ z y=>v z ?_
       rw [B] at y;exact QW (QP (QW (QP y)))
      ·cases d
     ·cases d
    ·cases d
   | str s=>
    simp only [zCC] at d;split at d
    ·cases d;obtain ⟨b,_,rfl⟩:=Qf.1 j;exact .int _ _
    ·cases d
   | _=>cases d
  have:=zC3 12 p f;cases this with
  | agg _ h=>exact h
 ·cases u with
  | qp q K=>
   simp only [zCC] at d;split at d
   ·cases d;cases l with
    | qp _ _ h=>exact h
   ·cases d
  | _=>cases f
theorem zS6 {sz len n m:Nat} {cs es:List AV} (p:zEe sz len cs=some es) (b:∀c∈cs,CP n m c) (l:es.all (ppS 12)=true):∀e∈es,PP e:=by
 obtain ⟨z,v,B,y,h⟩:=zAm p;intro e f;obtain ⟨i,q⟩:=List.getElem?_of_mem f;obtain ⟨q1,u⟩:=zY h;obtain ⟨A,o,j⟩:=zO (u i e q);refine zC3 (n:=n) (k:=m) 12 (zCy j λ x d=>b x ?_) (QG.1 l e f)
 rw [o] at d;exact QP (QW (QP d))
theorem zQb {n:Bool} {kd:List Kd} {j:AV}:∀{es:List (AV×AV)} {u:AV},(∀p∈es,PP p.1/\PP p.2)->mfind n kd j es=some (some u)->PP u:=by
 intro es
 induction es with
 | nil=>intro u _ h;cases h
 | cons q r l=>
  intro u d h;simp only [mfind] at h;split at h
  ·cases h;exact (d _ (.head _)).2
  ·exact l (λ p e=>d p (.tail _ e)) h
  ·cases h
theorem zVm {y:Bool} {kd:List Kd} {o u:AV} (l:PP o) (j:PP u):∀{es e:List (AV×AV)},(∀p∈es,PP p.1/\PP p.2)->mput y kd o u es=some e->∀p∈e,PP p.1/\PP p.2:=by
 intro es
 induction es with
 | nil=>intro e _ h p d;cases h;simp only [Qc] at d;subst d;exact ⟨l,j⟩
 | cons q r x=>
  intro e n h p d;simp only [mput] at h;split at h
  ·cases h;rcases QH.1 d with rfl | d
   ·exact ⟨l,j⟩
   ·exact n p (.tail _ d)
  ·split at h
   ·rename_i z v;cases h;rcases QH.1 d with rfl | d
    ·exact n _ (.head _)
    ·exact x (λ p d=>n p (.tail _ d)) v p d
   ·cases h
  ·cases h
theorem zMX {n:Int} {lo e:Option AV} {k:Int->Int->Option β} (h:zNT n lo e k=some r):∃l u,k l u=some r/\∀C:Int->Int->Prop,C l u->zHT n lo e C:=by
 unfold zNT at h;split at h
 ·split at h
  ·exact ⟨_,_,h,λ C hc=>hc⟩
  ·obtain ⟨d,b⟩:=zCY h;exact ⟨_,_,b,λ C hc=>⟨d,hc⟩⟩
  ·cases h
 ·split at h
  ·obtain ⟨d,b⟩:=zCY h;exact ⟨_,_,b,λ C hc=>⟨d,hc⟩⟩
  ·obtain ⟨d,b⟩:=zCY h;exact ⟨_,_,b,λ C hc=>⟨d,hc⟩⟩
  ·cases h
 ·cases h
theorem zHN {n:Int}:∀{l:Nat} {k:Nat->Option β},zLT n l k=some r->∃m,m<l/\n=.ofNat m/\k m=some r
 | 0,k,h=>by cases h
 | l+1,k,h=>by
  rcases zKi h with ⟨e,h⟩ | ⟨_,h⟩
  ·exact ⟨l,QU _,QO e,h⟩
  ·obtain ⟨m,d,b,f⟩:=zHN h;exact ⟨m,Nat.lt_succ_of_lt d,b,f⟩
theorem zJL {n:Int} {m:Nat} (b:n=.ofNat m):∀{l:Nat} {C:Nat->Prop},C m->zGP n l C
 | 0,C,_=>trivial
 | l+1,C,h=>⟨zJL b h,λ e=>by
  have:m=l:=by rw [b] at e;exact Int.ofNat.inj e
  exact this▸h⟩
theorem zOR {f:Nat} {vs:List AV} {Q:List K} (z:TbW P G (tbS tb)) (s:CPS st) (o:∀x∈vs,CP st.mv st.m x) (h:fcall wk tb f vs Q st k=some r):∃v u N,Stp G tb st wk k r (wcall (tbS tb) f vs st) v u N:=by
 have key:∀{args:List AV} {M:AV->Option β},(∀x∈args,PP x)->zPn wk tb f args Q M=some r->∃v u,PP v/\WK v u/\(wk=false->u=v)/\M u=some r/\∀C:AV->Prop,C v->zFw (tbS tb) f args C:=λ{args M} j h=>by
  unfold zPn at h;split at h
  ·rename_i g I;have y:=zS5 I;have p:(f,(λ args:List AV=>∀x∈args,PP x),g)∈tbS tb:=Qf.2 ⟨_,y,rfl⟩
   split at h
   ·obtain ⟨v,e,d⟩:=zKj h;exact ⟨v,v,(z _ p args v j e).2.1,.refl _,λ _=>rfl,d,λ C hc=>zQa I e j hc⟩
   ·obtain ⟨v,u,e,d,q,l⟩:=zKk h;exact ⟨v,u,(z _ p args v j e).2.1,d,q,l,λ C hc=>zQa I e j hc⟩
  ·cases h
 unfold fcall at h;split at h
 ·rename_i A;have j:∀x∈vs,PP x:=λ x B=>zIP 8 (o x B) (by have:=List.any_eq_false.1 A x B;simpa using this)
  obtain ⟨v,u,e,d,q,l,J⟩:=key j h;exact ⟨v,u,st,l,d,q,(d.pp e).cp,s,λ C hc=>by unfold wcall;simp only [A];exact J _ hc,(by first | exact QB _ | exact QY _)⟩
 ·rename_i A;split at h
  ·rename_i n b;have j:∀x∈n,PP x:=by
    obtain ⟨m1,m2⟩:=zBf b;intro x B;obtain ⟨i,R⟩:=List.getElem?_of_mem B;have D:i<vs.length:=by have:=(QD.1 R).1;omega
    have S:=QE D;exact frz_pp s 8 (o _ (QF S)) (m2 i _ x S R)
   obtain ⟨v,u,e,d,q,l,J⟩:=key j h;split at l
   ·rename_i O;have F:zCh 8 v=true:=scalar_wk 8 d O;exact ⟨v,u,st,l,d,q,(d.pp e).cp,s,λ C hc=>by unfold wcall;simp only [A,b];exact J _ (by simp only [F];exact hc),(by first | exact QB _ | exact QY _)⟩
   ·cases l
  ·cases h
where
 scalar_wk:∀(d:Nat) {v u:AV},WK v u->zCh d u=true->zCh d v=true:=by
  intro d
  induction d with
  | zero=>intro v u _ h;cases h
  | succ d ih=>
   intro v u hw h;have al:∀{cs cs':List AV},cs.length=cs'.length->(∀(i:Nat) c c',cs[i]? = some c->cs'[i]? = some c'->WK c c')->cs'.all (zCh d)=true->cs.all (zCh d)=true:=λ hl hi ha=>by
    rw [QG] at ha ⊢;intro c hc;obtain ⟨i,hi'⟩:=List.getElem?_of_mem hc;have hlt:=(QD.1 hi').1;have h2:=QE (show i<_ from hl▸hlt)
    exact ih (hi i c _ hi' h2) (ha _ (QF h2))
   cases hw with
   | refl=>exact h
   | nil=>cases h
   | qe=>cases h
   | iface t hw=>exact ih hw h
   | agg hl hi=>exact al hl hi h
   | qf hl hi=>exact al hl hi h
 frz_pp {st:Sta} (s:CPS st):∀(d:Nat) {v v':AV},CP st.mv st.m v->frz st.H st.V d v=some v'->PP v':=by
  intro d
  induction d with
  | zero=>intro v v' _ h;cases h
  | succ d ih=>
   intro v v' hcp h;have al:∀{l l':List AV},(∀e∈l,CP st.mv st.m e)->zw (frz st.H st.V d) l=some l'->∀e∈l',PP e:=λ hl hm=>by
    obtain ⟨m1,m2⟩:=zBf hm;intro x hx;obtain ⟨i,hi⟩:=List.getElem?_of_mem hx;have hlt:=(QD.1 hi).1;have hv:=QE (show i<_ from m1▸hlt)
    exact ih (hl _ (QF hv)) (m2 i _ x hv hi)
   unfold frz at h;split at h
   ·split at h
    ·rename_i hV;cases h;exact .qp _ _ (s.V _ _ hV).2
    ·cases h
   ·split at h
    ·rename_i hg;obtain ⟨str,cs,e,hc⟩:=s.H.get hg;cases e;split at h
     ·rename_i cs' hcs;cases h;exact .qe _ _ (.agg _ (al hc hcs))
     ·cases h
    ·cases h
   ·cases hcp with
    | func _ _ _ ha hb=>
     split at h
     ·rename_i a' hA;split at h
      ·rename_i b' hB;cases h;exact .func _ _ _ (al ha hA) (al hb hB)
      ·cases h
     ·cases h
   ·cases hcp with
    | agg _ hc=>
     split at h
     ·rename_i cs' hcs;cases h;exact .agg _ (al hc hcs)
     ·cases h
   ·split at h
    ·rename_i hg;obtain ⟨str,cs,e,hc⟩:=s.H.get hg;cases e;split at h
     ·split at h
      ·rename_i hre;split at h
       ·rename_i hpp;cases h;refine .qp _ _ λ e he=>?_
        obtain ⟨h1,h2,h3,h4,h5⟩:=zAm hre;obtain ⟨i,hi⟩:=List.getElem?_of_mem he;obtain ⟨q1,q2⟩:=zY h5;obtain ⟨q3,q4,q5⟩:=zO (q2 i e hi);refine zC3 (n:=st.mv) (k:=st.m) 8 (zCy q5 λ x hx=>hc x ?_) (QG.1 hpp e he)
        rw [q4] at hx;exact QW (QP (QW (QP hx)))
       ·cases h
      ·cases h
     ·cases h
    ·cases h
   ·split at h
    ·cases h
    ·rename_i hh;cases h;exact zIP d hcp hh
theorem zOj (ah:TbW P G (tbS tb)) (hG:GPP G) {o:XO} {ks:List K} (d:opOK o=true) (s:CPS st) (h:fop wk G tb st o ks k=some r):∃v u I,Stp G tb st wk k r (wop G (tbS tb) st o ks) v u I:=by
 have M:∀{o':XO},zKg o'=true->opOK o'=true->FXd st (xoS G ze st.fr st.H st.m o') k=some r->∃v u I,Stp G tb st wk k r (λ C=>WXd st (xoS G ze st.fr st.H st.m o') C) v u I:=λ{o'} hd d h=>by
  unfold FXd at h;split at h
  ·rename_i v H m e;obtain ⟨F,D⟩:=zLE hd d hG s.fr s.H e;obtain ⟨X,h4⟩:=zNP hd s.lt e;exact ⟨v,v,_,h,.refl _,λ _=>rfl,F,⟨s.fr.mono (QB _) h4,D,s.V,X⟩,λ C hc=>by unfold WXd;simp only [e];exact hc,(by first | exact QB _ | exact QY _)⟩
  ·cases h
 have val:∀{v u:AV} {W:(AV->Sta->Prop)->Prop},WK v u->(wk=false->u=v)->CP st.mv st.m u->k u st=some r->(∀C:AV->Sta->Prop,C v st->W C)->∃v u I,Stp G tb st wk k r W v u I:=λ hw R hc hk hC=>⟨_,_,st,hk,hw,R,hc,s,hC,(by first | exact QB _ | exact QY _)⟩
 have J:∀{v:AV} {W:(AV->Sta->Prop)->Prop},CP st.mv st.m v->k v st=some r->(∀C:AV->Sta->Prop,C v st->W C)->∃v u I,Stp G tb st wk k r W v u I:=λ hc hk hC=>val (.refl _) (λ _=>rfl) hc hk hC
 have N:CP (st.mv+1) st.m (.sym st.mv):=.sym _ (QU _);have nil:CP st.mv st.m (.qf []):=.qf _ λ e R=>by cases R
 cases o <;> try (cases h;done)
 all_goals try (exact M rfl d h)
 case build z ps=>
  simp only [fop] at h
  delta wop;dsimp only
  cases ks with
  | nil=>exact M rfl d h
  | cons k0 ks=>
   dsimp only at h;unfold FXd at h;split at h
   ·rename_i v H m e;obtain ⟨F,D⟩:=zLE (o:=.build z ps) rfl d hG s.fr s.H e;obtain ⟨X,h4⟩:=zNP (o:=.build z ps) rfl s.lt e;obtain ⟨v',u,e1,e2,e3,e4⟩:=zKk h;cases e1;exact ⟨v,u,_,e4,e2,e3,e2.cp F,⟨s.fr.mono (QB _) h4,D,s.V,X⟩,λ C hc=>by unfold WXd;simp only [e];exact hc,(by first | exact QB _ | exact QY _)⟩
   ·cases h
 case qY x i l U ag=>
  simp only [fop] at h
  delta wop;dsimp only
  cases ks with
  | nil=>exact M rfl d h
  | cons k0 ks=>
   dsimp only at h ⊢;split at h
   ·rename_i kd n hi;rw [hi];obtain ⟨m,F,D,X⟩:=zHN h;have A:opOK (.qY x (.c (.int kd (.ofNat m))) l U ag)=true:=by
     simp only [opOK,XO.qb,zW,List.all_append,QX,List.all_nil,QT,QA] at d ⊢;exact ⟨d.1,rfl⟩
    obtain ⟨v,u,I,q⟩:=M (o':=.qY x (.c (.int kd (.ofNat m))) l U ag) rfl A X;refine ⟨v,u,I,q.k,q.vE,q.eq,q.cp,q.wW,λ C hc=>⟨⟨by rw [D];exact Qa _,by rw [D];exact Int.ofNat_lt.2 F⟩,zJL D (q.w C hc)⟩,q.le⟩
   ·cases h
 case qy x i l U=>
  simp only [fop] at h
  delta wop;dsimp only
  cases ks with
  | nil=>exact M rfl d h
  | cons k0 ks=>
   dsimp only at h ⊢;split at h
   ·rename_i kd n hi;rw [hi];obtain ⟨m,F,D,X⟩:=zHN h;have A:opOK (.qy x (.c (.int kd (.ofNat m))) l U)=true:=by
     simp only [opOK,XO.qb,zW,List.all_append,QX,List.all_nil,QT,QA] at d ⊢;exact ⟨d.1,rfl⟩
    obtain ⟨v,u,I,q⟩:=M (o':=.qy x (.c (.int kd (.ofNat m))) l U) rfl A X;refine ⟨v,u,I,q.k,q.vE,q.eq,q.cp,q.wW,λ C hc=>⟨⟨by rw [D];exact Qa _,by rw [D];exact Int.ofNat_lt.2 F⟩,zJL D (q.w C hc)⟩,q.le⟩
   ·cases h
 case pick cc x y=>
  simp only [fop] at h
  delta wop;dsimp only
  have A:(xvOK cc=true/\xvOK x=true)/\xvOK y=true:=by simp only [opOK,XO.qb,zW,List.all_append,QX,List.all_nil,QT,QA] at d;exact d
  split at h
  ·rename_i cb a1;rw [a1];split at h
   ·rename_i n;rcases zKi h with ⟨rfl,D⟩ | ⟨rfl,D⟩
    ·split at D
     ·rename_i v hv;exact ⟨v,v,_,D,.refl _,λ _=>rfl,zR hG s.fr A.1.2 hv,s.put (.bool _),λ C hc=>by simp only [Br,hv];exact hc,(by first | exact QB _ | exact QY _)⟩
     ·cases D
    ·split at D
     ·rename_i v hv;exact ⟨v,v,_,D,.refl _,λ _=>rfl,zR hG s.fr A.2 hv,s.put (.bool _),λ C hc=>by simp only [Br,hv];exact hc,(by first | exact QB _ | exact QY _)⟩
     ·cases D
   ·rename_i Q;cases cc with
    | t n=>exact absurd rfl (Q n)
    | _=>exact M rfl d h
  ·cases h
 case bin op x y=>
  simp only [fop] at h
  delta wop;dsimp only
  split at h
  ·rename_i s1 B;rw [B];split at h
   ·split at h
    ·rename_i s2 S;rw [S];obtain ⟨F,D⟩:=zCY h;exact J (.str _) D λ C hc=>⟨F,hc⟩
    ·cases h
   ·obtain ⟨v,u,I,q⟩:=M rfl d h;refine ⟨v,u,I,q.k,q.vE,q.eq,q.cp,q.wW,λ C hc=>?_,q.le⟩
    have:=q.w C hc;cases op <;> first | exact this | (rename_i Q;exact absurd rfl Q)
  ·rename_i k1 n1 B;rw [B];split at h
   ·split at h
    ·rename_i k2 n2 S;rw [S];split at h
     ·rename_i hk;obtain ⟨F,D⟩:=zCY h;exact J (.int _ _) D λ C hc=>by simp only [hk];exact ⟨F,hc⟩
     ·cases h
    ·cases h
   ·split at h
    ·rename_i k2 n2 S;rw [S];split at h
     ·rename_i hk;obtain ⟨F,D⟩:=zCY h;exact J (.int _ _) D λ C hc=>by simp only [hk];exact ⟨F,hc⟩
     ·cases h
    ·cases h
   ·split at h
    ·rename_i k2 n2 S;rw [S];obtain ⟨F,D⟩:=zCY h;exact J (.int _ _) D λ C hc=>⟨F,hc⟩
    ·cases h
   ·split at h
    ·rename_i k2 n2 S;rw [S];obtain ⟨F,D⟩:=zCY h;exact J (.int _ _) D λ C hc=>⟨F,hc⟩
    ·cases h
   ·obtain ⟨v,u,I,q⟩:=M rfl d h;refine ⟨v,u,I,q.k,q.vE,q.eq,q.cp,q.wW,λ C hc=>?_,q.le⟩
    have:=q.w C hc;rename_i g1 g2 g3 g4;cases op <;> first | exact this | exact absurd rfl g1 | exact absurd rfl g2 | exact absurd rfl g3 | exact absurd rfl g4
  ·cases h
 case wC neg kd x y=>
  simp only [fop] at h
  delta wop;dsimp only
  split at h
  ·rename_i a B;split at h
   ·rename_i b S;split at h
    ·rename_i q hq;rw [B,S];exact J (by unfold bneg;exact .bool _) h λ C hc=>by simp only [hq];exact hc
    ·cases h
   ·cases h
  ·cases h
 case wF x i=>
  simp only [fop] at h
  delta wop;dsimp only
  split at h
  ·rename_i s1 B;split at h
   ·rename_i kd n hi;rw [B,hi];obtain ⟨c,F,D⟩:=zKj h;exact J (.int _ _) D λ C hc=>⟨c,F,hc⟩
   ·cases h
  ·cases h
 case wA x lo hi=>
  simp only [fop] at h
  delta wop;dsimp only
  split at h
  ·rename_i s1 B;split at h
   ·rename_i ax ac;split at h
    ·rename_i ao ad;rw [B];simp only [ac,ad];obtain ⟨l,u,F,D⟩:=zMX h;exact J (.str _) F λ C hc=>D _ hc
    ·cases h
   ·cases h
  ·cases h
 case wu x lo hi mx U=>
  simp only [fop] at h
  delta wop;dsimp only
  split at h
  ·rename_i aa es B;split at h
   ·rename_i T;split at h
    ·split at h
     ·rename_i ax ac;split at h
      ·rename_i ao ad;rw [B];simp only [T,ac,ad];obtain ⟨l,u,F,D⟩:=zMX h;have A:xvOK x=true:=by
        simp only [opOK,XO.qb,zW,List.all_append,QX,List.all_nil,QT,QA] at d;exact d.1.1.1
       have ab:=zR hG s.fr A B;cases ab with
       | qp _ _ ae=>exact J (.qp _ _ λ e R=>ae e (QP (QW R))) F λ C hc=>D _ hc
      ·cases h
     ·cases h
    ·cases h
   ·cases h
  ·rename_i B;have bc:=B;have hh:=h;unfold FXd at hh;split at hh
   ·rename_i v H m e;rw [B];have:v=.qa/\H=st.H/\m=st.m:=by
     simp only [xoS,B] at e;split at e
     ·split at e
      ·rename_i hq;cases e;refine ⟨?_,rfl,rfl⟩
       have hv:∀{v0:AV},some AV.qa=some v0->v0=.qa:=λ h=>by cases h;rfl
       rename_i v0 _ _ _ q1 _ _ _ _;have:=hv q1;subst this;simp only [xslice] at hq
       repeat' split at hq
       all_goals first | (cases hq;done) | (cases hq;rfl)
      ·cases e
     ·cases e
    obtain ⟨rfl,rfl,rfl⟩:=this;exact J .qa hh λ C hc=>by unfold WXd;simp only [e];exact hc
   ·cases hh
  ·cases h
 case qB x i U=>
  simp only [fop] at h
  delta wop;dsimp only
  have A:xvOK x=true/\xvOK i=true:=by simp only [opOK,XO.qb,zW,List.all_append,QX,List.all_nil,QT,QA] at d;exact d
  split at h
  ·rename_i aa es B;split at h
   ·rename_i T;split at h
    ·rename_i kd n hi;rw [B];simp only [T,hi];obtain ⟨v,u,F,D,X,h4⟩:=zKk h;have ab:=zR hG s.fr A.1 B;cases ab with
     | qp _ _ ae=>
      have Y:PP v:=by
       unfold ixN at F;split at F
       ·exact ae v (QF F)
       ·cases F
      exact val (.qe 0 D) (λ e=>by rw [X e]) (.qe _ _ (D.pp Y)) h4 λ C hc=>⟨v,F,hc⟩
    ·cases h
   ·cases h
  ·rename_i j B;split at h
   ·rename_i aa es O;split at h
    ·rename_i T;split at h
     ·rename_i kd n hi;rw [B];simp only [O,T,hi];obtain ⟨F,D⟩:=zCY h;exact ⟨_,_,_,D,.refl _,λ _=>rfl,N,s.wQ trivial,λ C hc=>⟨F,hc⟩,(by first | exact QB _ | exact QY _)⟩
     ·cases h
    ·cases h
   ·cases h
  ·rename_i B;split at h
   ·rename_i kd n hi;rw [B];simp only [hi];obtain ⟨m,F,D,X⟩:=zHN h;have ai:opOK (.qB x (.c (.int kd (.ofNat m))) U)=true:=by
     simp only [opOK,XO.qb,zW,List.all_append,QX,List.all_nil,QT,QA];exact ⟨A.1,rfl⟩
    obtain ⟨v,u,I,q⟩:=M (o':=.qB x (.c (.int kd (.ofNat m))) U) rfl ai X;refine ⟨v,u,I,q.k,q.vE,q.eq,q.cp,q.wW,λ C hc=>⟨⟨by rw [D];exact Qa _,by rw [D];exact Int.ofNat_lt.2 F⟩,zJL D (q.w C hc)⟩,q.le⟩
   ·cases h
  ·cases h
 case wi x=>
  simp only [fop] at h
  delta wop;dsimp only
  split at h
  ·rename_i j B;split at h
   ·rename_i U es O;rw [B];simp only [O];exact J (.int _ _) h λ C hc=>hc
   ·cases h
  ·rename_i Q;obtain ⟨v,u,I,q⟩:=M rfl d h;refine ⟨v,u,I,q.k,q.vE,q.eq,q.cp,q.wW,λ C hc=>?_,q.le⟩
   split
   ·rename_i j B;exact absurd B (Q j)
   ·exact q.w C hc
 case load x U ag=>
  simp only [fop] at h
  delta wop;dsimp only
  split at h
  ·rename_i p B;split at h
   ·rename_i j i off hp;split at h
    ·rename_i aa es O;rw [B];simp only [hp,O];obtain ⟨v,u,F,D,X,h4⟩:=zKk h;have Y:PP v:=by
      unfold ldE at F;split at F
      ·rename_i e R;exact zOg ((s.V _ _ O).2 e (QF R)).cells F
      ·cases F
     exact val D X (D.pp Y).cp h4 λ C hc=>⟨v,F,hc⟩
    ·cases h
   ·cases h
  ·rename_i Q;obtain ⟨v,u,I,q⟩:=M rfl d h;refine ⟨v,u,I,q.k,q.vE,q.eq,q.cp,q.wW,λ C hc=>?_,q.le⟩
   split
   ·rename_i j B;exact absurd B (Q j)
   ·exact q.w C hc
 case qP x f=>
  simp only [fop] at h
  delta wop;dsimp only
  split at h
  ·rename_i p B;split at h
   ·rename_i j i off hp;split at h
    ·rename_i aa es O;rw [B];simp only [hp,O];exact ⟨_,_,_,h,.refl _,λ _=>rfl,N,s.wQ trivial,λ C hc=>hc,(by first | exact QB _ | exact QY _)⟩
    ·cases h
   ·cases h
  ·rename_i Q;obtain ⟨v,u,I,q⟩:=M rfl d h;refine ⟨v,u,I,q.k,q.vE,q.eq,q.cp,q.wW,λ C hc=>?_,q.le⟩
   split
   ·rename_i j B;exact absurd B (Q j)
   ·exact q.w C hc
 case store x y U=>
  simp only [fop] at h
  delta wop;dsimp only
  have A:xvOK x=true/\xvOK y=true:=by simp only [opOK,XO.qb,zW,List.all_append,QX,List.all_nil,QT,QA] at d;exact d
  split at h
  ·rename_i p B;split at h
   ·rename_i j i off hp;split at h
    ·rename_i aa es O;split at h
     ·rename_i v S;split at h
      ·rename_i T;split at h
       ·rename_i new au;rw [B];simp only [hp,O,S,T,au];simp only [QA] at T;have Y:PP v:=zC3 12 (zR hG s.fr A.2 S) T.2;refine ⟨_,_,_,h,.refl _,λ _=>rfl,nil,s.uw (s.V _ _ O).1 (λ e R=>?_),λ C hc=>hc,(by first | exact QB _ | exact QY _)⟩
        rcases List.mem_or_eq_of_mem_set R with R | rfl
        ·exact (s.V _ _ O).2 e R
        ·exact Y
       ·cases h
      ·cases h
     ·cases h
    ·cases h
   ·cases h
  ·rename_i Q;obtain ⟨v,u,I,q⟩:=M rfl d h;refine ⟨v,u,I,q.k,q.vE,q.eq,q.cp,q.wW,λ C hc=>?_,q.le⟩
   split
   ·rename_i j B;exact absurd B (Q j)
   ·exact q.w C hc
 case vu x=>
  simp only [fop] at h
  delta wop;dsimp only
  split at h
  ·rename_i s1 B;rw [B];refine ⟨_,_,_,h,.refl _,λ _=>rfl,N,s.wQ (λ e R=>?_),λ C hc=>hc,(by first | exact QB _ | exact QY _)⟩
   obtain ⟨b,_,rfl⟩:=Qf.1 R;exact .int _ _
  ·cases h
 case vb x=>
  simp only [fop] at h
  delta wop;dsimp only
  split at h
  ·rename_i j B;split at h
   ·rename_i U es O;split at h
    ·rename_i T;rw [B];simp only [O,T];obtain ⟨q,F,D⟩:=zKj h;exact J (.str _) D λ C hc=>⟨q,F,hc⟩
    ·cases h
   ·cases h
  ·rename_i U es B;split at h
   ·rename_i T;rw [B];simp only [T];obtain ⟨q,F,D⟩:=zKj h;exact J (.str _) D λ C hc=>⟨q,F,hc⟩
   ·cases h
  ·rename_i B;rw [B];exact J (.str _) h λ C hc=>hc
  ·cases h
 case qD len U z ps=>
  simp only [fop] at h
  delta wop;dsimp only
  cases ks with
  | cons k0 ks=>exact M rfl d h
  | nil=>
   dsimp only at h ⊢;split at h
   ·rename_i cs hf;split at h
    ·rename_i hl;split at h
     ·rename_i es hr;split at h
      ·rename_i hp;simp only [hf,hl,hr,hp];simp only [opOK,XO.qb,QA] at d;have hz:z.all (zAU 12)=true:=d.2;have al:∀c'∈cs,CP st.mv st.m c':=zIY hG s.fr (by simpa [List.all_map] using d.1) (λ c' hc=>(zBz 12 (QG.1 hz c' hc)).cp) hf
       exact ⟨_,_,_,h,.refl _,λ _=>rfl,N,s.wQ (zS6 hr al hp),λ C hc=>hc,(by first | exact QB _ | exact QY _)⟩
      ·cases h
     ·cases h
    ·cases h
   ·cases h
 case qK l cx U bytes z=>
  simp only [fop] at h
  delta wop;dsimp only
  split at h
  ·rename_i k1 n hl;split at h
   ·rename_i k2 m ab;split at h
    ·rename_i e hr hz;rw [hl];simp only [ab,hr,hz];obtain ⟨F,D⟩:=zCY h;simp only [opOK,XO.qb,QA] at d;have a8:z.all (zAU 12)=true:=d.2;have az:∀c'∈z,PP c':=λ c' hc=>zBz 12 (QG.1 a8 c' hc)
     have a6:PP e:=by
      obtain ⟨q1,q2,q3,q4,q5⟩:=zAm hr;have ay:=(zY q5).2 0 e rfl;obtain ⟨_,q7,q8⟩:=zO ay;refine zMU q8 λ x B=>az x ?_
      rw [q7] at B;exact QP (QW (QP B))
     exact ⟨_,_,_,D,.refl _,λ _=>rfl,N,s.wQ (λ x B=>by rw [(List.mem_replicate.1 B).2];exact a6),λ C hc=>⟨F,hc⟩,(by first | exact QB _ | exact QY _)⟩
    ·cases h
   ·cases h
  ·cases h
 case append x y U bytes=>
  simp only [fop] at h
  delta wop;dsimp only
  have A:xvOK x=true/\xvOK y=true:=by simp only [opOK,XO.qb,zW,List.all_append,QX,List.all_nil,QT,QA] at d;exact d
  split at h
  ·cases h
  ·rename_i ak;split at h
   ·rename_i v B;split at h
    ·rename_i u S;split at h
     ·rename_i ys R;split at h
      ·rename_i af;have aj:=zT3 s.H (zR hG s.fr A.2 S) R af;split at h
       ·obtain ⟨F,D⟩:=zCY h;rw [B,S];simp only [ak,R,af];exact ⟨_,_,_,D,.refl _,λ _=>rfl,N,s.wQ aj,λ C hc=>⟨F,hc⟩,(by first | exact QB _ | exact QY _)⟩
       ·rename_i j;split at h
        ·rename_i aa es O;split at h
         ·rename_i T;obtain ⟨F,D⟩:=zCY h;rw [B,S];simp only [ak,R,af,O,T];exact ⟨_,_,_,D,.refl _,λ _=>rfl,N,s.uE (λ e R=>(QI.1 R).elim ((s.V _ _ O).2 e) (aj e)),λ C hc=>⟨F,hc⟩,(by first | exact QB _ | exact QY _)⟩
         ·cases h
        ·cases h
       ·cases h
      ·cases h
     ·cases h
    ·cases h
   ·cases h
 case wj=>
  exact ⟨_,_,_,h,.refl _,λ _=>rfl,N,s.wQ (λ p hp=>by cases hp),λ C hc=>hc,(by first | exact QB _ | exact QY _)⟩
 case lookup ag kd m x z ok=>
  simp only [fop] at h
  delta wop;dsimp only
  have hz:zAU 12 z=true:=by simp only [opOK,XO.qb,zW,QA] at d;exact d.2
  split at h
  ·rename_i j hm;split at h
   ·rename_i es O;split at h
    ·rename_i kv B;split at h
     ·rename_i ba;rw [hm];simp only [O,B,ba];have hl:∀{b:Bool} {u:AV},PP u->PP (lkV ok b u):=λ{b u} hu=>by
       cases ok
       ·exact hu
       ·exact .qf _ λ e R=>by
         simp only [QH,List.not_mem_nil,or_false] at R;rcases R with rfl | rfl
         ·exact hu
         ·exact .bool _
      split at h
      ·obtain ⟨q,F,D⟩:=zP9 h;cases q with
       | some u=>
        have hp:PP (lkV ok true u):=hl (zQb (s.V _ _ O).2 F);exact val (.refl _) (λ _=>rfl) hp.cp D λ C hc=>⟨_,by rw [F];rfl,hc⟩
       | none=>
        have hp:PP (lkV ok false z):=hl (zBz 12 hz);exact val (.refl _) (λ _=>rfl) hp.cp D λ C hc=>⟨_,by rw [F];rfl,hc⟩
      obtain ⟨v,u,F,D,X,h4⟩:=zKk h;have Y:PP v:=by
       unfold lkR at F;split at F
       ·rename_i hf;cases F;exact hl (zQb (s.V _ _ O).2 hf)
       ·cases F;exact hl (zBz 12 hz)
       ·cases F
      exact val D X (D.pp Y).cp h4 λ C hc=>⟨v,F,hc⟩
     ·cases h
    ·cases h
   ·cases h
  ·cases h
 case wB ag kd m x y=>
  simp only [fop] at h
  delta wop;dsimp only
  have A:(xvOK m=true/\xvOK x=true)/\xvOK y=true:=by simp only [opOK,XO.qb,zW,List.all_append,QX,List.all_nil,QT,QA] at d;exact d
  split at h
  ·rename_i j hm;split at h
   ·rename_i es O;split at h
    ·rename_i kv B;split at h
     ·rename_i u S;split at h
      ·rename_i T;rw [hm];simp only [O,B,S,T];simp only [QA] at T;obtain ⟨aw,F,D⟩:=zKj h;have ar:PP kv:=zC3 12 (zR hG s.fr A.1.2 B) T.1.2;have a7:PP u:=zC3 12 (zR hG s.fr A.2 S) T.2;exact ⟨_,_,_,D,.refl _,λ _=>rfl,nil,s.uw (s.V _ _ O).1 (zVm ar a7 (s.V _ _ O).2 F),λ C hc=>⟨aw,F,hc⟩,(by first | exact QB _ | exact QY _)⟩
      ·cases h
     ·cases h
    ·cases h
   ·cases h
  ·cases h
 case call f xs=>
  simp only [fop] at h
  delta wop;dsimp only
  have A:xs.all xvOK=true:=by simp only [opOK,XO.qb,zW,QT] at d;exact d
  split at h
  ·rename_i vs hv;rw [hv];exact zOR ah s (zFd hG s.fr A hv) h
  ·cases h
 case qL fx xs=>
  simp only [fop] at h
  delta wop;dsimp only
  have A:xvOK fx=true/\xs.all xvOK=true:=by simp only [opOK,XO.qb,zW,List.all_append,QX,List.all_nil,QT,QA] at d;exact d
  split at h
  ·rename_i f first bb hf;split at h
   ·rename_i vs hv;rw [hf];simp only [hv];refine zOR ah s (λ x B=>?_) h
    have aq:=zR hG s.fr A.1 hf;cases aq with
    | func _ _ _ q1 q2=>
     rcases QI.1 B with B | B
     ·rcases QI.1 B with B | B
      ·exact q1 x B
      ·exact zFd hG s.fr A.2 hv x B
     ·exact q2 x B
   ·cases h
  ·cases h
end
end Go.Sy
namespace Go.Sy
theorem zMo {h:Nat} {l:List Nat} {k:Nat} (e:posN h 0 l=some k):k<l.length:=by
 obtain ⟨j,d,b⟩:=zEp e;have:=(QD.1 b).1;omega
theorem zS7 {hm z:List Nat} {n k:Nat}:∀(d:Nat) {v v':AV},CP n k v->rnV hm z d v=some v'->CP z.length hm.length v':=by
 intro d
 induction d with
 | zero=>intro v v' _ h;cases h
 | succ d R=>
  intro v v' hc h;have A:∀{O Q:List AV},(∀e∈O,CP n k e)->zw (rnV hm z d) O=some Q->∀e∈Q,CP z.length hm.length e:=λ X D e Y=>by
   obtain ⟨m1,m2⟩:=zBf D;obtain ⟨i,p⟩:=List.getElem?_of_mem Y;have B:=(QD.1 p).1;have M:=QE (show i<_ from m1▸B)
   exact R (X _ (QF M)) (m2 i _ e M p)
  unfold rnV at h;cases hc with
  | ptr K o N=>
   simp only at h;split at h
   ·rename_i i p;cases h;exact .ptr _ _ (zMo p)
   ·cases h
  | row K o l s c e N=>
   simp only at h;split at h
   ·rename_i i p;cases h;exact .row _ _ _ _ _ _ (zMo p)
   ·cases h
  | map K N=>
   simp only at h;split at h
   ·rename_i i p;cases h;exact .map _ (zMo p)
   ·cases h
  | sym j hj=>
   simp only at h;split at h
   ·rename_i i p;cases h;exact .sym _ (zMo p)
   ·cases h
  | func f a b ha S=>
   simp only at h;split at h
   ·rename_i a' U;split at h
    ·rename_i b' hB;cases h;exact .func _ _ _ (A ha U) (A S hB)
    ·cases h
   ·cases h
  | iface t u W=>
   simp only at h;split at h
   ·rename_i u' F;cases h;exact .iface _ _ (R W F)
   ·cases h
  | agg T y=>
   simp only at h;split at h
   ·rename_i J x;cases h;exact .agg _ (A y x)
   ·cases h
  | qf T y=>
   simp only at h;split at h
   ·rename_i J x;cases h;exact .qf _ (A y x)
   ·cases h
  | bool b=>cases h;exact .bool _
  | int q m=>cases h;exact .int _ _
  | str s=>cases h;exact .str _
  | ql=>cases h;exact .ql
  | qa=>cases h;exact .qa
  | qj=>cases h;exact .qj
  | qi=>cases h;exact .qi
  | qd=>cases h;exact .qd
  | qe e off I=>cases h;exact .qe _ _ I
  | qp sz es I=>cases h;exact .qp _ _ I
def CPW (H:Heap) (V:Vecs):Prop:=CPS ⟨[],H,V,H.length,V.length⟩
theorem CPW.mk' {H:Heap} {V:Vecs} (h:CPW H V) {fr:Fr} (b:FrCP V.length H.length fr):CPS ⟨fr,H,V,H.length,V.length⟩:=⟨b,h.H,h.V,h.lt⟩
theorem zGW {β:Type} {r:β} {hm x:List Nat} {vs:List AV} {st:Sta} {k:List AV->Heap->Vecs->Option β} (s:CPS st) (hc:∀v∈vs,CP st.mv st.m v) (h:zIQ hm x vs st k=some r):
  ∃f H V,k f H V=some r/\(∀v∈f,CP V.length H.length v)/\f.length=vs.length/\CPW H V/\H.length=hm.length/\V.length=x.length/\H.keys=List.range' 0 hm.length/\∀C:List AV->Heap->Vecs->Prop,C f H V->zDo hm x vs st C:=by
 unfold zIQ at h;split at h
 ·rename_i D;split at h
  ·rename_i f n;split at h
   ·rename_i H J;split at h
    ·rename_i V K;obtain ⟨z,I,Q⟩:=zHs J;obtain ⟨v1,v2⟩:=zHU K;obtain ⟨m1,m2⟩:=zBf n;have o:∀v∈f,CP V.length H.length v:=λ v S=>by
      obtain ⟨i,l⟩:=List.getElem?_of_mem S;have d:=(QD.1 l).1;have b:=QE (show i<_ from m1▸d)
      rw [v1,z];exact zS7 8 (hc _ (QF b)) (m2 i _ v b l)
     refine ⟨f,H,V,h,o,m1,⟨λ t v e=>(by cases e),λ p A=>?_,λ j U T=>?_,λ p A=>?_⟩,z,v1,I,λ C M=>?_⟩
     ·obtain ⟨j,X,str,Y,B,_,rfl,N,F⟩:=Q p A;refine ⟨str,B,rfl,λ c u=>?_⟩
      obtain ⟨_,_,e,y⟩:=s.H.get N;cases e;obtain ⟨m1,m2⟩:=zBf F;obtain ⟨i,l⟩:=List.getElem?_of_mem u;have d:=(QD.1 l).1;have b:=QE (show i<_ from m1▸d)
      show CP V.length H.length c
      rw [v1,z];exact zS7 8 (y _ (QF b)) (m2 i _ c b l)
     ·obtain ⟨q,W,rfl,O,R,_⟩:=v2 j U T;have:=(QD.1 O).1;exact ⟨by show 0+q<V.length;omega,(s.V _ _ R).2⟩
     ·have:p.1∈H.keys:=List.mem_map_of_mem A;rw [I,List.mem_range'] at this;obtain ⟨i,l,e⟩:=this;show p.1<H.length
      omega
     ·unfold zDo;simp only [D,n,J,K];exact M
    ·cases h
   ·cases h
  ·cases h
 ·cases h
theorem CPS.vR {st:Sta} (s:CPS st) {h sz o:Nat} {v:AV} {es:List AV} (D:zJB st.H h sz v=some (o,es)):CPS ⟨st.fr,st.H.del o,(st.mv,.vec sz es)::st.V,st.m,st.mv+1⟩:=by
 obtain ⟨l,S,M,str,N,rfl,_,F,R,J,b⟩:=zIy D;obtain ⟨q1,T,O,Q,I⟩:=zAm J;obtain ⟨_,_,B,f⟩:=s.H.get F;cases B;have j:∀e∈es,PP e:=by
  intro e u;obtain ⟨i,K⟩:=List.getElem?_of_mem u;obtain ⟨_,A⟩:=zY I;obtain ⟨_,z,y⟩:=zO (A i e K);refine zC3 (n:=st.mv) (k:=st.m) 12 (zCy y λ x q=>f x ?_) (QG.1 b e u)
  rw [z] at q;exact QP (QW (QP q))
 have d:=s.wQ (vi:=.vec sz es) j;exact ⟨d.fr,λ p b=>d.H p ((Heap.wq _ _).subset b),d.V,λ p b=>d.lt p ((Heap.wq _ _).subset b)⟩
theorem zGw {h:Nat}:∀{g:List (Nat×Nat)} {st:Sta},CPS st->CPS (qE h g st)/\(qE h g st).fr=st.fr/\(qE h g st).m=st.m/\st.mv<=(qE h g st).mv
 | [],st,s=>⟨s,rfl,rfl,QB _⟩
 | (i,x)::g,st,s=>by
  simp only [qE];split
  ·rename_i str f v;split
   ·have q:=s.wQ (vi:=.vec x []) λ e B=>by cases B
    have n:∀c∈f.set i (.sym st.mv),CP (st.mv+1) st.m c:=λ c hc=>by
     rcases List.mem_or_eq_of_mem_set hc with hc | rfl
     ·obtain ⟨_,_,e,l⟩:=q.H.get v;cases e;exact l c hc
     ·exact .sym _ (QU _)
    obtain ⟨a,b,c,d⟩:=zGw (h:=h) (g:=g) (st:=⟨st.fr,st.H.put h (.cells str (f.set i (.sym st.mv))),(st.mv,.vec x [])::st.V,st.m,st.mv+1⟩) ⟨q.fr,q.H.put n,q.V,λ p j=>by
     have:p.1∈(st.H.put h (.cells str (f.set i (.sym st.mv)))).keys:=List.mem_map_of_mem j;rcases zDp j with rfl | j
     ·exact s.lt (h,.cells str f) (Heap.qh v)
     ·exact s.lt p j⟩
    exact ⟨a,b,c,Qk (QY _) d⟩
   ·split
    ·rename_i y A z;have s1:=s.vR z;have o:(st.H.del y).get h=some (.cells str f):=by
      obtain ⟨_,_,_,_,_,_,u,_⟩:=zIy z;exact (Heap.qQ u).trans v
     have n:∀c∈f.set i (.sym st.mv),CP (st.mv+1) st.m c:=λ c hc=>by
      rcases List.mem_or_eq_of_mem_set hc with hc | rfl
      ·obtain ⟨_,_,e,l⟩:=s1.H.get o;cases e;exact l c hc
      ·exact .sym _ (QU _)
     obtain ⟨a,b,c,d⟩:=zGw (h:=h) (g:=g) (st:=⟨st.fr,(st.H.del y).put h (.cells str (f.set i (.sym st.mv))),(st.mv,.vec x A)::st.V,st.m,st.mv+1⟩) ⟨s1.fr,s1.H.put n,s1.V,λ p j=>by
      rcases zDp j with rfl | j
      ·exact s1.lt (h,.cells str f) (Heap.qh o)
      ·exact s1.lt p j⟩
     exact ⟨a,b,c,Qk (QY _) d⟩
    ·exact zGw s
   ·exact zGw s
  ·exact ⟨s,rfl,rfl,QB _⟩
theorem zFg:∀{g:List (Nat×Nat)} {st:Sta},CPS st->CPS (zE6 g st)
 | [],st,s=>s
 | (t,b)::g,st,s=>by
  simp only [zE6];split
  ·split
   ·exact zFg ((s.wQ (vi:=.vec b []) λ e d=>by cases d).put (.sym _ (QU _)))
   ·split
    ·rename_i f;exact zFg ((s.vR f).put (.sym _ (QU _)))
    ·exact zFg s
   ·exact zFg s
  ·split
   ·exact zFg (zGw s).1
   ·exact zFg s
theorem zGx {β:Type} {r:β} {c:Cut} {F:List AV->Heap->Vecs->Option β} {st:Sta} (s:CPS st) (h:cutO c F st=some r):∃vs H V,F vs H V=some r/\CPS (mkW c vs H V)/\∀C:Inv,C vs H V->cutP c C st:=by
 have s:=zFg (g:=c.grow) s;unfold cutO zS3 at h;split at h
 ·cases h
 ·rename_i vs b;unfold zMn at h;have f:∀v∈vs,CP (zE6 c.grow st).mv (zE6 c.grow st).m v:=λ v y=>by
   obtain ⟨n,l⟩:=zLK b;obtain ⟨i,d⟩:=List.getElem?_of_mem y;have j:=(QD.1 d).1;have p:=QE (show i<_ from n▸j)
   exact s.fr _ _ (l i _ v p d)
  obtain ⟨x,H,V,n,l,z,q,_,_,_,u⟩:=zGW s f h;refine ⟨x,H,V,n,q.mk' λ t v e=>?_,λ C o=>?_⟩
  ·obtain ⟨i,_,d⟩:=zKK e;exact l v (QF d)
  ·unfold cutP canon;rw [b];exact u C o
def heOf (e:FEnt):HEnt:=⟨e.f,e.grow,λ args H V=>(∀x∈args,CP V.length H.length x)/\CPW H V/\H.keys=List.range' 0 H.length,e.val⟩
structure FOK (P:Program) (G:Cx) (e:FEnt):Prop where
 h:HOK P G (heOf e)
 v:∀args H V v H2 V2,(∀x∈args,CP V.length H.length x)->CPW H V->H.keys=List.range' 0 H.length->e.val args H V=some (v,H2,V2)->∀j vi,V2.get j=some vi->j<V2.length/\VIP vi
def toT (th:TbH) (o:FOp):TOp:=⟨o.o,o.ks,o.h.map λ _=>th.map heOf⟩
theorem zKN {f:Nat}:∀{th:TbH},zIu (th.map heOf) f=(zKM th f).map heOf
 | []=>rfl
 | s::r=>by
  simp only [Qd,zIu,zKM];have e:Nat.beq f (heOf s).f=Nat.beq f s.f:=rfl;rw [e];cases Nat.beq f s.f with
  | true=>rfl
  | false=>exact zKN
section
variable {β:Type} {P:Program} {G:Cx} {tb:TbF} {th:TbH} {st:Sta} {r:β}
theorem zS8 {g:List (Nat×Nat)} {args:List AV} (s:CPS st):CPS (qI g args st)/\(qI g args st).fr=st.fr/\(qI g args st).m=st.m/\st.mv<=(qI g args st).mv:=by
 unfold qI;split
 ·exact zGw s
 ·exact ⟨s,rfl,rfl,QB _⟩
theorem WK.w9 {v u:AV} {mv:Nat} (h:WK v u):WK (Sy.w9 mv v) (Sy.w9 mv u):=by
 cases h with
 | refl=>exact .refl _
 | nil d=>exact .nil d
 | qe off h=>exact .qe off h
 | iface t h=>exact .iface t h
 | agg b h=>exact .agg b h
 | qf b h=>exact .qf b h
theorem zNV {e:FEnt} (he:FOK P G e) {ds:List D} {args:List AV} {k:AV->Sta->Option β} (s:CPS st) (Y:∀x∈args,CP st.mv st.m x) (h:zNU e ds args st k=some r):∃v u aa,Stp G tb st true k r (zEI (heOf e) args st) v u aa:=by
 obtain ⟨s1,e1,e2,e3⟩:=zS8 (g:=e.grow) (args:=args) s;unfold zNU zMn at h;have S:∀x∈args,CP (qI e.grow args st).mv (qI e.grow args st).m x:=λ x hx=>(Y x hx).mono e3 (by rw [e2];exact QB _)
 obtain ⟨us,H,V,h1,W,h3,X,h5,h6,h7,h8⟩:=zGW s1 S h;obtain ⟨v,u,H2,V2,g1,g2,_,g3⟩:=zVl h1;have U:H.keys=List.range' 0 H.length:=by rw [h7,h5]
 obtain ⟨o,_⟩:=he.h.2 us H V v H2 V2 ⟨W,X,U⟩ g1;have B:=he.v us H V v H2 V2 W X U g1;generalize N:qI e.grow args st=d at *;have K:∀C:AV->Sta->Prop,C (zJD e.grow d.mv v) (zIt e.grow (zF1 d.H 30 0 (args.foldl (λ a v=>hsA 8 v a) (List.range 0))) (zDK d.H (zF1 d.H 30 0 (args.foldl (λ a v=>hsA 8 v a) (List.range 0))) (args.foldl (λ a v=>zGc 8 v a) [])) d H2 V2)->zEI (heOf e) args st C:=λ C R=>by
  unfold zEI;have z:qI (heOf e).grow args st=d:=N;simp only [z];unfold zIX;refine h8 _ ⟨⟨W,X,U⟩,?_⟩
  have g1:(heOf e).val us H V=some (v,H2,V2):=g1;simp only [g1];exact R
 cases hi:inpl e.grow with
 | true=>
  have f:∀hm A,zIt e.grow hm A d H2 V2=⟨d.fr,d.H,zIs A V2 d.V,d.m,d.mv⟩:=λ hm A=>by unfold zIt;rw [hi]
  have l:∀x,zJD e.grow d.mv x=x:=λ x=>by unfold zJD;rw [hi]
  rw [f,l] at g3;have M:PP v:=(he.h.uH hi ⟨W,X,U⟩ g1).2.2.2.1;refine ⟨v,u,_,g3,g2,λ e=>(by cases e),(g2.pp M).cp,⟨s1.fr,s1.H,?_,s1.lt⟩,λ C R=>K C ?_,e3⟩
  ·intro j vi J;obtain ⟨ae,h0,⟨i,q1,q2⟩ | ⟨rfl,_⟩⟩:=zOL J
   ·exact ⟨(s1.V _ _ h0).1,(B _ _ q2).2⟩
   ·exact s1.V _ _ h0
  ·rw [f,l];exact R
 | false=>
 have f:∀hm A,zIt e.grow hm A d H2 V2=⟨d.fr,zGQ hm d.mv H2 d.H,zJC A d.mv V2 d.V,d.m,d.mv+V2.length⟩:=λ hm A=>by unfold zIt;rw [hi]
 have l:∀x,zJD e.grow d.mv x=w9 d.mv x:=λ x=>by unfold zJD;rw [hi]
 rw [f,l] at g3;have Q:CP (d.mv+V2.length) d.m (w9 d.mv u):=by
  rcases o.pp with n | ⟨j,rfl,J⟩
  ·have T:=g2.pp n;have:w9 d.mv u=u:=by cases T <;> rfl
   rw [this];exact T.cp
  ·cases g2;exact .sym _ (by show d.mv+j<d.mv+V2.length;omega)
 refine ⟨_,_,_,g3,g2.w9,λ e=>(by cases e),Q,⟨?_,?_,?_,?_⟩,λ C R=>?_,Qk e3 (Qy _ _)⟩
 ·exact s1.fr.mono (Qy _ _) (QB _)
 ·intro p n;have O:H2.keys=H.keys:=o.keys;have I:H2.length=H.length:=by have:=congrArg List.length O;simpa [Heap.keys] using this
  rcases zGu (hm:=_) (by rw [I,h5]) (by rw [O,h7]) (λ p n=>let ⟨a,b,c,_⟩:=o.cells p n;⟨a,b,c⟩) n with ⟨q1,_⟩ | ⟨i,str,cs,ho,q1,q2,q3,q4⟩
  ·obtain ⟨str,cs,e,F⟩:=s1.H p q1;exact ⟨str,cs,e,λ c hc=>(F c hc).mono (Qy _ _) (QB _)⟩
  ·refine ⟨str,_,q3,λ c hc=>?_⟩
   obtain ⟨c0,ab,rfl⟩:=Qf.1 hc;obtain ⟨ac,ad,e',F⟩:=o.cells _ q2;cases e';rcases F c0 ab with n | ⟨j,rfl,J⟩
   ·have:w9 d.mv c0=c0:=by cases n <;> rfl
    rw [this];exact n.cp
   ·exact .sym _ (by show d.mv+j<d.mv+V2.length;omega)
 ·intro j vi J;rcases zDj J with ⟨j',rfl,y⟩ | ⟨_,y⟩
  ·refine ⟨?_,(B _ _ y).2⟩
   have:=(B _ _ y).1;show d.mv+j'<d.mv+V2.length
   omega
  ·have:=s1.V _ _ y;exact ⟨QZ this.1 (Qy _ _),this.2⟩
 ·intro p n;have:p.1∈(zGQ _ d.mv H2 d.H).keys:=List.mem_map_of_mem n;rw [zNQ] at this;obtain ⟨q,hq,e⟩:=Qf.1 this;rw [←e];exact s1.lt q hq
 ·exact K C (by rw [f,l];exact R)
end
end Go.Sy
