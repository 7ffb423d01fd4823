/- A LIBRARY: WHAT A FUNCTION'S CODE RECKONS, AS A LEAN FUNCTION, AND THAT ITS WORD IS THE MODEL'S: part 4 of 6. No condition. -/
import Derived.Test.YtfiahaglhiijaaaGreatDoorFxC
set_option linter.unusedVariables false
set_option linter.unusedSimpArgs false
namespace Go.Sy
def HFn(P:Program)(G:Cx)(f:Nat)(args:JE)(H:Heap)(V:Vecs)(v:AV)(H2:Heap)(V2:Vecs):Prop:=
 ∀(E:Env)(w:World)(β:Nat->Option Nat)(b:JB),SR G 0 E w { tmps:=#[],defers:=[] } β ⟨[],H,V,H.length,V.length⟩->VRs E w args b.toList->(∀x∈args,CP V.length H.length x) →
  Calls P f b w λe h=>∃i d j,e=.returned i/\VR d h v i/\(∀p∈H2,d.ρ p.1=E.ρ p.1)/\SR G 0 d h { tmps:=#[],defers:=[] } j ⟨[],H2,V2,H2.length,V2.length⟩/\Kp E.Z (BS E β H V) w d.Z (BS d j H2 V2) h
structure HOut(v:AV)(H H2:Heap)(V2:Vecs):Prop where
 pp:PP v\/∃j,v=.sym j/\j<V2.length
 keys:H2.keys=H.keys
 cells:∀p∈H2,∃str cs,p.2=.cells str cs/\∀c∈cs,PP c\/∃j,c=.sym j/\j<V2.length
 qA:∀j vi,V2.get j=some vi->vi.qA=true
def zdw(P:Program)(G:Cx)(f:Nat)(args:JE)(V:Vecs)(v:AV)(V2:Vecs):Prop:=
 (∀j p,V.get j=some p->∃n o h,p=.vec n o/\V2.get j=some (.vec n h)/\h.length=o.length) ∧
 ∀(E:Env)(w:World)(β:Nat->Option Nat)(b:JB),SR G 0 E w { tmps:=#[],defers:=[] } β ⟨[],[],V,0,V.length⟩->VRs E w args b.toList->(∀x∈args,CP V.length 0 x) →
  Calls P f b w λe i=>∃l d,e=.returned l/\VR d i v l/\d.σ=E.σ/\SR G 0 d i { tmps:=#[],defers:=[] } β ⟨[],[],V2,0,V.length⟩/\Kp E.Z (BS E β [] V) w d.Z (BS d β [] V2) i
def HOK(P:Program)(G:Cx)(e:HEnt):Prop:=Enters P e.f/\∀args H V v H2 V2,e.pre args H V->e.val args H V=some (v,H2,V2)->HOut v H H2 V2/\match inpl e.grow with
 |true=>H=[]/\H2=[]/\PP v/\zdw P G e.f args V v V2
 |false=>HFn P G e.f args H V v H2 V2
section
variable{P:Program}{G:Cx}{nt:Nat}{E:Env}{w:World}{a:Act}{β:Nat->Option Nat}{st:Sta}
 {Z0 B0:Nat->Prop} {w0:World} {dl:List Deferred} {tb:TblS}
theorem zae{H:Heap}{fr:Fr}(hr:HR E H w)(N:FrR E w fr a nt)(M:GR G E w){o:Oper}{n:XO}(hc:zDf P o.op=some n){f:Nat}{args:JE}(X:Enters P f)
  (hk:(∃xs,n=.call f xs/\evs G fr xs=some args)\/∃F xs first d vs,n=.qM F xs/\F.ev G fr=some (.func (.func f) first d)/\evs G fr xs=some vs/\args=first++vs++d):
  ∃cargs:JB,VRs E w args cargs.toList/\(execOp a.eval o).run P w=.ok (.enter f cargs) w:=by
 have K:∀call:Sy.Call,xoS G call fr H 0 n=call f args H 0:=by
  intro call;rcases hk with⟨xs,rfl,h⟩|⟨F,xs,first,d,vs,rfl,h1,q,rfl⟩
  .simp only[xoS,h]
  .simp only[xoS,h1,q,zJu]
 have no:(∀b:Bool,zBU P E H w 0 (execOp a.eval o) (.bool b) H 0)->False:=by
  intro D;obtain⟨cv,E1,w1,_,_,v1,O⟩:=D true;obtain⟨ae,E2,w2,_,_,v2,B⟩:=D false;cases v1;cases v2;rcases O with O|⟨O,T⟩
  .rcases B with B|⟨B,l⟩
   .rw[O]at B;cases B
   .rw[O]at B;cases B
  .cases T
 have Y:∀b,xoS G (λ_ _ H nx=>some (.bool b,H,nx)) fr H 0 n=some (.bool b,H,0):=λb=>K _
 have p:zH6 E 0 0:=λh h1 q=>by omega
 by_cases J:∃c,o.op=.call c
 rotate_left
 .exact(no λb=>zY5 hr N M (λc h=>J ⟨c,h⟩) hc p (Y b)).elim
 obtain⟨⟨callee,A,ts⟩,Q⟩:=J;rw[Q]at hc;have u:∀{x:Operand}{ax:XV}{j:List XV}{first d vs:JE},callee=.value x->zL x=some ax->zHi A.toList=some j->ax.ev G fr=some (.func (.func f) first d)->evs G fr j=some vs->args=first++vs++d →
   ∃cargs:JB,VRs E w args cargs.toList/\(execOp a.eval o).run P w=.ok (.enter f cargs) w:=by
  intro x ax j first d vs T l e3 e4 e5 e6;subst T;subst e6;have I:=zP N M l e4;generalize R:a.eval x=cx at I;cases I with
  |func _ _ _ vf vc aa ac rf rc=>
   have y:=zGg N M e3 e5;have h1:VRs E w first vf.toList:=⟨by simpa using aa,λi x v K I=>rf i x v K (by simpa using I)⟩
   have q:VRs E w d vc.toList:=⟨by simpa using ac,λi x v K I=>rc i x v K (by simpa using I)⟩
   refine⟨vf++A.map a.eval++vc,by simpa using(h1.append y).append q,?_⟩
   simp only[execOp,Q,resolve,Sem.run_bind,R,Deferred.ofValue,Sem.run_pure,Result.andThen_ok,invoke];exact zNF X
 have gen:∀{x:Operand},callee=.value x->(∃ax,zL x=some ax/\∃j,zHi A.toList=some j/\n=.qM ax j)->∃cargs:JB,VRs E w args cargs.toList/\(execOp a.eval o).run P w=.ok (.enter f cargs) w:=by
  rintro x ec ⟨ax,z,j,has,e⟩
  rcases hk with⟨xs,l,h⟩|⟨F,xs,first,d,vs,l,h1,q,S⟩
  .rw[e]at l;cases l
  .rw[e]at l;cases l;exact u ec z has h1 q S
 cases callee with
 |builtin b=>exact(no λW=>zQ6 hr N M Q hc p (Y W)).elim
 |value x=>
  cases x with
  |func f'=>
   simp only[zDf]at hc;split at hc
   .rename_i fn U;split at hc
    .obtain⟨j,has,hc⟩:=za hc;cases hc;rcases hk with⟨xs,l,h⟩|⟨F,xs,first,d,vs,l,h1,q,S⟩
     .cases l;exact u (x:=.func f) (ax:=.c (.func (.func f) [] [])) rfl rfl has rfl h (by simp)
     .cases l
    .rename_i ab;obtain⟨j,has,hc⟩:=za hc;exact(no λW=>zXf hr N M Q U ab has hc (Y W)).elim
   .cases hc
  |tmp t=>
   obtain⟨j,has,hc⟩:=za hc;cases hc;exact gen rfl ⟨_,rfl,j,has,rfl⟩
  |const af=>
   obtain⟨ax,z,hc⟩:=za hc;obtain⟨j,has,hc⟩:=za hc;cases hc;exact gen rfl ⟨ax,z,j,has,rfl⟩
  |global g=>
   obtain⟨j,has,hc⟩:=za hc;cases hc;exact gen rfl ⟨_,rfl,j,has,rfl⟩
 |invoke r m=>
  obtain⟨ar,ad,hc⟩:=za hc;obtain⟨j,has,hc⟩:=za hc;cases hc;rcases hk with⟨xs,l,h⟩|⟨F,xs,first,d,vs,l,h1,q,S⟩
  .cases l
  .cases l
theorem zRp{h:Nat}:∀{l:JV}{i:Nat},posN h i l=none->h ∉ l
 |[],i,e=>by simp
 |a::r,i,e=>by
  simp only[posN]at e;split at e
  .cases e
  .rename_i b;have:=zRp e;simp only[QH,not_or];exact⟨zBX b,this⟩
theorem zE0{i:JV}{mv:Nat}{V:Vecs}:∀{V2:Vecs}{j:Nat}{vi:VI},(zOu i mv V2 V).get j=some vi->(∃b,j=mv+b/\V2.get b=some vi)\/(j ∉ i/\V.get j=some vi)
 |[],j,vi,h=>by
  refine .inr ?_
  simp only[zOu]at h
  induction V with
  |nil=>cases h
  |cons p r d=>
   obtain⟨k,o⟩:=p;rw[List.filter_cons]at h;split at h
   .rename_i hk;rw[Vecs.qh]at h⊢;split at h
    .rename_i e;cases h;subst e;simp only[Bool.not_eq_true']at hk;exact⟨zSg hk,by simp⟩
    .rename_i e;rw[if_neg e];exact d h
   .rename_i hk;obtain⟨h1,f⟩:=d h;refine⟨h1,?_⟩
    rw[Vecs.qh,if_neg ?_]
    .exact f
    .rintro rfl
     have:inN k i=true:=by simpa using hk
     have mem:∀{l:JV},inN k l=true->k∈l:=by
      intro l
      induction l with
      |nil=>intro h;cases h
      |cons a r d=>
       intro h;simp only[inN]at h;split at h
       .rename_i e;rw[zc e];exact .head _
       .exact .tail _ (d h)
     exact h1 (mem this)
 |(k,o)::r,j,vi,h=>by
  simp only[zOu]at h;rw[Vecs.qh]at h;split at h
  .rename_i e;cases h;exact .inl ⟨k,e.symm,by rw[Vecs.qh];simp⟩
  .rename_i e;rcases zE0 h with⟨b,h1,f⟩|h
   .refine .inl ⟨b,h1,?_⟩
    rw[Vecs.qh,if_neg (by omega)]
    exact f
   .exact .inr h
theorem zUn{hm:JV}{mv:Nat}{H2 H:Heap}:(zKu hm mv H2 H).keys=H.keys:=by
 unfold zKu Heap.keys;rw[List.map_map];apply List.map_congr_left;intro p b;simp only[Function.comp];split
 .split<;>rfl
 .rfl
theorem zJ0{hm:JV}{mv:Nat}{H2 H:Heap}(x:H2.length=hm.length)(hk:H2.keys=List.range' 0 hm.length)(l:∀p∈H2,∃str cs,p.2=HO.cells str cs){p:Nat×HO}(y:p∈zKu hm mv H2 H):
  (p∈H/\p.1 ∉ hm)\/∃(i:Nat) (str:Bool) (cs:JE) (o:HO),hm[i]?=some p.1/\(i,HO.cells str cs)∈H2/\p.2=.cells str (cs.map (vg mv))/\(p.1,o)∈H:=by
 unfold zKu at y;obtain⟨q,v,e⟩:=Qg.1 y;split at e
 .rename_i i A;obtain⟨j,h1,n⟩:=zGU A;have D:i=j:=by omega
  subst D;have f:i<H2.length:=by have:=(QB.1 n).1;omega
  have u:=QF f;have d:=QR f;obtain⟨str,cs,z⟩:=l _ d;have h:H2[i].1=i:=by
   have:H2.keys[i]?=some H2[i].1:=by simp[Heap.keys,u]
   rw[hk,List.getElem?_range' (by omega)]at this
   simpa using this.symm
  have b:H2[i]=(i,HO.cells str cs):=Prod.ext h z;rw[u,b]at e;simp only at e;subst e;exact .inr ⟨i,str,cs,q.2,n,b▸d,rfl,v⟩
 .rename_i B;subst e;exact .inl ⟨v,zRp B⟩
theorem zV3{V:Vecs}:∀{l:JV}{i:Nat}{b:Vecs},zOh V i l=some b->∀(k s:Nat),l[k]?=some s->∃vi,b.get (i+k)=some vi/\V.get s=some vi
 |[],i,b,e,k,s,h=>by simp at h
 |o::r,i,b,e,k,s,h=>by
  have key:∀{V2:Vecs}{vi:VI},V.get o=some vi->zOh V (i+1) r=some V2->b=(i,vi)::V2->∃vi,b.get (i+k)=some vi/\V.get s=some vi:=by
   intro V2 vi d f e;subst e;cases k with
   |zero=>
    simp at h;subst h;exact⟨vi,by rw[Vecs.qh];simp,d⟩
   |succ k=>
    obtain⟨j,h1,n⟩:=zV3 f k s (by simpa using h)
    refine⟨j,?_,n⟩
    rw[Vecs.qh,if_neg (by omega)]
    rw[←h1];congr 1;omega
  simp only[zOh]at e;split at e
  .rename_i q p d;split at e
   .rename_i V2 f;cases e;exact key d f rfl
   .cases e
  .rename_i p d;split at e
   .rename_i V2 f;cases e;exact key d f rfl
   .cases e
  .cases e
theorem SR.back(hG:GPP G)(s:SR G nt E w a β st){hm K:JV}{H H2:Heap}{V V2:Vecs}(cv:CanV hm K st H V){v:AV}{ag:Value}(o:HOut v H H2 V2){E':Env}{β':Nat->Option Nat}{w':World}(hv:VR E' w' v ag)(hρ:∀p∈H2,E'.ρ p.1=(zAC E hm K).ρ p.1)
  (s':SR G 0 E' w' { tmps:=#[],defers:=[] } β' ⟨[],H2,V2,H2.length,V2.length⟩) (M:Kp (zAC E hm K).Z (BS (zAC E hm K) (λi=>β (K.getD i 0)) H V) w E'.Z (BS E' β' H2 V2) w') {d:Option Nat} (hd:∀n,d=some n->n<nt):
  ∃E2 β2,SR G nt E2 w' (a.put d ag) β2 ⟨qu st.fr d (vg st.mv v),zKu hm st.mv H2 st.H,zOu K st.mv V2 st.V,st.m,st.mv+V2.length⟩/\Kp E.Z (BS E β st.H st.V) w E2.Z (BS E2 β2 (zKu hm st.mv H2 st.H) (zOu K st.mv V2 st.V)) w':=by
 obtain⟨g1,g2,g3⟩:=zLt cv.rh;obtain⟨v1,v2⟩:=zMd cv.rv;have aw:∀{j h':Nat},hm[j]?=some h'->(zAC E hm K).ρ j=E.ρ h':=λ{j h'} e=>by
  show E.ρ (hm.getD j 0)=E.ρ h'
  rw[List.getD_eq_getElem?_getD,e];rfl
 have A:H2.keys=List.range' 0 hm.length:=o.keys.trans g2;have Q:H2.length=hm.length:=by
  have:=congrArg List.length A
  simpa[Heap.keys]using this
 have ac:∀p∈H2,∃str Y,p.2=HO.cells str Y:=λp l=>let ⟨str,Y,e,_⟩:=o.cells p l;⟨str,Y,e⟩
 have hB:∀{x},BS (zAC E hm K) (λi=>β (K.getD i 0)) H V x->(∃q∈st.H,q.1∈hm/\E.ρ q.1=x)\/∃W f,W∈K/\st.V.get W=some f/\f.qA=true/\β W=some x:=by
  rintro x (⟨p,l,e⟩|⟨j,f,N,ho,y⟩)
  .obtain⟨j,h',str,Y,aq,e1,rfl,e3,e4⟩:=g3 p l;simp only[QY]at e;rw[aw e1]at e;exact .inl ⟨_,Heap.qj e3,QE e1,e⟩
  .obtain⟨kk,W,rfl,q2,q3,q4⟩:=v2 j f N;simp only[QY]at y;have az:K.getD kk 0=W:=by rw[List.getD_eq_getElem?_getD,q2];rfl
   rw[az]at y;exact .inr ⟨W,f,QE q2,q3,ho,y⟩
 have aa:∀{x},BS (zAC E hm K) (λi=>β (K.getD i 0)) H V x->BS E β st.H st.V x:=λB=>by
  rcases hB B with⟨q,hq,_,e⟩|⟨W,f,_,h1,R,U⟩
  .exact .inl ⟨q,hq,e⟩
  .exact .inr ⟨W,f,h1,R,U⟩
 have al:∀p∈st.H,p.1 ∉ hm->¬BS (zAC E hm K) (λi=>β (K.getD i 0)) H V (E.ρ p.1):=λp l O B=>by
  rcases hB B with⟨q,hq,a6,e⟩|⟨W,f,_,h1,R,U⟩
  .exact O (s.hr.inj p l q hq e.symm▸a6)
  .exact(s.bz W f _ h1 R U).2 p l rfl
 have ad:∀j f b,st.V.get j=some f->f.qA=true->β j=some b->j ∉ K->¬BS (zAC E hm K) (λi=>β (K.getD i 0)) H V b:=λj f b h1 R U O B=>by
  rcases hB B with⟨q,hq,_,e⟩|⟨W,ah,ar,F,z,k3⟩
  .exact(s.bz j f b h1 R U).2 q hq e
  .exact O (s.qS j W f ah b h1 F R z U k3▸ar)
 have ba:∀b,E.Z b->¬BS (zAC E hm K) (λi=>β (K.getD i 0)) H V b:=λb hz B=>by
  rcases hB B with⟨q,hq,_,e⟩|⟨W,ah,ar,F,z,k3⟩
  .exact s.hr.nz q hq (e▸hz)
  .exact(s.bz W ah b F z k3).1 hz
 have hZ:∀b,E.Z b->E'.Z b/\w'.heap[b]? = w.heap[b]?:=λb y=>⟨M.qF b y,M.qI b (s.hr.wa b y) (ba b y)⟩
 have X:∀j f b,st.V.get j=some f->f.qA=true->β j=some b->b<w.heap.size:=λj f b h1 R U=>(s.qT j f h1).2.lt R U
 let E2:Env:=⟨E.ρ,E.D,E'.Z,λi=>if i<st.mv then E.σ i else E'.σ (i-st.mv)⟩
 let β2:Nat->Option Nat:=λi=>if i<st.mv then β i else β' (i-st.mv)
 have σn:∀j,E2.σ (st.mv+j)=E'.σ j:=λj=>by
  show(if st.mv+j<st.mv then E.σ (st.mv+j)else E'.σ (st.mv+j-st.mv))=E'.σ j
  rw[if_neg (by omega),Nat.add_sub_cancel_left]
 have βn:∀j,β2 (st.mv+j)=β' j:=λj=>by
  show(if st.mv+j<st.mv then β (st.mv+j)else β' (st.mv+j-st.mv))=β' j
  rw[if_neg (by omega),Nat.add_sub_cancel_left]
 have σo:∀j,j<st.mv->E2.σ j=E.σ j:=λj N=>if_pos N
 have βo:∀j,j<st.mv->β2 j=β j:=λj N=>if_pos N
 have mo:∀{x:AV}{cx:Value},CP st.mv st.m x->VR E w x cx->VR E2 w' x cx:=λhc B=>
  VR.vl (E:=E) (E':=E2) (w:=w) (w':=w') (λh _ hh=>⟨hh,rfl⟩) hZ M.qn σo B hc
 have mn:∀{x:AV}{cx:Value},PP x->VR E' w' x cx->VR E2 w' x cx:=λl B=>VR.pp (E:=E') (E':=E2) (w:=w') (w':=w') (λb y=>⟨y,rfl⟩) B l
 have af:VR E2 w' (vg st.mv v) ag/\CP (st.mv+V2.length) st.m (vg st.mv v):=by
  rcases o.pp with l|⟨j,rfl,N⟩
  .have:vg st.mv v=v:=by cases l<;>rfl
   rw[this];exact⟨mn l hv,l.cp⟩
  .refine⟨?_,.sym _ (Nat.add_lt_add_left N _)⟩
   cases hv with
   |sym _ _ he h1=>exact .sym _ _ (he.trans (σn j).symm) h1
 have I:∀{p:Nat×HO},p∈zKu hm st.mv H2 st.H->∃o,(p.1,o)∈st.H:=λ{p} l=>by
  rcases zJ0 Q A ac l with⟨h,_⟩|⟨_,_,_,o,_,_,_,h⟩
  .exact⟨p.2,h⟩
  .exact⟨o,h⟩
 have ak:∀{i:Nat}{h:Nat}{oo:HO},hm[i]?=some h->(i,oo)∈H2->E'.ρ i=E.ρ h:=λh1 R=>(hρ _ R).trans (aw h1)
 have ae:∀{x},BS E' β' H2 V2 x->∀p∈st.H,p.1 ∉ hm->E.ρ p.1≠x:=λ{x} B p l O e=>by
  rcases M.own x B with h|h
  .exact al p l O (e▸h)
  .have:=s.hr.lt l;omega
 refine⟨E2,β2,⟨⟨?_,λp l=>?_,λp l q hq e=>?_,λp l=>?_,λp l=>?_,s'.hr.wa⟩,?_,λg u hg=>⟨VR.pp (E:=E) (E':=E2) (w:=w) (w':=w') hZ (s.hg g u hg).1 (hG g u hg),(s.hg g u hg).2.mono M.qn⟩,s.qz,?_,λp l=>?_,λj f N=>?_,λj j2 i off N=>?_,λj f b N ho y=>?_,λj J f T b h1 R U h4 h5 h6=>?_⟩,?_⟩
 .show(zKu hm st.mv H2 st.H).keys.Nodup
  rw[zUn];exact s.hr.nodup
 .obtain⟨o,h⟩:=I l;exact s.hr.qz (p.1,o) h
 .obtain⟨o1,h1⟩:=I l;obtain⟨o2,R⟩:=I hq;exact s.hr.inj (p.1,o1) h1 (q.1,o2) R e
 .rcases zJ0 Q A ac l with⟨h,O⟩|⟨i,str,Y,o2,F,z,k3,k4⟩
  .obtain⟨str,Y,e,aj⟩:=s.cH p h;have:=s.hr.obj p h;rw[e]at this⊢;exact OR.vl (M.qI _ (s.hr.lt h) (al p h O)) (λhc hv=>mo hc hv) aj this
  .have ai:=s'.hr.obj _ z;rw[k3];simp only at ai;rw[ak F z]at ai;obtain⟨cc,ee,ff,q1,q2,q3,q4⟩:=ai;refine⟨cc,ee,ff,q1,by simpa using q2,q3,λi2 x B=>?_⟩
   rw[Qn]at B;cases hc2:Y[i2]? with
   |none=>rw[hc2]at B;cases B
   |some c=>
    rw[hc2]at B;cases B;obtain⟨u,r1,r2,r3⟩:=q4 i2 c hc2;refine⟨u,r1,r2,?_⟩
    obtain⟨au,aq,ec,ao⟩:=o.cells _ z;cases ec;rcases ao c (QE hc2)with ab|⟨j,rfl,N⟩
    .have:vg st.mv c=c:=by cases ab<;>rfl
     rw[this];exact mn ab r3
    .cases r3 with
     |sym _ _ he h1=>exact .sym _ _ (he.trans (σn j).symm) h1
 .rcases zJ0 Q A ac l with⟨h,O⟩|⟨i,str,Y,o2,F,z,k3,k4⟩
  .intro hz;rcases M.qP _ hz with h1|h1|h1
   .exact s.hr.nz p h h1
   .exact al p h O h1
   .have:=s.hr.lt h;have h1:w.heap.size<=E.ρ p.1:=h1;omega
  .have:=s'.hr.nz _ z;simp only at this;rw[ak F z]at this;exact this
 .exact s.hf.ur s.qW (λhc hv=>mo hc hv) hd af.1
 .exact(s.qW.mono (Qy _ _) (QA _)).qu af.2
 .rcases zJ0 Q A ac l with⟨h,O⟩|⟨i,str,Y,o2,F,z,k3,k4⟩
  .obtain⟨str,Y,e,aj⟩:=s.cH p h;exact⟨str,Y,e,λc hc=>(aj c hc).mono (Qy _ _) (QA _)⟩
  .refine⟨str,_,k3,λc hc=>?_⟩
   obtain⟨c0,a7,rfl⟩:=Qg.1 hc;obtain⟨au,aq,ec,ao⟩:=o.cells _ z;cases ec;rcases ao c0 a7 with ab|⟨j,rfl,N⟩
   .have:vg st.mv c0=c0:=by cases ab<;>rfl
    rw[this];exact ab.cp
   .exact .sym _ (Nat.add_lt_add_left N _)
 .rcases zE0 N with⟨J,rfl,h1⟩|⟨O,h1⟩
  .obtain⟨F,z⟩:=s'.qT J f h1;refine⟨Nat.add_lt_add_left F _,?_⟩
   cases f with
   |vec sz es=>
    obtain⟨l,⟨e1,e2,e3⟩|⟨b,str,Y,cp,ex,e1,e2,e3,e4,e5,e6⟩⟩:=z
    .exact⟨l,.inl ⟨(βn J).trans e1,(σn J).trans e2,e3⟩⟩
    .exact⟨l,.inr ⟨b,str,Y,cp,ex,(βn J).trans e1,OR.pp (E:=E') (E':=E2) (w:=w') (w':=w') rfl (λb y=>⟨y,rfl⟩) e4 e2,by rw[σn];exact e3,e4,e5,e6⟩⟩
   |mp es=>
    obtain⟨l,b,e1,e2,e3⟩:=z;exact⟨l,b,(βn J).trans e1,OR.pm (E:=E') (E':=E2) (w:=w') (w':=w') rfl (λb y=>⟨y,rfl⟩) l e2,(σn J).trans e3⟩
   |qU j2 i off=>
    have:=o.qA _ _ h1;cases this
  .obtain⟨F,z⟩:=s.qT j f h1;refine⟨Nat.lt_add_right _ F,z.mono (σo j F) (λ_=>βo j F) (λb ho y=>M.qI b (X j f b h1 ho y) (ad j f b h1 ho y O)) hZ M.qn λj2 i off e sz es a8=>?_⟩
   subst e;have S:=s.vp j j2 i off h1;rcases zE0 a8 with⟨J,e1,_⟩|⟨_,R⟩
   .omega
   .exact⟨βo j2 S,es,R,rfl⟩
 .rcases zE0 N with⟨J,rfl,h1⟩|⟨O,h1⟩
  .have:=o.qA _ _ h1;cases this
  .exact Nat.lt_add_right _ (s.vp j j2 i off h1)
 .rcases zE0 N with⟨J,rfl,h1⟩|⟨O,h1⟩
  .rw[βn]at y;obtain⟨z1,z2⟩:=s'.bz J f b h1 ho y;refine⟨z1,λp l e=>?_⟩
   rcases zJ0 Q A ac l with⟨h,O⟩|⟨i,str,Y,o2,F,z,k3,k4⟩
   .exact ae (.inr ⟨J,f,h1,ho,y⟩) p h O e
   .exact z2 _ z ((ak F z).trans e)
  .have S:=(s.qT j f h1).1;rw[βo j S]at y;obtain⟨z1,z2⟩:=s.bz j f b h1 ho y;refine⟨λhz=>?_,λp l e=>?_⟩
   .rcases M.qP _ hz with k|k|k
    .exact z1 k
    .exact ad j f b h1 ho y O k
    .have:=X j f b h1 ho y;omega
   .obtain⟨oo,h⟩:=I l;exact z2 _ h e
 .rcases zE0 h1 with⟨i1,rfl,F⟩|⟨a1,F⟩
  .rcases zE0 R with⟨i2,rfl,z⟩|⟨ax,z⟩
   .rw[βn]at h5 h6;rw[s'.qS i1 i2 f T b F z U h4 h5 h6]
   .have S:=(s.qT J T z).1;rw[βn]at h5;rw[βo J S]at h6;rcases M.own b (.inr ⟨i1,f,F,U,h5⟩)with k|k
    .exact(ad J T b z h4 h6 ax k).elim
    .have:=X J T b z h4 h6;omega
  .have S:=(s.qT j f F).1;rw[βo j S]at h5;rcases zE0 R with⟨i2,rfl,z⟩|⟨ax,z⟩
   .rw[βn]at h6;rcases M.own b (.inr ⟨i2,T,z,h4,h6⟩)with k|k
    .exact(ad j f b F U h5 a1 k).elim
    .have:=X j f b F U h5;omega
   .have ay:=(s.qT J T z).1;rw[βo J ay]at h6;exact s.qS j J f T b F z U h4 h5 h6
 .refine⟨M.qF,λx B=>?_,λx B=>?_,M.tape,M.os,M.output,M.size,λx B y=>M.qI x B λh=>y (aa h),M.qn⟩
  .rcases M.qP x B with h|h|h
   .exact .inl h
   .exact .inr (.inl (aa h))
   .exact .inr (.inr h)
  .rcases B with⟨p,l,e⟩|⟨j,f,N,ho,y⟩
   .obtain⟨oo,h⟩:=I l;exact .inl (.inl ⟨_,h,e⟩)
   .rcases zE0 N with⟨J,rfl,h1⟩|⟨O,h1⟩
    .rw[βn]at y;rcases M.own x (.inr ⟨J,f,h1,ho,y⟩)with k|k
     .exact .inl (aa k)
     .exact .inr k
    .rw[βo j (s.qT j f h1).1]at y;exact .inl (.inr ⟨j,f,h1,ho,y⟩)
theorem Vecs.get_map{g:Nat->VI->VI}:∀{V:Vecs}{j:Nat},Vecs.get (V.map λp=>(p.1,g p.1 p.2)) j=(Vecs.get V j).map (g j)
 |[],j=>rfl
 |(k,o)::r,j=>by
  rw[Qe,Vecs.qh,Vecs.qh];split
  .rename_i e;subst e;rfl
  .exact Vecs.get_map
def zWM(d:JV)(V2:Vecs)(k:Nat)(o:VI):VI:=match posN k 0 d with
 |some i=>match V2.get i with
  |some b=>b
  |none=>o
 |none=>o
theorem zV4{d:JV}{V2 V:Vecs}{j:Nat}{vi:VI}(h:(zM4 d V2 V).get j=some vi):∃b,V.get j=some b/\((∃i,posN j 0 d=some i/\V2.get i=some vi)\/(vi=b/\∀i,posN j 0 d=some i->V2.get i=none)):=by
 have e:zM4 d V2 V=V.map λp=>(p.1,zWM d V2 p.1 p.2):=by
  unfold zM4;apply List.map_congr_left
  rintro ⟨k,o⟩ _
  unfold zWM;dsimp only;cases posN k 0 d with
  |none=>rfl
  |some i=>dsimp only;cases V2.get i<;>rfl
 rw[e,Vecs.get_map (g:=zWM d V2)]at h;unfold zWM at h;cases hv:V.get j with
 |none=>rw[hv]at h;cases h
 |some b=>
  rw[hv]at h;simp only[Option.map_some,QN]at h;refine⟨b,rfl,?_⟩
  cases hp:posN j 0 d with
  |none=>rw[hp]at h;exact .inr ⟨h.symm,λi f=>by cases f⟩
  |some i=>
   rw[hp]at h;simp only at h;cases hq:V2.get i with
   |none=>rw[hq]at h;exact .inr ⟨h.symm,λl f=>by cases f;exact hq⟩
   |some x=>rw[hq]at h;simp only at h;subst h;exact .inl ⟨i,rfl,hq⟩
theorem SR.uJ(hG:GPP G)(s:SR G nt E w a β st){f:JV}{V V2:Vecs}(cv:CanV [] f st [] V){v:AV}{aa:Value}(y:PP v)
  (hl:∀j vi,V.get j=some vi->∃sz es o,vi=.vec sz es/\V2.get j=some (.vec sz o)/\o.length=es.length) {E':Env} {w':World} (hv:VR E' w' v aa) (hσ:E'.σ=(zAC E [] f).σ)
  (s':SR G 0 E' w' { tmps:=#[],defers:=[] } (λi=>β (f.getD i 0)) ⟨[],[],V2,0,V.length⟩) (F:Kp (zAC E [] f).Z (BS (zAC E [] f) (λi=>β (f.getD i 0)) [] V) w E'.Z (BS E' (λi=>β (f.getD i 0)) [] V2) w') {d:Option Nat} (hd:∀n,d=some n->n<nt):
  ∃J β2,SR G nt J w' (a.put d aa) β2 ⟨qu st.fr d v,st.H,zM4 f V2 st.V,st.m,st.mv⟩/\Kp E.Z (BS E β st.H st.V) w J.Z (BS J β2 st.H (zM4 f V2 st.V)) w':=by
 obtain⟨v1,v2⟩:=zMd cv.rv;have v3:=zV3 cv.rv;have af:∀{i j:Nat},posN j 0 f=some i->f.getD i 0=j/\j∈f:=λ{i j} h=>by
  obtain⟨k,e1,W⟩:=zGU h;have:i=k:=by omega
  subst this;exact⟨by rw[List.getD_eq_getElem?_getD,W];rfl,QE W⟩
 have hB:∀{x},BS (zAC E [] f) (λi=>β (f.getD i 0)) [] V x->∃I vi,I∈f/\st.V.get I=some vi/\vi.qA=true/\β I=some x:=by
  rintro x (⟨p,y,e⟩|⟨j,vi,R,O,q⟩)
  .cases y
  .obtain⟨kk,I,rfl,Y,q3,q4⟩:=v2 j vi R;simp only[QY]at q;have ah:f.getD kk 0=I:=by rw[List.getD_eq_getElem?_getD,Y];rfl
   rw[ah]at q;exact⟨I,vi,QE Y,q3,O,q⟩
 have X:∀{x},BS (zAC E [] f) (λi=>β (f.getD i 0)) [] V x->BS E β st.H st.V x:=λB=>by
  obtain⟨I,vi,_,h1,A,T⟩:=hB B;exact .inr ⟨I,vi,h1,A,T⟩
 have ag:∀p∈st.H,¬BS (zAC E [] f) (λi=>β (f.getD i 0)) [] V (E.ρ p.1):=λp y B=>by
  obtain⟨I,vi,_,h1,A,T⟩:=hB B;exact(s.bz I vi _ h1 A T).2 p y rfl
 have ae:∀j vi b,st.V.get j=some vi->vi.qA=true->β j=some b->j ∉ f->¬BS (zAC E [] f) (λi=>β (f.getD i 0)) [] V b:=λj vi b h1 A T hn B=>by
  obtain⟨I,l,ab,S,Q,k3⟩:=hB B;exact hn (s.qS j I vi l b h1 S A Q T k3▸ab)
 have aq:∀b,E.Z b->¬BS (zAC E [] f) (λi=>β (f.getD i 0)) [] V b:=λb hz B=>by
  obtain⟨I,l,ab,S,Q,k3⟩:=hB B;exact(s.bz I l b S Q k3).1 hz
 have hZ:∀b,E.Z b->E'.Z b/\w'.heap[b]? = w.heap[b]?:=λb q=>⟨F.qF b q,F.qI b (s.hr.wa b q) (aq b q)⟩
 have U:∀j vi b,st.V.get j=some vi->vi.qA=true->β j=some b->b<w.heap.size:=λj vi b h1 A T=>(s.qT j vi h1).2.lt A T
 let J:Env:=⟨E.ρ,E.D,E'.Z,E.σ⟩
 have σn:∀{i j},posN j 0 f=some i->E'.σ i=E.σ j:=λ{i j} h=>by
  rw[hσ];show E.σ (f.getD i 0)=E.σ j
  rw[(af h).1]
 have βn:∀{i j},posN j 0 f=some i->(λi=>β (f.getD i 0)) i=β j:=λ{i j} h=>by
  show β (f.getD i 0)=β j
  rw[(af h).1]
 have mo:∀{x:AV}{cx:Value},CP st.mv st.m x->VR E w x cx->VR J w' x cx:=λhc B=>
  VR.vl (E:=E) (E':=J) (w:=w) (w':=w') (λh _ hh=>⟨hh,rfl⟩) hZ F.qn (λ_ _=>rfl) B hc
 have mn:∀{x:AV}{cx:Value},PP x->VR E' w' x cx->VR J w' x cx:=λy B=>VR.pp (E:=E') (E':=J) (w:=w') (w':=w') (λb q=>⟨q,rfl⟩) B y
 have ac:∀{i j},posN j 0 f=some i->∃vi,V.get i=some vi/\st.V.get j=some vi:=λ{i j} h=>by
  obtain⟨k,e1,W⟩:=zGU h;have:i=k:=by omega
  subst this;obtain⟨vi,a1,a2⟩:=v3 i j W;exact⟨vi,by simpa using a1,a2⟩
 have M:∀{j vi},(zM4 f V2 st.V).get j=some vi->(∃i sz es o,posN j 0 f=some i/\V2.get i=some vi/\vi=.vec sz o/\st.V.get j=some (.vec sz es)/\o.length=es.length)\/(st.V.get j=some vi/\j ∉ f):=λ{j vi} h=>by
  obtain⟨l,h0,⟨i,h1,A⟩|⟨rfl,A⟩⟩:=zV4 h
  .obtain⟨N,S,Q⟩:=ac h1;obtain⟨sz,es,o,q1,Y,q3⟩:=hl i N S;subst q1;rw[Y]at A;cases A;exact .inl ⟨i,sz,es,o,h1,Y,rfl,Q,q3⟩
  .refine .inr ⟨h0,?_⟩
   cases y:posN j 0 f with
   |none=>exact zRp y
   |some i=>
    obtain⟨N,S,Q⟩:=ac y;obtain⟨sz,es,o,q1,Y,q3⟩:=hl i N S;rw[A i y]at Y;cases Y
 have z:∀{j vi},(zM4 f V2 st.V).get j=some vi->∃l,st.V.get j=some l/\l.qA=vi.qA:=λ{j vi} h=>by
  rcases M h with⟨i,sz,es,o,_,_,rfl,k,_⟩|⟨k,_⟩
  .exact⟨_,k,rfl⟩
  .exact⟨_,k,rfl⟩
 refine⟨J,β,⟨⟨s.hr.nodup,s.hr.qz,s.hr.inj,λp y=>?_,λp y hz=>?_,s'.hr.wa⟩,?_,λg u hg=>⟨VR.pp (E:=E) (E':=J) (w:=w) (w':=w') hZ (s.hg g u hg).1 (hG g u hg),(s.hg g u hg).2.mono F.qn⟩,s.qz,?_,s.cH,λj vi R=>?_,λj j2 i off R=>?_,λj vi b R O q=>?_,λj j' vi au b h1 A T h4 h5 h6=>?_⟩,?_⟩
 .obtain⟨str,cs,e,ak⟩:=s.cH p y;have:=s.hr.obj p y;rw[e]at this⊢;exact OR.vl (F.qI _ (s.hr.lt y) (ag p y)) (λhc hv=>mo hc hv) ak this
 .rcases F.qP _ hz with h1|h1|h1
  .exact s.hr.nz p y h1
  .exact ag p y h1
  .have:=s.hr.lt y;have h1:w.heap.size<=E.ρ p.1:=h1;omega
 .exact s.hf.ur s.qW (λhc hv=>mo hc hv) hd (mn y hv)
 .exact s.qW.qu y.cp
 .rcases M R with⟨i,sz,es,o,h1,A,rfl,h4,h5⟩|⟨h1,hn⟩
  .obtain⟨S,Q⟩:=s'.qT i _ A;refine⟨(s.qT j _ h4).1,?_⟩
   obtain⟨ad,⟨e1,W,e3⟩|⟨b,str,cs,cp,ex,e1,W,e3,e4,e5,e6⟩⟩:=Q
   .exact⟨ad,.inl ⟨(βn h1).symm.trans e1,(σn h1).symm.trans W,e3⟩⟩
   .refine⟨ad,.inr ⟨b,str,cs,cp,ex,(βn h1).symm.trans e1,OR.pp (E:=E') (E':=J) (w:=w') (w':=w') rfl (λb q=>⟨q,rfl⟩) e4 W,?_,e4,e5,e6⟩⟩
    have:J.σ j=E'.σ i:=(σn h1).symm;rw[this];exact e3
  .obtain⟨S,Q⟩:=s.qT j vi h1;refine⟨S,Q.mono rfl (λ_=>rfl) (λb O q=>F.qI b (U j vi b h1 O q) (ae j vi b h1 O q hn)) hZ F.qn λj2 i off e sz es ao=>?_⟩
   refine⟨rfl,?_⟩
   rcases M ao with⟨i',ar,aj,o,a1,a2,a3,a4,a5⟩|⟨a1,_⟩
   .cases a3;exact⟨aj,a4,a5.symm⟩
   .exact⟨es,a1,rfl⟩
 .rcases M R with⟨_,_,_,_,_,_,e,_⟩|⟨h1,_⟩
  .cases e
  .exact s.vp j j2 i off h1
 .obtain⟨l,h0,K⟩:=z R;obtain⟨z1,z2⟩:=s.bz j l b h0 (K.trans O) q;refine⟨λhz=>?_,z2⟩
  rcases M R with⟨i,sz,es,o,h1,A,rfl,h4,h5⟩|⟨h1,hn⟩
  .exact(s'.bz i _ b A rfl ((βn h1).trans q)).1 hz
  .rcases F.qP _ hz with k|k|k
   .exact z1 k
   .exact ae j vi b h1 O q hn k
   .have:=U j vi b h1 O q;omega
 .obtain⟨l,h0,K⟩:=z h1;obtain⟨N,ai,al⟩:=z A;exact s.qS j j' l N b h0 ai (K.trans T) (al.trans h4) h5 h6
 .refine⟨F.qF,λx B=>?_,λx B=>?_,F.tape,F.os,F.output,F.size,λx B q=>F.qI x B λh=>q (X h),F.qn⟩
  .rcases F.qP x B with h|h|h
   .exact .inl h
   .exact .inr (.inl (X h))
   .exact .inr (.inr h)
  .rcases B with⟨p,y,e⟩|⟨j,vi,R,O,q⟩
   .exact .inl (.inl ⟨p,y,e⟩)
   .obtain⟨l,h0,K⟩:=z R;exact .inl (.inr ⟨j,l,h0,K.trans O,q⟩)
theorem zNa{H:Heap}{h sz b:Nat}{v:AV}{es:JE}(e:zOt H h sz v=some (b,es)):∃l c x str cs,v=.row b 0 l sz c x/\b≠h/\H.get b=some (.cells str cs)/\cs.length=l*sz/\zE7 sz l cs=some es/\es.all (ppS 12)=true:=by
 unfold zOt at e;split at e
 .split at e
  .rename_i f;split at e
   .rename_i i;split at e
    .rename_i n;split at e
     .rename_i o;split at e
      .rename_i j;cases e;simp only[qr,Bool.not_eq_true']at f;obtain⟨d,a2,a3⟩:=f;have d:=zc d;have a2:=zc a2;subst d;subst a2;exact⟨_,_,_,_,_,rfl,zBX a3,i,zc n,o,j⟩
      .cases e
     .cases e
    .cases e
   .cases e
  .cases e
 .cases e
theorem Heap.qO:∀{H:Heap}{h k:Nat},h≠k->(H.del h).get k=H.get k
 |[],_,_,_=>rfl
 |(i,o)::r,h,k,b=>by
  simp only[Heap.del];split
  .rename_i d;have:=zc d;subst this;have:Nat.beq i k=false:=by
    cases e:Nat.beq i k with
    |false=>rfl
    |true=>exact absurd (zc e) b
   simp only[Heap.get,this]
  .simp only[Heap.get];split
   .rfl
   .exact Heap.qO b
theorem SR.vX(hG:GPP G)(s:SR G nt E w a β st){h sz y:Nat}{v:AV}{es:JE}{u:Value}(ht:zOt st.H h sz v=some (y,es))(hu:VR E w v u):
  ∃β',SR G nt ⟨E.ρ,E.D,E.Z,λi=>if i=st.mv then u else E.σ i⟩ w a β' ⟨st.fr,st.H.del y,(st.mv,.vec sz es)::st.V,st.m,st.mv+1⟩/\u.oneCell'=true/\Kp E.Z (BS E β st.H st.V) w E.Z (BS ⟨E.ρ,E.D,E.Z,λi=>if i=st.mv then u else E.σ i⟩ β' (st.H.del y) ((st.mv,.vec sz es)::st.V)) w:=by
 obtain⟨l,cp,ex,str,S,rfl,_,R,hl,hr,o⟩:=zNa ht;have K:=zJj.ui hu;have hσ:∀i,i<st.mv->(if i=st.mv then u else E.σ i)=E.σ i:=λi hi=>by
  have:i≠st.mv:=by omega
  simp[this]
 have hm:∀{v:AV}{cv:Value},CP st.mv st.m v->VR E w v cv->VR ⟨E.ρ,E.D,E.Z,λi=>if i=st.mv then u else E.σ i⟩ w v cv:=λhc U=>
  VR.vl (E:=E) (E':=⟨E.ρ,E.D,E.Z,λi=>if i=st.mv then u else E.σ i⟩) (w:=w) (w':=w) (λh _ hh=>⟨hh,rfl⟩) (λb J=>⟨J,rfl⟩) (.refl w) hσ U hc
 have A:∀j z,st.V.get j=some z->j≠st.mv:=λj z h=>by have:=(s.qT j z h).1;omega
 have f:=Heap.qj R;have d:∀{p:Nat×HO},p∈st.H.del y->p∈st.H/\p.1≠y:=λo=>Heap.w3 s.hr.nodup o
 obtain⟨q1,q2,q3,q4,Y⟩:=zAQ hr;obtain⟨_,_,ec,Q⟩:=s.cH _ f;cases ec;have F:∀e∈es,PP e:=by
  intro e he;obtain⟨i,hi⟩:=List.getElem?_of_mem he;obtain⟨_,p2⟩:=zAo Y;obtain⟨_,p4,p5⟩:=z6 (p2 i e hi);refine zEH (n:=st.mv) (k:=st.m) 12 (zD2 p5 λx hx=>Q x ?_) (QD.1 o e he)
  rw[p4]at hx;exact QT (Qc (QT hx))
 have B:∀c∈S,PP c:=by
  rw[List.take_of_length_le (by omega)]at Y
  exact zIA Y F
 have M:zJj w (E.ρ y) es.length sz cp ex u:=by rw[q2];exact K
 refine⟨λj=>if j=st.mv then some (E.ρ y)else β j,⟨⟨(s.hr.sub (Heap.wu _ _)).nodup,λp o=>s.hr.qz p (d o).1,λp o q hq e=>s.hr.inj p (d o).1 q (d hq).1 e,λp o=>?_,λp o=>s.hr.nz p (d o).1,s.hr.wa⟩,⟨s.hf.size,λt v hu=>hm (s.qW t v hu) (s.hf.get t v hu)⟩,λg v R=>⟨hm (hG g v R).cp (s.hg g v R).1,(s.hg g v R).2⟩,s.qz,s.qW.mono (Qd _) (QA _),λp o=>?_,λj z h=>?_,λj X i off h=>?_,λj z b h ho J=>?_,λj W z I b h1 y N h4 T O=>?_⟩,K.one,?_⟩
 .obtain⟨str,S,e,B⟩:=s.cH p (d o).1;have:=s.hr.obj p (d o).1;rw[e]at this⊢;exact OR.vl rfl (λhc U=>hm hc U) B this
 .obtain⟨str,S,e,B⟩:=s.cH p (d o).1;exact⟨str,S,e,λc hc=>(B c hc).mono (Qd _) (QA _)⟩
 .rw[Vecs.qh]at h;split at h
  .rename_i e;subst e;cases h;refine⟨QX _,F,.inr ⟨E.ρ y,str,S,cp,ex,by simp,?_,by simpa using M,B,by rw[q2];exact q4,by rw[q2];exact Y⟩⟩
   exact OR.vl rfl (λhc U=>hm hc U) Q (s.hr.obj _ f)
  .have h1:=s.qT j z h;refine⟨Nat.lt_succ_of_lt h1.1,h1.2.mono (by simp[A j z h]) (λ_=>by simp[A j z h]) (λb _ _=>rfl) (λb J=>⟨J,rfl⟩) (.refl w) λX i off e sz es F=>?_⟩
   subst e;have:=s.vp j X i off h;rw[Vecs.qh,if_neg (by omega)]at F
   have aa:X≠st.mv:=by omega
   exact⟨by simp[aa],es,F,rfl⟩
 .rw[Vecs.qh]at h;split at h
  .cases h
  .exact Nat.lt_succ_of_lt (s.vp j X i off h)
 .rw[Vecs.qh]at h;split at h
  .rename_i e;subst e;simp only[if_true,QN]at J;subst J;exact⟨s.hr.nz _ f,λp o e=>(d o).2 (s.hr.inj p (d o).1 _ f e)⟩
  .simp only[if_neg (A j z h)]at J;obtain⟨z1,z2⟩:=s.bz j z b h ho J;exact⟨z1,λp o=>z2 p (d o).1⟩
 .rw[Vecs.qh]at h1 y;split at h1
  .rename_i e;subst e;split at y
   .rename_i e;exact e
   .simp only[if_true,QN]at T;simp only[if_neg (A W I y)]at O;subst T;exact absurd rfl ((s.bz W I _ y h4 O).2 _ f)
  .simp only[if_neg (A j z h1)]at T;split at y
   .rename_i e;subst e;simp only[if_true,QN]at O;subst O;exact absurd rfl ((s.bz j z _ h1 N T).2 _ f)
   .simp only[if_neg (A W I y)]at O;exact s.qS j W z I b h1 y N h4 T O
 .refine Kp.less λx hx=>?_
  rcases hx with⟨p,o,e⟩|⟨j,z,h1,y,N⟩
  .exact .inl ⟨p,(d o).1,e⟩
  .rw[Vecs.qh]at h1;split at h1
   .rename_i e;subst e;simp only[if_true,QN]at N;exact .inl ⟨_,f,N⟩
   .simp only[if_neg (A j z h1)]at N;exact .inr ⟨j,z,h1,y,N⟩
theorem SR.uk(s:SR G nt E w a β st){h i:Nat}{str:Bool}{cs:JE}{v':AV}(T:st.H.get h=some (.cells str cs))(U:∀c e f,w.heap[E.ρ h]?=some (Obj.cells c e f)->∃u,c[i]?=some u/\u.oneCell'=true/\VR E w v' u)(hc:CP st.mv st.m v'):
  SR G nt E w a β ⟨st.fr,st.H.put h (.cells str (cs.set i v')),st.V,st.m,st.mv⟩/\∀x,BS E β (st.H.put h (.cells str (cs.set i v'))) st.V x->BS E β st.H st.V x:=by
 have n:=Heap.qj T;have l:∀{p:Nat×HO},p∈st.H.put h (.cells str (cs.set i v'))->∃o,(p.1,o)∈st.H:=λ{p} d=>by
  rcases zE9 d with rfl|d
  .exact⟨_,n⟩
  .exact⟨p.2,d⟩
 refine⟨⟨⟨?_,λp d=>?_,λp d q M e=>?_,λp d=>?_,λp d=>?_,s.hr.wa⟩,s.hf,s.hg,s.qz,s.qW,λp d=>?_,s.qT,s.vp,λj W b h y K=>?_,s.qS⟩,λx v=>?_⟩
 .show(st.H.put h _).keys.Nodup
  rw[Heap.wB];exact s.hr.nodup
 .obtain⟨o,y⟩:=l d;exact s.hr.qz (p.1,o) y
 .obtain⟨R,h1⟩:=l d;obtain⟨Q,I⟩:=l M;exact s.hr.inj (p.1,R) h1 (q.1,Q) I e
 .rcases zE9 d with rfl|d
  .obtain⟨B,F,D,q1,X,O,S⟩:=s.hr.obj _ n;refine⟨B,F,D,q1,by simpa using X,O,λi2 x v=>?_⟩
   rw[List.getElem?_set]at v;split at v
   .rename_i e;subst e;split at v
    .cases v;exact U B F D q1
    .cases v
   .exact S i2 x v
  .exact s.hr.obj p d
 .obtain⟨o,y⟩:=l d;exact s.hr.nz (p.1,o) y
 .rcases zE9 d with rfl|d
  .obtain⟨_,_,J,A⟩:=s.cH _ n;cases J;refine⟨str,_,rfl,λc z=>?_⟩
   rcases List.mem_or_eq_of_mem_set z with h|rfl
   .exact A c h
   .exact hc
  .exact s.cH p d
 .obtain⟨N,z2⟩:=s.bz j W b h y K;refine⟨N,λp d=>?_⟩
  obtain⟨o,h1⟩:=l d;exact z2 (p.1,o) h1
 .rcases v with⟨p,d,e⟩|h
  .obtain⟨o,y⟩:=l d;exact .inl ⟨_,y,e⟩
  .exact .inr h
theorem SR.uC(F:GPP G)(s:SR G nt E w a β st){h i sz b:Nat}{str:Bool}{cs:JE}{v:AV}{es:JE}(o:st.H.get h=some (.cells str cs))(D:cs[i]?=some v)(n:zOt st.H h sz v=some (b,es)):
  ∃E' d,SR G nt E' w a d ⟨st.fr,(st.H.del b).put h (.cells str (cs.set i (.sym st.mv))),(st.mv,.vec sz es)::st.V,st.m,st.mv+1⟩/\Kp E.Z (BS E β st.H st.V) w E'.Z (BS E' d ((st.H.del b).put h (.cells str (cs.set i (.sym st.mv)))) ((st.mv,.vec sz es)::st.V)) w:=by
 obtain⟨I,N,J,q1,O,K,B⟩:=s.hr.obj _ (Heap.qj o);obtain⟨u,y,p,x⟩:=B i v D;obtain⟨d,s1,M,q⟩:=s.vX F n x;obtain⟨_,_,_,_,_,_,j,_⟩:=zNa n;have l:(st.H.del b).get h=some (.cells str cs):=(Heap.qO j).trans o;obtain⟨A,z⟩:=s1.uk (i:=i) (v':=.sym st.mv) l (λc e f hc=>by
  have hc:w.heap[E.ρ h]?=some (Obj.cells c e f):=hc;rw[q1]at hc;cases hc;exact⟨u,y,p,.sym _ _ (by simp) p⟩) (.sym _ (QX _))
 exact⟨_,d,A,q.trans (Kp.less z)⟩
theorem SR.uG(l:GPP G)(s:SR G nt E w a β st){t sz k f:Nat}{v:AV}{es:JE}(n:st.fr.get t=some v)(i:zOt st.H k sz v=some (f,es)):
  ∃E' d,SR G nt E' w a d ⟨st.fr.put t (.sym st.mv),st.H.del f,(st.mv,.vec sz es)::st.V,st.m,st.mv+1⟩/\Kp E.Z (BS E β st.H st.V) w E'.Z (BS E' d (st.H.del f) ((st.mv,.vec sz es)::st.V)) w:=by
 obtain⟨d,s1,j,h⟩:=s.vX l i (s.hf.get _ _ n);refine⟨_,d,⟨s1.hr,⟨s1.hf.size,λu x b=>?_⟩,s1.hg,s1.qz,λu x b=>?_,s1.cH,s1.qT,s1.vp,s1.bz,s1.qS⟩,h⟩
 .rw[Fr.qq]at b;split at b
  .rename_i e;subst e;cases b;exact .sym _ _ (by simp) j
  .exact s1.hf.get u x b
 .rw[Fr.qq]at b;split at b
  .cases b;exact .sym _ (QX _)
  .exact s1.qW u x b
theorem SR.uA(hG:GPP G)(s:SR G nt E w a β st){h i sz:Nat}{str:Bool}{cs:JE}(Y:st.H.get h=some (.cells str cs))(hi:cs[i]?=some .qa):
  ∃E' β',SR G nt E' w a β' ⟨st.fr,st.H.put h (.cells str (cs.set i (.sym st.mv))),(st.mv,.vec sz [])::st.V,st.m,st.mv+1⟩/\Kp E.Z (BS E β st.H st.V) w E'.Z (BS E' β' (st.H.put h (.cells str (cs.set i (.sym st.mv)))) ((st.mv,.vec sz [])::st.V)) w:=by
 have hσ:∀i,i<st.mv->(if i=st.mv then Value.slice none 0 0 else E.σ i)=E.σ i:=λi hi=>by
  have:i≠st.mv:=by omega
  simp[this]
 have Q:∀{v:AV}{J:Value},CP st.mv st.m v->VR E w v J->VR ⟨E.ρ,E.D,E.Z,λi=>if i=st.mv then .slice none 0 0 else E.σ i⟩ w v J:=λhc hv=>
  VR.vl (E:=E) (E':=⟨E.ρ,E.D,E.Z,λi=>if i=st.mv then .slice none 0 0 else E.σ i⟩) (w:=w) (w':=w) (λh _ Y=>⟨Y,rfl⟩) (λb F=>⟨F,rfl⟩) (.refl w) hσ hv hc
 have y:∀j f,st.V.get j=some f->j≠st.mv:=λj f h=>by have:=(s.qT j f h).1;omega
 have n:=Heap.qj Y;have z:∀{p:Nat×HO},p∈st.H.put h (.cells str (cs.set i (.sym st.mv)))->∃o,(p.1,o)∈st.H:=λ{p} d=>by
  rcases zE9 d with rfl|d
  .exact⟨_,n⟩
  .exact⟨p.2,d⟩
 refine⟨⟨E.ρ,E.D,E.Z,λi=>if i=st.mv then .slice none 0 0 else E.σ i⟩,λj=>if j=st.mv then none else β j,⟨⟨?_,λp d=>?_,λp d q hq e=>?_,λp d=>?_,λp d=>?_,s.hr.wa⟩,⟨s.hf.size,λu v hu=>Q (s.qW u v hu) (s.hf.get u v hu)⟩,λg u W=>⟨Q (hG g u W).cp (s.hg g u W).1,(s.hg g u W).2⟩,s.qz,s.qW.mono (Qd _) (QA _),λp d=>?_,λj f h=>?_,λj O i off h=>?_,λj f b h I F=>?_,λj j' f K b h1 B M h4 X h6=>?_⟩,?_⟩
 .show(st.H.put h _).keys.Nodup
  rw[Heap.wB];exact s.hr.nodup
 .obtain⟨o,I⟩:=z d;exact s.hr.qz (p.1,o) I
 .obtain⟨o1,h1⟩:=z d;obtain⟨o2,B⟩:=z hq;exact s.hr.inj (p.1,o1) h1 (q.1,o2) B e
 .rcases zE9 d with rfl|d
  .obtain⟨_,_,U,l⟩:=s.cH _ n;cases U;obtain⟨cc,ee,ff,q1,q2,q3,q4⟩:=s.hr.obj _ n;refine⟨cc,ee,ff,q1,by simpa using q2,q3,λi2 x A=>?_⟩
   rw[List.getElem?_set]at A;split at A
   .rename_i e;subst e;split at A
    .cases A;obtain⟨u,T,r2,R⟩:=q4 i _ hi;refine⟨u,T,r2,?_⟩
     have hz:∀{J:Value},VR E w .qa J->J=.slice none 0 0:=λh=>by cases h;rfl
     rw[hz R];exact .sym _ _ (by simp only[if_true]) rfl
    .cases A
   .obtain⟨u,T,r2,R⟩:=q4 i2 x A;exact⟨u,T,r2,Q (l x (QE A)) R⟩
  .obtain⟨str,cs,e,l⟩:=s.cH p d;have:=s.hr.obj p d;rw[e]at this⊢;exact OR.vl rfl (λhc hv=>Q hc hv) l this
 .obtain⟨o,I⟩:=z d;exact s.hr.nz (p.1,o) I
 .rcases zE9 d with rfl|d
  .obtain⟨_,_,U,l⟩:=s.cH _ n;cases U;refine⟨str,_,rfl,λc hc=>?_⟩
   rcases List.mem_or_eq_of_mem_set hc with h|rfl
   .exact(l c h).mono (Qd _) (QA _)
   .exact .sym _ (QX _)
  .obtain⟨str,cs,e,l⟩:=s.cH p d;exact⟨str,cs,e,λc hc=>(l c hc).mono (Qd _) (QA _)⟩
 .rw[Vecs.qh]at h;split at h
  .rename_i e;subst e;cases h;exact⟨QX _,λe he=>(by cases he),.inl ⟨by simp,by simp,rfl⟩⟩
  .have h1:=s.qT j f h;refine⟨Nat.lt_succ_of_lt h1.1,h1.2.mono (by simp[y j f h]) (λ_=>by simp[y j f h]) (λb _ _=>rfl) (λb F=>⟨F,rfl⟩) (.refl w) λO i off e sz es N=>?_⟩
   subst e;have:=s.vp j O i off h;rw[Vecs.qh,if_neg (by omega)]at N
   have S:O≠st.mv:=by omega
   exact⟨by simp[S],es,N,rfl⟩
 .rw[Vecs.qh]at h;split at h
  .cases h
  .exact Nat.lt_succ_of_lt (s.vp j O i off h)
 .rw[Vecs.qh]at h;split at h
  .rename_i e;subst e;simp at F
  .simp only[if_neg (y j f h)]at F;obtain⟨z1,z2⟩:=s.bz j f b h I F;refine⟨z1,λp d=>?_⟩
   obtain⟨o,h1⟩:=z d;exact z2 (p.1,o) h1
 .rw[Vecs.qh]at h1 B;split at h1
  .rename_i e;subst e;simp at X
  .split at B
   .rename_i e;subst e;simp at h6
   .simp only[if_neg (y j f h1)]at X;simp only[if_neg (y j' K B)]at h6;exact s.qS j j' f K b h1 B M h4 X h6
 .refine Kp.less λx A=>?_
  rcases A with⟨p,d,e⟩|⟨j,f,h1,B,M⟩
  .obtain⟨o,I⟩:=z d;exact .inl ⟨_,I,e⟩
  .rw[Vecs.qh]at h1;split at h1
   .rename_i e;subst e;simp at M
   .simp only[if_neg (y j f h1)]at M;exact .inr ⟨j,f,h1,B,M⟩
theorem SR.qD(b:GPP G){h:Nat}:∀{g:JN}{E:Env}{β:Nat->Option Nat}{st:Sta},SR G nt E w a β st->(qD h g st).fr=st.fr/\∃E' q,SR G nt E' w a q (qD h g st)/\Kp E.Z (BS E β st.H st.V) w E'.Z (BS E' q (qD h g st).H (qD h g st).V) w
 |[],E,β,st,s=>⟨rfl,E,β,s,Kp.refl⟩
 |(i,sz)::g,E,β,st,s=>by
  simp only[Sy.qD];split
  .rename_i str A p;split
   .rename_i n;obtain⟨y,x,s1,d⟩:=s.uA b p n (sz:=sz);obtain⟨e,l,f,j,o⟩:=SR.qD b (g:=g) s1;exact⟨e,l,f,j,d.trans o⟩
   .rename_i v _ n;split
    .rename_i z B u;obtain⟨y,x,s1,d⟩:=s.uC b p n u;obtain⟨e,l,f,j,o⟩:=SR.qD b (g:=g) s1;exact⟨e,l,f,j,d.trans o⟩
    .exact SR.qD b (g:=g) s
   .exact SR.qD b (g:=g) s
  .exact⟨rfl,E,β,s,Kp.refl⟩
theorem SR.qH(d:GPP G){g:JN}{args:JE}(s:SR G nt E w a β st):(qH g args st).fr=st.fr/\∃E' b,SR G nt E' w a b (qH g args st)/\Kp E.Z (BS E β st.H st.V) w E'.Z (BS E' b (qH g args st).H (qH g args st).V) w:=by
 unfold Sy.qH;split
 .exact SR.qD d s
 .exact⟨rfl,E,β,s,Kp.refl⟩
theorem zZf{o:Oper}{l:XO}{k:AV->Sta->Prop}(c:Ctx P G nt Z0 B0 w0 dl E w a β st o l){e:HEnt}(he:HOK P G e){args:JE}
  (hk:(∃xs,l=.call e.f xs/\evs G st.fr xs=some args)\/∃y xs first d vs,l=.qM y xs/\y.ev G st.fr=some (.func (.func e.f) first d)/\evs G st.fr xs=some vs/\args=first++vs++d) (h:zHn e args st k):OpK P G nt Z0 B0 w0 dl o w a k:=by
 intro next Q hn;unfold zHn at h;obtain⟨aa,E1,β1,s1,B⟩:=c.s.qH c.hG (g:=e.grow) (args:=args);generalize qH e.grow args st=st1 at *;have M:(∃xs,l=.call e.f xs/\evs G st1.fr xs=some args)\/∃y xs first d vs,l=.qM y xs/\y.ev G st1.fr=some (.func (.func e.f) first d)/\evs G st1.fr xs=some vs/\args=first++vs++d:=by rw[aa];exact hk
 obtain⟨j,hv,ac⟩:=zae s1.hr s1.hf s1.hg c.hc he.1 M;have O:∀x∈args,CP st1.mv st1.m x:=by
  rcases M with⟨xs,rfl,K⟩|⟨y,xs,first,d,vs,rfl,h1,h2,rfl⟩
  .have p:xs.all zG=true:=by have:=c.ok;simp only[zy,XO.qb,zAm,QV]at this;exact this
   exact zId c.hG s1.qW p K
  .have p:zG y=true/\xs.all zG=true:=by have:=c.ok;simp only[zy,XO.qb,zAm,List.all_append,Qb,List.all_nil,QV,qr]at this;exact this
   intro x n;have T:=zAc c.hG s1.qW p.1 h1;cases T with
   |func _ _ _ q1 q2=>
    rcases QK.1 n with n|n
    .rcases QK.1 n with n|n
     .exact q1 x n
     .exact zId c.hG s1.qW p.2 h2 x n
    .exact q2 x n
 unfold zNJ at h;obtain⟨z,H,V,⟨N,b⟩,cv,_,F,q,J,_⟩:=zOy c.hG s1 O hv h;split at b
 rotate_left
 .exact b.elim
 rename_i v H2 V2 W;obtain⟨ho,i⟩:=he.2 _ _ _ _ _ _ N W;unfold Oper.wp;rw[ac];unfold zM5 zOv at b;cases hi:inpl e.grow with
 |false=>
  rw[hi]at i b;have i:HFn P G e.f z H V v H2 V2:=i;refine(i _ w _ j (J 0 { tmps:=#[],defers:=[] } [] ⟨rfl,λt v h=>by cases h⟩ (λt v h=>by cases h)) F q).mono λee w' K=>?_
  obtain⟨u,E',β',rfl,k1,S,X,Y⟩:=K;obtain⟨R,U,s2,A⟩:=s1.back c.hG cv ho k1 S X Y c.hd;exact hn _ _ u R w' b ⟨U,s2,(c.kp.trans B).trans A,by rw[DRun.put_defers];exact c.df⟩
 |true=>
  rw[hi]at i b;obtain⟨rfl,rfl,I,D,i⟩:=i;have ab:=(zLt cv.rh).1;generalize zJn st1.H 30 0 (args.foldl (λa v=>hsA 8 v a) (List.range 0))=hm at *
  have:hm=[]:=by
   cases hm with
   |nil=>rfl
   |cons a r=>simp at ab
  subst this;refine(i _ w _ j (J 0 { tmps:=#[],defers:=[] } [] ⟨rfl,λt v h=>by cases h⟩ (λt v h=>by cases h)) F q).mono λee w' K=>?_
  obtain⟨u,E',rfl,k1,S,X,Y⟩:=K;obtain⟨R,U,s2,A⟩:=s1.uJ c.hG cv I D k1 S X Y c.hd;exact hn _ _ u R w' b ⟨U,s2,(c.kp.trans B).trans A,by rw[DRun.put_defers];exact c.df⟩
theorem HOK.of{e:HEnt}(h:inpl e.grow=false)(h1:Enters P e.f)(d:∀args H V v H2 V2,e.pre args H V->e.val args H V=some (v,H2,V2)->HOut v H H2 V2/\HFn P G e.f args H V v H2 V2):HOK P G e:=
 ⟨h1,λargs H V v H2 V2 a b=>⟨(d args H V v H2 V2 a b).1,by rw[h];exact(d args H V v H2 V2 a b).2⟩⟩
theorem HOK.u3{e:HEnt}(h:inpl e.grow=true)(h1:Enters P e.f)(d:∀args H V v H2 V2,e.pre args H V->e.val args H V=some (v,H2,V2)->HOut v H H2 V2/\H=[]/\H2=[]/\PP v/\zdw P G e.f args V v V2):HOK P G e:=
 ⟨h1,λargs H V v H2 V2 a b=>⟨(d args H V v H2 V2 a b).1,by rw[h];exact(d args H V v H2 V2 a b).2⟩⟩
theorem HOK.uW{e:HEnt}(d:HOK P G e)(h:inpl e.grow=true){args:JE}{H H2:Heap}{V V2:Vecs}{v:AV}(a:e.pre args H V)(b:e.val args H V=some (v,H2,V2)):HOut v H H2 V2/\H=[]/\H2=[]/\PP v/\zdw P G e.f args V v V2:=by
 have:=d.2 args H V v H2 V2 a b;rw[h]at this;exact this
theorem zV5{b:List HEnt}{f:Nat}{e:HEnt}(h:zM6 b f=some e):e∈b/\e.f=f:=by
 induction b with
 |nil=>cases h
 |cons s r d=>
  simp only[zM6]at h;split at h
  .rename_i q;cases h;exact⟨.head _,(zc q).symm⟩
  .exact⟨.tail _ (d h).1,(d h).2⟩
theorem zGV{F:JV}:∀{H:Heap}{p:Nat×HO},p∈zIy F H->p∈H/\inN p.1 F=true
 |[],_,h=>by cases h
 |q::r,p,h=>by
  unfold zIy at h;split at h
  .rename_i b;rcases QH.1 h with rfl|h
   .exact⟨.head _,b⟩
   .exact⟨.tail _ (zGV h).1,(zGV h).2⟩
  .exact⟨.tail _ (zGV h).1,(zGV h).2⟩
theorem zRq{F:JV}:∀(H:Heap),(zIy F H).Sublist H
 |[]=>.slnil
 |q::r=>by
  unfold zIy;split
  .exact .cons_cons _ (zRq r)
  .exact .cons _ (zRq r)
theorem zBO{F:JV}:∀{H:Heap}{p:Nat×HO},p∈zPQ F H->p∈H/\inN p.1 F=false
 |[],_,h=>by cases h
 |q::r,p,h=>by
  unfold zPQ at h;split at h
  .exact⟨.tail _ (zBO h).1,(zBO h).2⟩
  .rename_i b;rcases QH.1 h with rfl|h
   .exact⟨.head _,b⟩
   .exact⟨.tail _ (zBO h).1,(zBO h).2⟩
theorem zRr{F:JV}:∀(H:Heap),(zPQ F H).Sublist H
 |[]=>.slnil
 |q::r=>by
  unfold zPQ;split
  .exact .cons _ (zRr r)
  .exact .cons_cons _ (zRr r)
theorem zOz{b:Heap}{fr0:Fr}:∀{fr:Fr}{t:Nat}{u:AV},(zOw b fr0 fr).get t=some u->∃v,fr0.get t=some v/\u=zVI b v
 |[],_,_,h=>by cases h
 |(s,x)::r,t,u,h=>by
  unfold zOw at h;split at h
  .rename_i v d;simp only[Fr.get]at h;split at h
   .rename_i e;cases h;exact⟨v,by rw[←zc e];exact d,rfl⟩
   .exact zOz h
  .exact zOz h
theorem zSh{mv m:Nat}{H:Heap}(hH:HCP mv m H):∀(d:Nat){v v':AV},CP mv m v->frz H [] d v=some v'->PP v':=by
 intro d
 induction d with
 |zero=>intro v v' _ h;cases h
 |succ d T=>
  intro v v' b h;have j:∀{l F:JE},(∀e∈l,CP mv m e)->zF (frz H [] d) l=some F->∀e∈F,PP e:=λQ S=>by
   obtain⟨m1,m2⟩:=zCc S;intro x p;obtain⟨i,o⟩:=List.getElem?_of_mem p;have q:=(QB.1 o).1;have D:=QF (show i<_ from m1▸q)
   exact T (Q _ (QE D)) (m2 i _ x D o)
  unfold frz at h;split at h
  .split at h
   .rename_i X;cases X
   .cases h
  .split at h
   .rename_i u;obtain⟨str,J,e,hc⟩:=hH.get u;cases e;split at h
    .rename_i z f;cases h;exact .qd _ _ (.agg _ (j hc f))
    .cases h
   .cases h
  .cases b with
   |func _ _ _ U I=>
    split at h
    .rename_i a' M;split at h
     .rename_i b' W;cases h;exact .func _ _ _ (j U M) (j I W)
     .cases h
    .cases h
  .cases b with
   |agg _ hc=>
    split at h
    .rename_i z f;cases h;exact .agg _ (j hc f)
    .cases h
  .split at h
   .rename_i u;obtain⟨str,J,e,hc⟩:=hH.get u;cases e;split at h
    .split at h
     .rename_i A;split at h
      .rename_i y;cases h;refine .qg _ _ λe B=>?_
       obtain⟨h1,h2,h3,h4,K⟩:=zAQ A;obtain⟨i,o⟩:=List.getElem?_of_mem B;obtain⟨q1,Y⟩:=zAo K;obtain⟨q3,O,N⟩:=z6 (Y i e o);refine zEH (n:=mv) (k:=m) 8 (zD2 N λx p=>hc x ?_) (QD.1 y e B)
       rw[O]at p;exact Qc (QT (Qc (QT p)))
      .cases h
     .cases h
    .cases h
   .cases h
  .split at h
   .cases h
   .rename_i R;cases h;exact zNA d b R
theorem Rs.uI{F:JV}{d:Option Nat}{v v':AV}{cv:Value}(hG:GPP G)(hd:∀n,d=some n->n<nt)(h:Rs G nt Z0 B0 w0 dl E w (a.put d cv) (st.put d v))(hv:frz (zIy F st.H) [] 8 v=some v'):
  ∃E',Rs G nt Z0 B0 w0 dl E' w (a.put d cv) ((vu F (zIy F st.H) st).put d v'):=by
 obtain⟨β,s,k0,X⟩:=h.out;generalize Q:zIy F st.H=z at *;have o:∀p∈z,p∈st.H:=λp l=>(zGV (Q▸l)).1
 have U:SR G nt E w (a.put d cv) β ⟨qu st.fr d v,z,[],st.m,st.mv⟩:=
  ⟨s.hr.sub (Q▸zRq st.H),s.hf,s.hg,s.qz,s.qW,λp l=>s.cH p (o p l),λj B M=>(by cases M),λj j2 i off M=>(by cases M),λj B b M=>(by cases M),λj j' B aa b M=>(by cases M)⟩
 let R:Env:=⟨E.ρ,E.D,λx=>E.Z x\/BS E β z [] x,E.σ⟩
 have up:∀{u K},VR (zCz E β z []) w u K->VR R w u K:=λf=>VR.mono (E:=zCz E β z []) (E':=R) (λ_ h=>h.elim) (λb I=>⟨I,rfl⟩) (.refl w) f
 have same:∀{u K},VR E w u K->VR R w u K:=λf=>VR.mono (E:=E) (E':=R) (λ_ h=>⟨h,rfl⟩) (λb I=>⟨.inl I,rfl⟩) (.refl w) f
 have J:∀x,BS E β z [] x->∃p∈z,E.ρ p.1=x:=λx y=>by
  rcases y with y|⟨j,B,M,_⟩
  .exact y
  .cases M
 have T:∀{u K},CP st.mv st.m u->VR E w u K->VR R w (zVI z u) K/\CP st.mv st.m (zVI z u):=λ{u K} hc f=>by
  unfold zVI;split
  .exact⟨same f,hc⟩
  .split
   .rename_i u' he;exact⟨up (zGT U 8 hc f he),(zSh U.cH 8 hc he).cp⟩
   .exact⟨same f,hc⟩
 have Y:∀n,d=some n->VR E w v ((a.put d cv).tmps.getD n undef)/\CP st.mv st.m v:=λn e=>by
  subst e;have h1:(st.put (some n) v).fr.get n=some v:=by
   show(st.fr.put n v).get n=_
   rw[Fr.qq,if_pos rfl]
  exact⟨s.hf.get n v h1,s.qW n v h1⟩
 have qI:∀t u,d≠some t->st.fr.get t=some u->VR E w u ((a.put d cv).tmps.getD t undef)/\CP st.mv st.m u:=λt u W f=>by
  have h1:(st.put d v).fr.get t=some u:=by
   cases d with
   |none=>exact f
   |some n=>
    show(st.fr.put n v).get t=_
    rw[Fr.qq,if_neg (λe=>W (by rw[e]))]
    exact f
  exact⟨s.hf.get t u h1,s.qW t u h1⟩
 have O:∀t u,((vu F z st).put d v').fr.get t=some u->VR R w u ((a.put d cv).tmps.getD t undef)/\CP st.mv st.m u:=λt u f=>by
  by_cases e:d=some t
  .subst e;obtain⟨h1,N⟩:=Y t rfl;have:u=v':=by
    have f:((zOw z st.fr st.fr).put t v').get t=some u:=f;rw[Fr.qq,if_pos rfl]at f;cases f;rfl
   subst this;exact⟨up (zGT U 8 N h1 hv),(zSh U.cH 8 N hv).cp⟩
  .have f:(zOw z st.fr st.fr).get t=some u:=by
    cases d with
    |none=>exact f
    |some n=>
     have f:((zOw z st.fr st.fr).put n v').get t=some u:=f;rw[Fr.qq,if_neg (λh=>e (by rw[h]))]at f
     exact f
   obtain⟨u0,h1,rfl⟩:=zOz f;obtain⟨N,S⟩:=qI t u0 e h1;exact T S N
 refine⟨R,β,⟨⟨?_,?_,?_,?_,?_,?_⟩,⟨s.hf.size,λt u f=>(O t u f).1⟩,λg u h=>⟨same (s.hg g u h).1,(s.hg g u h).2⟩,s.qz,λt u f=>(O t u f).2,λp l=>s.cH p (zBO l).1,λj B h=>⟨(s.qT j B h).1,(s.qT j B h).2.mono rfl (λ_=>rfl) (λb _ _=>rfl) (λb I=>⟨.inl I,rfl⟩) (.refl w) λ_ _ _ _ sz es h=>⟨rfl,es,h,rfl⟩⟩,s.vp,λj B b h1 N S=>⟨?_,λp l=>(s.bz j B b h1 N S).2 p (zBO l).1⟩,s.qS⟩,k0.trans ⟨λx y=>.inl y,λx y=>?_,λx y=>?_,rfl,rfl,rfl,QA _,λ_ _ _=>rfl,.refl w⟩,X⟩
 .exact(s.hr.sub (zRr (F:=F) st.H)).nodup
 .exact λp l=>s.hr.qz p (zBO l).1
 .exact λp l q A=>s.hr.inj p (zBO l).1 q (zBO A).1
 .exact λp l=>(s.hr.obj p (zBO l).1).mono rfl same
 .rintro p l (hz|hz)
  .exact s.hr.nz p (zBO l).1 hz
  .obtain⟨q,A,e⟩:=J _ hz;have:=s.hr.inj q (o q A) p (zBO l).1 e;have h1:=(zGV (Q▸A)).2
   rw[this,(zBO l).2]at h1;cases h1
 .rintro b (I|I)
  .exact s.hr.wa b I
  .obtain⟨q,A,rfl⟩:=J _ I;exact s.hr.lt (o q A)
 .rintro (hz|hz)
  .exact(s.bz j B b h1 N S).1 hz
  .obtain⟨q,A,e⟩:=J _ hz;exact(s.bz j B b h1 N S).2 q (o q A) e
 .rcases y with y|y
  .exact .inl y
  .obtain⟨q,A,e⟩:=J _ y;exact .inr (.inl (.inl ⟨q,o q A,e⟩))
 .rcases y with⟨p,l,e⟩|y
  .exact .inl (.inl ⟨p,(zBO l).1,e⟩)
  .exact .inl (.inr y)
theorem Fr.get_map{g:AV->AV}:∀{fr:Fr}{t:Nat},Fr.get (fr.map λp=>(p.1,g p.2)) t=(Fr.get fr t).map g
 |[],t=>rfl
 |(k,o)::r,t=>by
  simp only[Qe,Fr.get];split
  .rfl
  .exact Fr.get_map
theorem Rs.vM{d:Option Nat}{v:AV}{cv:Value}(Y:∀n,d=some n->n<nt)(h:Rs G nt Z0 B0 w0 dl E w (a.put d cv) (st.put d v)):
  ∃E',Rs G nt Z0 B0 w0 dl E' w (a.put d cv) ((wG st).put d (wy st.V v)):=by
 obtain⟨β,s,R,M⟩:=h.out;have W:SR G nt E w (a.put d cv) β ⟨qu st.fr d v,[],st.V,st.m,st.mv⟩:=
  ⟨⟨.nil,λp l=>(by cases l),λp l=>(by cases l),λp l=>(by cases l),λp l=>(by cases l),s.hr.wa⟩,s.hf,s.hg,s.qz,s.qW,λp l=>(by cases l),s.qT,s.vp,λj o b h1 y J=>⟨(s.bz j o b h1 y J).1,λp l=>(by cases l)⟩,s.qS⟩
 let I:Env:=⟨E.ρ,E.D,λx=>E.Z x\/BS E β [] st.V x,E.σ⟩
 have up:∀{u z},VR (zCz E β [] st.V) w u z->VR I w u z:=λf=>VR.mono (E:=zCz E β [] st.V) (E':=I) (λ_ h=>h.elim) (λb B=>⟨B,rfl⟩) (.refl w) f
 have same:∀{u z},VR E w u z->VR I w u z:=λf=>VR.mono (E:=E) (E':=I) (λ_ h=>⟨h,rfl⟩) (λb B=>⟨.inl B,rfl⟩) (.refl w) f
 have F:∀{x},BS E β [] st.V x->∃j o,st.V.get j=some o/\o.qA=true/\β j=some x:=λ{x} q=>by
  rcases q with⟨p,l,_⟩|h
  .cases l
  .exact h
 have O:∀{u z},CP st.mv st.m u->VR E w u z->VR I w (wy st.V u) z/\CP st.mv st.m (wy st.V u):=λ{u z} hc f=>by
  unfold wy;split
  .rename_i j;split
   .rename_i U X Q;have h1:frz [] st.V 1 (.sym j)=some (.qg U X):=by simp only[frz,Q]
    exact⟨up (zGT W 1 hc f h1),.qg _ _ (s.qT j _ Q).2.1⟩
   .exact⟨same f,hc⟩
  .exact⟨same f,hc⟩
 have N:∀n,d=some n->VR E w v ((a.put d cv).tmps.getD n undef)/\CP st.mv st.m v:=λn e=>by
  subst e;have h1:(st.put (some n) v).fr.get n=some v:=by
   show(st.fr.put n v).get n=_
   rw[Fr.qq,if_pos rfl]
  exact⟨s.hf.get n v h1,s.qW n v h1⟩
 have qI:∀t u,d≠some t->st.fr.get t=some u->VR E w u ((a.put d cv).tmps.getD t undef)/\CP st.mv st.m u:=λt u K f=>by
  have h1:(st.put d v).fr.get t=some u:=by
   cases d with
   |none=>exact f
   |some n=>
    show(st.fr.put n v).get t=_
    rw[Fr.qq,if_neg (λe=>K (by rw[e]))]
    exact f
  exact⟨s.hf.get t u h1,s.qW t u h1⟩
 have A:∀t u,((wG st).put d (wy st.V v)).fr.get t=some u->VR I w u ((a.put d cv).tmps.getD t undef)/\CP st.mv st.m u:=λt u f=>by
  by_cases e:d=some t
  .subst e;obtain⟨h1,y⟩:=N t rfl;have f:Fr.get (Fr.put (st.fr.map λp=>(p.1,wy st.V p.2)) t (wy st.V v)) t=some u:=f
   rw[Fr.qq,if_pos rfl]at f;cases f;exact O y h1
  .have f:Fr.get (st.fr.map λp=>(p.1,wy st.V p.2)) t=some u:=by
    cases d with
    |none=>exact f
    |some n=>
     have f:Fr.get (Fr.put (st.fr.map λp=>(p.1,wy st.V p.2)) n (wy st.V v)) t=some u:=f
     rw[Fr.qq,if_neg (λh=>e (by rw[h]))]at f
     exact f
   rw[Fr.get_map]at f;cases hg:Fr.get st.fr t with
   |none=>rw[hg]at f;cases f
   |some S=>
    rw[hg]at f;cases f;obtain⟨y,J⟩:=qI t S e hg;exact O J y
 refine⟨I,β,⟨⟨s.hr.nodup,s.hr.qz,s.hr.inj,λp l=>(s.hr.obj p l).mono rfl same,?_,?_⟩,⟨s.hf.size,λt u f=>(A t u f).1⟩,λg u h=>⟨same (s.hg g u h).1,(s.hg g u h).2⟩,s.qz,λt u f=>(A t u f).2,s.cH,λj o h=>(by cases h),λj j2 i off h=>(by cases h),λj o b h=>(by cases h),λj j' o T b h=>(by cases h)⟩,R.trans ⟨λx q=>.inl q,λx q=>?_,λx q=>?_,rfl,rfl,rfl,QA _,λ_ _ _=>rfl,.refl w⟩,M⟩
 .rintro p l (hz|hz)
  .exact s.hr.nz p l hz
  .obtain⟨j,o,h1,y,J⟩:=F hz;exact(s.bz j o _ h1 y J).2 p l rfl
 .rintro b (B|B)
  .exact s.hr.wa b B
  .obtain⟨j,o,h1,y,J⟩:=F B;exact(s.qT j o h1).2.lt y J
 .rcases q with q|q
  .exact .inl q
  .exact .inr (.inl (.inr (F q)))
 .rcases q with⟨p,l,e⟩|⟨j,o,h,_⟩
  .exact .inl (.inl ⟨p,l,e⟩)
  .cases h
theorem zUo(u:TbW P G tb){o:Oper}{t:TOp}{k:AV->Sta->Prop}(c:Ctx P G nt Z0 B0 w0 dl E w a β st o t.o.op)(i:∀es,t.h=some es->∀e∈es,HOK P G e)(h:zDZ G tb st t k):OpK P G nt Z0 B0 w0 dl o w a k:=by
 unfold zDZ at h;split at h
 .exact zbp u c h
 .rename_i es j;unfold zRh at h;split at h
  .rename_i f n b;rw[b]at c;split at h
   .rename_i e q;obtain⟨p,rfl⟩:=zV5 q;split at h
    .rename_i v d;exact zZf c (i es j e p) (.inl ⟨n,rfl,d⟩) h
    .exact h.elim
   .exact h.elim
  .rename_i y n b;rw[b]at c;split at h
   .rename_i f first l x;split at h
    .rename_i e q;obtain⟨p,rfl⟩:=zV5 q;split at h
     .rename_i v d;exact zZf c (i es j e p) (.inr ⟨y,n,first,l,v,rfl,x,d,rfl⟩) h
     .exact h.elim
    .exact h.elim
   .exact h.elim
  .exact h.elim
theorem zag(n:TbW P G tb){o:Oper}{t:TOp}{k:AV->Sta->Prop}(c:Ctx P G nt Z0 B0 w0 dl E w a β st o t.o.op)(i:∀es,t.h=some es->∀e∈es,HOK P G e)(h:zOi G tb st t k):OpK P G nt Z0 B0 w0 dl o w a k:=by
 unfold zOi at h;split at h
 .rename_i u;have y:zPg t.o.op=true:=by
   cases ho:t.o.op<;>rw[ho]at u<;>first|rfl|cases u
  have hk:=c.wA (k:=λv st=>zVJ st v k) y h
  intro next Q x;refine hk next Q λv l q B p b d=>?_
  have b:zVJ l v k:=b;unfold zVJ at b;split at b
  .obtain⟨j,f⟩:=d.vM c.hd;exact x _ _ q j p b f
  .simp only at b;split at b
   .rename_i z A;obtain⟨j,f⟩:=d.uI c.hG c.hd A;exact x z _ q j p b f
   .exact b.elim
 .exact zUo n c i h
end
section
variable{P:Program}{G:Cx}{nt:Nat}{E:Env}{w:World}{a:Act}{β:Nat->Option Nat}{st:Sta}
 {Z0 B0:Nat->Prop} {w0:World} {dl:List Deferred} {tb:TblS}
theorem SR.steps(s:SR G nt E w a β st){E':Env}{w':World}{J:Act}{H':Heap}{fr':Fr}{y:Nat}(z:HR E' H' w')(t:Tr E st.H w E' H' w' st.m y)(B:FrR E' w' fr' J nt)(I:zFn st.mv y fr')(F:HCP st.mv y H'):
  SR G nt E' w' J β ⟨fr',H',st.V,y,st.mv⟩/\Kp E.Z (BS E β st.H st.V) w E'.Z (BS E' β H' st.V) w':=by
 have u:∀b,E.Z b->E'.Z b/\w'.heap[b]? = w.heap[b]?:=λb l=>⟨t.qF b l,t.qI b (s.hr.wa b l) λp f e=>s.hr.nz p f (e▸l)⟩
 have hblk:∀j d b,st.V.get j=some d->d.qA=true->β j=some b->b<w.heap.size/\w'.heap[b]? = w.heap[b]?:=λj d b h1 i o=>by
  have n:=(s.qT j d h1).2.lt i o;exact⟨n,t.qI b n λp f e=>(s.bz j d b h1 i o).2 p f e⟩
 refine⟨⟨z,B,s.hg.step s.hr t,λh O=>?_,I,F,λj d h1=>⟨(s.qT j d h1).1,?_⟩,s.vp,λj d b h1 i o=>⟨λM=>?_,λp f e=>?_⟩,s.qS⟩,?_⟩
 .rcases(t.qz h).1 O with h1|h1
  .exact Qf (s.qz h h1) t.le
  .exact h1.2
 .exact(s.qT j d h1).2.mono (congrFun t.sig j) (λ_=>rfl) (λb N l=>(hblk j d b h1 N l).2) u t.qn λ_ _ _ _ R Q h=>⟨rfl,Q,h,rfl⟩
 .have n:=s.bz j d b h1 i o;rcases t.qP b M with D|⟨p,f,e⟩|D
  .exact n.1 D
  .exact n.2 p f e
  .have:=(hblk j d b h1 i o).1;omega
 .have n:=s.bz j d b h1 i o;rcases t.own p f with⟨q,A,K⟩|D
  .exact n.2 q A (K.trans e)
  .have:=(hblk j d b h1 i o).1;omega
 .refine⟨t.qF,λx v=>?_,λx v=>?_,t.tape,t.os,t.output,t.size,λx v l=>t.qI x v λp f e=>l (.inl ⟨p,f,e⟩),t.qn⟩
  .rcases t.qP x v with h|h|h
   .exact .inl h
   .exact .inr (.inl (.inl h))
   .exact .inr (.inr h)
  .rcases v with⟨p,f,rfl⟩|h
   .rcases t.own p f with⟨q,A,e⟩|h
    .exact .inl (.inl ⟨q,A,e⟩)
    .exact .inr h
   .exact .inl (.inr h)
theorem Rs.known(r:Rs G nt Z0 B0 w0 dl E w a st){n:Nat}{v:AV}(h:st.fr.get n=some v):Rs G nt Z0 B0 w0 dl E w a ⟨st.fr.put n v,st.H,st.V,st.m,st.mv⟩:=
 let ⟨β,s,k,d⟩:=r.out
 ⟨β,s.known h,k,d⟩
theorem Rs.skip(r:Rs G nt Z0 B0 w0 dl E w a st){d:Option Nat}(b:∀n,d=some n->n<nt):Rs G nt Z0 B0 w0 dl E w (a.put d undef) (st.put d (.qc [])):=
 let ⟨β,s,k,df⟩:=r.out
 ⟨β,⟨s.hr,s.hf.put id b (VR.qK (vs:=#[]) VRs.nil),s.hg,s.qz,s.qW.qu (.qc _ λe f=>by cases f),s.cH,s.qT,s.vp,s.bz,s.qS⟩,k,by rw[DRun.put_defers];exact df⟩
theorem WK.vr{E:Env}{w:World}{v v':AV}(h:WK v v'):∀{cv:Value},VR E w v cv->VR E w v' cv:=by
 induction h with
 |refl v=>exact id
 |nil z=>intro cv d;cases d;exact .wc _ _ _ (QI _)
 |qd off h f=>
  intro cv d;cases d with
  |qd _ _ b o cv l y d hc=>
   refine .qd _ _ b o cv ?_ y (f d) hc
   cases h<;>first|exact l|rfl|cases l
 |iface t h f=>intro cv d;cases d with|iface _ _ cv d=>exact .iface _ _ cv (f d)
 |agg j h f=>
  intro cv d;cases d with
  |agg _ q e p h1=>exact .agg _ q (j.symm.trans e) (λi x v n d=>by
    have u:=(QB.1 n).1;have hc:=QF (show i<_ from j▸u)
    exact f i _ x hc n (p i _ v hc d)) h1
 |qc j h f=>
  intro cv d;cases d with
  |qc _ q e p=>exact .qc _ q (j.symm.trans e) (λi x v n d=>by
    have u:=(QB.1 n).1;have hc:=QF (show i<_ from j▸u)
    exact f i _ x hc n (p i _ v hc d))
theorem WK.pp{v v':AV}(h:WK v v'):PP v->PP v':=by
 have q:∀{n f:JE},n.length=f.length->(∀(i:Nat) c p,n[i]?=some c->f[i]?=some p->PP c->PP p)->(∀e∈n,PP e)->∀e∈f,PP e:=λj d h e o=>by
  obtain⟨i,u⟩:=List.getElem?_of_mem o;have l:=(QB.1 u).1;have hc:=QF (show i<_ from j.symm▸l)
  exact d i _ e hc u (h _ (QE hc))
 induction h with
 |refl v=>exact id
 |nil x=>intro _;exact .qg _ _ λe o=>by cases o
 |qd off h d=>intro b;cases b with|qd _ _ b=>exact .qd _ _ (d b)
 |iface t h d=>intro b;cases b with|iface _ _ b=>exact .iface _ _ (d b)
 |agg j h d=>intro b;cases b with|agg _ b=>exact .agg _ (q j d b)
 |qc j h d=>intro b;cases b with|qc _ b=>exact .qc _ (q j d b)
theorem WK.cp{n k:Nat}{v v':AV}(h:WK v v'):CP n k v->CP n k v':=by
 have u:∀{o f:JE},o.length=f.length->(∀(i:Nat) c q,o[i]?=some c->f[i]?=some q->CP n k c->CP n k q)->(∀e∈o,CP n k e)->∀e∈f,CP n k e:=λj d h e p=>by
  obtain⟨i,x⟩:=List.getElem?_of_mem p;have l:=(QB.1 x).1;have hc:=QF (show i<_ from j.symm▸l)
  exact d i _ e hc x (h _ (QE hc))
 induction h with
 |refl v=>exact id
 |nil y=>intro _;exact .qg _ _ λe p=>by cases p
 |qd off h d=>intro b;cases b with|qd _ _ b=>exact .qd _ _ (h.pp b)
 |iface t h d=>intro b;cases b with|iface _ _ b=>exact .iface _ _ (d b)
 |agg j h d=>intro b;cases b with|agg _ b=>exact .agg _ (u j d b)
 |qc j h d=>intro b;cases b with|qc _ b=>exact .qc _ (u j d b)
theorem Rs.uN{cv:Value}{d:Option Nat}{v v':AV}(r:Rs G nt Z0 B0 w0 dl E w (a.put d cv) (st.put d v))(h:WK v v'):Rs G nt Z0 B0 w0 dl E w (a.put d cv) (st.put d v'):=by
 cases d with
 |none=>exact r
 |some n=>
  obtain⟨β,s,j,i⟩:=r.out;have b:∀{t u},(st.fr.put n v').get t=some u->(t=n/\u=v')\/(t≠n/\(st.fr.put n v).get t=some u):=λ{t u} e=>by
   rw[Fr.qq]at e⊢;split at e
   .rename_i q;subst q;cases e;exact .inl ⟨rfl,rfl⟩
   .rename_i q;exact .inr ⟨λh=>q h.symm,by rw[if_neg q];exact e⟩
  have f:(st.fr.put n v).get n=some v:=by rw[Fr.qq,if_pos rfl]
  refine⟨β,⟨s.hr,⟨s.hf.size,λt u e=>?_⟩,s.hg,s.qz,λt u e=>?_,s.cH,s.qT,s.vp,s.bz,s.qS⟩,j,i⟩
  .rcases b e with⟨rfl,rfl⟩|⟨_,e⟩
   .exact h.vr (s.hf.get _ _ f)
   .exact s.hf.get t u e
  .rcases b e with⟨rfl,rfl⟩|⟨_,e⟩
   .exact h.cp (s.qW _ _ f)
   .exact s.qW t u e
def At(pn:JV)(a b:Act):Prop:=∀t∈pn,b.tmps.getD t undef=a.tmps.getD t undef
theorem At.refl{pn:JV}:At pn a a:=λ_ _=>rfl
theorem At.trans{pn:JV}{b a2:Act}(h:At pn a b)(k:At pn b a2):At pn a a2:=λt d=>(k t d).trans (h t d)
theorem At.put{pn:JV}{d:Option Nat}{cv:Value}(h:∀n,d=some n->n ∉ pn):At pn a (a.put d cv):=by
 intro t b;cases d with
 |none=>rfl
 |some n=>
  have:n≠t:=λe=>h n rfl (e▸b)
  show(a.tmps.setIfInBounds n cv).getD t undef=a.tmps.getD t undef
  simp only[Array.getD_eq_getD_getElem?,Array.getElem?_setIfInBounds,if_neg this]
theorem zPV{pn:JV}{d:Option Nat}(h:(match d with|some d=>!inN d pn|none=>true)=true):∀n,d=some n->n ∉ pn:=by
 rintro n rfl
 simp only[Bool.not_eq_true']at h;exact zSg h
theorem zey{call:Call}{pn:JV}{K:Fr->Heap->Nat->Prop}:∀(ops:List XOper){fr:Fr}{H:Heap}{nx:Nat},(∀o∈ops,∀n,o.dst=some n->n ∉ pn)->WN G call ops K fr H nx->WN G call ops (λfr' H' b=>K fr' H' b/\∀t∈pn,fr'.get t=fr.get t) fr H nx:=by
 have key:∀(ops:List XOper)(f:Fr){fr:Fr}{H:Heap}{nx:Nat},(∀o∈ops,∀n,o.dst=some n->n ∉ pn)->(∀t∈pn,fr.get t=f.get t)->WN G call ops K fr H nx->WN G call ops (λfr' H' b=>K fr' H' b/\∀t∈pn,fr'.get t=f.get t) fr H nx:=by
  intro ops
  induction ops with
  |nil=>intro f fr H nx _ h k;exact⟨k,h⟩
  |cons o r z=>
   intro f fr H nx j h k;have d:∀{v:AV},∀t∈pn,(qu fr o.dst v).get t=f.get t:=λ{v} t q=>by
    cases hdd:o.dst with
    |none=>exact h t q
    |some n=>
     have:n ∉ pn:=j o (.head _) n hdd;have i:n≠t:=λe=>this (e▸q)
     rw[zJZ,Fr.qq];simp only[i,i.symm,if_false];exact h t q
   have l:=λ{fr H nx}=>z f (fr:=fr) (H:=H) (nx:=nx) λy x=>j y (.tail _ x)
   simp only[WN]at k⊢;split at k
   .obtain⟨v,H',b,p,u⟩:=k;exact⟨v,H',b,p,l d u⟩
   .unfold zWI at k⊢;split at k
    .exact⟨λe=>let ⟨v,H',b,p,u⟩:=k.1 e;⟨v,H',b,p,l d u⟩,λe=>l d (k.2 e)⟩
    .exact l d k
    .exact k.elim
 exact λops fr H nx j k=>key ops fr j (λ_ _=>rfl) k
theorem zUp(J:TbW P G tb)(hG:GPP G)(hm:zCa P G){pn:JV}{ops:Array Oper}{Q:Exit->Act->World->Prop}{K:Sta->Prop}:∀(ts:List TOp)(p:List Oper)(k:Nat){st:Sta},(∀j,p[j]? = ops[k+j]?)->ts.map TOp.o=p.map (zu P ops) →
  (∀o∈p,∀d,o.dst=some d->d<nt)->(∀t∈ts,zy t.o.op=true)->(∀t∈ts,∀es,t.h=some es->∀e∈es,HOK P G e)->(∀t∈ts,∀n,t.o.dst=some n->n ∉ pn)->zGQ G tb ts K st->∀{E w a},Rs G nt Z0 B0 w0 dl E w a st->(∀B E' w' W,K B->Rs G nt Z0 B0 w0 dl E' w' W B->At pn a W->Q .normal W w')->wpOps P ops Q (List.range' k p.length) a w
 |[],[],k,st,_,_,_,_,_,_,h,E,w,a,r,F=>F st E w a h r .refl
 |[],o::p,k,st,_,I,_,_,_,_,h,E,w,a,r,F=>by cases I
 |t::ts,[],k,st,_,I,_,_,_,_,h,E,w,a,r,F=>by cases I
 |t::ts,o::p,k,st,U,I,l,S,N,D,h,E,w,a,r,F=>by
  simp only[Qe,List.cons.injEq]at I;obtain⟨T,e2⟩:=I;have ho:ops[k]?=some o:=by have:=U 0;simpa using this.symm
  have R:∀j,p[j]? = ops[k+1+j]?:=λj=>by have:=U (j+1);rw[List.getElem?_cons_succ]at this;rw[this];congr 1;omega
  have ab:∀o'∈p,∀d,o'.dst=some d->d<nt:=λo' A=>l o' (.tail _ A)
  have O:∀f∈ts,zy f.o.op=true:=λf A=>S f (.tail _ A)
  have y:t.o.dst=o.dst:=by rw[T];exact zDo
  rw[QL,List.range'_succ,wpOps_cons];have ih:=λst h E w a r=>zUp J hG hm (Q:=Q) (K:=K) ts p (k+1) (st:=st) R e2 ab O (λf A=>N f (.tail _ A)) (λf A=>D f (.tail _ A)) h (E:=E) (w:=w) (a:=a) r
  have u:∀{st:Sta},Rs G nt Z0 B0 w0 dl E w a st->zDR st.fr t.o.guard=some true->zOi G tb st t (λv st=>∃x,WK v x/\zGQ G tb ts K (st.put t.o.dst x))->wpOp P ops Q k (wpOps P ops Q (List.range' (k+1) p.length)) a w:=by
   intro st r q h;obtain⟨β,s,kp,df⟩:=r.out;have z:(zu P ops o).op≠.bad:=λe=>by
    unfold zOi zDZ at h;rw[T,e]at h;simp only[zVK]at h;split at h
    .exact h
    .exact h
   have c:Ctx P G nt Z0 B0 w0 dl E w a β st o t.o.op:=⟨s,kp,df,hG,hm,by rw[T];exact zHE z,l o (.head _),S t (.head _)⟩
   refine DRun.wpOp_of ho (zD0 s.hf (by rw[←T];exact q) (.inr z)) (zag J c (N t (.head _)) h _ _ λv B cv E' w' hk r'=>?_)
   obtain⟨x,aa,hk⟩:=hk;exact ih _ hk E' w' _ (by rw[y];exact r'.uN aa) λst2 X w2 a2 q1 q2 Y=>F st2 X w2 a2 q1 q2 ((At.put (by rw[←y];exact D t (.head _))).trans Y)
  have skip:∀{st:Sta},Rs G nt Z0 B0 w0 dl E w a st->zDR st.fr t.o.guard=some false->zGQ G tb ts K (st.put t.o.dst (.qc []))->wpOp P ops Q k (wpOps P ops Q (List.range' (k+1) p.length)) a w:=by
   intro st r q h;obtain⟨β,s,kp,df⟩:=r.out;refine DRun.wpOp_not ho (zD0 s.hf (by rw[←T];exact q) (.inl rfl)) ?_
   refine ih _ h E w _ ?_ λst2 X w2 a2 q1 q2 Y=>F st2 X w2 a2 q1 q2 ((At.put (by rw[←y];exact D t (.head _))).trans Y)
   rw[y];exact r.skip (l o (.head _))
  simp only[zGQ]at h;split at h
  .rename_i M;exact u r (by rw[M];rfl) h
  .rename_i f b M;split at h
   .rename_i c hc;unfold brT at h;rcases zFR h with⟨rfl,i⟩|⟨rfl,i⟩
    .have i:(match true==b with
      |true=>zOi G tb ⟨st.fr.put f (.bool true),st.H,st.V,st.m,st.mv⟩ t λv st=>∃x,WK v x/\zGQ G tb ts K (st.put t.o.dst x)
      |false=>zGQ G tb ts K (Sta.put ⟨st.fr.put f (.bool true),st.H,st.V,st.m,st.mv⟩ t.o.dst (.qc []))):=i
     rw[qp hc]at i;have q:=zKs (b:=b) hc;rw[←M]at q;cases b with
     |true=>exact u (st:=⟨st.fr,st.H,st.V,st.m,st.mv⟩) r q i
     |false=>exact skip (st:=⟨st.fr,st.H,st.V,st.m,st.mv⟩) r q i
    .have i:(match false==b with
      |true=>zOi G tb ⟨st.fr.put f (.bool false),st.H,st.V,st.m,st.mv⟩ t λv st=>∃x,WK v x/\zGQ G tb ts K (st.put t.o.dst x)
      |false=>zGQ G tb ts K (Sta.put ⟨st.fr.put f (.bool false),st.H,st.V,st.m,st.mv⟩ t.o.dst (.qc []))):=i
     rw[qp hc]at i;have q:=zKs (b:=b) hc;rw[←M]at q;cases b with
     |true=>exact skip (st:=⟨st.fr,st.H,st.V,st.m,st.mv⟩) r q i
     |false=>exact u (st:=⟨st.fr,st.H,st.V,st.m,st.mv⟩) r q i
   .rename_i hc;exact skip r (by rw[M];simp only[zDR,hc]) h
   .exact h.elim
theorem zYM(z:TbW P G tb)(N:GPP G)(hm:zCa P G)(j:P.follows .mixedOrders=true){pn:JV}{id:Nat}{ops:Array Oper}{ts:List TOp}{ds:List XD}{Q:Exit->Act->World->Prop}{K:Sta->Prop}(hc:zS P (.region id ops true)=some (.draw (ts.map TOp.o) ds))(l:zGs nt (.draw (ts.map TOp.o) ds)=true)
  (I:∀t∈ts,zy t.o.op=true) (J:∀t∈ts,∀n,t.o.dst=some n->n ∉ pn) (F:∀t∈pn,zWL st.fr t=true) (f:zUj (ts.map TOp.o) ds=true) (h:zD1 G tb ts K st) (r:Rs G nt Z0 B0 w0 dl E w a st) (X:∀v E' w' i,K v->Rs G nt Z0 B0 w0 dl E' w' i v->At pn a i->Q .normal i w'):(Code.region id ops true).wp P Q a w:=by
 obtain⟨β,s,W,U⟩:=r.out;unfold zUj at f;rw[qr]at f;have b:=zTj z N (V:=st.V) (mv:=st.mv) (K:=K) ts I s.qW s.cH (λp q=>s.qz p.1 (s.hr.qz p q)) h
 have b:=zey (pn:=pn) _ (λo ho=>by
  obtain⟨t,A,e⟩:=Qg.1 ho;exact e▸J t A) b
 have u:∀t h o,st.fr.get t=some (.ptr h o)->h<st.m:=λt h o B=>by
  obtain⟨_,s,_,_⟩:=r.out;have:=s.qW t _ B;cases this with
  |ptr _ _ hk=>exact hk
 obtain⟨fr',H',aa,e,kd,d⟩:=zbj zac u f.1 f.2 b;obtain⟨ab,Y⟩:=zZ7 (zcN z N) hm j hc l e;refine Y E w a Q dl s.hr s.hf s.hg (λh h1 D f=>by have:=s.qz h f;omega) U λE' w' i R O M k4=>?_
 have:=s.steps R O M kd.cf kd.cH;refine X _ E' w' i kd.k ⟨β,this.1,W.trans this.2,k4⟩ λt A=>?_
 have q:=F t A;unfold zWL at q;split at q
 .rename_i h off B;have h1:=s.hf.get t _ B;have D:=M.get t _ ((d t A).trans B);generalize a.tmps.getD t undef=x at h1;generalize i.tmps.getD t undef=y at D;cases h1 with
  |ptr _ _ S=>
   cases D with
   |ptr _ _ T=>rw[O.agree h S]
 .cases q
theorem zS4(M:TbW P G tb)(U:GPP G)(hm:zCa P G){pn:JV}{ops:Array Oper}{i:Nat}{o:Oper}{t:TOp}(ho:ops[i]?=some o)(y:t.o=zu P ops o)(N:∀d,o.dst=some d->d<nt)(J:zy t.o.op=true)(D:∀es,t.h=some es->∀e∈es,HOK P G e)(A:∀n,t.o.dst=some n->n ∉ pn)
  {k:Sta->Prop} (h:zGu G tb st t k) (r:Rs G nt Z0 B0 w0 dl E w a st) {K:Act->World->Prop} {Q:Exit->Act->World->Prop} (S:∀x E' w' F,k x->Rs G nt Z0 B0 w0 dl E' w' F x->At pn a F->K F w'):wpOp P ops Q i K a w:=by
 have q:t.o.dst=o.dst:=by rw[y];exact zDo
 have l:∀{st:Sta},Rs G nt Z0 B0 w0 dl E w a st->zDR st.fr t.o.guard=some true->zDZ G tb st t (λv st=>∃p,WK v p/\k (st.put t.o.dst p))->wpOp P ops Q i K a w:=by
  intro st r j h;obtain⟨β,s,R,O⟩:=r.out;have u:(zu P ops o).op≠.bad:=λe=>by
   unfold zDZ at h;split at h
   .rw[y,e]at h;exact h
   .rw[y,e]at h;exact h
  have c:Ctx P G nt Z0 B0 w0 dl E w a β st o t.o.op:=⟨s,R,O,U,hm,by rw[y];exact zHE u,N,J⟩
  refine DRun.wpOp_of ho (zD0 s.hf (by rw[←y];exact j) (.inr u)) (zUo M c D h _ _ λv x W E' w' hk T=>?_)
  obtain⟨p,I,hk⟩:=hk;exact S _ E' w' _ hk (by rw[q];exact T.uN I) (At.put (by rw[←q];exact A))
 have skip:∀{st:Sta},Rs G nt Z0 B0 w0 dl E w a st->zDR st.fr t.o.guard=some false->k (st.put t.o.dst (.qc []))->wpOp P ops Q i K a w:=by
  intro st r j h;obtain⟨β,s,R,O⟩:=r.out;refine DRun.wpOp_not ho (zD0 s.hf (by rw[←y];exact j) (.inl rfl)) ?_
  refine S _ E w _ h ?_ (At.put (by rw[←q];exact A))
  rw[q];exact r.skip N
 simp only[zGu]at h;split at h
 .rename_i z;exact l r (by rw[z];rfl) h
 .rename_i B b z;split at h
  .rename_i c hc;unfold brT at h;rcases zFR h with⟨rfl,f⟩|⟨rfl,f⟩
   .have f:(match true==b with
     |true=>zDZ G tb ⟨st.fr.put B (.bool true),st.H,st.V,st.m,st.mv⟩ t λv st=>∃p,WK v p/\k (st.put t.o.dst p)
     |false=>k (Sta.put ⟨st.fr.put B (.bool true),st.H,st.V,st.m,st.mv⟩ t.o.dst (.qc []))):=f
    rw[qp hc]at f;have j:=zKs (b:=b) hc;rw[←z]at j;cases b with
    |true=>exact l (st:=⟨st.fr,st.H,st.V,st.m,st.mv⟩) r j f
    |false=>exact skip (st:=⟨st.fr,st.H,st.V,st.m,st.mv⟩) r j f
   .have f:(match false==b with
     |true=>zDZ G tb ⟨st.fr.put B (.bool false),st.H,st.V,st.m,st.mv⟩ t λv st=>∃p,WK v p/\k (st.put t.o.dst p)
     |false=>k (Sta.put ⟨st.fr.put B (.bool false),st.H,st.V,st.m,st.mv⟩ t.o.dst (.qc []))):=f
    rw[qp hc]at f;have j:=zKs (b:=b) hc;rw[←z]at j;cases b with
    |true=>exact skip (st:=⟨st.fr,st.H,st.V,st.m,st.mv⟩) r j f
    |false=>exact l (st:=⟨st.fr,st.H,st.V,st.m,st.mv⟩) r j f
  .rename_i hc;exact skip r (by rw[z];simp only[zDR,hc]) h
  .exact h.elim
theorem zZg{ops:Array Oper}{ds:List XD}(aa:ds.length=ops.size)(ha:DRun.Ahead ops ds)(T:DRun.Down ops){Q:Exit->Act->World->Prop}(I:Nat->(Nat->Bool)->Act->World->Prop)(hQ:∀L a w,(∀j,j<ops.size->L j=true)->I 0 L a w->Q .normal a w)
  (hs:∀n L a w i o d,I (n+1) L a w->ops[i]?=some o->ds[i]?=some d->L i=false->(∀j,d.qe.testBit j=true->L j=true)->wpOp P ops Q i (λO w'=>I n (λj=>L j||j==i) O w') a w):
  ∀(fuel:Nat)(listed:Array Bool)(a:Act)(w:World),listed.size=ops.size->listed.toList.count false=fuel →
   (∀(k:Nat)(B:XD),listed.getD k false=true->ds[k]?=some B->∀j,B.qe.testBit j=true->listed.getD j false=true) →
   I fuel (λj=>listed.getD j false) a w->wpAny P .any ops Q fuel listed a w:=by
 have done:∀(listed:Array Bool),listed.size=ops.size->Region.ready .any ops listed=[]->∀j,j<ops.size->listed.getD j false=true:=by
  intro listed b D j
  induction j using Nat.strongRecOn with
  |_ j U=>
   intro l;cases hl:listed.getD j false with
   |true=>rfl
   |false=>
    have p:j<listed.size:=b▸l
    have:j∈Region.ready .any ops listed:=by
     rw[mem_ready];refine⟨?_,ops[j],Qi l,λe N M=>?_⟩
     .simpa[p]using hl
     .have:=T j _ (Qi l) e N M;exact U e.on this (by omega)
    rw[D]at this;cases this
 intro fuel
 induction fuel with
 |zero=>
  intro listed a w b hc y v;refine⟨?_,hQ _ a w (λj l=>by
   have p:j<listed.size:=b▸l
   cases hl:listed.getD j false with
   |true=>rfl
   |false=>
    have z:listed[j]=false:=by simpa[p]using hl
    have:false∈listed.toList:=by rw[←z];simp
    have:=List.count_pos_iff.2 this;omega) v⟩
  cases D:Region.ready .any ops listed with
  |nil=>rfl
  |cons x r=>
   have hx:x∈Region.ready .any ops listed:=by rw[D];exact .head _
   obtain⟨h1,o,A,_⟩:=mem_ready.1 hx;have u:=(Array.getElem?_eq_some_iff.1 A).1;have p:x<listed.size:=b▸u
   have z:listed[x]=false:=by simpa[p]using h1
   have:false∈listed.toList:=by rw[←z];simp
   have:=List.count_pos_iff.2 this;omega
 |succ fuel U=>
  intro listed a w b hc y v;refine⟨λD=>?_,λi hi=>?_⟩
  .have h0:=done listed b D;have:false∈listed.toList:=List.count_pos_iff.1 (by omega)
   obtain⟨j,l,e⟩:=List.getElem_of_mem this;have W:j<ops.size:=by rw[←b];simpa using l
   have S:=h0 j W;have p:j<listed.size:=by simpa using l
   have e:listed[j]=false:=by simpa using e
   simp[p,e]at S
  .obtain⟨h1,o,A,z⟩:=mem_ready.1 hi;have u:=(Array.getElem?_eq_some_iff.1 A).1;have f:i<listed.size:=b▸u
   have Y:listed.getD i false=false:=by simpa[f]using h1
   have F:∀j,(listed.setIfInBounds i true).getD j false=(listed.getD j false||j==i):=by
    intro j;by_cases l:i=j
    .subst l;simp[f]
    .have:(j==i)=false:=by simp;exact λh=>l h.symm
     simp only[Array.getD_eq_getD_getElem?,Array.getElem?_setIfInBounds,if_neg l,this,Bool.or_false]
   have q:∀(d:XD),ds[i]?=some d->∀j,d.qe.testBit j=true->listed.getD j false=true:=by
    intro d K j l;obtain⟨e,N,M,h|⟨d',S,R⟩⟩:=ha i o d A K j l
    .rw[h];exact z e N M
    .exact y e.on d' (z e N M) S j R
   obtain⟨d,K⟩:∃d,ds[i]?=some d:=⟨ds[i],QF (by omega)⟩
   have:=hs fuel _ a w i o d v A K Y (q d K);refine wpOp_mono (λO w' h=>?_) this
   refine U _ O w' (by simpa using b) ?_ ?_ ?_
   .have R:(listed.setIfInBounds i true).toList=listed.toList.set i true:=by simp
    rw[R,List.count_set (by simpa using f)]
    have X:listed.toList[i]'(by simpa using f)=false:=by simpa[f]using Y
    have h6:0<listed.toList.count false:=List.count_pos_iff.2 (by rw[←X];exact QR _)
    simp only[X];simp;simp at h6 hc;omega
   .intro k B hk J j l;rw[F]at hk⊢;rw[Bool.or_eq_true,beq_iff_eq]at hk;rcases hk with hk|hk
    .rw[y k B hk J j l];rfl
    .subst hk;rw[q B J j l];rfl
   .have e:(λj=>(listed.setIfInBounds i true).getD j false)=λj=>listed.getD j false||j==i:=funext F
    rw[e];exact h
theorem zXA{ops:Array Oper}(z:zR8 0 ops.toList=true):(zFM ops P ops.toList (Region.before ops).toList).length=ops.size/\DRun.Ahead ops (zFM ops P ops.toList (Region.before ops).toList)/\DRun.Down ops:=by
 obtain⟨v,J⟩:=zSZ (ops:=ops);have p:∀{j:Nat}{d:XD},(zFM ops P ops.toList (Region.before ops).toList)[j]?=some d->(Region.before ops)[j]?=some d.qe:=λh=>by
  obtain⟨m,a,b⟩:=zQ9 h;rw[b];simpa using a
 have f:∀(l:List Oper)(i:JV),l.length=i.length->(zFM ops P l i).length=l.length:=by
  intro l
  induction l with
  |nil=>intro i _;simp[zFM]
  |cons o l M=>intro i n;cases i with
   |nil=>simp at n
   |cons m i=>simp[zFM,M i (by simpa using n)]
 refine⟨by rw[f _ _ (by simp[v])];simp,?_,λj o x e u q=>?_⟩
 .intro j o d x F k hk;obtain⟨m,c1,c2⟩:=J j o x;have:=p F;rw[c1]at this;cases this;obtain⟨e,u,q,h|⟨K,D,I⟩⟩:=c2 k hk
  .exact⟨e,u,q,.inl h⟩
  .refine⟨e,u,q,.inr ?_⟩
   have B:e.on<(zFM ops P ops.toList (Region.before ops).toList).length:=by
    rw[f _ _ (by simp[v])]
    have:=(Array.getElem?_eq_some_iff.1 D).1
    simpa[v]using this
   refine⟨_,QF B,?_⟩
   have A:=p (QF B);have y:(Region.before ops)[e.on]?=some K:=D;rw[y]at A;rw[←Qw A];exact I
 .have:=zPM z j o (by simpa using x) e u q
  omega
theorem zV6{F:Nat->TOp->Prop}{listed:Nat}:∀{ts:List TOp}{ds:List XD}{i0:Nat},zSe F listed i0 ts ds->∀(i:Nat) t d,ts[i]?=some t->ds[i]?=some d->listed.testBit (i0+i)=false->d.qe &&& listed=d.qe->F (i0+i) t
 |[],ds,i0,h,i,t,d,f,_,_,_=>by simp at f
 |t0::ts,[],i0,h,i,t,d,_,b,_,_=>by simp at b
 |t0::ts,d0::ds,i0,h,i,t,d,f,b,l,n=>by
  simp only[zSe]at h;cases i with
  |zero=>
   simp only[List.getElem?_cons_zero,QN]at f b;subst f;subst b;have:(!listed.testBit i0&&Nat.beq (d0.qe &&& listed) d0.qe)=true:=by
    rw[n];simp only[Nat.add_zero]at l;rw[l,Nat.beq_refl];rfl
   rw[this]at h;exact h.1
  |succ i=>
   have j:zSe F listed (i0+1) ts ds:=by
    split at h
    .exact h.2
    .exact h
   have:=zV6 j i t d (by simpa using f) (by simpa using b) (by rw[←l];congr 1;omega) n
   have e:i0+(i+1)=i0+1+i:=by omega
   rw[e];exact this
theorem zXB(ab:TbW P G tb)(hG:GPP G)(hm:zCa P G)(M:P.follows .mixedOrders=true){pn:JV}{id:Nat}{ops:Array Oper}{ts:List TOp}{ds:List XD}{Q:Exit->Act->World->Prop}{K:Sta->Prop}(hc:zS P (.region id ops true)=some (.draw (ts.map TOp.o) ds))(F:zGs nt (.draw (ts.map TOp.o) ds)=true)
  (aa:∀t∈ts,zy t.o.op=true) (af:∀t∈ts,∀es,t.h=some es->∀e∈es,HOK P G e) (ag:∀t∈ts,∀n,t.o.dst=some n->n ∉ pn) (h:zWK G tb ts ds K ts.length 0 st) (r:Rs G nt Z0 B0 w0 dl E w a st) (hQ:∀p E' w' x,K p->Rs G nt Z0 B0 w0 dl E' w' x p->At pn a x->Q .normal x w'):(Code.region id ops true).wp P Q a w:=by
 simp only[zS]at hc;split at hc
 rotate_left
 .cases hc
 rename_i Y;split at hc
 rotate_left
 .cases hc
 simp only[QN,XC.draw.injEq]at hc;obtain⟨e1,e2⟩:=hc;obtain⟨hl,T,b⟩:=zXA (P:=P) Y;rw[e2]at hl T;have I:ts.length=ops.size:=by
  have:=congrArg List.length e1
  simpa using this.symm
 have W:∀(i:Nat) o,ops[i]?=some o->∃t,ts[i]?=some t/\t.o=zu P ops o:=λi o z=>by
  have h1:(ops.toList.map (zu P ops))[i]?=some (zu P ops o):=by simp[z]
  rw[e1,Qn]at h1;cases y:ts[i]? with
  |none=>rw[y]at h1;cases h1
  |some t=>rw[y]at h1;exact⟨t,rfl,by simpa using h1⟩
 refine wp_region_any M ?_
 have r':Rs G nt Z0 B0 w0 dl E { w with drawn:=w.drawn+1 } a st:=by
  obtain⟨β,s,kp,df⟩:=r.out;obtain⟨d1,d2⟩:=zJV (w':={ w with drawn:=w.drawn+1 }) s.hr ⟨rfl,rfl,rfl,rfl⟩ st.m
  have:=s.steps d1 d2 ⟨s.hf.size,λt u y=>d2.vr s.hr (s.hf.get t u y)⟩ s.qW s.cH
  exact⟨β,this.1,kp.trans this.2,df⟩
 refine zZg hl T b (λn L x w'=>∃listed st E,(∀j,j<ops.size->L j=listed.testBit j)/\(∀j,ops.size<=j->listed.testBit j=false)/\zWK G tb ts ds K n listed st/\Rs G nt Z0 B0 w0 dl E w' x st/\At pn a x) (λL x w' _ ⟨listed,p,E',_,_,hk,hr,B⟩=>hQ p E' w' x hk hr B) ?_ ops.size _ a _ (by simp) (by simp) ?_ ⟨0,st,E,λj v=>by simp[v],λj _=>by simp,I▸h,r',.refl⟩
 .rintro n L x w' i o d ⟨listed,p,E',hL,hhi,hk,hr,B⟩ z D hLi hpre
  have N:=(Array.getElem?_eq_some_iff.1 z).1;obtain⟨t,y,et⟩:=W i o z;have l:=QE y;have ae:listed.testBit i=false:=(hL i N).symm.trans hLi;have hp:d.qe &&& listed=d.qe:=by
   apply Nat.eq_of_testBit_eq;intro j;rw[Nat.testBit_and];cases v:d.qe.testBit j with
   |false=>rfl
   |true=>
    have h1:=hpre j v;have X:j<ops.size:=by
     obtain⟨e,S,R,h2|⟨d',h3,h4⟩⟩:=T i o d z D j v
     .have:=b i o z e S R;omega
     .have low:∀(i:Nat)(d:XD)(k:Nat),ds[i]?=some d->d.qe.testBit k=true->k<i:=by
       intro i
       induction i using Nat.strongRecOn with
       |_ i ih=>
        intro d k D hk;have N:i<ops.size:=by have:=(QB.1 D).1;omega
        obtain⟨e,S,R,h|⟨d',h3,h4⟩⟩:=T i _ d (Qi N) D k hk
        .rw[h];exact b i _ (Qi N) e S R
        .have h5:=b i _ (Qi N) e S R;have:=ih e.on h5 d' k h3 h4;omega
      have:=low i d j D v;omega
    rw[←hL j X,h1];rfl
  have q:=zV6 (i0:=0) hk i t d y D (by rw[QY];exact ae) hp
  rw[QY]at q;refine zS4 ab hG hm z et (λdd ad=>?_) (aa t l) (af t l) (ag t l) q hr λst2 E2 w2 a2 ac U J=>⟨listed ||| 2 ^ i,st2,E2,λj v=>?_,λj v=>?_,ac,U,B.trans J⟩
  .have h1:=QD.1 F _ (List.mem_map_of_mem (f:=TOp.o) l);rw[et,zDo,ad]at h1
   simpa[Ql]using h1
  .rw[Nat.testBit_or,←hL j v,Nat.testBit_two_pow];congr 1;by_cases A:i=j
   .subst A;simp
   .have:¬j=i:=λh=>A h.symm
    simp[A,this]
  .rw[Nat.testBit_or,hhi j v,Nat.testBit_two_pow];have:¬i=j:=by omega
   simp[this]
 .intro k dk hk;by_cases O:k<ops.size
  .simp[O]at hk
  .simp[O]at hk
end
theorem zS5:∀{ts:List TOp}{ds:List XD},zKv ts ds=true->∀(i:Nat) t d,ts[i]?=some t->ds[i]?=some d->(∀x∈zM2 t.o.op.qb,x∈d.looks)/\∀g b,t.o.guard=some (g,b)->g∈d.looks
 |[],ds,h,i,t,d,j,f=>by simp at j
 |o::r,[],h,i,t,d,j,f=>by simp at f
 |o::r,d0::ds,h,i,t,d,j,f=>by
  simp only[zKv,qr]at h;have mem:∀{n:Nat}{l:JV},inN n l=true->n∈l:=by
   intro n l
   induction l with
   |nil=>intro h;cases h
   |cons a r u=>
    intro h;simp only[inN]at h;split at h
    .rename_i e;rw[zc e];exact .head _
    .exact .tail _ (u h)
  cases i with
  |zero=>
   simp at j f;subst j;subst f;refine⟨λx q=>mem (QD.1 h.1.1 x q),λg b p=>?_⟩
   have:=h.1.2;rw[p]at this;exact mem this
  |succ i=>exact zS5 h.2 i t d (by simpa using j) (by simpa using f)
structure SeqQ(ts:List TOp)(ds:List XD)(i0:Nat)(bars hard rds:JV):Prop where
 b:∀(i:Nat) t d,ts[i]?=some t->ds[i]?=some d->2<=clsQ t->(∀c∈bars,d.qe.testBit c=true)/\∀(j:Nat) t',j<i->ts[j]?=some t'->2<=clsQ t'->d.qe.testBit (i0+j)=true
 h:∀(i:Nat) t d,ts[i]?=some t->ds[i]?=some d->clsQ t=1->(∀c∈hard,d.qe.testBit c=true)/\∀(j:Nat) t',j<i->ts[j]?=some t'->3<=clsQ t'->d.qe.testBit (i0+j)=true
 r:∀(i:Nat) t d,ts[i]?=some t->ds[i]?=some d->3<=clsQ t->(∀c∈rds,d.qe.testBit c=true)/\∀(j:Nat) t',j<i->ts[j]?=some t'->clsQ t'=1->d.qe.testBit (i0+j)=true
theorem zMe:∀{ts:List TOp}{ds:List XD}{i0:Nat}{x y B:JV},zMU i0 x y B ts ds=true->SeqQ ts ds i0 x y B
 |[],ds,i0,x,y,B,h=>⟨λi t d n=>by simp at n,λi t d n=>by simp at n,λi t d n=>by simp at n⟩
 |t0::r,[],i0,x,y,B,h=>by cases h
 |t0::r,d0::ds,i0,x,y,B,h=>by
  have A:∀j,i0+(j+1)=i0+1+j:=λj=>by omega
  simp only[zMU]at h;split at h
  .rename_i hc;have q:=zMe h;refine⟨λi t d n o l=>?_,λi t d n o l=>?_,λi t d n o l=>?_⟩
   .cases i with
    |zero=>simp at n;subst n;rw[hc]at l;omega
    |succ i=>
     obtain⟨q1,v⟩:=q.b i t d (by simpa using n) (by simpa using o) l
     refine⟨q1,λj u z f e=>?_⟩
     cases j with
     |zero=>simp at f;subst f;rw[hc]at e;omega
     |succ j=>rw[A];exact v j u (by omega) (by simpa using f) e
   .cases i with
    |zero=>simp at n;subst n;rw[hc]at l;omega
    |succ i=>
     obtain⟨q1,v⟩:=q.h i t d (by simpa using n) (by simpa using o) l
     refine⟨q1,λj u z f e=>?_⟩
     cases j with
     |zero=>simp at f;subst f;rw[hc]at e;omega
     |succ j=>rw[A];exact v j u (by omega) (by simpa using f) e
   .cases i with
    |zero=>simp at n;subst n;rw[hc]at l;omega
    |succ i=>
     obtain⟨q1,v⟩:=q.r i t d (by simpa using n) (by simpa using o) l
     refine⟨q1,λj u z f e=>?_⟩
     cases j with
     |zero=>simp at f;subst f;rw[hc]at e;omega
     |succ j=>rw[A];exact v j u (by omega) (by simpa using f) e
  .rename_i hc;rw[qr]at h;have q:=zMe h.2;refine⟨λi t d n o l=>?_,λi t d n o l=>?_,λi t d n o l=>?_⟩
   .cases i with
    |zero=>simp at n;subst n;rw[hc]at l;omega
    |succ i=>
     obtain⟨q1,v⟩:=q.b i t d (by simpa using n) (by simpa using o) l
     refine⟨q1,λj u z f e=>?_⟩
     cases j with
     |zero=>simp at f;subst f;rw[hc]at e;omega
     |succ j=>rw[A];exact v j u (by omega) (by simpa using f) e
   .cases i with
    |zero=>
     simp at n o;subst n;subst o;exact⟨λc p=>QD.1 h.1 c p,λj u z=>by omega⟩
    |succ i=>
     obtain⟨q1,v⟩:=q.h i t d (by simpa using n) (by simpa using o) l
     refine⟨q1,λj u z f e=>?_⟩
     cases j with
     |zero=>simp at f;subst f;rw[hc]at e;omega
     |succ j=>rw[A];exact v j u (by omega) (by simpa using f) e
   .cases i with
    |zero=>simp at n;subst n;rw[hc]at l;omega
    |succ i=>
     obtain⟨q1,v⟩:=q.r i t d (by simpa using n) (by simpa using o) l
     refine⟨λc p=>q1 c (.tail _ p),λj u z f e=>?_⟩
     cases j with
     |zero=>exact q1 i0 (.head _)
     |succ j=>rw[A];exact v j u (by omega) (by simpa using f) e
  .rename_i hc;rw[qr]at h;have q:=zMe h.2;refine⟨λi t d n o l=>?_,λi t d n o l=>?_,λi t d n o l=>?_⟩
   .cases i with
    |zero=>
     simp at n o;subst n;subst o;exact⟨λc p=>QD.1 h.1 c p,λj u z=>by omega⟩
    |succ i=>
     obtain⟨q1,v⟩:=q.b i t d (by simpa using n) (by simpa using o) l
     refine⟨λc p=>q1 c (.tail _ p),λj u z f e=>?_⟩
     cases j with
     |zero=>exact q1 i0 (.head _)
     |succ j=>rw[A];exact v j u (by omega) (by simpa using f) e
   .cases i with
    |zero=>simp at n;subst n;rw[hc]at l;omega
    |succ i=>
     obtain⟨q1,v⟩:=q.h i t d (by simpa using n) (by simpa using o) l
     refine⟨q1,λj u z f e=>?_⟩
     cases j with
     |zero=>simp at f;subst f;rw[hc]at e;omega
     |succ j=>rw[A];exact v j u (by omega) (by simpa using f) e
   .cases i with
    |zero=>simp at n;subst n;rw[hc]at l;omega
    |succ i=>
     obtain⟨q1,v⟩:=q.r i t d (by simpa using n) (by simpa using o) l
     refine⟨q1,λj u z f e=>?_⟩
     cases j with
     |zero=>simp at f;subst f;rw[hc]at e;omega
     |succ j=>rw[A];exact v j u (by omega) (by simpa using f) e
  .rename_i F D I;simp only[qr]at h;have q:=zMe h.2;refine⟨λi t d n o l=>?_,λi t d n o l=>?_,λi t d n o l=>?_⟩
   .cases i with
    |zero=>
     simp at n o;subst n;subst o;exact⟨λc p=>QD.1 h.1.1 c p,λj u z=>by omega⟩
    |succ i=>
     obtain⟨q1,v⟩:=q.b i t d (by simpa using n) (by simpa using o) l
     refine⟨λc p=>q1 c (.tail _ p),λj u z f e=>?_⟩
     cases j with
     |zero=>exact q1 i0 (.head _)
     |succ j=>rw[A];exact v j u (by omega) (by simpa using f) e
   .cases i with
    |zero=>simp at n;subst n;exact absurd l D
    |succ i=>
     obtain⟨q1,v⟩:=q.h i t d (by simpa using n) (by simpa using o) l
     refine⟨λc p=>q1 c (.tail _ p),λj u z f e=>?_⟩
     cases j with
     |zero=>exact q1 i0 (.head _)
     |succ j=>rw[A];exact v j u (by omega) (by simpa using f) e
   .cases i with
    |zero=>
     simp at n o;subst n;subst o;exact⟨λc p=>QD.1 h.1.2 c p,λj u z=>by omega⟩
    |succ i=>
     obtain⟨q1,v⟩:=q.r i t d (by simpa using n) (by simpa using o) l
     refine⟨q1,λj u z f e=>?_⟩
     cases j with
     |zero=>simp at f;subst f;exact absurd e D
     |succ j=>rw[A];exact v j u (by omega) (by simpa using f) e
structure SameQ(fr fr':Fr)(s0 s:Sta):Prop where
 H:s.H=s0.H
 V:s.V=s0.V
 m:s.m=s0.m
 mv:s.mv=s0.mv
 f0:∀t,s0.fr.get t=fr.get t
 f:∀t,s.fr.get t=fr'.get t
section
variable{G:Cx}{tb:TblS}{fr fr':Fr}{H H2:Heap}{V V2:Vecs}{m m2 mv mv2:Nat}{C C':AV->Sta->Prop}
theorem zfS{o o':XO}(e:xoS G zj fr H m o=xoS G zj fr' H m o')(d:∀v b s,C v b->SameQ fr fr' b s->C' v s)(h:WXd ⟨fr,H,V,m,mv⟩ (xoS G zj fr H m o) C):WXd ⟨fr',H,V,m,mv⟩ (xoS G zj fr' H m o') C':=by
 rw[←e];unfold WXd at h⊢;split at h
 .exact d _ _ _ h ⟨rfl,rfl,rfl,rfl,λ_=>rfl,λ_=>rfl⟩
 .exact h.elim
theorem zL0{n:Int}{lo b:JF}{k d:Int->Int->Prop}(h:zMb n lo b k)(hk:∀l u,k l u->d l u):zMb n lo b d:=by
 cases lo with
 |none=>
  cases b with
  |none=>exact hk _ _ h
  |some u=>cases u<;>first|exact⟨h.1,hk _ _ h.2⟩|exact h.elim
 |some l=>
  cases l with
  |int e l=>
   cases b with
   |none=>exact⟨h.1,hk _ _ h.2⟩
   |some u=>cases u<;>first|exact⟨h.1,hk _ _ h.2⟩|exact h.elim
  |_=>exact h.elim
theorem zGi{n:Int}:∀{l:Nat}{k b:Nat->Prop},zKt n l k->(∀m,k m->b m)->zKt n l b
 |0,k,b,h,hk=>trivial
 |l+1,k,b,h,hk=>⟨zGi h.1 hk,λe=>hk _ (h.2 e)⟩
theorem zKx{f:Nat}{args:JE}{k b:AV->Prop}:∀{tb:TblS},zIx tb f args k->(∀v,k v->b v)->zIx tb f args b
 |[],h,_=>h.elim
 |s::r,h,hk=>by
  simp only[zIx]at h⊢;cases e:Nat.beq f s.1 with
  |true=>
   rw[e]at h;refine⟨h.1,?_⟩
   have:=h.2;cases hv:s.2.2 args with
   |some v=>rw[hv]at this;exact hk _ this
   |none=>rw[hv]at this;exact this.elim
  |false=>
   rw[e]at h;exact zKx h hk
theorem zXC{f:Nat}{vs:JE}(d:∀v b s,C v b->SameQ fr fr' b s->C' v s)(h:zEW tb f vs ⟨fr,H,V,m,mv⟩ C):zEW tb f vs ⟨fr',H,V,m,mv⟩ C':=by
 have mk:∀{v:AV},C v ⟨fr,H,V,m,mv⟩->C' v ⟨fr',H,V,m,mv⟩:=λh=>d _ _ _ h ⟨rfl,rfl,rfl,rfl,λ_=>rfl,λ_=>rfl⟩
 unfold zEW at h⊢;cases hh:vs.any (zEk 8)with
 |false=>rw[hh]at h;exact zKx h λv h=>mk h
 |true=>
  rw[hh]at h;simp only at h⊢;cases hm:zF (frz H V 8) vs with
  |none=>rw[hm]at h;exact h.elim
  |some args=>
   rw[hm]at h;refine zKx h λv h=>?_
   cases hs:zDF 8 v with
   |true=>rw[hs]at h;exact mk h
   |false=>rw[hs]at h;exact h.elim
theorem zfT{o:XO}{D:List K}(d:∀x∈o.qb,x.ev G fr=x.ev G fr')(F:∀v T s,C v T->SameQ fr fr' T s->C' v s)(h:wop G tb ⟨fr,H,V,m,mv⟩ o D C):wop G tb ⟨fr',H,V,m,mv⟩ o D C':=by
 have mk:∀{v:AV}{X:Heap}{W:Vecs}{N J:Nat},C v ⟨fr,X,W,N,J⟩->C' v ⟨fr',X,W,N,J⟩:=λh=>F _ _ _ h ⟨rfl,rfl,rfl,rfl,λ_=>rfl,λ_=>rfl⟩
 have e:∀{o':XO},(∀x∈o'.qb,x.ev G fr=x.ev G fr')->WXd ⟨fr,H,V,m,mv⟩ (xoS G zj fr H m o') C->WXd ⟨fr',H,V,m,mv⟩ (xoS G zj fr' H m o') C':=λd h=>zfS (by rw[←zKo,←zKo];exact zXj d) F h
 cases o<;>try (exact h.elim)
 all_goals try (exact e d h)
 case q9 x i l sz ag=>
  cases D with
  |nil=>exact e d h
  |cons R D=>
   simp only[wop]at h⊢;rw[←d i (by simp[XO.qb])]
   split at h
   .exact⟨h.1,zGi h.2 λN O=>e (λy j=>by
     simp only[XO.qb,QK,Qa]at j;rcases j with rfl|rfl
     .exact d _ (by simp[XO.qb])
     .rfl) O⟩
   .exact h.elim
 case qy x i l sz=>
  cases D with
  |nil=>exact e d h
  |cons R D=>
   simp only[wop]at h⊢;rw[←d i (by simp[XO.qb])]
   split at h
   .exact⟨h.1,zGi h.2 λN O=>e (λy j=>by
     simp only[XO.qb,QK,Qa]at j;rcases j with rfl|rfl
     .exact d _ (by simp[XO.qb])
     .rfl) O⟩
   .exact h.elim
 case pick c a b=>
  have p:=d c (by simp[XO.qb])
  have B:=d a (by simp[XO.qb])
  have e3:=d b (by simp[XO.qb])
  simp only[wop]at h⊢;rw[←p];split at h
  .rename_i U I;split at h
   .rename_i n;have S:fr.get n=some (.bool U):=I;have M:fr'.get n=some (.bool U):=p.symm.trans I;rcases zFR h with⟨rfl,h⟩|⟨rfl,h⟩
    .simp only[Br,←B];cases hv:a.ev G fr with
     |some v=>
      rw[hv]at h;exact F _ _ _ h ⟨rfl,rfl,rfl,rfl,λt=>by simp only[qp S],λt=>by simp only[qp M]⟩
     |none=>rw[hv]at h;exact h.elim
    .simp only[Br,←e3];cases hv:b.ev G fr with
     |some v=>
      rw[hv]at h;exact F _ _ _ h ⟨rfl,rfl,rfl,rfl,λt=>by simp only[qp S],λt=>by simp only[qp M]⟩
     |none=>rw[hv]at h;exact h.elim
   .rename_i Q;cases c with
    |t n=>exact absurd rfl (Q n)
    |_=>exact e d h
  .exact h.elim
 case bin op x y=>
  have p:=d x (by simp[XO.qb])
  have B:=d y (by simp[XO.qb])
  have q:=λh=>e (o':=.bin op x y) d h
  simp only[wop]at h⊢;rw[←p,←B];split at h
  .rename_i s1 Y;cases op with
   |add=>
    simp only at h⊢;split at h
    .exact⟨h.1,mk h.2⟩
    .exact h.elim
   |_=>exact q h
  .rename_i k1 n1 Y;cases op with
   |quo=>
    simp only at h⊢;split at h
    .split at h
     .exact⟨h.1,mk h.2⟩
     .exact h.elim
    .exact h.elim
   |rem=>
    simp only at h⊢;split at h
    .split at h
     .exact⟨h.1,mk h.2⟩
     .exact h.elim
    .exact h.elim
   |shl=>
    simp only at h⊢;split at h
    .exact⟨h.1,mk h.2⟩
    .exact h.elim
   |shr=>
    simp only at h⊢;split at h
    .exact⟨h.1,mk h.2⟩
    .exact h.elim
   |_=>exact q h
  .exact h.elim
 case wF neg kd x y=>
  simp only[wop]at h⊢;rw[←d x (by simp[XO.qb]),←d y (by simp[XO.qb])]
  split at h
  .split at h
   .split at h
    .exact mk h
    .exact h.elim
   .exact h.elim
  .exact h.elim
 case wK x i=>
  simp only[wop]at h⊢;rw[←d x (by simp[XO.qb]),←d i (by simp[XO.qb])]
  split at h
  .split at h
   .obtain⟨c,h1,A⟩:=h;exact⟨c,h1,mk A⟩
   .exact h.elim
  .exact h.elim
 case wC x lo hi=>
  have p:evo G fr lo=evo G fr' lo:=zD9 λy j=>d y (by simp[XO.qb,j])
  have B:evo G fr hi=evo G fr' hi:=zD9 λy j=>d y (by simp[XO.qb,j])
  simp only[wop]at h⊢;rw[←d x (by simp[XO.qb]),←p,←B]
  split at h
  .split at h
   .split at h
    .exact zL0 h λl u h=>mk h
    .exact h.elim
   .exact h.elim
  .exact h.elim
 case wv x lo hi mx sz=>
  have p:evo G fr lo=evo G fr' lo:=zD9 λy j=>d y (by simp[XO.qb,j])
  have B:evo G fr hi=evo G fr' hi:=zD9 λy j=>d y (by simp[XO.qb,j])
  have q:=λh=>e (o':=.wv x lo hi mx sz) d h
  simp only[wop]at h⊢;rw[←d x (by simp[XO.qb]),←p,←B]
  split at h
  .split at h
   .split at h
    .split at h
     .split at h
      .exact zL0 h λl u h=>mk h
      .exact h.elim
     .exact h.elim
    .exact h.elim
   .exact h.elim
  .exact q h
  .exact h.elim
 case qC x i sz=>
  simp only[wop]at h⊢;rw[←d x (by simp[XO.qb]),←d i (by simp[XO.qb])]
  split at h
  .split at h
   .split at h
    .obtain⟨v,h1,A⟩:=h;exact⟨v,h1,mk A⟩
    .exact h.elim
   .exact h.elim
  .split at h
   .split at h
    .split at h
     .exact⟨h.1,mk h.2⟩
     .exact h.elim
    .exact h.elim
   .exact h.elim
  .split at h
   .exact⟨h.1,zGi h.2 λN O=>e (λy j=>by
     simp only[XO.qb,QK,Qa]at j;rcases j with rfl|rfl
     .exact d _ (by simp[XO.qb])
     .rfl) O⟩
   .exact h.elim
  .exact h.elim
 case wj x=>
  have q:=λh=>e (o':=.wj x) d h
  simp only[wop]at h⊢;rw[←d x (by simp[XO.qb])]
  split at h
  .split at h
   .exact mk h
   .exact h.elim
  .exact q h
 case load x sz ag=>
  have q:=λh=>e (o':=.load x sz ag) d h
  simp only[wop]at h⊢;rw[←d x (by simp[XO.qb])]
  split at h
  .exact q h
  .exact h.elim
  .split at h
   .split at h
    .obtain⟨v,h1,A⟩:=h;exact⟨v,h1,mk A⟩
    .exact h.elim
   .exact h.elim
  .exact q h
 case qR x f=>
  have q:=λh=>e (o':=.qR x f) d h
  simp only[wop]at h⊢;rw[←d x (by simp[XO.qb])]
  split at h
  .split at h
   .split at h
    .exact mk h
    .exact h.elim
   .exact h.elim
  .exact q h
 case store x y sz=>
  have q:=λh=>e (o':=.store x y sz) d h
  simp only[wop]at h⊢;rw[←d x (by simp[XO.qb]),←d y (by simp[XO.qb])]
  split at h
  .split at h
   .split at h
    .split at h
     .split at h
      .split at h
       .exact mk h
       .exact h.elim
      .exact h.elim
     .exact h.elim
    .exact h.elim
   .exact h.elim
  .exact q h
 case vB x=>
  simp only[wop]at h⊢;rw[←d x (by simp[XO.qb])]
  split at h
  .exact mk h
  .exact h.elim
 case vj x=>
  simp only[wop]at h⊢;rw[←d x (by simp[XO.qb])]
  split at h
  .split at h
   .split at h
    .obtain⟨v,h1,A⟩:=h;exact⟨v,h1,mk A⟩
    .exact h.elim
   .exact h.elim
  .split at h
   .obtain⟨v,h1,A⟩:=h;exact⟨v,h1,mk A⟩
   .exact h.elim
  .exact mk h
  .exact h.elim
 case qx len sz z ps=>
  cases D with
  |cons R D=>
   cases R with
   |c u=>
    have p:zCs G fr z ps=zCs G fr' z ps:=zJm λy j=>d y (by simp only[XO.qb];exact j)
    have B:bsL G fr len sz z ps=bsL G fr' len sz z ps:=by unfold bsL;rw[p]
    simp only[wop]at h⊢;rw[←B];split at h
    .exact mk h
    .exact h.elim
   |_=>exact e d h
  |nil=>
   have p:zCs G fr z ps=zCs G fr' z ps:=zJm λy j=>d y (by simp only[XO.qb];exact j)
   simp only[wop]at h⊢;rw[←p];split at h
   .split at h
    .split at h
     .split at h
      .exact mk h
      .exact h.elim
     .exact h.elim
    .exact h.elim
   .exact h.elim
 case qL l c sz bytes z=>
  simp only[wop]at h⊢;rw[←d l (by simp[XO.qb]),←d c (by simp[XO.qb])]
  split at h
  .split at h
   .split at h
    .exact⟨h.1,mk h.2⟩
    .exact h.elim
   .exact h.elim
  .exact h.elim
 case append x y sz bytes=>
  simp only[wop]at h⊢;rw[←d x (by simp[XO.qb]),←d y (by simp[XO.qb])]
  split at h
  .exact h.elim
  .split at h
   .split at h
    .split at h
     .split at h
      .split at h
       .exact⟨h.1,mk h.2⟩
       .split at h
        .split at h
         .exact⟨h.1,mk h.2⟩
         .exact h.elim
        .exact h.elim
       .exact h.elim
      .exact h.elim
     .exact h.elim
    .exact h.elim
   .exact h.elim
 case wm=>exact mk h
 case lookup ag kd mm x z ok=>
  simp only[wop]at h⊢;rw[←d mm (by simp[XO.qb]),←d x (by simp[XO.qb])]
  split at h
  .split at h
   .split at h
    .split at h
     .obtain⟨v,h1,A⟩:=h;exact⟨v,h1,mk A⟩
     .exact h.elim
    .exact h.elim
   .exact h.elim
  .exact h.elim
 case wE ag kd mm x y=>
  simp only[wop]at h⊢;rw[←d mm (by simp[XO.qb]),←d x (by simp[XO.qb]),←d y (by simp[XO.qb])]
  split at h
  .split at h
   .split at h
    .split at h
     .split at h
      .obtain⟨v,h1,A⟩:=h;exact⟨v,h1,mk A⟩
      .exact h.elim
     .exact h.elim
    .exact h.elim
   .exact h.elim
  .exact h.elim
 case call f xs=>
  have p:evs G fr xs=evs G fr' xs:=zEZ λy j=>d y (by simp[XO.qb,j])
  simp only[wop]at h⊢;rw[←p];split at h
  .exact zXC F h
  .exact h.elim
 case qM fx xs=>
  have p:evs G fr xs=evs G fr' xs:=zEZ λy j=>d y (by simp[XO.qb,j])
  simp only[wop]at h⊢;rw[←d fx (by simp[XO.qb]),←p]
  split at h
  .split at h
   .exact zXC F h
   .exact h.elim
  .exact h.elim
theorem zbq{o:XO}(hk:zAn o=0){v:AV}{H':Heap}{n:Nat}(h:xoS G zj fr H m o=some (v,H',n)):H'=H/\n=m/\∀H2 m2,xoS G zj fr H2 m2 o=some (v,H2,m2):=by
 cases o<;>first|(simp[zAn]at hk;done)|(simp only[xoS]at h⊢;repeat' split at h)<;>first|(cases h;done)|(cases h;simp_all;done)|(cases h;simp_all;omega)
theorem zbr{o:XO}{p:List K}(hk:zAn o=0)(M:∀x,o≠.wj x)(B:∀v s,C v s->s.mv=mv)(A:∀v f,C v ⟨f,H,V,m,mv⟩->C' v ⟨f,H2,V2,m2,mv2⟩)(h:wop G tb ⟨fr,H,V,m,mv⟩ o p C):wop G tb ⟨fr,H2,V2,m2,mv2⟩ o p C':=by
 have mk:∀{v:AV}{f:Fr},C v ⟨f,H,V,m,mv⟩->C' v ⟨f,H2,V2,m2,mv2⟩:=λh=>A _ _ h
 have d:∀{o':XO},zAn o'=0->WXd ⟨fr,H,V,m,mv⟩ (xoS G zj fr H m o') C->WXd ⟨fr,H2,V2,m2,mv2⟩ (xoS G zj fr H2 m2 o') C':=λhk h=>by
  unfold WXd at h;split at h
  .rename_i v O n e;obtain⟨rfl,rfl,J⟩:=zbq hk e;unfold WXd;rw[J H2 m2];exact mk h
  .exact h.elim
 cases o<;>try (exact h.elim)
 all_goals try (simp[zAn]at hk;done)
 all_goals try (exact d hk h)
 case q9 x i l sz ag=>
  cases p with
  |nil=>exact d hk h
  |cons I p=>
   simp only[wop]at h⊢;split at h
   .exact⟨h.1,zGi h.2 λD q=>d rfl q⟩
   .exact h.elim
 case qy x i l sz=>
  cases p with
  |nil=>exact d hk h
  |cons I p=>
   simp only[wop]at h⊢;split at h
   .exact⟨h.1,zGi h.2 λD q=>d rfl q⟩
   .exact h.elim
 case pick c a b=>
  have j:=λh=>d (o':=.pick c a b) rfl h
  simp only[wop]at h⊢;split at h
  .rename_i N F;split at h
   .rename_i n;rcases zFR h with⟨rfl,h⟩|⟨rfl,h⟩
    .simp only[Br];cases hv:a.ev G fr with
     |some v=>rw[hv]at h;exact mk h
     |none=>rw[hv]at h;exact h.elim
    .simp only[Br];cases hv:b.ev G fr with
     |some v=>rw[hv]at h;exact mk h
     |none=>rw[hv]at h;exact h.elim
   .exact j h
  .exact h.elim
 case bin op x y=>
  have j:=λh=>d (o':=.bin op x y) rfl h
  simp only[wop]at h⊢;split at h
  .cases op with
   |add=>
    simp only at h⊢;split at h
    .exact⟨h.1,mk h.2⟩
    .exact h.elim
   |_=>exact j h
  .cases op with
   |quo=>
    simp only at h⊢;split at h
    .split at h
     .exact⟨h.1,mk h.2⟩
     .exact h.elim
    .exact h.elim
   |rem=>
    simp only at h⊢;split at h
    .split at h
     .exact⟨h.1,mk h.2⟩
     .exact h.elim
    .exact h.elim
   |shl=>
    simp only at h⊢;split at h
    .exact⟨h.1,mk h.2⟩
    .exact h.elim
   |shr=>
    simp only at h⊢;split at h
    .exact⟨h.1,mk h.2⟩
    .exact h.elim
   |_=>exact j h
  .exact h.elim
 case wF neg kd x y=>
  simp only[wop]at h⊢;split at h
  .split at h
   .split at h
    .exact mk h
    .exact h.elim
   .exact h.elim
  .exact h.elim
 case wK x i=>
  simp only[wop]at h⊢;split at h
  .split at h
   .obtain⟨c,h1,z⟩:=h;exact⟨c,h1,mk z⟩
   .exact h.elim
  .exact h.elim
 case wC x lo hi=>
  simp only[wop]at h⊢;split at h
  .split at h
   .split at h
    .exact zL0 h λl u h=>mk h
    .exact h.elim
   .exact h.elim
  .exact h.elim
 case wv x lo hi mx sz=>
  have j:=λh=>d (o':=.wv x lo hi mx sz) rfl h
  simp only[wop]at h⊢;split at h
  .split at h
   .split at h
    .split at h
     .split at h
      .exact zL0 h λl u h=>mk h
      .exact h.elim
     .exact h.elim
    .exact h.elim
   .exact h.elim
  .exact j h
  .exact h.elim
 case qC x i sz=>
  simp only[wop]at h⊢;split at h
  .split at h
   .split at h
    .obtain⟨v,h1,z⟩:=h;exact⟨v,h1,mk z⟩
    .exact h.elim
   .exact h.elim
  .split at h
   .split at h
    .split at h
     .exact absurd (show mv+1=mv from B _ _ h.2) (by omega)
     .exact h.elim
    .exact h.elim
   .exact h.elim
  .split at h
   .exact⟨h.1,zGi h.2 λD q=>d rfl q⟩
   .exact h.elim
  .exact h.elim
 case wj x=>exact absurd rfl (M x)
 case qR x f=>
  have j:=λh=>d (o':=.qR x f) rfl h
  simp only[wop]at h⊢;split at h
  .split at h
   .split at h
    .exact absurd (show mv+1=mv from B _ _ h) (by omega)
    .exact h.elim
   .exact h.elim
  .exact j h
structure Ext1(H H2:Heap)(mv ms:Nat):Prop where
 g:∀h,h<ms->H2.get h=H.get h
 c:∀h str cs,h<ms->H.get h=some (.cells str cs)->∀c∈cs,CP mv ms c
theorem zez{ms:Nat}(x:Ext1 H H2 mv ms):∀(d:Nat){v:AV},CP mv ms v->frz H2 V d v=frz H V d v:=by
 intro d
 induction d with
 |zero=>intro v _;rfl
 |succ d A=>
  intro v hc;have i:∀{l:JE},(∀e∈l,CP mv ms e)->zF (frz H2 V d) l=zF (frz H V d) l:=by
   intro l
   induction l with
   |nil=>intro _;rfl
   |cons a r j=>intro q;simp only[zF,A (q a (.head _)),j λe z=>q e (.tail _ z)]
  cases hc with
  |ptr h o hk=>
   simp only[frz,x.g h hk];cases hg:H.get h with
   |none=>rfl
   |some y=>
    cases y with
    |cells str p=>simp only[i (x.c h str p hk hg)]
    |_=>rfl
  |row h o l s c e hk=>simp only[frz,x.g h hk]
  |func f a b B u=>simp only[frz,i B,i u]
  |agg p n=>simp only[frz,i n]
  |_=>rfl
def zgl:XO->Prop
 |.wj _|.load _ _ _|.lookup _ _ _ _ _ _|.call _ _|.qM _ _=>True
 |_=>False
theorem zbs{o:XO}{W:List K}{ms:Nat}(hG:GPP G)(j:zy o=true)(x:Ext1 H H2 mv ms)(hf:∀t v,XV.t t∈o.qb->fr.get t=some v->CP mv ms v)(ho:zgl o)
  (U:∀v,C v ⟨fr,H,V,m,mv⟩->C' v ⟨fr,H2,V,m2,mv⟩) (h:wop G tb ⟨fr,H,V,m,mv⟩ o W C):wop G tb ⟨fr,H2,V,m2,mv⟩ o W C':=by
 have mk:∀{v:AV},C v ⟨fr,H,V,m,mv⟩->C' v ⟨fr,H2,V,m2,mv⟩:=λh=>U _ h
 have D:∀{y:XV}{v:AV},y∈o.qb->zG y=true->y.ev G fr=some v->CP mv ms v:=λ{y v} p l b=>by
  cases y with
  |t n=>exact hf n v p b
  |g n=>exact(hG n v b).cp
  |c u=>
   have:u=v:=by simpa[XV.ev]using b
   subst this;exact(zCb 12 l).cp
 have I:∀{B:List XV}{d:JE},(∀y∈B,y∈o.qb/\zG y=true)->evs G fr B=some d->∀v∈d,CP mv ms v:=by
  intro B
  induction B with
  |nil=>intro d _ e v b;cases e;cases b
  |cons y r R=>
   intro d p e v b;simp only[evs]at e;split at e
   .rename_i u hu;split at e
    .rename_i us Q;cases e;rcases QH.1 b with rfl|b
     .exact D (p y (.head _)).1 (p y (.head _)).2 hu
     .exact R (λz hz=>p z (.tail _ hz)) Q v b
    .cases e
   .cases e
 have q:∀{f:Nat}{d:JE},(∀v∈d,CP mv ms v)->zEW tb f d ⟨fr,H,V,m,mv⟩ C->zEW tb f d ⟨fr,H2,V,m2,mv⟩ C':=λ{f d} F h=>by
  have T:zF (frz H2 V 8) d=zF (frz H V 8) d:=by
   clear h
   induction d with
   |nil=>rfl
   |cons a r R=>simp only[zF,zez x 8 (F a (.head _)),R λv b=>F v (.tail _ b)]
  unfold zEW at h⊢;cases hh:d.any (zEk 8)with
  |false=>rw[hh]at h;exact zKx h λv h=>mk h
  |true=>
   rw[hh]at h;simp only[T];simp only at h;split at h
   .refine zKx h λv h=>?_
    split at h
    .exact mk h
    .exact h.elim
   .exact h.elim
 cases o<;>try (exact(show False from ho).elim)
 case wj y=>
  simp only[wop]at h⊢;split at h
  .split at h
   .exact mk h
   .exact h.elim
  .unfold WXd at h;split at h
   .rename_i v Y n e;obtain⟨rfl,rfl,e2⟩:=zbq rfl e;unfold WXd;rw[e2 H2 m2];exact mk h
   .exact h.elim
 case load y sz ag=>
  have l:zG y=true:=by simp only[zy,XO.qb,zAm,QV,Qb,List.all_nil]at j;exact j
  have J:WXd ⟨fr,H,V,m,mv⟩ (xoS G zj fr H m (.load y sz ag)) C->WXd ⟨fr,H2,V,m2,mv⟩ (xoS G zj fr H2 m2 (.load y sz ag)) C':=λh=>by
   unfold WXd at h;split at h
   .rename_i v Y n e;have e':xoS G zj fr H2 m2 (.load y sz ag)=some (v,H2,m2)/\Y=H/\n=m:=by
     simp only[xoS]at e⊢;cases b:y.ev G fr with
     |none=>rw[b]at e;cases e
     |some a=>
      rw[b]at e;simp only at e⊢;have hc:=D (by simp[XO.qb]) l b
      have A:zHh H2 sz ag a=zHh H sz ag a:=by
       cases hc<;>first|rfl|(simp only[zHh,x.g _ ‹_›];done)|skip
      rw[A];split at e
      .cases e;exact⟨rfl,rfl,rfl⟩
      .cases e
    obtain⟨e1,rfl,rfl⟩:=e';unfold WXd;rw[e1];exact mk h
   .exact h.elim
  simp only[wop]at h⊢;split at h
  .exact J h
  .exact h.elim
  .split at h
   .split at h
    .obtain⟨v,h1,M⟩:=h;exact⟨v,h1,mk M⟩
    .exact h.elim
   .exact h.elim
  .exact J h
 case lookup ag kd mm y z ok=>
  simp only[wop]at h⊢;split at h
  .split at h
   .split at h
    .split at h
     .obtain⟨v,h1,M⟩:=h;exact⟨v,h1,mk M⟩
     .exact h.elim
    .exact h.elim
   .exact h.elim
  .exact h.elim
 case call f B=>
  have i:B.all zG=true:=by simp only[zy,XO.qb,zAm,QV]at j;exact j
  simp only[wop]at h⊢;split at h
  .rename_i d b;exact q (I (λy p=>⟨by simp only[XO.qb];exact p,QD.1 i y p⟩) b) h
  .exact h.elim
 case qM fx B=>
  have i:zG fx=true/\B.all zG=true:=by simp only[zy,XO.qb,zAm,List.all_append,Qb,List.all_nil,QV,qr]at j;exact j
  simp only[wop]at h⊢;split at h
  .rename_i f first X O;split at h
   .rename_i d b;refine q (λv N=>?_) h
    have S:=D (by simp[XO.qb]) i.1 O
    cases S with
    |func _ _ _ q1 q2=>
     rcases QK.1 N with A|A
     .rcases QK.1 A with A|A
      .exact q1 v A
      .exact I (λy p=>⟨by simp[XO.qb,p],QD.1 i.2 y p⟩) b v A
     .exact q2 v A
   .exact h.elim
  .exact h.elim
theorem zNN{h:Nat}:∀{g:JN}{H:Heap}{V:Vecs}{mv:Nat},qD h g ⟨fr',H,V,m,mv⟩=⟨fr',(qD h g ⟨fr,H,V,m,mv⟩).H,(qD h g ⟨fr,H,V,m,mv⟩).V,(qD h g ⟨fr,H,V,m,mv⟩).m,(qD h g ⟨fr,H,V,m,mv⟩).mv⟩/\(qD h g ⟨fr,H,V,m,mv⟩).fr=fr
 |[],H,V,mv=>⟨rfl,rfl⟩
 |(i,e)::g,H,V,mv=>by
  simp only[qD];cases hg:H.get h with
  |none=>exact⟨rfl,rfl⟩
  |some d=>
   cases d with
   |cells str b=>
    simp only;cases hc:b[i]? with
    |none=>exact zNN
    |some c=>
     cases c<;>simp only<;>(try exact zNN)
     all_goals
      split
      .exact zNN
      .exact zNN
   |_=>exact⟨rfl,rfl⟩
theorem zcO{g:JN}{args:JE}:qH g args ⟨fr',H,V,m,mv⟩=⟨fr',(qH g args ⟨fr,H,V,m,mv⟩).H,(qH g args ⟨fr,H,V,m,mv⟩).V,(qH g args ⟨fr,H,V,m,mv⟩).m,(qH g args ⟨fr,H,V,m,mv⟩).mv⟩/\(qH g args ⟨fr,H,V,m,mv⟩).fr=fr:=by
 unfold qH;split
 .exact zNN
 .exact⟨rfl,rfl⟩
theorem zYN{hm e:JV}{vs:JE}{st d:Sta}{k f:JE->Heap->Vecs->Prop}(j:d.H=st.H)(i:d.V=st.V)(h:zE8 hm e vs st k)(hk:∀a b c,k a b c->f a b c):zE8 hm e vs d f:=by
 unfold zE8 at h⊢;rw[j,i];split at h
 .split at h
  .split at h
   .split at h
    .exact hk _ _ _ h
    .exact h.elim
   .exact h.elim
  .exact h.elim
 .exact h.elim
theorem zV7{e:HEnt}{args:JE}(i:∀v f s,C v f->SameQ fr fr' f s->C' v s)(h:zHn e args ⟨fr,H,V,m,mv⟩ C):zHn e args ⟨fr',H,V,m,mv⟩ C':=by
 obtain⟨g1,g2⟩:=zcO (fr:=fr) (fr':=fr') (H:=H) (V:=V) (m:=m) (mv:=mv) (g:=e.grow) (args:=args);unfold zHn at h⊢;rw[g1];generalize j:qH e.grow args ⟨fr,H,V,m,mv⟩=s at *;unfold zNJ at h⊢;refine zYN (st:=s) rfl rfl h λa b c d=>⟨d.1,?_⟩
 have:=d.2;split at this
 .refine i _ _ _ this ?_
  unfold zM5;cases inpl e.grow<;>exact⟨rfl,rfl,rfl,rfl,λt=>by rw[←g2],λt=>rfl⟩
 .exact this.elim
theorem zVk{t:TOp}(d:∀x∈t.o.op.qb,x.ev G fr=x.ev G fr')(i:∀v n s,C v n->SameQ fr fr' n s->C' v s)(h:zDZ G tb ⟨fr,H,V,m,mv⟩ t C):zDZ G tb ⟨fr',H,V,m,mv⟩ t C':=by
 unfold zDZ at h⊢;split at h
 .exact zfT d i h
 .rename_i q z;unfold zRh at h⊢;split at h
  .rename_i f args b;rw[b]at d;have l:evs G fr args=evs G fr' args:=zEZ λy j=>d y (by simp[XO.qb,j])
   simp only[←l];cases hl:zM6 q f with
   |none=>rw[hl]at h;exact h.elim
   |some e=>
    rw[hl]at h;simp only at h⊢;cases hv:evs G fr args with
    |none=>rw[hv]at h;exact h.elim
    |some A=>rw[hv]at h;exact zV7 i h
  .rename_i p args b;rw[b]at d;have l:evs G fr args=evs G fr' args:=zEZ λy j=>d y (by simp[XO.qb,j])
   have B:=d p (by simp[XO.qb])
   simp only[←l,←B];cases hf:p.ev G fr with
   |none=>rw[hf]at h;exact h.elim
   |some D=>
    rw[hf]at h;cases D with
    |func fn first u=>
     cases fn with
     |func f=>
      simp only at h⊢;cases hl:zM6 q f with
      |none=>rw[hl]at h;exact h.elim
      |some e=>
       rw[hl]at h;simp only at h⊢;cases hv:evs G fr args with
       |none=>rw[hv]at h;exact h.elim
       |some A=>rw[hv]at h;exact zV7 i h
     |_=>exact h.elim
    |_=>exact h.elim
  .exact h.elim
end
theorem HV.refl(s:Sta):HV s s:=⟨rfl,rfl,rfl,rfl⟩
theorem HV.trans{a b c:Sta}(h:HV a b)(k:HV b c):HV a c:=⟨k.H.trans h.H,k.V.trans h.V,k.m.trans h.m,k.mv.trans h.mv⟩
theorem HV.symm{a b:Sta}(h:HV a b):HV b a:=⟨h.H.symm,h.V.symm,h.m.symm,h.mv.symm⟩
section
variable{G:Cx}{tb:TblS}{s s1 r:Sta}{t:TOp}
theorem cls1(b:t.h=none)(h:clsQ t=1):zgl t.o.op:=by
 obtain⟨⟨d,op,g⟩,f,e⟩:=t;simp only at b;subst b;simp only[clsQ]at h;cases op<;>first|trivial|(simp[zAn]at h;done)|(simp only at h;split at h<;>cases h;done)
theorem cls0(b:t.h=none)(h:clsQ t=0):(zAn t.o.op=0/\∀x,t.o.op≠.wj x)\/(isC t.ks=true/\((∃x sz f,t.o.op=.load x sz f)\/∃len sz z i,t.o.op=.qx len sz z i)):=by
 obtain⟨⟨d,op,g⟩,l,j⟩:=t;simp only at b;subst b;simp only[clsQ]at h;cases op<;>first|(simp[zAn]at h;done)|exact .inl ⟨rfl,λx e=>by cases e⟩|(simp only at h;split at h<;>cases h;done)|skip
 .simp only at h;split at h
  .cases h
  .exact .inr ⟨rfl,.inr ⟨_,_,_,_,rfl⟩⟩
  .cases h
 .simp only at h;split at h
  .rename_i hc;exact .inr ⟨hc,.inl ⟨_,_,_,rfl⟩⟩
  .cases h
theorem zbt{fr:Fr}{H H2:Heap}{V V2:Vecs}{m m2 mv mv2:Nat}{len sz:Nat}{z:JE}{e:List (Nat×Nat×XV)}{b:List K}(hc:isC b=true){C C':AV->Sta->Prop}(d:∀v,C v ⟨fr,H,V,m,mv⟩->C' v ⟨fr,H2,V2,m2,mv2⟩)(h:wop G tb ⟨fr,H,V,m,mv⟩ (.qx len sz z e) b C):wop G tb ⟨fr,H2,V2,m2,mv2⟩ (.qx len sz z e) b C':=by
 cases b with
 |nil=>cases hc
 |cons f b=>
  cases f with
  |c u=>
   simp only[wop]at h⊢;split at h
   .exact d _ h
   .exact h.elim
  |_=>cases hc
theorem zbu{fr:Fr}{H H2:Heap}{V V2:Vecs}{m m2 mv mv2:Nat}{x:XV}{sz:Nat}{f:Bool}{b:List K}(hc:isC b=true){C C':AV->Sta->Prop}(d:∀v,C v ⟨fr,H,V,m,mv⟩->C' v ⟨fr,H2,V2,m2,mv2⟩)(h:wop G tb ⟨fr,H,V,m,mv⟩ (.load x sz f) b C):wop G tb ⟨fr,H2,V2,m2,mv2⟩ (.load x sz f) b C':=by
 cases hx:x.ev G fr with
 |none=>simp only[wop,hc,hx]at h
 |some a=>
  cases a with
  |qd e off=>
   simp only[wop,hc,hx,xoS,zHh]at h⊢;cases hp:part e.cells off sz f with
   |none=>rw[hp]at h;exact h.elim
   |some v=>rw[hp]at h;exact d _ h
  |_=>simp only[wop,hc,hx]at h
structure Fit(G:Cx)(t:TOp)(s r:Sta):Prop where
 ag:∀g∈zM2 t.o.op.qb,r.fr.get g=s.fr.get g
 gd:∀g b,t.o.guard=some (g,b)->r.fr.get g=s.fr.get g
 c1:clsQ t=1->r.V=s.V/\r.mv=s.mv/\∃ms,Ext1 s.H r.H s.mv ms/\∀g v,XV.t g∈t.o.op.qb->s.fr.get g=some v->CP s.mv ms v
 c2:2<=clsQ t->HV s r
theorem zbv(Y:GPP G)(F:zy t.o.op=true)(A:Fit G t s r){C C':AV->Sta->Prop}(O:clsQ t<=1->∀v b,C v b->HV s b)
  (y:∀v b x,C v b->(∀g,b.fr.get g=s.fr.get g)->(∀g,x.fr.get g=r.fr.get g)->(clsQ t<=1->HV r x)->(2<=clsQ t->HV b x)->C' v x) (h:zDZ G tb s t C):zDZ G tb r t C':=by
 obtain⟨fr,H,V,m,mv⟩:=s;obtain⟨fr',H',U,X,D⟩:=r;have M:∀x∈t.o.op.qb,x.ev G fr=x.ev G fr':=λx W=>by
  cases x with
  |t n=>exact(A.ag n (zGS W)).symm
  |_=>rfl
 by_cases hc:2<=clsQ t
 .obtain⟨J,l,K,u⟩:=A.c2 hc;simp only at J l K u;subst J;subst l;subst K;subst u;exact zVk M (λv b x h q=>y v b x h q.f0 q.f (λh=>by omega) λ_=>⟨q.H,q.V,q.m,q.mv⟩) h
 .have j:clsQ t<=1:=by omega
  have h1:=zVk (C':=λv x=>∃b,C v b/\SameQ fr fr' b x) M (λv b x h q=>⟨b,h,q⟩) h
  have d:t.h=none:=by
   cases hh:t.h with
   |none=>rfl
   |some es=>unfold clsQ at j;rw[hh]at j;simp at j
  unfold zDZ at h1⊢;rw[d]at h1⊢;have i:∀{v:AV}{f:Fr}{H2:Heap}{V2:Vecs}{m2 mv2:Nat},H2=H'->V2=U->m2=X->mv2=D->(∃b,C v b/\SameQ fr fr' b ⟨f,H,V,m,mv⟩)->C' v ⟨f,H2,V2,m2,mv2⟩:=λ{v f H2 V2 m2 mv2} q1 q2 R T ⟨b,h,q⟩=>by
   subst q1;subst q2;subst R;subst T;exact y v b _ h q.f0 q.f (λ_=>⟨rfl,rfl,rfl,rfl⟩) λh=>by omega
  by_cases p:clsQ t=1
  .obtain⟨l,u,ms,N,B⟩:=A.c1 p;simp only at l u;subst l;subst u;refine zbs Y F N (λg v I hv=>B g v I (by rw[←hv];exact(A.ag g (zGS I)).symm)) (cls1 d p) (λv h=>i rfl rfl rfl rfl h) h1
  .have Q:clsQ t=0:=by omega
   rcases cls0 d Q with hk|⟨hk,⟨x,S,ag,e⟩|⟨len,S,z,ps,e⟩⟩
   .refine zbr hk.1 hk.2 (λv x ⟨b,h,q⟩=>?_) (λv f h=>i rfl rfl rfl rfl h) h1
    rw[q.mv];exact(O j v b h).mv
   .rw[e]at h1⊢;exact zbu hk (λv h=>i rfl rfl rfl rfl h) h1
   .rw[e]at h1⊢;exact zbt hk (λv h=>i rfl rfl rfl rfl h) h1
theorem zah(M:GPP G)(J:zy t.o.op=true)(n:Fit G t s r)(u:clsQ t<=1->HV s s1)(h:zGu G tb s t (λx=>x=s1)){k:Sta->Prop}
  (hk:∀x,(clsQ t<=1->HV r x)->(2<=clsQ t->HV s1 x)->(∀g,x.fr.get g=if t.o.dst=some g then s1.fr.get g else r.fr.get g)->k x):zGu G tb r t k:=by
 have j:∀{x:Sta}{v:AV}{g:Nat},(x.put t.o.dst v).fr.get g=if t.o.dst=some g then some v else x.fr.get g:=λ{x v g}=>by
  cases hd:t.o.dst with
  |none=>simp[Sta.put,qu]
  |some d=>
   show(x.fr.put d v).get g=_
   rw[Fr.qq];simp
 have i:∀(x:Sta)(v:AV),HV x (x.put t.o.dst v):=λx v=>by
  cases t.o.dst<;>exact⟨rfl,rfl,rfl,rfl⟩
 have q:∀{s r:Sta},Fit G t s r->(clsQ t<=1->HV s s1)->(∀x,(clsQ t<=1->HV r x)->(2<=clsQ t->HV s1 x)->(∀g,x.fr.get g=if t.o.dst=some g then s1.fr.get g else r.fr.get g)->k x)->zDZ G tb s t (λv x=>∃l,WK v l/\x.put t.o.dst l=s1)->zDZ G tb r t (λv x=>∃l,WK v l/\k (x.put t.o.dst l)):=λ{s r} n u hk h=>by
  refine zbv M J n (λy v I ⟨l,_,e⟩=>?_) (λv I x ⟨l,K,e⟩ f0 f D F=>⟨l,K,hk _ (λy=>(D y).trans (i x l)) (λB=>?_) λg=>?_⟩) h
  .have:=i I l;rw[e]at this;exact(u y).trans this.symm
  .have z:=i I l;rw[e]at z;exact z.symm.trans ((F B).trans (i x l))
  .rw[j,←e,j];split
   .rfl
   .exact f g
 have skip:∀{s r:Sta},(clsQ t<=1->HV s s1)->Fit G t s r->(∀x,(clsQ t<=1->HV r x)->(2<=clsQ t->HV s1 x)->(∀g,x.fr.get g=if t.o.dst=some g then s1.fr.get g else r.fr.get g)->k x)->s.put t.o.dst (.qc [])=s1->k (r.put t.o.dst (.qc [])):=λ{s r} u n hk e=>by
  refine hk _ (λ_=>i r _) (λB=>?_) λg=>?_
  .have z:=i s (.qc []);rw[e]at z;exact z.symm.trans ((n.c2 B).trans (i r _))
  .rw[j,←e,j];split<;>rfl
 unfold zGu at h⊢;cases hg:t.o.guard with
 |none=>
  rw[hg]at h;exact q n u hk h
 |some p=>
  obtain⟨g,b⟩:=p;rw[hg]at h;simp only at h⊢;rw[n.gd g b hg];split at h
  .rename_i c hc;have A:r.fr.get g=some (.bool c):=(n.gd g b hg).trans hc;unfold brT at h⊢;rcases zFR h with⟨rfl,h⟩|⟨rfl,h⟩
   .simp only[Br,qp A]at h⊢;simp only[qp hc]at h;cases b with
    |true=>exact q n u hk h
    |false=>exact skip u n hk h
   .simp only[Br,qp A]at h⊢;simp only[qp hc]at h;cases b with
    |true=>exact skip u n hk h
    |false=>exact q n u hk h
  .exact skip u n hk h
  .exact h.elim
end
section
variable{G:Cx}{tb:TblS}{s s1:Sta}{t:TOp}
theorem zRs{n:Int}{l:Nat}{k:Nat->Prop}(h:0<=n/\n<.ofNat l)(hk:zKt n l k):∃m,k m:=by
 obtain⟨m,rfl⟩:=Int.eq_ofNat_of_zero_le h.1;exact⟨m,zFX hk m (Int.ofNat_lt.1 h.2) rfl⟩
theorem zKy{x:Option Out}{C:AV->Sta->Prop}(h:WXd s x C):∃v x,C v x:=by
 unfold WXd at h;split at h
 .exact⟨_,_,h⟩
 .exact h.elim
theorem zV8{n:Int}{lo b:JF}{k:Int->Int->Prop}(h:zMb n lo b k):∃l u,k l u:=by
 cases lo with
 |none=>
  cases b with
  |none=>exact⟨_,_,h⟩
  |some u=>cases u<;>first|exact⟨_,_,h.2⟩|exact h.elim
 |some l=>
  cases l with
  |int d l=>
   cases b with
   |none=>exact⟨_,_,h.2⟩
   |some u=>cases u<;>first|exact⟨_,_,h.2⟩|exact h.elim
  |_=>exact h.elim
theorem zXD{f:Nat}{vs:JE}{C:AV->Sta->Prop}(h:zEW tb f vs s C):∃v x,C v x:=by
 unfold zEW at h;split at h
 .obtain⟨_,_,_,_,v,_,h⟩:=zG6 h;exact⟨_,_,h⟩
 .split at h
  .obtain⟨_,_,_,_,v,_,h⟩:=zG6 h;split at h
   .exact⟨_,_,h⟩
   .exact h.elim
  .exact h.elim
theorem zRt{o:XO}{d:List K}{C:AV->Sta->Prop}(h:wop G tb s o d C):∃v x,C v x:=by
 cases o<;>try (exact h.elim)
 all_goals try (exact zKy h)
 case q9 x i l sz ag=>
  simp only[wop]at h;split at h
  .exact zKy h
  .split at h
   .obtain⟨m,h⟩:=zRs h.1 h.2;exact zKy h
   .exact h.elim
 case qy x i l sz=>
  simp only[wop]at h;split at h
  .exact zKy h
  .split at h
   .obtain⟨m,h⟩:=zRs h.1 h.2;exact zKy h
   .exact h.elim
 case pick c a b=>
  simp only[wop]at h;split at h
  .split at h
   .rcases zFR h with⟨_,h⟩|⟨_,h⟩
    .split at h
     .exact⟨_,_,h⟩
     .exact h.elim
    .split at h
     .exact⟨_,_,h⟩
     .exact h.elim
   .exact zKy h
  .exact h.elim
 case wC x lo hi=>
  simp only[wop]at h;split at h
  .split at h
   .split at h
    .obtain⟨l,u,h⟩:=zV8 h;exact⟨_,_,h⟩
    .exact h.elim
   .exact h.elim
  .exact h.elim
 case wv x lo hi mx sz=>
  simp only[wop]at h;split at h
  .split at h
   .split at h
    .split at h
     .split at h
      .obtain⟨l,u,h⟩:=zV8 h;exact⟨_,_,h⟩
      .exact h.elim
     .exact h.elim
    .exact h.elim
   .exact h.elim
  .exact zKy h
  .exact h.elim
 case call f xs=>
  simp only[wop]at h;split at h
  .exact zXD h
  .exact h.elim
 case qM fx xs=>
  simp only[wop]at h;split at h
  .split at h
   .exact zXD h
   .exact h.elim
  .exact h.elim
 all_goals
  simp only[wop]at h
  repeat' split at h
  all_goals first
   |exact h.elim
   |exact⟨_,_,h⟩
   |(obtain⟨m,h⟩:=zRs h.1 h.2;exact zKy h)
   |exact⟨_,_,h.2⟩
   |exact zKy h
   |(obtain⟨_,_,h⟩:=h;exact⟨_,_,h⟩)
theorem zbw{hm d:JV}{vs:JE}{st:Sta}{k:JE->Heap->Vecs->Prop}(h:zE8 hm d vs st k):∃a b c,k a b c:=by
 unfold zE8 at h
 repeat' split at h
 all_goals first|exact h.elim|exact⟨_,_,_,h⟩
theorem zbx{e:HEnt}{args:JE}{C:AV->Sta->Prop}(h:zHn e args s C):∃v x,C v x:=by
 unfold zHn zNJ at h;obtain⟨a,b,c,h⟩:=zbw h;have:=h.2;split at this
 .exact⟨_,_,this⟩
 .exact this.elim
theorem zeA{C:AV->Sta->Prop}(h:zDZ G tb s t C):∃v x,C v x:=by
 unfold zDZ at h;split at h
 .exact zRt h
 .unfold zRh at h
  repeat' split at h
  all_goals first|exact h.elim|exact zbx h
theorem zYO{g:Nat}(h:zGu G tb s t (λx=>x=s1))(n:t.o.dst≠some g):s1.fr.get g=s.fr.get g:=by
 have f:∀{x:Sta}{v:AV},(x.put t.o.dst v).fr.get g=x.fr.get g:=λ{x v}=>by
  cases hdd:t.o.dst with
  |none=>rfl
  |some d=>
   show(x.fr.put d v).get g=_
   rw[Fr.qq,if_neg]
   rintro rfl
   exact n hdd
 have j:zDZ G tb s t (λv x=>∃l,WK v l/\x.put t.o.dst l=s1)->s1.fr.get g=s.fr.get g:=λh=>by
  obtain⟨fr,H,V,m,mv⟩:=s;have:=zVk (fr':=fr) (C':=λ_ _=>s1.fr.get g=fr.get g) (λx _=>rfl) (λv y x ⟨l,_,e⟩ q=>by rw[←e,f];exact q.f0 g) h
  obtain⟨_,_,h⟩:=zeA this;exact h
 unfold zGu at h;split at h
 .exact j h
 .split at h
  .rename_i b p u c hc;unfold brT at h;rcases zFR h with⟨rfl,i⟩|⟨rfl,i⟩
   .simp only[qp hc]at i;cases b with
    |true=>exact j i
    |false=>
     have i:s.put t.o.dst (.qc [])=s1:=i;rw[←i,f]
   .simp only[qp hc]at i;cases b with
    |true=>
     have i:s.put t.o.dst (.qc [])=s1:=i;rw[←i,f]
    |false=>exact j i
  .have h:s.put t.o.dst (.qc [])=s1:=h;rw[←h,f]
  .exact h.elim
end
def frL(c:Nat->Sta)(ts:List TOp)(L:Nat->Bool):Nat->Nat->JF
 |0,g=>(c 0).fr.get g
 |k+1,g=>match ts[k]? with
  |some t=>if L k=true/\t.o.dst=some g then(c (k+1)).fr.get g else frL c ts L k g
  |none=>frL c ts L k g
section
variable{G:Cx}{tb:TblS}{lo:Option Nat}{c:Nat->Sta}{ts:List TOp}{L:Nat->Bool}{g:Nat}
theorem zRu(ch:ChQ G tb lo ts c){i:Nat}(h:∀k t,k<i->ts[k]?=some t->t.o.dst=some g->L k=true):∀k,k<=i->k<=ts.length->frL c ts L k g=(c k).fr.get g
 |0,_,_=>rfl
 |k+1,hk,f=>by
  have b:ts[k]?=some ts[k]:=QF (by omega)
  simp only[frL,b];split
  .rfl
  .rename_i d;rw[zRu ch h k (by omega) (by omega)]
   refine(zYO (ch.st k _ b) λe=>d ⟨h k _ (by omega) b e,e⟩).symm
theorem zOA{i:Nat}(h:∀k t,i<=k->ts[k]?=some t->L k=true->t.o.dst≠some g):∀k,i<=k->frL c ts L k g=frL c ts L i g
 |0,hk=>by
   have:i=0:=by omega
   subst this;rfl
 |k+1,hk=>by
  by_cases e:i=k+1
  .subst e;rfl
  .simp only[frL];cases ht:ts[k]? with
   |none=>exact zOA h k (by omega)
   |some t=>
    simp only;rw[if_neg λb=>h k t (by omega) ht b.1 b.2]
    exact zOA h k (by omega)
theorem zTk(ch:ChQ G tb lo ts c){a:Nat}:∀b,a<=b->b<=ts.length->(∀k t,a<=k->k<b->ts[k]?=some t->clsQ t<=1)->HV (c a) (c b)
 |0,h,_,_=>by
   have:a=0:=by omega
   subst this;exact HV.refl _
 |b+1,h,i,f=>by
  by_cases e:a=b+1
  .subst e;exact HV.refl _
  .have d:ts[b]?=some ts[b]:=QF (by omega)
   exact(zTk ch b (by omega) (by omega) λk t h1 j=>f k t h1 (by omega)).trans (ch.hv b _ d (f b _ (by omega) (by omega) d))
structure AlQ(lo:Option Nat)(s r:Sta):Prop where
 V:r.V=s.V
 mv:r.mv=s.mv
 m:s.m<=r.m
 g:∀h,h<zEX lo s.m->r.H.get h=s.H.get h
theorem zTl(ch:ChQ G tb lo ts c){a:Nat}:∀b,a<=b->b<=ts.length->(∀k t,a<=k->k<b->ts[k]?=some t->clsQ t<=2)->AlQ lo (c a) (c b)
 |0,h,_,_=>by
   have:a=0:=by omega
   subst this;exact⟨rfl,rfl,QA _,λ_ _=>rfl⟩
 |b+1,h,u,l=>by
  by_cases e:a=b+1
  .subst e;exact⟨rfl,rfl,QA _,λ_ _=>rfl⟩
  .have f:ts[b]?=some ts[b]:=QF (by omega)
   have i:=zTl ch b (by omega) (by omega) λk t h1 j=>l k t h1 (by omega)
   have hc:=l b _ (by omega) (by omega) f
   by_cases j:clsQ ts[b]=2
   .obtain⟨q1,p,n,o⟩:=ch.al b _ f j;exact⟨q1.trans i.V,p.trans i.mv,Qj i.m n,λh d=>(o h (Qf d (zV0 i.m))).trans (i.g h d)⟩
   .have q:=ch.hv b _ f (by omega)
    exact⟨q.V.trans i.V,q.mv.trans i.mv,by rw[q.m];exact i.m,λh d=>by rw[q.H];exact i.g h d⟩
end
section
variable{P:Program}{G:Cx}{nt:Nat}{E:Env}{w:World}{a:Act}{β:Nat->Option Nat}{st:Sta}
 {Z0 B0:Nat->Prop} {w0:World} {dl:List Deferred} {tb:TblS}
theorem Rs.same{s:Sta}(r:Rs G nt Z0 B0 w0 dl E w a st)(h:HV st s)(d:∀g,s.fr.get g=st.fr.get g):Rs G nt Z0 B0 w0 dl E w a s:=by
 obtain⟨fr,H,V,m,mv⟩:=s;obtain⟨f,b,i,j⟩:=h;simp only at f b i j;subst f;subst b;subst i;subst j;obtain⟨β,s,n,l⟩:=r.out;exact⟨β,⟨s.hr,⟨s.hf.size,λt u e=>s.hf.get t u (by rw[←d t];exact e)⟩,s.hg,s.qz,λt u e=>s.qW t u (by rw[←d t];exact e),s.cH,s.qT,s.vp,s.bz,s.qS⟩,n,l⟩
theorem zRv{n:Nat}:∀{l:JV},zFL n l=true↔n∈l
 |[]=>by simp[zFL]
 |a::r=>by
  simp only[zFL];split
  .rename_i h;simp[zc h]
  .rename_i h;have:=zBX h;rw[zRv];simp[this]
theorem zRw{x y:Option Nat}{i f:XD}(h:zKp x i y f=true):(∀d,x=some d->d ∉ f.looks)/\(∀d,y=some d->d ∉ i.looks)/\(∀d,x=some d->y≠some d):=by
 simp only[zKp,qr]at h;obtain⟨⟨h1,j⟩,l⟩:=h;refine⟨λd e b=>?_,λd e b=>?_,λd e n=>?_⟩
 .subst e;simp[zRv.2 b]at h1
 .subst e;simp[zRv.2 b]at j
 .subst e;subst n;simp at l
theorem zXE(bb:TbW P G tb)(hG:GPP G)(hm:zCa P G)(aw:P.follows .mixedOrders=true){pn:JV}{id:Nat}{ops:Array Oper}{ts:List TOp}{ds:List XD}{Q:Exit->Act->World->Prop}(hc:zS P (.region id ops true)=some (.draw (ts.map TOp.o) ds))(aq:zGs nt (.draw (ts.map TOp.o) ds)=true)
  (ar:∀t∈ts,zy t.o.op=true) (bi:∀t∈ts,∀es,t.h=some es->∀e∈es,HOK P G e) (bj:∀t∈ts,∀n,t.o.dst=some n->n ∉ pn) (hq:(zKv ts ds&&zMU 0 [] [] [] ts ds)=true) {lo:Option Nat} {c:Nat->Sta} (h0:c 0=st) (ch:ChQ G tb lo ts c) (r:Rs G nt Z0 B0 w0 dl E w a st)
  (hQ:∀E' w' a',Rs G nt Z0 B0 w0 dl E' w' a' (c ts.length)->At pn a a'->Q .normal a' w'):(Code.region id ops true).wp P Q a w:=by
 rw[qr]at hq;have ao:=zS5 hq.1;have T:=zMe hq.2;simp only[zS]at hc;split at hc
 rotate_left
 .cases hc
 rename_i ba;split at hc
 rotate_left
 .cases hc
 rename_i I;simp only[QN,XC.draw.injEq]at hc;obtain⟨e1,e2⟩:=hc;obtain⟨hl,ha,aj⟩:=zXA (P:=P) ba;rw[e2]at hl ha I;rw[e1]at I;have bk:ts.length=ops.size:=by
  have:=congrArg List.length e1
  simpa using this.symm
 have a8:∀(i:Nat) o,ops[i]?=some o->∃t,ts[i]?=some t/\t.o=zu P ops o:=λi o ho=>by
  have h1:(ops.toList.map (zu P ops))[i]?=some (zu P ops o):=by simp[ho]
  rw[e1,Qn]at h1;cases y:ts[i]? with
  |none=>rw[y]at h1;cases h1
  |some t=>rw[y]at h1;exact⟨t,rfl,by simpa using h1⟩
 have X:∀(i:Nat) t,ts[i]?=some t->∃d,ds[i]?=some d:=λi t y=>by
  have:=(QB.1 y).1;exact⟨ds[i],QF (by omega)⟩
 have Y:∀(j k:Nat) tj tk dj F,j<k->ts[j]?=some tj->ts[k]?=some tk->ds[j]?=some dj->ds[k]?=some F->F.qe.testBit j=true\/zKp tj.o.dst dj tk.o.dst F=true:=λj k tj tk dj F be h1 O M h4=>by
  have:=(zNH I k tk.o F (by simp[O]) h4).2 j tj.o dj be (by simp[h1]) M
  simpa using this
 refine wp_region_any aw ?_
 have r':Rs G nt Z0 B0 w0 dl E { w with drawn:=w.drawn+1 } a st:=by
  obtain⟨β,s,kp,df⟩:=r.out;obtain⟨d1,d2⟩:=zJV (w':={ w with drawn:=w.drawn+1 }) s.hr ⟨rfl,rfl,rfl,rfl⟩ st.m
  have:=s.steps d1 d2 ⟨s.hf.size,λt u y=>d2.vr s.hr (s.hf.get t u y)⟩ s.qW s.cH
  exact⟨β,this.1,kp.trans this.2,df⟩
 refine zZg hl ha aj (λn L a' w'=>(∀(k:Nat) F,L k=true->ds[k]?=some F->∀j,F.qe.testBit j=true->L j=true)/\∃D E' K,K<=ts.length/\(∀(b:Nat) t,ts[b]?=some t->2<=clsQ t->(L b=true↔b<K))/\HV (c K) D/\(∀g,D.fr.get g=frL c ts L ts.length g)/\Rs G nt Z0 B0 w0 dl E' w' a' D/\At pn a a') ?_ ?_ ops.size _ a _ (by simp) (by simp) ?_ ⟨λk F hk=>?_,st,E,0,QI _,λb t _ _=>?_,by rw[h0];exact HV.refl _,λg=>?_,r',.refl⟩
 ·
  rintro L a' w' hall ⟨_,D,E',K,hjc,hb,hv,hf,hr,hat⟩
  refine hQ E' w' a' (hr.same ?_ λg=>?_) hat
  .refine hv.symm.trans (zTk ch _ hjc (QA _) λk t h1 O y=>?_)
   rcases Nat.lt_or_ge 1 (clsQ t)with S|S
   .have:=(hb k t y S).1 (hall k (by omega))
    omega
   .exact S
  .rw[hf g];exact(zRu ch (i:=ts.length) (λk t hk y _=>hall k (by omega)) _ (QA _) (QA _)).symm
 .rintro n L a' w' i o d ⟨S,D,E',K,hjc,hb,hv,hf,hr,hat⟩ ho hd hLi hpre
  have hi:=(Array.getElem?_eq_some_iff.1 ho).1;obtain⟨t,y,et⟩:=a8 i o ho;have J:=QE y;have bn:i<ts.length:=by omega
  obtain⟨aa,ab⟩:=ao i t d y hd;have later:∀(k:Nat) q,i<k->ts[k]?=some q->L k=true->(∀g,q.o.dst=some g->g ∉ d.looks)/\∀g,t.o.dst=some g->q.o.dst≠some g:=λk q hk l z=>by
   obtain⟨F,A⟩:=X k q l;rcases Y i k t q d F hk y l hd A with h|h
   .have:=S k F z A i h;rw[hLi]at this;cases this
   .obtain⟨q1,q2,q3⟩:=zRw h;exact⟨q2,q3⟩
  have R:∀g∈d.looks,D.fr.get g=(c i).fr.get g:=λg U=>by
   rw[hf g,zOA (i:=i) (λk q hk l z e=>?_) ts.length (by omega)]
   .refine zRu ch (λk q hk l e=>?_) i (QA _) (by omega)
    obtain⟨F,A⟩:=X k q l;rcases Y k i q t F d hk l y A hd with h|h
    .exact hpre k h
    .exact absurd U ((zRw h).1 g e)
   .rcases Nat.lt_or_ge i k with ad|ad
    .exact(later k q ad l z).1 g e U
    .have:k=i:=by omega
     subst this;rw[hLi]at z;cases z
  have af:2<=clsQ t->K<=i/\HV (c i) D:=λO=>by
   have h1:K<=i:=by
    rcases Nat.lt_or_ge i K with h|h
    .have:=(hb i t y O).2 h;rw[hLi]at this;cases this
    .exact h
   refine⟨h1,(zTk ch i h1 (by omega) λk q a1 N l=>?_).symm.trans hv⟩
   rcases Nat.lt_or_ge 1 (clsQ q)with p|p
   .have M:=(T.b i t d y hd O).2 k q N l p;rw[QY]at M;have:=(hb k q l p).1 (hpre k M);omega
   .exact p
  obtain⟨β',s',bm,bo⟩:=hr.out;have bc:Fit G t (c i) D:=by
   refine⟨λg U=>R g (aa g U),λg b U=>R g (ab g b U),λh1=>?_,λO=>(af O).2⟩
   rcases Nat.le_total K i with ax|bf
   .have al:=zTl ch i ax (by omega) λk q a1 N l=>by
     rcases Nat.lt_or_ge 2 (clsQ q)with p|p
     .have M:=(T.h i t d y hd h1).2 k q N l p;rw[QY]at M;have:=(hb k q l (by omega)).1 (hpre k M)
      omega
     .exact p
    obtain⟨ah,ai⟩:=ch.rd i t y h1;have low:∀{x:AV},CP (c i).mv (zEX lo (c i).m) x->CP (c K).mv (c K).m x->CP (c i).mv (zEX lo (c K).m) x:=λhx hy=>by
     rw[al.mv]at hx⊢;exact(hx.min hy).mono (QA _) (zcI al.m)
    refine⟨hv.V.trans al.V.symm,hv.mv.trans al.mv.symm,zEX lo (c K).m,⟨λh hh=>by rw[hv.H];exact(al.g h hh).symm,λh str cs hh U cc a6=>?_⟩,λg v U ay=>?_⟩
    .have O:=ai h str cs (Qf hh (zV0 al.m)) U cc a6;rw[al.g h hh]at U;obtain⟨_,_,e,bg⟩:=(ch.cp K hjc).2.get U;cases e;exact low O (bg cc a6)
    .have:=s'.qW g v (by rw[R g (aa g (zGS U))];exact ay)
     rw[hv.mv,hv.m]at this;exact low (ah g v U ay) this
   .have al:=zTl ch K bf hjc λk q a1 N l=>by
     rcases Nat.lt_or_ge 2 (clsQ q)with p|p
     .have z:=(hb k q l (by omega)).2 N
      obtain⟨F,A⟩:=X k q l;have ad:i<k:=by
       rcases Nat.lt_or_ge i k with h|h
       .exact h
       .have:k=i:=by omega
        subst this;rw[y]at l;cases l;omega
      have M:=(T.r k q F l A p).2 i t ad y h1;rw[QY]at M;have:=S k F z A i M;rw[hLi]at this;cases this
     .exact p
    obtain⟨ah,ai⟩:=ch.rd i t y h1;exact⟨hv.V.trans al.V,hv.mv.trans al.mv,zEX lo (c i).m,⟨λh hh=>by rw[hv.H];exact al.g h hh,ai⟩,ah⟩
  have ag:=zah hG (ar t J) bc (ch.hv i t y) (ch.st i t y) (k:=λx=>(clsQ t<=1->HV D x)/\(2<=clsQ t->HV (c (i+1)) x)/\∀g,x.fr.get g=if t.o.dst=some g then(c (i+1)).fr.get g else D.fr.get g) λx h1 O M=>⟨h1,O,M⟩
  refine zS4 bb hG hm ho et (λdd bh=>?_) (ar t J) (bi t J) (bj t J) ag hr λst2 E2 w2 a2 N ak ae=>⟨λk F hk A j hj=>?_,st2,E2,?_⟩
  .have h1:=QD.1 aq _ (List.mem_map_of_mem (f:=TOp.o) J);rw[et,zDo,bh]at h1
   simpa[Ql]using h1
  .simp only[Bool.or_eq_true,beq_iff_eq]at hk⊢;rcases hk with hk|rfl
   .exact .inl (S k F hk A j hj)
   .rw[hd]at A;cases A;exact .inl (hpre j hj)
  .obtain⟨k1,k2,k3⟩:=N;have az:∀g,st2.fr.get g=frL c ts (λj=>L j||j==i) ts.length g:=λg=>by
    rw[k3 g];by_cases W:t.o.dst=some g
    .rw[if_pos W,zOA (i:=i+1) (λk q hk l z e=>?_) ts.length (by omega)]
     .simp only[frL,y];rw[if_pos ⟨by simp,W⟩]
     .simp only[Bool.or_eq_true,beq_iff_eq]at z;rcases z with z|rfl
      .exact(later k q (by omega) l z).2 g W e
      .omega
    .rw[if_neg W,hf g];have:∀k,frL c ts L k g=frL c ts (λj=>L j||j==i) k g:=by
      intro k
      induction k with
      |zero=>rfl
      |succ k ih=>
       simp only[frL];cases htk:ts[k]? with
       |none=>exact ih
       |some q=>
        simp only[Bool.or_eq_true,beq_iff_eq];by_cases au:k=i
        .subst au;rw[y]at htk;cases htk;rw[if_neg λh=>W h.2,if_neg λh=>W h.2]
         exact ih
        .simp only[au,or_false,ih]
     exact this _
   rcases Nat.lt_or_ge 1 (clsQ t)with O|h1
   .obtain⟨ax,_⟩:=af O;refine⟨i+1,by omega,λb q l ac=>?_,k2 O,az,ak,hat.trans ae⟩
    simp only[Bool.or_eq_true,beq_iff_eq]
    constructor
    .rintro (hLb|rfl)
     .have:=(hb b q l ac).1 hLb;omega
     .omega
    .intro bl;rcases Nat.lt_or_ge b i with h|h
     .have M:=(T.b i t d y hd O).2 b q h l ac;rw[QY]at M;exact .inl (hpre b M)
     .exact .inr (by omega)
   .refine⟨K,hjc,λb q l ac=>?_,hv.trans (k1 h1),az,ak,hat.trans ae⟩
    simp only[Bool.or_eq_true,beq_iff_eq];have a7:b≠i:=by rintro rfl;rw[y]at l;cases l;omega
    simp only[a7,or_false];exact hb b q l ac
 .intro k F hk;by_cases B:k<ops.size
  .simp[B]at hk
  .simp[B]at hk
 .by_cases B:k<ops.size
  .simp[B]at hk
  .simp[B]at hk
 .by_cases B:b<ops.size
  .simp[B]
  .simp[B]
 .have:∀k,frL c ts (λj=>(Array.replicate ops.size false).getD j false) k g=st.fr.get g:=by
   intro k
   induction k with
   |zero=>simp only[frL,h0]
   |succ k ih=>
    simp only[frL];split
    .rw[if_neg ?_]
     .exact ih
     .rintro ⟨h,_⟩
      by_cases B:k<ops.size
      .simp[B]at h
      .simp[B]at h
    .exact ih
  exact(this _).symm
end
section
variable{P:Program}{G:Cx}{nt:Nat}{E:Env}{w:World}{a:Act}{β:Nat->Option Nat}{st:Sta}
 {Z0 B0:Nat->Prop} {w0:World} {dl:List Deferred} {tb:TblS}
theorem SR.uD(hG:GPP G)(s:SR G nt E w a β st){t sz:Nat}(T:st.fr.get t=some .qa):∃E' S,SR G nt E' w a S ⟨st.fr.put t (.sym st.mv),st.H,(st.mv,.vec sz [])::st.V,st.m,st.mv+1⟩/\Kp E.Z (BS E β st.H st.V) w E'.Z (BS E' S st.H ((st.mv,.vec sz [])::st.V)) w:=by
 have hσ:∀i,i<st.mv->(if i=st.mv then Value.slice none 0 0 else E.σ i)=E.σ i:=λi hi=>by
  have:i≠st.mv:=by omega
  simp[this]
 have M:∀{v:AV}{q:Value},CP st.mv st.m v->VR E w v q->VR ⟨E.ρ,E.D,E.Z,λi=>if i=st.mv then .slice none 0 0 else E.σ i⟩ w v q:=λhc O=>
  VR.vl (E:=E) (E':=⟨E.ρ,E.D,E.Z,λi=>if i=st.mv then .slice none 0 0 else E.σ i⟩) (w:=w) (w':=w) (λh _ Y=>⟨Y,rfl⟩) (λb n=>⟨n,rfl⟩) (.refl w) hσ O hc
 have f:∀j d,st.V.get j=some d->j≠st.mv:=λj d h=>by have:=(s.qT j d h).1;omega
 refine⟨⟨E.ρ,E.D,E.Z,λi=>if i=st.mv then .slice none 0 0 else E.σ i⟩,λj=>if j=st.mv then none else β j,⟨⟨s.hr.nodup,s.hr.qz,s.hr.inj,λp R=>?_,s.hr.nz,s.hr.wa⟩,⟨s.hf.size,λu v l=>?_⟩,λg u I=>⟨M (hG g u I).cp (s.hg g u I).1,(s.hg g u I).2⟩,s.qz,λu v l=>?_,s.cH.mono (Qd _) (QA _),λj d h=>?_,λj B i off h=>?_,λj d b h X n=>?_,λj Q d y b h1 o z U J N=>?_⟩,?_⟩
 .obtain⟨str,cs,e,K⟩:=s.cH p R;have:=s.hr.obj p R;rw[e]at this⊢;exact OR.vl rfl (λhc O=>M hc O) K this
 .rw[Fr.qq]at l;split at l
  .rename_i e;subst e;cases l;have W:∀{q:Value},VR E w .qa q->q=.slice none 0 0:=λh=>by cases h;rfl
   rw[W (s.hf.get _ _ T)];exact .sym _ _ (by simp only[if_true]) rfl
  .exact M (s.qW u v l) (s.hf.get u v l)
 .rw[Fr.qq]at l;split at l
  .cases l;exact .sym _ (QX _)
  .exact(s.qW u v l).mono (Qd _) (QA _)
 .rw[Vecs.qh]at h;split at h
  .rename_i e;subst e;cases h;exact⟨QX _,λe he=>(by cases he),.inl ⟨by simp,by simp,rfl⟩⟩
  .have h1:=s.qT j d h;refine⟨Nat.lt_succ_of_lt h1.1,h1.2.mono (by simp[f j d h]) (λ_=>by simp[f j d h]) (λb _ _=>rfl) (λb n=>⟨n,rfl⟩) (.refl w) λB i off e sz es A=>?_⟩
   subst e;have:=s.vp j B i off h;rw[Vecs.qh,if_neg (by omega)]at A
   have F:B≠st.mv:=by omega
   exact⟨by simp[F],es,A,rfl⟩
 .rw[Vecs.qh]at h;split at h
  .cases h
  .exact Nat.lt_succ_of_lt (s.vp j B i off h)
 .rw[Vecs.qh]at h;split at h
  .rename_i e;subst e;simp at n
  .simp only[if_neg (f j d h)]at n;exact s.bz j d b h X n
 .rw[Vecs.qh]at h1 o;split at h1
  .rename_i e;subst e;simp at J
  .split at o
   .rename_i e;subst e;simp at N
   .simp only[if_neg (f j d h1)]at J;simp only[if_neg (f Q y o)]at N;exact s.qS j Q d y b h1 o z U J N
 .refine Kp.less λx hx=>?_
  rcases hx with h|⟨j,d,h1,o,z⟩
  .exact .inl h
  .rw[Vecs.qh]at h1;split at h1
   .rename_i e;subst e;simp at z
   .simp only[if_neg (f j d h1)]at z;exact .inr ⟨j,d,h1,o,z⟩
theorem SR.uT(hG:GPP G)(s:SR G nt E w a β st){t j sz l:Nat}{es fl:JE}(ht:st.fr.get t=some (.sym j))(K:st.V.get j=some (.vec sz es))(hl:l=es.length)(h0:1<=l)(hf:flatten sz es=some fl):
  ∃E' β',SR G nt E' w a β' ⟨st.fr.put t (.row st.m 0 l sz 0 false),(st.m,.cells true fl)::st.H,st.V.del j,st.m+1,st.mv⟩/\Kp E.Z (BS E β st.H st.V) w E'.Z (BS E' β' ((st.m,.cells true fl)::st.H) (st.V.del j)) w:=by
 obtain⟨D,⟨_,_,rfl⟩|⟨b,str,R,cp,ex,v⟩⟩:=zIf s K
 .simp at hl;omega
 have q:fl=R.take (es.length*sz):=by
  have:=v.ud;rw[hf]at this;exact Qw this
 have W:OR E w b (.cells true fl):=by
  obtain⟨c,e,f,h1,A,y,B⟩:=v.um;refine⟨c,e,f,h1,by rw[q,Qh];omega,y.imp id λh=>⟨rfl,h.2⟩,λi x z=>B i x ?_⟩
  rw[q,List.getElem?_take]at z;split at z
  .exact z
  .cases z
 have F:zJj w b l sz 0 false (E.σ j):=by
  rcases v.row with⟨a,_,h,_⟩|⟨cap,h1,A,y,B,h5,h6,h7⟩
  .omega
  .exact .inr ⟨cap,by rw[h1,hl],by omega,y,B,QI _,λh=>(by cases h),h7⟩
 have Q:=s.bz j _ b K rfl v.hb;have T:∀o Y,(some (b,HO.cells true fl):XB)=some (o,Y)->OR E w o Y/\¬E.Z o/\∀p∈st.H,E.ρ p.1≠o:=λo Y e=>by
  cases e;exact⟨W,Q⟩
 have O:∀c∈fl,PP c:=λc hc=>v.pc c (QT (q▸hc))
 have hm:∀{x:AV}{cv:Value},VR E w x cv->VR (zB3 E st.m (some (b,.cells true fl))) w x cv:=λh=>zMc s h
 have M:∀p∈st.H,p.1≠st.m:=λp d e=>by have:=s.qz _ (s.hr.qz p d);omega
 have hρ:∀p∈st.H,(zB3 E st.m (some (b,.cells true fl))).ρ p.1=E.ρ p.1:=λp d=>if_neg (M p d)
 have gd:∀{i n},(st.V.del j).get i=some n->j≠i/\st.V.get i=some n:=λ{i n} h=>by
  rw[Vecs.qO]at h;split at h
  .cases h
  .rename_i N;exact⟨N,h⟩
 refine⟨zB3 E st.m (some (b,.cells true fl)),β,⟨zZd s T,zDT s ht (F.vr (by simp[zB3]) (.inr rfl)),λg u hg=>⟨hm (s.hg g u hg).1,(s.hg g u hg).2⟩,λh U=>?_,λu x J=>?_,λp d=>?_,λi n h=>?_,λi j2 k off h=>s.vp i j2 k off (gd h).2,λi n o h ho I=>?_,λi i' n S o h1 A y B h5 h6=>s.qS i i' n S o (gd h1).2 (gd A).2 y B h5 h6⟩,Kp.less λx z=>?_⟩
 .rcases U with U|rfl
  .exact Nat.lt_succ_of_lt (s.qz h U)
  .exact QX _
 .rw[Fr.qq]at J;split at J
  .cases J;exact .row _ _ _ _ _ _ (QX _)
  .exact(s.qW u x J).mono (QA _) (Qd _)
 .rcases QH.1 d with rfl|d
  .exact⟨true,fl,rfl,λc hc=>(O c hc).cp⟩
  .obtain⟨str,R,e,X⟩:=s.cH p d;exact⟨str,R,e,λc hc=>(X c hc).mono (QA _) (Qd _)⟩
 .have h1:=s.qT i n (gd h).2;exact⟨h1.1,h1.2.mono rfl (λ_=>rfl) (λb _ _=>rfl) (λb I=>⟨I,rfl⟩) (.refl w) λj2 k off _ sz es D=>⟨rfl,es,(gd D).2,rfl⟩⟩
 .obtain⟨z1,z2⟩:=s.bz i n o (gd h).2 ho I;refine⟨z1,λp d=>?_⟩
  rcases QH.1 d with rfl|d
  .intro e;have e:(if st.m=st.m then b else E.ρ st.m)=o:=e
   rw[if_pos rfl]at e;subst e;exact(gd h).1 (s.qS j i _ _ b K (gd h).2 rfl ho v.hb I)
  .rw[hρ p d];exact z2 p d
 .rcases z with⟨p,d,e⟩|⟨i,n,h1,A,y⟩
  .rcases QH.1 d with rfl|d
   .have e:(if st.m=st.m then b else E.ρ st.m)=x:=e
    rw[if_pos rfl]at e;exact .inr ⟨j,_,K,rfl,by rw[←e];exact v.hb⟩
   .exact .inl ⟨p,d,by rw[←e,hρ p d]⟩
  .exact .inr ⟨i,n,(gd h1).2,A,y⟩
theorem SR.wz(i:GPP G)(s:SR G nt E w a β st){n:Nat}:∃E' d,SR G nt E' w a d (Sy.wz n st)/\Kp E.Z (BS E β st.H st.V) w E'.Z (BS E' d (Sy.wz n st).H (Sy.wz n st).V) w:=by
 unfold Sy.wz;split
 .rename_i f;split
  .rename_i h;split
   .rename_i b;rw[qr]at b;split
    .rename_i e;exact s.uT i f h (zc b.1) (QS b.2) e
    .exact⟨E,β,s,Kp.refl⟩
   .exact⟨E,β,s,Kp.refl⟩
  .exact⟨E,β,s,Kp.refl⟩
 .exact⟨E,β,s,Kp.refl⟩
theorem Rs.grow(b:GPP G):∀{g:JN}{E:Env}{st:Sta},Rs G nt Z0 B0 w0 dl E w a st->∃E',Rs G nt Z0 B0 w0 dl E' w a (zG5 g st)
 |[],E,st,r=>⟨E,r⟩
 |(t,sz)::g,E,st,r=>by
  simp only[zG5];split
  .split
   .obtain⟨E',l⟩:=Rs.vM (d:=none) (v:=.qc []) (cv:=undef) (λn h=>by cases h) r
    exact Rs.grow b l
   .obtain⟨β,s,k,d⟩:=r.out;obtain⟨E',i,e,f⟩:=SR.wz b s;exact Rs.grow b ⟨i,e,k.trans f,d⟩
  .split
   .rename_i j;obtain⟨β,s,k,d⟩:=r.out;obtain⟨E',i,e,f⟩:=s.uD b j (sz:=sz);exact Rs.grow b ⟨i,e,k.trans f,d⟩
   .rename_i v _ o;split
    .rename_i p q j;obtain⟨β,s,k,d⟩:=r.out;obtain⟨E',i,e,f⟩:=s.uG b o j;exact Rs.grow b ⟨i,e,k.trans f,d⟩
    .exact Rs.grow b r
   .exact Rs.grow b r
  .split
   .rename_i h _ _;obtain⟨β,s,k,d⟩:=r.out;obtain⟨_,E',i,e,f⟩:=SR.qD b (h:=h) (g:=[(Nat.mod t 1000,sz)]) s;exact Rs.grow b ⟨i,e,k.trans f,d⟩
   .exact Rs.grow b r
theorem Rs.cut(e:GPP G){c:Cut}{Q:Inv}(r:Rs G nt Z0 B0 w0 dl E w a st)(h:zVH c Q st):∃vs H V,Q vs H V/\∃b,Rs G nt Z0 B0 w0 dl b w a (mkW c vs H V):=by
 obtain⟨l,i⟩:=r.grow e (g:=c.grow);obtain⟨β,s,k,d⟩:=i.out;obtain⟨vs,H,V,h1,b,j,s1,f⟩:=zfR e s h;exact⟨vs,H,V,h1,b,j,s1,k.trans f,d⟩
theorem zeB(aa:TbW P G tb)(hG:GPP G)(hm:zCa P G)(W:P.follows .mixedOrders=true){pn:JV}:∀(c:Code){F:TC}{gs:JV}{Q:Ext->Sta->Prop}{st:Sta}{QQ:Exit->Act->World->Prop},zS P c=some (er F)->zGs nt (er F)=true->zFN F=true->tcH (HOK P G) F->tcN pn F=true->WT G tb F gs Q st->∀{E w a},Rs G nt Z0 B0 w0 dl E w a st →
  (∀x u E' w' B,Q x u->Rs G nt Z0 B0 w0 dl E' w' B u->At pn a B->QQ (zXi x) B w')->c.wp P QQ a w:=by
 intro c
 induction c with
 |skip=>
  intro F gs Q st QQ hc D q v p h E w a r A;simp only[zS,QN]at hc;cases F<;>cases hc
  exact wp_skip (A .normal st E w a h r .refl)
 |label l=>
  intro F gs Q st QQ hc D q v p h E w a r A;simp only[zS,QN]at hc;cases F<;>cases hc
  exact wp_label (A .normal st E w a h r .refl)
 |ret=>
  intro F gs Q st QQ hc D q v p h E w a r A;simp only[zS,QN]at hc;cases F<;>cases hc
  exact wp_ret (A .ret st E w a h r .refl)
 |exit i=>
  intro F gs Q st QQ hc D q v p h E w a r A;simp only[zS,QN]at hc;cases F<;>cases hc
  exact wp_exit (A (.exit i) st E w a h r .refl)
 |region id ab draw=>
  intro F gs Q st QQ hc D q v p h E w a r A;cases draw with
  |false=>
   simp only[zS,QN]at hc;cases F<;>simp only[er]at hc<;>first|(cases hc;done)|skip
   rename_i ts;injection hc with hc
   have af:∀o∈ab.toList,∀d,o.dst=some d->d<nt:=λo ho d ax=>by
    have D:((ts.map TOp.o).all λo=>match o.dst with|some d=>Nat.blt d nt|none=>true)=true:=D
    rw[←hc]at D;have h1:=QD.1 D _ (List.mem_map_of_mem (f:=zu P ab) ho);rw[zDo,ax]at h1
    simpa[Ql]using h1
   refine wp_region ?_
   have:=zUp aa hG hm (Q:=QQ) (K:=Q .normal) ts ab.toList 0 (λj=>by simp) hc.symm af (λt N=>QD.1 q t N) v (λt N=>zPV (QD.1 p t N)) h r λu E' w' B h1 z=>A .normal u E' w' B h1 z
   rw[List.range_eq_range']
   simpa using this
  |true=>
   have ad:=hc;have:∃xs ds,zS P (.region id ab true)=some (.draw xs ds):=by
    simp only[zS]at hc⊢;split at hc
    .split at hc
     .rename_i S e2;exact⟨_,_,rfl⟩
     .cases hc
    .cases hc
   obtain⟨xs,ds,e⟩:=this;rw[e]at hc;simp only[QN]at hc;cases F<;>simp only[er]at hc<;>first|(cases hc;done)|skip
   .rename_i ay ts ag;simp only[WT]at h;split at h
    .rename_i hD;rw[qr]at hD;simp only[tcN,qr]at p;have ah:∀{t:Nat}{l:JV},inN t l=true->t∈l:=by
      intro t l
      induction l with
      |nil=>intro h;cases h
      |cons a r ih=>
       intro h;simp only[inN]at h;split at h
       .rename_i e;rw[zc e];exact .head _
       .exact .tail _ (ih h)
     exact zYM aa hG hm W ad D (λt N=>QD.1 q t N) (λt N=>zPV (QD.1 p.1 t N)) (λt N=>QD.1 hD.2 t (ah (QD.1 p.2 t N))) hD.1 h r λu E' w' B h1 z=>A .normal u E' w' B h1 z
    .exact h.elim
   .rename_i ts ag;exact zXB aa hG hm W ad D (λt N=>QD.1 q t N) v (λt N=>zPV (QD.1 p t N)) h r λu E' w' B h1 z=>A .normal u E' w' B h1 z
   .rename_i ts ag;obtain⟨hq,lo,c,h0,ar,au⟩:=h;exact zXE aa hG hm W ad D (λt N=>QD.1 q t N) v (λt N=>zPV (QD.1 p t N)) hq h0 ar r λE' w' B z M=>A .normal _ E' w' B au z M
 |seq x y X Y=>
  intro F gs Q st QQ hc D q v p h E w a r A;simp only[zS]at hc;obtain⟨xa,ha,hc⟩:=za hc;obtain⟨xb,T,hc⟩:=za hc;simp only[QN]at hc;cases F<;>simp only[er]at hc<;>first|(cases hc;done)|skip
  .rename_i ta R;injection hc with S e2
   subst S;subst e2;simp only[er,zGs,qr]at D;simp only[zFN,qr]at q;simp only[tcN,qr]at p;refine wp_seq (X ha D.1 q.1 v.1 p.1 h r λx u E' w' B h1 z M=>?_)
   cases x with
   |normal=>exact Y T D.2 q.2 v.2 p.2 h1 z λx2 st2 E2 w2 a2 q1 q2 q3=>A x2 st2 E2 w2 a2 q1 q2 (M.trans q3)
   |exit i=>exact A (.exit i) u E' w' B h1 z M
   |ret=>exact A .ret u E' w' B h1 z M
  .rename_i cc J ta R;injection hc with S e2
   subst S;subst e2;simp only[er,zGs,qr]at D;simp only[zFN,qr]at q;simp only[tcN,qr]at p;obtain⟨aw,aq⟩:=h;refine wp_seq (X ha D.1 q.1 v.1 p.1 aw r λx u E' w' B h1 z M=>?_)
   cases x with
   |normal=>
    obtain⟨vs,H,V,q1,E1,q2⟩:=z.cut hG h1;exact Y T D.2 q.2 v.2 p.2 (aq _ _ _ q1) q2 λx2 st2 E2 w2 a2 r1 r2 r3=>A x2 st2 E2 w2 a2 r1 r2 (M.trans r3)
   |exit i=>exact A (.exit i) u E' w' B h1 z M
   |ret=>exact A .ret u E' w' B h1 z M
 |cond cv x y X Y=>
  intro F gs Q st QQ hc D q v p h E w a r A;simp only[zS]at hc;obtain⟨xv,hv,hc⟩:=za hc;obtain⟨xa,ha,hc⟩:=za hc;obtain⟨xb,T,hc⟩:=za hc;simp only[QN]at hc;cases F<;>simp only[er]at hc<;>first|(cases hc;done)|skip
  rename_i cx ta R;injection hc with e0 S e2
  subst e0;subst S;subst e2;simp only[er,zGs,qr]at D;simp only[zFN,qr]at q;simp only[tcN,qr]at p;simp only[WT]at h;obtain⟨β,s,kp,df⟩:=r.out;split at h
  .rename_i cb aj;have O:=(zP s.hf s.hg hv aj).of_bool;split at h
   .rename_i n;have ac:st.fr.get n=some (.bool cb):=aj;unfold brT at h;rcases zFR h with⟨rfl,z⟩|⟨rfl,z⟩
    .exact wp_cond_true O (X ha D.1 q.1 v.1 p.1 z (r.known ac) A)
    .exact wp_cond_false O (Y T D.2 q.2 v.2 p.2 z (r.known ac) A)
   .rcases zFR h with⟨rfl,z⟩|⟨rfl,z⟩
    .exact wp_cond_true O (X ha D.1 q.1 v.1 p.1 z r A)
    .exact wp_cond_false O (Y T D.2 q.2 v.2 p.2 z r A)
  .exact h.elim
 |block i b ih=>
  intro F gs Q st QQ hc D q v p h E w a r A;simp only[zS]at hc;obtain⟨xb,T,hc⟩:=za hc;simp only[QN]at hc;cases F<;>simp only[er]at hc<;>first|(cases hc;done)|skip
  rename_i j R;injection hc with e0 S
  subst e0;subst S;refine wp_block (ih T D q v p h r λx u E' w' B h1 z M=>?_)
  cases x with
  |normal=>exact A .normal u E' w' B h1 z M
  |ret=>exact A .ret u E' w' B h1 z M
  |exit j=>
   show(if j=i then QQ .normal B w' else QQ (.exit j) B w')
   simp only[zXn]at h1;split at h1
   .rename_i e;rw[if_pos (zc e)];exact A .normal u E' w' B h1 z M
   .rename_i e;rw[if_neg (zBX e)];exact A (.exit j) u E' w' B h1 z M
 |loop b ih=>
  intro F gs Q st QQ hc D q v p h E w a r A;simp only[zS]at hc;obtain⟨xb,T,hc⟩:=za hc;simp only[QN]at hc;cases F<;>simp only[er]at hc<;>first|(cases hc;done)|skip
  .rename_i cc I R _;injection hc with S
   subst S;obtain⟨⟨n0,h0⟩,ae⟩:=h;obtain⟨al,H0,V0,q1,E1,q2⟩:=r.cut hG h0;refine wp_loop_ghost (λn a1 w1=>∃vs H V E,I (n::gs) vs H V/\Rs G nt Z0 B0 w0 dl E w1 a1 (mkW cc vs H V)/\At pn a a1) n0 ⟨al,H0,V0,E1,q1,q2,.refl⟩ ?_
   rintro n a1 w1 ⟨vs,H,V,E2,k1,k2,k3⟩
   refine ih T D q v p (ae n _ _ _ k1) k2 λx u E' w' B h1 z M=>?_
   cases x with
   |normal=>
    obtain⟨n',ao,ai⟩:=h1;obtain⟨ak,H',V',q1,E3,q2⟩:=z.cut hG ai;exact⟨n',ao,ak,H',V',E3,q1,q2,k3.trans M⟩
   |exit i=>exact A (.exit i) u E' w' B h1 z (k3.trans M)
   |ret=>exact A .ret u E' w' B h1 z (k3.trans M)
  .rename_i k R _;injection hc with S
   subst S;refine wp_loop_ghost (λn a1 w1=>∃st E,zSf (λn Q st=>WT G tb R (n::gs) Q st) Q n st/\Rs G nt Z0 B0 w0 dl E w1 a1 st/\At pn a a1) k ⟨st,E,h,r,.refl⟩ ?_
   rintro n a1 w1 ⟨st1,E1,k1,k2,k3⟩
   cases n with
   |zero=>exact k1.elim
   |succ n=>
    refine ih T D q v p k1 k2 λx u E' w' B h1 z M=>?_
    cases x with
    |normal=>exact⟨n,QX n,u,E',h1,z,k3.trans M⟩
    |exit i=>exact A (.exit i) u E' w' B h1 z (k3.trans M)
    |ret=>exact A .ret u E' w' B h1 z (k3.trans M)
 |scope b ih=>
  intro F gs Q st QQ hc D q v p h E w a r A;simp only[zS]at hc;have T:=ih (QQ:=λe a w=>QQ e a w/\∃x,e=zXi x) hc D q v p h r λx u E' w' B h1 z M=>⟨A x u E' w' B h1 z M,x,rfl⟩
  intro b' k cs;obtain⟨e,a₁,w₁,⟨hq,x,rfl⟩,U⟩:=T b' (.inScope b::k) cs;cases x with
  |normal=>exact⟨.normal,a₁,w₁,hq,.head step_scope (Steps.trans U (.one step_inScope))⟩
  |exit id=>exact⟨.exit id,a₁,w₁,hq,λk' hk=>.head step_scope (U k' (by simpa[exitTo]using hk))⟩
  |ret=>exact⟨.ret,a₁,w₁,hq,.of_steps (.one step_scope) U⟩
 |refuse az=>
  intro F gs Q st QQ hc D q v p h E w a r A;simp only[zS,QN]at hc;cases F<;>simp only[er]at hc<;>first|(cases hc;done)|skip
  injection hc with e0 S e2
  subst e0;exact h.elim
 |_=>
  intro F gs Q st QQ hc;simp[zS]at hc
theorem zeC{x y:Code}{z:XC}(h:zdv P x y=some z):∃p m i D j W f d e,z=.seq p (.wR m i D j W f d e):=by
 unfold zdv at h;split at h
 .split at h
  .split at h
   .obtain⟨m,_,h⟩:=za h;obtain⟨b,_,h⟩:=za h;cases h;exact⟨_,_,_,_,_,_,_,_,_,rfl⟩
   .cases h
  .cases h
 .cases h
theorem zdM{f:TC}{m:XV}{h:Nat}{D:JV}{i W e:Nat}{d:List XOper}{b:XC}:er f≠.wR m h D i W e d b:=by
 cases f<;>simp[er]
theorem zby(I:TbW P G tb)(Y:GPP G)(hm:zCa P G)(A:P.follows .mixedOrders=true){pn:JV}:∀(c:Code){l:TC}{gs:JV}{Q:Ext->Sta->Prop}{st:Sta}{QQ:Exit->Act->World->Prop},zNv P c=some (er l)->zGs nt (er l)=true->zFN l=true->tcH (HOK P G) l->tcN pn l=true->WT G tb l gs Q st->∀{E w a},Rs G nt Z0 B0 w0 dl E w a st →
  (∀x b E' w' n,Q x b->Rs G nt Z0 B0 w0 dl E' w' n b->At pn a n->QQ (zXi x) n w')->c.wp P QQ a w:=by
 intro c
 induction c with
 |seq x y F B=>
  intro l gs Q st QQ hc o f j d h E w a r q;simp only[zNv]at hc;split at hc
  .rename_i z hz;simp only[QN]at hc;subst hc;obtain⟨p,m,it,D,en,W,ab,aa,U,e⟩:=zeC hz;cases l<;>simp only[er]at e<;>first|(cases e;done)|skip
   .injection e with _ e2;exact(zdM e2).elim
   .injection e with _ e2;exact(zdM e2).elim
  obtain⟨xa,ha,hc⟩:=za hc;obtain⟨xb,X,hc⟩:=za hc;simp only[QN]at hc;cases l<;>simp only[er]at hc<;>first|(cases hc;done)|skip
  .rename_i ta N;injection hc with e1 e2
   subst e1;subst e2;simp only[er,zGs,qr]at o;simp only[zFN,qr]at f;simp only[tcN,qr]at d;refine wp_seq (F ha o.1 f.1 j.1 d.1 h r λx b E' w' n h1 u v=>?_)
   cases x with
   |normal=>exact B X o.2 f.2 j.2 d.2 h1 u λO st2 M S a2 q1 T q3=>q O st2 M S a2 q1 T (v.trans q3)
   |exit i=>exact q (.exit i) b E' w' n h1 u v
   |ret=>exact q .ret b E' w' n h1 u v
  .rename_i cc J ta N;injection hc with e1 e2
   subst e1;subst e2;simp only[er,zGs,qr]at o;simp only[zFN,qr]at f;simp only[tcN,qr]at d;obtain⟨K,R⟩:=h;refine wp_seq (F ha o.1 f.1 j.1 d.1 K r λx b E' w' n h1 u v=>?_)
   cases x with
   |normal=>
    obtain⟨vs,H,V,q1,E1,T⟩:=u.cut Y h1;exact B X o.2 f.2 j.2 d.2 (R _ _ _ q1) T λO st2 M S a2 r1 r2 r3=>q O st2 M S a2 r1 r2 (v.trans r3)
   |exit i=>exact q (.exit i) b E' w' n h1 u v
   |ret=>exact q .ret b E' w' n h1 u v
 |_=>
  intro l gs Q st QQ hc o f j d h E w a r q;exact zeB I Y hm A _ (by simpa only[zNv]using hc) o f j d h r q
theorem zYP(s:SR G nt E w a β st):∀(d:Nat){v v':AV}{cv:Value},CP st.mv st.m v->VR E w v cv->zCA st.H st.V d v=some v'->VR (zCz E β st.H st.V) w v' cv/\PP v':=by
 have n:∀{v:AV}{cv:Value},PP v->VR E w v cv->VR (zCz E β st.H st.V) w v cv:=λhp l=>VR.pp (E:=E) (E':=zCz E β st.H st.V) (w:=w) (w':=w) (λb Q=>⟨.inl Q,rfl⟩) l hp
 intro d
 induction d with
 |zero=>intro v v' cv _ _ h;cases h
 |succ d ih=>
  intro v v' cv O l h;have K:∀{F M:JE}{vs:JC},(∀e∈F,CP st.mv st.m e)->VRs E w F vs->zF (zCA st.H st.V d) F=some M->VRs (zCz E β st.H st.V) w M vs/\∀e∈M,PP e:=λ{F M vs} hc A Y=>by
   obtain⟨m1,m2⟩:=zCc Y;have key:∀(i:Nat) y u,M[i]?=some y->vs[i]?=some u->VR (zCz E β st.H st.V) w y u/\PP y:=λi y u D I=>by
    have N:i<F.length:=by have:=(QB.1 D).1;omega
    have o:=QF N;exact ih (hc _ (QE o)) (A.2 i _ u o I) (m2 i _ y o D)
   refine⟨⟨m1.trans A.1,λi y u D I=>(key i y u D I).1⟩,λe B=>?_⟩
   obtain⟨i,N⟩:=List.getElem?_of_mem B;have T:i<vs.length:=by have:=(QB.1 N).1;have:=A.1;omega
   exact(key i e _ N (QF T)).2
  cases O with
  |sym j S=>
   simp only[zCA]at h;split at h
   .rename_i sz es hV;cases h;have:frz st.H st.V 1 (.sym j)=some (.qg sz es):=by simp only[frz,hV]
    exact⟨zGT s 1 (.sym j S) l this,.qg _ _ (zIf s hV).1⟩
   .cases h
  |agg cs hc=>
   simp only[zCA]at h;split at h
   .rename_i z p;cases h;obtain⟨vs,rfl,J,R⟩:=l.qY;obtain⟨g1,g2⟩:=K hc J p;exact⟨VR.qN g1 R,.agg _ g2⟩
   .cases h
  |qc cs hc=>
   simp only[zCA]at h;split at h
   .rename_i z p;cases h;obtain⟨vs,rfl,J⟩:=l.vd;obtain⟨g1,g2⟩:=K hc J p;exact⟨VR.qK g1,.qc _ g2⟩
   .cases h
  |ptr hh off hk=>
   simp only[zCA]at h;split at h
   .rename_i str cs hg;split at h
    .rename_i z p;cases h;have q:=Heap.qj hg;have W:=s.hr.obj _ q;obtain⟨vs,J,R,k3⟩:=zPS W;obtain⟨_,_,e1,aa⟩:=s.cH.get hg;cases e1;obtain⟨g1,g2⟩:=K aa J p;refine⟨?_,.qd _ _ (.agg _ g2)⟩
     cases l with
     |ptr _ _ hd=>
      have:=VR.qd (E:=zCz E β st.H st.V) (w:=w) (.agg z) off (E.ρ hh) 0 (.agg vs.toArray) rfl (.inr (.inl ⟨_,q,rfl⟩)) (VR.qN (by simpa using g1) (λv l=>R v (by simpa using l))) (λj c S=>by
       rw[QY];exact k3 j c (by simpa[Value.cells]using S))
      rw[QY]at this;exact this
    .cases h
   .cases h
  |iface t u I=>
   simp only[zCA]at h;split at h
   .rename_i u' U;cases h;cases l with
    |iface _ _ cu X=>
     obtain⟨g1,g2⟩:=ih I X U;exact⟨.iface _ _ cu g1,.iface _ _ g2⟩
   .cases h
  |func f x y ha Q=>
   simp only[zCA]at h;split at h
   .rename_i x' o;split at h
    .rename_i y' D;cases h;cases l with
     |func _ _ _ vf vc hf hc rf rc=>
      obtain⟨⟨g1,g2⟩,p1⟩:=K (vs:=vf.toList) ha ⟨by simpa using hf,λi x v o l=>rf i x v o (by simpa using l)⟩ o
      obtain⟨⟨g3,g4⟩,p2⟩:=K (vs:=vc.toList) Q ⟨by simpa using hc,λi x v o l=>rc i x v o (by simpa using l)⟩ D
      exact⟨.func _ _ _ vf vc (by simpa using g1) (by simpa using g3) (λi x v o l=>g2 i x v o (by simpa using l)) (λi x v o l=>g4 i x v o (by simpa using l)),.func _ _ _ p1 p2⟩
    .cases h
   .cases h
  |qd e off B=>cases h;exact⟨n (.qd _ _ B) l,.qd _ _ B⟩
  |qg sz es B=>cases h;exact⟨n (.qg _ _ B) l,.qg _ _ B⟩
  |bool b=>cases h;exact⟨n (.bool _) l,.bool _⟩
  |int k m=>cases h;exact⟨n (.int _ _) l,.int _ _⟩
  |str s=>cases h;exact⟨n (.str _) l,.str _⟩
  |qm=>cases h;exact⟨n .qm l,.qm⟩
  |qa=>cases h;exact⟨n .qa l,.qa⟩
  |ql=>cases h;exact⟨n .ql l,.ql⟩
  |qk=>cases h;exact⟨n .qk l,.qk⟩
  |qf=>cases h;exact⟨n .qf l,.qf⟩
  |_=>cases h
theorem zNO{n k:Nat}:∀{i:Nat}{args:JE},(∀x∈args,CP n k x)->zFn n k (qE i args)
 |i,[],h,t,v,e=>by cases e
 |i,x::r,h,t,v,e=>by
  simp only[qE,Fr.get]at e;split at e
  .cases e;exact h _ (.head _)
  .exact zNO (λy b=>h y (.tail _ b)) t v e
theorem zHF:∀h:TC,tcN [] h=true
 |.skip|.ret|.exit _=>rfl
 |.wH d=>by
  simp only[tcN,QD];intro t _;cases t.o.dst<;>rfl
 |.draw f d e=>by
  simp only[tcN,List.all_nil,QV,QD];intro t _;cases t.o.dst<;>rfl
 |.wX d e=>by
  simp only[tcN,QD];intro t _;cases t.o.dst<;>rfl
 |.qQ d e=>by
  simp only[tcN,QD];intro t _;cases t.o.dst<;>rfl
 |.seq a b=>by simp only[tcN,zHF a,zHF b];rfl
 |.wg _ _ a b=>by simp only[tcN,zHF a,zHF b];rfl
 |.cond _ a b=>by simp only[tcN,zHF a,zHF b];rfl
 |.block _ b=>by simp only[tcN,zHF b]
 |.loop _ _ b=>by simp only[tcN,zHF b]
 |.qB _ b=>by simp only[tcN,zHF b]
theorem zgx{f:Nat}{xf:XF}{tc:TC}(hx:FnX P f xf)(K:xf.body=er tc)(au:zFN tc=true)(hG:GPP G)(hm:zCa P G)(ah:P.follows .mixedOrders=true)(aw:TbW P G tb)(ay:tcH (HOK P G) tc){args:JE}{v:AV}(aa:args.length=xf.np)(ak:∀x∈args,PP x)
  (h:WT G tb tc [] (zRZ xf.res λu=>u=v) ⟨qE 0 args,[],[],0,0⟩):Enters P f/\∀H nx,FnT P G f args H nx v H nx:=by
 obtain⟨fn,aj,o,W⟩:=hx.ok;unfold compF at o;obtain⟨U,M,o⟩:=za o;obtain⟨xc,a6,o⟩:=za o;obtain⟨rs,a1,o⟩:=za o;split at o
 rotate_left
 .cases o
 rename_i Q;rw[qr]at Q;simp only[QN]at o;subst o;simp only at K aa h;subst K;have a8:fn.params.size+fn.nfree<=fn.ntmps:=QS Q.2;refine⟨⟨fn,U,aj,M,W⟩,λH nx E w l S ai hg ba=>?_⟩
 have a7:l.size=args.length:=by rw[ai.1];simp
 have al:∀{x:AV}{cx:Value},PP x->VR E w x cx->VR ⟨E.ρ,λ_=>False,E.Z,E.σ⟩ w x cx:=λA hv=>VR.pp (E:=E) (E':=⟨E.ρ,λ_=>False,E.Z,E.σ⟩) (w:=w) (w':=w) (λb K=>⟨K,rfl⟩) hv A
 have s0:SR G fn.ntmps ⟨E.ρ,λ_=>False,E.Z,E.σ⟩ w { tmps:=l++Array.replicate (fn.ntmps-l.size) undef,defers:=[] } (λ_=>none) ⟨qE 0 args,[],[],0,0⟩:=by
  refine⟨⟨.nil,λp A=>by simp at A,λp A=>by simp at A,λp A=>by simp at A,λp A=>by simp at A,S.wa⟩,⟨?_,λt u ht=>?_⟩,λg u X=>⟨al (hG g u X) (hg g u X).1,(hg g u X).2⟩,λh hh=>hh.elim,zNO λx hx=>(ak x hx).cp,λp A=>(by cases A),λj vi R=>(by cases R),λj j2 i off R=>(by cases R),λj vi b R=>(by cases R),λj j' vi bb b R=>(by cases R)⟩
  .simp;omega
  .obtain⟨i,rfl,hi⟩:=zRa ht;obtain⟨Y,h1,h2⟩:=ai.getElem? hi;have h3:l[i]?=some Y:=by simpa using h1
   have h4:=(Array.getElem?_eq_some_iff.1 h3).1;simp only[QY];rw[Array.getD_eq_getD_getElem?,Array.getElem?_append_left h4,h3];exact al (ak u (QE hi)) h2
 have r0:Rs G fn.ntmps E.Z (λ_=>False) w [] ⟨E.ρ,λ_=>False,E.Z,E.σ⟩ w { tmps:=l++Array.replicate (fn.ntmps-l.size) undef,defers:=[] } ⟨qE 0 args,[],[],0,0⟩:=by
  refine⟨_,s0,Kp.less λx hx=>?_,rfl⟩
  rcases hx with⟨p,A,_⟩|⟨j,vi,R,_⟩
  .cases A
  .cases R
 refine calls_of_wp aj M (zby aw hG hm ah U a6 Q.1 au ay (pn:=[]) (zHF tc) h r0 λx d E' w' a' B r' _=>?_)
 obtain⟨β,s,N,df⟩:=r'.out;have ad:∀{x:Ext},(∀i,x≠.exit i)->zRZ rs (λu=>u=v) x d->a'.defers=[]/\∃ae,(results fn a'.tmps).run P w'=.ok ae w'/\∃Y E',(Ending.returned ae)=.returned Y/\HR E' H w'/\Tr E H w E' H w' nx nx/\VR E' w' v Y:=by
  intro x aq B;have:∃I,zJi d.H d.fr rs=some I/\(match zCA d.H d.V 8 (zEn I)with|some v'=>v'=v|none=>False):=by
   cases x with
   |exit i=>exact absurd rfl (aq i)
   |normal=>
    unfold zRZ zRY at B;simp only at B;split at B
    .rename_i I J;exact⟨I,J,B⟩
    .exact B.elim
   |ret=>
    unfold zRZ zRY at B;simp only at B;split at B
    .rename_i I J;exact⟨I,J,B⟩
    .exact B.elim
  obtain⟨I,J,B⟩:=this;obtain⟨Y,e1,e2⟩:=zQI s.hr s.hf a1 J;split at B
  rotate_left
  .exact B.elim
  rename_i v' az;subst B;have ao:CP d.mv d.m (zEn I):=by
   have af:∀{rs:List XR}{I:JE},zJi d.H d.fr rs=some I->∀u∈I,CP d.mv d.m u:=by
    intro rs
    induction rs with
    |nil=>intro I h u hu;cases h;cases hu
    |cons q qs ih=>
     intro I h u hu;simp only[zJi]at h;split at h
     .rename_i z F;split at h
      .rename_i zs ar;cases h;rcases QH.1 hu with rfl|hu
       .cases q with
        |t n=>exact s.qW n _ F
        |cell n sz ag=>
         simp only[zWH]at F;split at F
         .rename_i ab ax;exact zTf s.cH (s.qW n ab ax) F
         .cases F
       .exact ih ar u hu
      .cases h
     .cases h
   have T:=af J;cases I with
   |nil=>exact .qc _ λe he=>by cases he
   |cons u us=>
    cases us with
    |nil=>exact T u (.head _)
    |cons u2 us=>exact .qc _ T
  obtain⟨k1,k2⟩:=zYP s 8 ao e2 az;have hZ:∀z,(zCz E' β d.H d.V).Z z->E.Z z\/w.heap.size<=z:=by
   rintro z (F|F)
   .rcases N.qP z F with h|h|h
    .exact .inl h
    .exact h.elim
    .exact .inr h
   .rcases N.own z F with h|h
    .exact h.elim
    .exact .inr h
  have ac:∀z,(zCz E' β d.H d.V).Z z->z<w'.heap.size:=by
   rintro b (K|⟨p,A,rfl⟩|⟨j,vi,q1,q2,q3⟩)
   .exact s.hr.wa b K
   .exact s.hr.lt A
   .exact(s.qT j vi q1).2.lt q2 q3
  have O:∀x,x<w.heap.size->w'.heap[x]? = w.heap[x]?:=λx hx=>N.qI x hx λh=>h
  refine⟨df,Y,e1,Y,⟨E.ρ,E.D,(zCz E' β d.H d.V).Z,E.σ⟩,rfl,⟨S.nodup,S.qz,S.inj,λp A=>?_,λp A F=>?_,ac⟩,⟨QA _,λ_ _=>rfl,λh=>⟨.inl,λh=>h.elim id λ⟨x,y⟩=>by omega⟩,λz F=>.inl (N.qF z F),λz F=>(hZ z F).imp id .inr,λp A=>.inl ⟨p,A,rfl⟩,N.tape,N.os,N.output,N.size,λx hx _=>O x hx,N.qn,rfl⟩,?_⟩
  .refine(S.obj p A).mono (O _ (S.lt A)) λhv=>?_
   exact VR.mono (E:=E) (E':=⟨E.ρ,E.D,(zCz E' β d.H d.V).Z,E.σ⟩) (λ_ h=>⟨h,rfl⟩) (λb K=>⟨.inl (N.qF b K),O b (S.wa b K)⟩) N.qn hv
  .rcases hZ _ F with h|h
   .exact S.nz p A h
   .have:=S.lt A;have h:w.heap.size<=E.ρ p.1:=h;omega
  .exact VR.pp (E:=zCz E' β d.H d.V) (E':=⟨E.ρ,E.D,(zCz E' β d.H d.V).Z,E.σ⟩) (w:=w') (w':=w') (λb K=>⟨K,rfl⟩) k1 k2
 cases x with
 |normal=>exact ad (λi e=>by cases e) B
 |ret=>exact ad (λi e=>by cases e) B
 |exit i=>exact B.elim
end
section
variable{P:Program}{G:Cx}{tb:TblS}
theorem zRx{fr:Fr}:∀{pn:JV}{i0:Nat},zLX fr i0 pn=true->∀(j t:Nat),pn[j]?=some t->fr.get t=some (.ptr (i0+j) 0)
 |[],i0,h,j,t,e=>by simp at e
 |t0::r,i0,h,j,t,e=>by
  simp only[zLX,qr]at h;obtain⟨h1,b⟩:=h;cases j with
  |zero=>
   simp only[List.getElem?_cons_zero,QN]at e;subst e;split at h1
   .rename_i f d;rw[d,zc h1];rfl
   .cases h1
  |succ j=>
   have:=zRx b j t (by simpa using e)
   rw[this];congr 2;omega
theorem zZh{E:Env}{w:World}{h o:Nat}{cv:Value}(b:VR E w (.ptr h o) cv):cv=.pointer (some ⟨E.ρ h,o,none⟩):=by
 cases b;rfl
theorem zVl{n k:Nat}{H:Heap}{fr:Fr}(i:zFn n k fr)(hH:HCP n k H):∀{rs:List XR}{vs:JE},zJi H fr rs=some vs->∀u∈vs,CP n k u:=by
 intro rs
 induction rs with
 |nil=>intro vs h u d;cases h;cases d
 |cons q v l=>
  intro vs h u d;simp only[zJi]at h;split at h
  .rename_i z b;split at h
   .rename_i o f;cases h;rcases QH.1 d with rfl|d
    .cases q with
     |t n=>exact i n _ b
     |cell n p x=>
      simp only[zWH]at b;split at b
      .rename_i j e;exact zTf hH (i n j e) b
      .cases b
    .exact l f u d
   .cases h
  .cases h
theorem zTm{n k:Nat}{vs:JE}(h:∀u∈vs,CP n k u):CP n k (zEn vs):=by
 cases vs with
 |nil=>exact .qc _ λe b=>by cases b
 |cons u us=>
  cases us with
  |nil=>exact h u (.head _)
  |cons d us=>exact .qc _ h
theorem zfU{f:Nat}{xf:XF}{T:TC}(hx:FnX P f xf)(hb:xf.body=er T)(aj:zFN T=true)(hG:GPP G)(hm:zCa P G)(ac:P.follows .mixedOrders=true)(ak:TbW P G tb)(ao:tcH (HOK P G) T){pn:JV}(aw:tcN pn T=true)
  {args:JE} {H:Heap} {V:Vecs} {v:AV} {H2:Heap} {V2:Vecs} (U:args.length=xf.np) (ax:zLX (qE 0 args) 0 pn=true)
  (h:WT G tb T [] (zO8 xf.res pn λu H' V'=>u=v/\H'=H2/\V'=V2) ⟨qE 0 args,H,V,H.length,V.length⟩):Enters P f/\HFn P G f args H V v H2 V2:=by
 obtain⟨fn,ae,l,O⟩:=hx.ok;unfold compF at l;obtain⟨J,z,l⟩:=za l;obtain⟨xc,ay,l⟩:=za l;obtain⟨rs,ar,l⟩:=za l;split at l
 rotate_left
 .cases l
 rename_i B;rw[qr]at B;simp only[QN]at l;subst l;simp only at hb U h;subst hb;have a1:fn.params.size+fn.nfree<=fn.ntmps:=QS B.2;refine⟨⟨fn,J,ae,z,O⟩,λE w β d s ad ag=>?_⟩
 have az:d.size=args.length:=by rw[ad.1];simp
 have I:FrR E w (qE 0 args) { tmps:=d++Array.replicate (fn.ntmps-d.size) undef,defers:=[] } fn.ntmps:=by
  refine⟨?_,λt u ht=>?_⟩
  .simp;omega
  .obtain⟨i,rfl,hi⟩:=zRa ht;obtain⟨D,h1,h2⟩:=ad.getElem? hi;have h3:d[i]?=some D:=by simpa using h1
   have h4:=(Array.getElem?_eq_some_iff.1 h3).1;simp only[QY];rw[Array.getD_eq_getD_getElem?,Array.getElem?_append_left h4,h3];exact h2
 have s0:SR G fn.ntmps E w { tmps:=d++Array.replicate (fn.ntmps-d.size) undef,defers:=[] } β ⟨qE 0 args,H,V,H.length,V.length⟩:=
  ⟨s.hr,I,s.hg,s.qz,zNO ag,s.cH,s.qT,s.vp,s.bz,s.qS⟩
 have r0:Rs G fn.ntmps E.Z (BS E β H V) w [] E w { tmps:=d++Array.replicate (fn.ntmps-d.size) undef,defers:=[] } ⟨qE 0 args,H,V,H.length,V.length⟩:=⟨β,s0,Kp.refl,rfl⟩;refine calls_of_wp ae z (zby ak hG hm ac J ay B.1 aj ao aw h r0 λx j E' w' a' n r' aq=>?_)
 obtain⟨β',F,kp,df⟩:=r'.out;have X:∀{x:Ext},(∀i,x≠.exit i)->zO8 rs pn (λu H' V'=>u=v/\H'=H2/\V'=V2) x j->a'.defers=[]/\∃ab,(results fn a'.tmps).run P w'=.ok ab w' ∧
   ∃D E' β',(Ending.returned ab)=.returned D/\VR E' w' v D/\(∀p∈H2,E'.ρ p.1=E.ρ p.1)/\SR G 0 E' w' { tmps:=#[],defers:=[] } β' ⟨[],H2,V2,H2.length,V2.length⟩/\Kp E.Z (BS E β H V) w E'.Z (BS E' β' H2 V2) w':=by
  intro x ah n;have:∃y,zJi j.H j.fr rs=some y/\(match zSd (zEn y)with
    |false=>match zEk 8 (zEn y)||!zLX j.fr 0 pn with
     |false=>zE8 (List.range pn.length) (zFQ j.H (List.range pn.length) []) [] j λ_ H V=>(zEn y)=v/\H=H2/\V=V2
     |true=>False
    |true=>match zLX j.fr 0 pn with
     |true=>zE8 (List.range pn.length) (zFQ j.H (List.range pn.length) (zJx 8 (zEn y) [])) [zEn y] j λus H V=>match us with
      |[u]=>u=v/\H=H2/\V=V2
      |_=>False
     |false=>False):=by
   cases x with
   |exit i=>exact absurd rfl (ah i)
   |normal=>
    unfold zO8 zRY at n;simp only at n;split at n
    .rename_i y q;exact⟨y,q,n⟩
    .exact n.elim
   |ret=>
    unfold zO8 zRY at n;simp only at n;split at n
    .rename_i y q;exact⟨y,q,n⟩
    .exact n.elim
  obtain⟨y,q,n⟩:=this;obtain⟨D,e1,e2⟩:=zQI F.hr F.hf ar q;have K:∀{hm:JV}{sm:JV}{S:Heap}{V3:Vecs},zLX j.fr 0 pn=true->hm=List.range pn.length->CanV hm sm j S V3->∀p∈S,(zAC E' hm sm).ρ p.1=E.ρ p.1:=λ{hm sm S V3} o au cn p hp=>by
   subst au;obtain⟨_,g2,_⟩:=zLt cn.rh;have W:p.1<pn.length:=by
    have:p.1∈S.keys:=Qg.2 ⟨p,hp,rfl⟩;rw[g2,List.mem_range']at this;obtain⟨i,h1,h2⟩:=this;rw[List.length_range]at h1;omega
   have R:=QF W;have f1:=zZh (I.get _ _ (zRx ax p.1 _ R));have f2:=zZh (F.hf.get _ _ (zRx o p.1 _ R));have f3:=aq _ (QE R);rw[f1,f2]at f3;simp only[QY,Value.pointer.injEq,QN,Addr.mk.injEq,and_true]at f3;show E'.ρ ((List.range pn.length).getD p.1 0)=E.ρ p.1
   rw[List.getD_eq_getElem?_getD,List.getElem?_range W];exact f3
  split at n
  .split at n
   rotate_left
   .exact n.elim
   rename_i A;rw[Bool.or_eq_false_iff]at A;obtain⟨hh,o⟩:=A;simp only[Bool.not_eq_false']at o;obtain⟨ai,S,V3,⟨q1,q2,q3⟩,cn,_,_,_,N,Q⟩:=zOy hG F (vs0:=[]) (cvs:=[]) (λv hv=>by cases hv) ⟨rfl,λi x u hx=>by simp at hx⟩ n
   subst q2;subst q3;have Y:PP v:=q1▸zNA 8 (zTm (zVl F.qW F.cH q)) hh
   rw[q1]at e2;exact⟨df,D,e1,D,_,_,rfl,VR.pp (E:=E') (E':=zAC E' _ _) (w:=w') (w':=w') (λb hb=>⟨hb,rfl⟩) e2 Y,K o rfl cn,N 0 { tmps:=#[],defers:=[] } [] ⟨rfl,λt v h=>by cases h⟩ (λt v h=>by cases h),kp.trans Q⟩
  .split at n
   rotate_left
   .exact n.elim
   rename_i o;have af:∀u∈[zEn y],CP j.mv j.m u:=λu hu=>by
    rw[Qa.1 hu];exact zTm (zVl F.qW F.cH q)
   have aa:VRs E' w' [zEn y] [D]:=⟨rfl,λi x u hx hu=>by
    cases i with
    |zero=>cases hx;cases hu;exact e2
    |succ i=>simp at hx⟩
   obtain⟨ai,S,V3,M,cn,_,al,_,N,Q⟩:=zOy hG F af aa n;split at M
   rotate_left
   .exact M.elim
   rename_i u;obtain⟨rfl,rfl,rfl⟩:=M;exact⟨df,D,e1,D,_,_,rfl,al.2 0 _ _ rfl rfl,K o rfl cn,N 0 { tmps:=#[],defers:=[] } [] ⟨rfl,λt v h=>by cases h⟩ (λt v h=>by cases h),kp.trans Q⟩
 cases x with
 |normal=>exact X (λi e=>by cases e) n
 |ret=>exact X (λi e=>by cases e) n
 |exit i=>exact n.elim
end
def zdx(β:Type):Type:=Option β
def gd{β:Type}(b:Bool)(x:Option β):Option β:=(match b with
 |true=>x
 |false=>none:zdx β)
def br{β:Type}(b:Bool)(x y:Option β):Option β:=(match b with
 |true=>x
 |false=>y:zdx β)
def bd{α β:Type}(o:Option α)(f:α->Option β):Option β:=(match o with
 |some a=>f a
 |none=>none:zdx β)
inductive D where
 |v (k:K)
 |hc (h:Nat) (str:Bool) (n:Nat)
 |vec (j sz:Nat)
 |mp (j:Nat)
 |uQ (j:Nat) (es:List (AV×AV))
 |vn (j sz n:Nat)
abbrev DT(β:Type):List D->Type
 |[]=>Option β
 |.v .b::r=>Bool->DT β r
 |.v (.i _)::r=>Int->DT β r
 |.v .s::r=>List Nat->DT β r
 |.v (.l _)::r=>List AV->DT β r
 |.v .av::r=>AV->DT β r
 |.v (.c _)::r=>DT β r
 |.v (.agg _)::r=>DT β r
 |.v (.qc _)::r=>DT β r
 |.v (.ep _)::r=>DT β r
 |.v (.uR _)::r=>DT β r
 |.hc _ _ _::r=>DT β r
 |.vec _ _::r=>List AV->DT β r
 |.mp _::r=>List (AV×AV)->DT β r
 |.uQ _ _::r=>DT β r
 |.vn _ _ _::r=>DT β r
def zSG:List (AV×AV)->JE
 |[]=>[]
 |(k,v)::r=>k::v::zSG r
def din{β:Type}:(wk:Bool)->(ds:List D)->DT β ds->JE->Heap->Vecs->Option β
 |wk,[],P,d,H,V=>match d with
  |[]=>match H with
   |[]=>match V with
    |[]=>P
    |_=>none
   |_=>none
  |_=>none
 |wk,.v .b::r,P,d,H,V=>match d with
  |.bool b::d=>din wk r (P b) d H V
  |_=>none
 |wk,.v (.i k)::r,P,d,H,V=>match d with
  |.int I n::d=>match zH5 k I with
   |true=>din wk r (P n) d H V
   |false=>none
  |_=>none
 |wk,.v .s::r,P,d,H,V=>match d with
  |.str s::d=>din wk r (P s) d H V
  |_=>none
 |wk,.v (.l z)::r,P,d,H,V=>match d with
  |.qg f o::d=>match Nat.beq z f with
   |true=>din wk r (P o) d H V
   |false=>none
  |.qa::d=>match wk with
   |true=>din wk r (P []) d H V
   |false=>none
  |_=>none
 |wk,.v .av::r,P,d,H,V=>match d with
  |v::d=>din wk r (P v) d H V
  |_=>none
 |wk,.v (.c v)::r,P,d,H,V=>match d with
  |u::d=>match wF 20 u v with
   |true=>din wk r P d H V
   |false=>none
  |_=>none
 |wk,.v (.agg n)::r,P,d,H,V=>match d with
  |.agg p::d=>match Nat.beq p.length n with
   |true=>din wk r P (p++d) H V
   |false=>none
  |_=>none
 |wk,.v (.qc n)::r,P,d,H,V=>match d with
  |.qc p::d=>match Nat.beq p.length n with
   |true=>din wk r P (p++d) H V
   |false=>none
  |_=>none
 |wk,.v (.ep off)::r,P,d,H,V=>match d with
  |.qd e x::d=>match Nat.beq off x with
   |true=>din wk r P (e::d) H V
   |false=>none
  |_=>none
 |wk,.v (.uR t)::r,P,d,H,V=>match d with
  |.iface B e::d=>match Nat.beq t B with
   |true=>din wk r P (e::d) H V
   |false=>none
  |_=>none
 |wk,.hc h str n::r,P,d,H,V=>match d with
  |[]=>match H with
   |(F,.cells y p)::H=>match Nat.beq h F&&str==y&&Nat.beq p.length n with
    |true=>din false r P p H V
    |false=>none
   |_=>none
  |_=>none
 |wk,.vec j z::r,P,d,H,V=>match d with
  |[]=>match V with
   |(q,.vec f o)::V=>match Nat.beq j q&&Nat.beq z f with
    |true=>din false r (P o) [] H V
    |false=>none
   |_=>none
  |_=>none
 |wk,.mp j::r,P,d,H,V=>match d with
  |[]=>match V with
   |(q,.mp o)::V=>match Nat.beq j q with
    |true=>din false r (P o) [] H V
    |false=>none
   |_=>none
  |_=>none
 |wk,.uQ j A::r,P,d,H,V=>match d with
  |[]=>match V with
   |(q,.mp o)::V=>match Nat.beq j q&&wF 20 (.agg (zSG o)) (.agg (zSG A))with
    |true=>din false r P [] H V
    |false=>none
   |_=>none
  |_=>none
 |wk,.vn j z n::r,P,d,H,V=>match d with
  |[]=>match V with
   |(q,.vec f o)::V=>match Nat.beq j q&&(Nat.beq z f&&Nat.beq o.length n)with
    |true=>din false r P o H V
    |false=>none
   |_=>none
  |_=>none
def zHP{β:Type}:(ds:List D)->(JE->Heap->Vecs->Option β)->DT β ds
 |[],F=>F [] [] []
 |.v .b::r,F=>λb=>zHP r λd H V=>F (.bool b::d) H V
 |.v (.i k)::r,F=>λn=>zHP r λd H V=>F (.int k n::d) H V
 |.v .s::r,F=>λs=>zHP r λd H V=>F (.str s::d) H V
 |.v (.l o)::r,F=>λf=>zHP r λd H V=>F (.qg o f::d) H V
 |.v .av::r,F=>λv=>zHP r λd H V=>F (v::d) H V
 |.v (.c v)::r,F=>zHP r λd H V=>F (v::d) H V
 |.v (.agg n)::r,F=>zHP r λd H V=>F (.agg (d.take n)::d.drop n) H V
 |.v (.qc n)::r,F=>zHP r λd H V=>F (.qc (d.take n)::d.drop n) H V
 |.v (.ep off)::r,F=>zHP r λd H V=>match d with
  |e::d=>F (.qd e off::d) H V
  |[]=>none
 |.v (.uR t)::r,F=>zHP r λd H V=>match d with
  |e::d=>F (.iface t e::d) H V
  |[]=>none
 |.hc h str n::r,F=>zHP r λd H V=>F [] ((h,.cells str d)::H) V
 |.vec j o::r,F=>λf=>zHP r λd H V=>F d H ((j,.vec o f)::V)
 |.mp j::r,F=>λf=>zHP r λd H V=>F d H ((j,.mp f)::V)
 |.uQ j f::r,F=>zHP r λd H V=>F d H ((j,.mp f)::V)
 |.vn j o n::r,F=>zHP r λd H V=>F [] H ((j,.vec o d)::V)
def dK{β:Type}(wk:Bool)(b:List K)(o:JF)(f:DT β (b.map .v)):Option β:=match o with
 |some v=>din wk (b.map .v) f [v] [] []
 |none=>none
def dko{β:Type}(b:List K)(k:AV->Option β):DT β (b.map .v):=zHP (b.map .v) λd _ _=>match d with
 |[v]=>k v
 |_=>none
def dD{β:Type}(wk:Bool)(ds:List D)(o:Option (AV×Heap×Vecs))(f:DT β ds):Option β:=match o with
 |some (v,H,V)=>din wk ds f [v] H V
 |none=>none
def ddo{β:Type}(ds:List D)(k:AV->Heap->Vecs->Option β):DT β ds:=zHP ds λb H V=>match b with
 |[v]=>k v H V
 |_=>none
abbrev TbF:=List (Nat×(JE->JF))
def zSi:TbF->Nat->Option (JE->JF)
 |[],_=>none
 |s::r,f=>match Nat.beq f s.1 with
  |true=>some s.2
  |false=>zSi r f
def zWN{β:Type}(wk:Bool)(tb:TbF)(f:Nat)(args:JE)(b:List K)(k:AV->Option β):Option β:=
 match zSi tb f with
 |some g=>match b with
  |[]=>bd (g args) k
  |_=>dK wk b (g args) (dko b k)
 |none=>none
def zW2{β:Type}(wk:Bool)(tb:TbF)(f:Nat)(args:JE)(b:List K)(st:Sta)(k:AV->Sta->Option β):Option β:=
 match args.any (zEk 8)with
 |false=>zWN wk tb f args b λv=>k v st
 |true=>match zF (frz st.H st.V 8) args with
  |some args=>zWN wk tb f args b λv=>match zDF 8 v with
   |true=>k v st
   |false=>none
  |none=>none
def zUq{β:Type}(n:Int)(lo b:JF)(k:Int->Int->Option β):Option β:=
 match lo with
 |none=>match b with
  |none=>k 0 n
  |some (.int _ h)=>gd (decide (0<=h/\h<=n)) (k 0 h)
  |_=>none
 |some (.int _ l)=>match b with
  |none=>gd (decide (0<=l/\l<=n)) (k l n)
  |some (.int _ h)=>gd (decide (0<=l/\l<=h/\h<=n)) (k l h)
  |_=>none
 |_=>none
abbrev FXd{β:Type}(st:Sta)(x:Option Out)(k:AV->Sta->Option β):Option β:=match x with
 |some (v,H,m)=>k v ⟨st.fr,H,st.V,m,st.mv⟩
 |none=>none
def zRy{β:Type}(n:Int):Nat->(Nat->Option β)->Option β
 |0,_=>none
 |m+1,k=>br (decide (n=.ofNat m)) (k m) (zRy n m k)
def lkB{β:Type}(e:Bool)(kd:List Kd)(d:AV):List (AV×AV)->(JF->Option β)->Option β
 |[],k=>k none
 |(j,v)::r,k=>match eqk e kd d j with
  |some b=>br b (k (some v)) (lkB e kd d r k)
  |none=>none
def fop{β:Type}(wk:Bool)(G:Cx)(tb:TbF)(st:Sta)(o:XO)(B:List K)(k:AV->Sta->Option β):Option β:=
 match o with
 |.bin op x y=>match x.ev G st.fr with
  |some (.str a)=>match op with
   |.add=>match y.ev G st.fr with
    |some (.str b)=>gd (decide (a.length+b.length<=zh)) (k (.str (a++b)) st)
    |_=>none
   |op=>FXd st (xoS G zj st.fr st.H st.m (.bin op x y)) k
  |some (.int D a)=>match op with
   |.quo=>match y.ev G st.fr with
    |some (.int S b)=>match zH5 D S with
     |true=>gd (decide (b≠0)) (k (.int D (wrapx D (a.tdiv b))) st)
     |false=>none
    |_=>none
   |.rem=>match y.ev G st.fr with
    |some (.int S b)=>match zH5 D S with
     |true=>gd (decide (b≠0)) (k (.int D (a.tmod b)) st)
     |false=>none
    |_=>none
   |.shl=>match y.ev G st.fr with
    |some (.int _ b)=>gd (decide (0<=b)) (k (.int D (wrapx D (a*2 ^ (Min.min b.toNat D.bits)))) st)
    |_=>none
   |.shr=>match y.ev G st.fr with
    |some (.int _ b)=>gd (decide (0<=b)) (k (.int D (a.fdiv (2 ^ (Min.min b.toNat D.bits)))) st)
    |_=>none
   |op=>FXd st (xoS G zj st.fr st.H st.m (.bin op x y)) k
  |_=>none
 |.wF neg kd x y=>match x.ev G st.fr with
  |some (.agg a)=>match y.ev G st.fr with
   |some (.agg b)=>match eqv kd a b with
    |some r=>k (zEV neg r) st
    |none=>none
   |_=>none
  |_=>none
 |.pick c a b=>match c.ev G st.fr with
  |some (.bool W)=>match c with
   |.t n=>br W (match a.ev G st.fr with
     |some v=>k v ⟨st.fr.put n (.bool true),st.H,st.V,st.m,st.mv⟩
     |none=>none) (match b.ev G st.fr with
     |some v=>k v ⟨st.fr.put n (.bool false),st.H,st.V,st.m,st.mv⟩
     |none=>none)
   |_=>FXd st (xoS G zj st.fr st.H st.m (.pick c a b)) k
  |_=>none
 |.wK x i=>match x.ev G st.fr with
  |some (.str s)=>match i.ev G st.fr with
   |some (.int _ n)=>bd (ixN s n) λc=>k (.int .u8 (.ofNat c)) st
   |_=>none
  |_=>none
 |.wC x lo I=>match x.ev G st.fr with
  |some (.str s)=>match evo G st.fr lo with
   |some lo=>match evo G st.fr I with
    |some I=>zUq (.ofNat s.length) lo I λl h=>k (.str ((s.take h.toNat).drop l.toNat)) st
    |none=>none
   |none=>none
  |_=>none
 |.wv x lo I U d=>match x.ev G st.fr with
  |some (.qg A q)=>match Nat.beq d A with
   |true=>match U with
    |none=>match evo G st.fr lo with
     |some lo=>match evo G st.fr I with
      |some I=>zUq (.ofNat q.length) lo I λl h=>k (.qg d ((q.take h.toNat).drop l.toNat)) st
      |none=>none
     |none=>none
    |some _=>none
   |false=>none
  |some .qa=>FXd st (xoS G zj st.fr st.H st.m (.wv x lo I U d)) k
  |_=>none
 |.qC x i d=>match x.ev G st.fr with
  |some (.qg A q)=>match Nat.beq d A with
   |true=>match i.ev G st.fr with
    |some (.int _ n)=>dK wk B (ixN q n) (dko B λv=>k (.qd v 0) st)
    |_=>none
   |false=>none
  |some (.sym j)=>match st.V.get j with
   |some (.vec A q)=>match Nat.beq d A with
    |true=>match i.ev G st.fr with
     |some (.int _ n)=>gd (decide (0<=n/\n<.ofNat q.length)) (k (.sym st.mv) ⟨st.fr,st.H,(st.mv,.qU j n.toNat 0)::st.V,st.m,st.mv+1⟩)
     |_=>none
    |false=>none
   |_=>none
  |some (.row _ _ l _ _ _)=>match i.ev G st.fr with
   |some (.int kd n)=>zRy n l λm=>FXd st (xoS G zj st.fr st.H st.m (.qC x (.c (.int kd (.ofNat m))) d)) k
   |_=>none
  |_=>none
 |.wj x=>match x.ev G st.fr with
  |some (.sym j)=>match st.V.get j with
   |some (.vec _ q)=>k (.int .i64 (.ofNat q.length)) st
   |_=>none
  |_=>FXd st (xoS G zj st.fr st.H st.m (.wj x)) k
 |.load x d F=>match isC B,x.ev G st.fr with
  |true,some (.qd _ _)=>FXd st (xoS G zj st.fr st.H st.m (.load x d F)) k
  |true,_=>none
  |false,some (.sym p)=>match st.V.get p with
   |some (.qU j i off)=>match st.V.get j with
    |some (.vec _ q)=>dK wk B (ldE q i off d F) (dko B λv=>k v st)
    |_=>none
   |_=>none
  |false,_=>FXd st (xoS G zj st.fr st.H st.m (.load x d F)) k
 |.qR x off=>match x.ev G st.fr with
  |some (.sym p)=>match st.V.get p with
   |some (.qU j i o)=>match st.V.get j with
    |some (.vec _ _)=>k (.sym st.mv) ⟨st.fr,st.H,(st.mv,.qU j i (o+off))::st.V,st.m,st.mv+1⟩
    |_=>none
   |_=>none
  |_=>FXd st (xoS G zj st.fr st.H st.m (.qR x off)) k
 |.store x y d=>match x.ev G st.fr with
  |some (.sym p)=>match st.V.get p with
   |some (.qU j i off)=>match st.V.get j with
    |some (.vec A q)=>match y.ev G st.fr with
     |some v=>match Nat.beq off 0&&Nat.beq d A&&ppS 12 v with
      |true=>match cellsOf v d with
       |some _=>k (.qc []) ⟨st.fr,st.H,(j,.vec A (q.set i v))::st.V.del j,st.m,st.mv⟩
       |none=>none
      |false=>none
     |none=>none
    |_=>none
   |_=>none
  |_=>FXd st (xoS G zj st.fr st.H st.m (.store x y d)) k
 |.vB x=>match x.ev G st.fr with
  |some (.str s)=>k (.sym st.mv) ⟨st.fr,st.H,(st.mv,.vec 1 (s.map λb=>.int .u8 (.ofNat b)))::st.V,st.m,st.mv+1⟩
  |_=>none
 |.vj x=>match x.ev G st.fr with
  |some (.sym j)=>match st.V.get j with
   |some (.vec d q)=>match Nat.beq d 1 with
    |true=>bd (zBw q) λs=>k (.str s) st
    |false=>none
   |_=>none
  |some (.qg d q)=>match Nat.beq d 1 with
   |true=>bd (zBw q) λs=>k (.str s) st
   |false=>none
  |some .qa=>k (.str []) st
  |_=>none
 |.qx len d z M=>match B with
  |[]=>match zCs G st.fr z M with
   |some T=>match Nat.beq T.length (len*d)with
    |true=>match zE7 d len T with
     |some q=>match q.all (ppS 12)with
      |true=>k (.sym st.mv) ⟨st.fr,st.H,(st.mv,.vec d q)::st.V,st.m,st.mv+1⟩
      |false=>none
     |none=>none
    |false=>none
   |none=>none
  |.c _::_=>match bsL G st.fr len d z M with
   |some q=>k (.qg d q) st
   |none=>none
  |_=>FXd st (xoS G zj st.fr st.H st.m (.qx len d z M)) k
 |.qL l c d bytes z=>match l.ev G st.fr with
  |some (.int _ n)=>match c.ev G st.fr with
   |some (.int _ c)=>match zE7 d 1 z,Nat.beq z.length d with
    |some [e],true=>gd (decide (0<=n/\n<=c/\c.toNat*bytes<=zg/\c.toNat<=zg))
     (k (.sym st.mv) ⟨st.fr,st.H,(st.mv,.vec d (List.replicate n.toNat e))::st.V,st.m,st.mv+1⟩)
    |_,_=>none
   |_=>none
  |_=>none
 |.append x y d bytes=>match zRg y with
  |true=>none
  |false=>match x.ev G st.fr with
   |some v=>match y.ev G st.fr with
    |some u=>match zEa st.H d u with
     |some N=>match zSc u||ppS 12 (.agg N)with
      |true=>match v with
       |.qa=>gd (decide (N.length*bytes<=zg)) (k (.sym st.mv) ⟨st.fr,st.H,(st.mv,.vec d N)::st.V,st.m,st.mv+1⟩)
       |.sym j=>match st.V.get j with
        |some (.vec A q)=>match Nat.beq d A with
         |true=>gd (decide ((q.length+N.length)*bytes<=zg/\q.length+N.length<=zg)) (k (.sym st.mv) ⟨st.fr,st.H,(st.mv,.vec d (q++N))::st.V.del j,st.m,st.mv+1⟩)
         |false=>none
        |_=>none
       |_=>none
      |false=>none
     |none=>none
    |none=>none
   |none=>none
 |.q9 x i l s a=>match B with
  |[]=>FXd st (xoS G zj st.fr st.H st.m (.q9 x i l s a)) k
  |_=>match i.ev G st.fr with
   |some (.int kd n)=>zRy n l λm=>FXd st (xoS G zj st.fr st.H st.m (.q9 x (.c (.int kd (.ofNat m))) l s a)) k
   |_=>none
 |.qy x i l s=>match B with
  |[]=>FXd st (xoS G zj st.fr st.H st.m (.qy x i l s)) k
  |_=>match i.ev G st.fr with
   |some (.int kd n)=>zRy n l λm=>FXd st (xoS G zj st.fr st.H st.m (.qy x (.c (.int kd (.ofNat m))) l s)) k
   |_=>none
 |.wm=>k (.sym st.mv) ⟨st.fr,st.H,(st.mv,.mp [])::st.V,st.m,st.mv+1⟩
 |.lookup F kd m x z ok=>match m.ev G st.fr with
  |some (.sym j)=>match st.V.get j with
   |some (.mp q)=>match x.ev G st.fr with
    |some J=>match zFV F kd J with
     |true=>match B with
      |[]=>lkB F kd J q λo=>k (match o with
       |some u=>lkV ok true u
       |none=>lkV ok false z) st
      |B=>dK wk B (lkR ok z (zCt F kd J q)) (dko B λv=>k v st)
     |false=>none
    |none=>none
   |_=>none
  |_=>none
 |.wE F kd m x y=>match m.ev G st.fr with
  |some (.sym j)=>match st.V.get j with
   |some (.mp q)=>match x.ev G st.fr with
    |some J=>match y.ev G st.fr with
     |some u=>match zFV F kd J&&ppS 12 J&&ppS 12 u with
      |true=>bd (zGn F kd J u q) λR=>k (.qc []) ⟨st.fr,st.H,(j,.mp R)::st.V.del j,st.m,st.mv⟩
      |false=>none
     |none=>none
    |none=>none
   |_=>none
  |_=>none
 |.call f args=>match evs G st.fr args with
  |some Q=>zW2 wk tb f Q B st k
  |none=>none
 |.qM f args=>match f.ev G st.fr with
  |some (.func (.func f) first O)=>match evs G st.fr args with
   |some Q=>zW2 wk tb f (first++Q++O) B st k
   |none=>none
  |_=>none
 |.build z M=>match B with
  |[]=>FXd st (xoS G zj st.fr st.H st.m (.build z M)) k
  |B=>FXd st (xoS G zj st.fr st.H st.m (.build z M)) λv st=>dK wk B (some v) (dko B λv=>k v st)
 |.vA _|.beq _ _ _|.peq _ _ _|.vN _ _ _ _ _|.seq _ _ _|.vV _ _ _|.vT _ _ _|.un _ _|.conv _ _|.v8 _|.w7 _ _|.w8 _ _|.vY _ _ _ _|.ext _ _
 |.box _ _|.alloc _|.wq _|.vb _|.wP _|.min _ _|.max _ _|.wb _ _ _|.wQ _ _|.vK _ _ _ _=>FXd st (xoS G zj st.fr st.H st.m o) k
 |_=>none
structure FEnt where
 f:Nat
 grow:JN
 val:JE->Heap->Vecs->Option (AV×Heap×Vecs)
structure FOp where
 o:XOper
 ks:List K
 h:Option (List D)
def q1(d:Nat)(o:XO):FOp:=⟨⟨some d,o,none⟩,[],none⟩
abbrev TbH:=List FEnt
def zPW:TbH->Nat->Option FEnt
 |[],_=>none
 |s::r,f=>match Nat.beq f s.f with
  |true=>some s
  |false=>zPW r f
def zNB{β:Type}(hm b:JV)(vs:JE)(st:Sta)(k:JE->Heap->Vecs->Option β):Option β:=
 match zNI hm&&zNI b with
 |true=>match zF (rnV hm b 8) vs with
  |some vs=>match rnH st.H hm b 0 hm with
   |some H=>match zOh st.V 0 b with
    |some V=>k vs H V
    |none=>none
   |none=>none
  |none=>none
 |false=>none
def zSj{β:Type}(b:Nat)(vs:JE)(st:Sta)(F:JV->JV->Option β):Option β:=
 (λd=>F d (zFQ st.H d (vs.foldl (λa v=>zJx 8 v a) []))) (zJn st.H 30 0 (vs.foldl (λa v=>hsA 8 v a) (List.range b)))
def zbz{β:Type}(c:Cut)(st:Sta)(k:JE->Heap->Vecs->Option β):Option β:=
 match zUi st.fr c.qE with
 |none=>none
 |some b=>zSj c.pins b st λd e=>zNB d e b st k
def atJ{β:Type}(F:JE->Heap->Vecs->Option β)(vs:JE)(H:Heap)(V:Vecs):Option β:=F vs H V
def zR0{β:Type}(c:Cut)(F:JE->Heap->Vecs->Option β)(st:Sta):Option β:=zbz c (zG5 c.grow st) (atJ F)
def zUr{β:Type}(e:FEnt)(ds:List D)(args:JE)(st:Sta)(k:AV->Sta->Option β):Option β:=
 (λst=>zSj 0 args st λd f=>zNB d f args st λb H V=>dD true ds (e.val b H V) (ddo ds λv H2 V2=>
  k (zOv e.grow st.mv v) (zM5 e.grow d f st H2 V2))) (qH e.grow args st)
def zdy{β:Type}(st:Sta)(v:AV)(k:AV->Sta->Option β):Option β:=
 match zSd v with
 |true=>k (wy st.V v) (wG st)
 |false=>(λF=>(λb=>match frz b [] 8 v with
  |some d=>k d (vu F b st)
  |none=>none) (zIy F st.H)) (zJn st.H 30 0 (hsA 8 v []))
def zbA{β:Type}(G:Cx)(th:TbH)(ds:List D)(st:Sta)(o:XO)(k:AV->Sta->Option β):Option β:=match o with
 |.call f args=>match zPW th f with
  |some e=>match evs G st.fr args with
   |some d=>zUr e ds d st k
   |none=>none
  |none=>none
 |.qM f args=>match f.ev G st.fr with
  |some (.func (.func f) first b)=>match zPW th f with
   |some e=>match evs G st.fr args with
    |some d=>zUr e ds (first++d++b) st k
    |none=>none
   |none=>none
  |_=>none
 |_=>none
def zYr{β:Type}(G:Cx)(tb:TbF)(th:TbH)(st:Sta)(o:FOp)(k:AV->Sta->Option β):Option β:=match o.h with
 |none=>fop true G tb st o.o.op o.ks k
 |some b=>zbA G th b st o.o.op k
def zYs{β:Type}(G:Cx)(tb:TbF)(th:TbH)(st:Sta)(o:FOp)(k:AV->Sta->Option β):Option β:=match zVK o.h o.o.op with
 |true=>FXd st (xoS G zj st.fr st.H st.m o.o.op) λv st=>zdy st v k
 |false=>zYr G tb th st o k
def brF{β:Type}(t:Nat)(c:Bool)(st:Sta)(k:Bool->Sta->Option β):Option β:=
 br c (k true ⟨st.fr.put t (.bool true),st.H,st.V,st.m,st.mv⟩) (k false ⟨st.fr.put t (.bool false),st.H,st.V,st.m,st.mv⟩)
def zQv{β:Type}(G:Cx)(tb:TbF)(th:TbH):List FOp->(Sta->Option β)->Sta->Option β
 |[],k,st=>k st
 |o::r,k,st=>match o.o.guard with
  |none=>zYs G tb th st o λv st=>zQv G tb th r k (st.put o.o.dst v)
  |some (t,b)=>match st.fr.get t with
   |some (.bool c)=>brF t c st λc st=>match c==b with
    |true=>zYs G tb th st o λv st=>zQv G tb th r k (st.put o.o.dst v)
    |false=>zQv G tb th r k (st.put o.o.dst (.qc []))
   |some (.qc [])=>zQv G tb th r k (st.put o.o.dst (.qc []))
   |_=>none
def toQ(o:FOp):TOp:=⟨o.o,o.ks,o.h.map λ_=>[]⟩
def zYt{β:Type}(G:Cx)(tb:TbF)(th:TbH)(st:Sta)(o:FOp)(k:AV->Sta->Option β):Option β:=match Nat.ble (clsQ (toQ o)) 1 with
 |true=>zYr G tb th st o λv b=>match Nat.beq b.mv st.mv with
  |true=>k v b
  |false=>none
 |false=>zYr G tb th st o k
def loF(fr:Fr):List FOp->Option Nat
 |[]=>none
 |o::r=>match o.o.op with
  |.store (.t a) _ _=>match o.ks with
   |[]=>loF fr r
   |_=>match fr.get a with
    |some (.ptr h _)=>match loF fr r with
     |some l=>some (Min.min h l)
     |none=>some h
    |_=>loF fr r
  |_=>loF fr r
def okQ(lo:Option Nat)(G:Cx)(st:Sta)(o:FOp):Bool:=match clsQ (toQ o)with
 |1=>match lo with
  |none=>true
  |some l=>(zM2 o.o.op.qb).all (λg=>match st.fr.get g with
   |some v=>ltH 12 l v
   |none=>true)&&zYq l st.H
 |2=>match o.o.op with
  |.store x _ _=>match lo with
   |some l=>match x.ev G st.fr with
    |some (.ptr h _)=>Nat.ble l h
    |_=>false
   |none=>false
  |_=>true
 |_=>true
def zL1{β:Type}(lo:Option Nat)(G:Cx)(tb:TbF)(th:TbH):List FOp->(Sta->Option β)->Sta->Option β
 |[],k,st=>k st
 |o::r,k,st=>match okQ lo G st o with
  |true=>match o.o.guard with
   |none=>zYt G tb th st o λv st=>zL1 lo G tb th r k (st.put o.o.dst v)
   |some (t,b)=>match st.fr.get t with
    |some (.bool c)=>brF t c st λc st=>match c==b with
     |true=>zYt G tb th st o λv st=>zL1 lo G tb th r k (st.put o.o.dst v)
     |false=>zL1 lo G tb th r k (st.put o.o.dst (.qc []))
    |some (.qc [])=>zL1 lo G tb th r k (st.put o.o.dst (.qc []))
    |_=>none
  |false=>none
def zYu{β:Type}(G:Cx)(tb:TbF)(st:Sta)(o:XO)(e:List K)(k:AV->Sta->Option β):Option β:=
 match o with
 |.vB _|.qL _ _ _ _ _|.append _ _ _ _|.wm|.wE _ _ _ _ _|.lookup _ _ _ _ _ _=>none
 |.qx len d z f=>FXd st (xoS G zj st.fr st.H st.m (.qx len d z f)) k
 |.vj x=>match x.ev G st.fr with
  |some (.row h off len d str cap)=>match content st.H 1 (.row h off len d str cap)with
   |some (_,i)=>bd (zBw i) λs=>k (.str s) st
   |none=>none
  |_=>none
 |o=>fop false G tb ⟨st.fr,st.H,[],st.m,st.mv⟩ o e λv b=>k v ⟨b.fr,b.H,st.V,b.m,b.mv⟩
def zNb{β:Type}(G:Cx)(tb:TbF):List FOp->(Sta->Option β)->Sta->Option β
 |[],k,st=>k st
 |o::r,k,st=>match o.o.guard with
  |none=>zYu G tb st o.o.op o.ks λv st=>zNb G tb r k (st.put o.o.dst v)
  |some (t,b)=>match st.fr.get t with
   |some (.bool c)=>brF t c st λc st=>match c==b with
    |true=>zYu G tb st o.o.op o.ks λv st=>zNb G tb r k (st.put o.o.dst v)
    |false=>zNb G tb r k (st.put o.o.dst (.qc []))
   |some (.qc [])=>zNb G tb r k (st.put o.o.dst (.qc []))
   |_=>none
inductive FC where
 |skip
 |ret
 |exit (i:Nat)
 |wH (ops:List FOp)
 |draw (pn:JV) (ops:List FOp) (ds:List XD)
 |qQ (ops:List FOp) (ds:List XD)
 |seq (a b:FC)
 |cond (c:XV) (a b:FC)
 |block (i:Nat) (b:FC)
 |loop (id:Nat) (c:Cut) (b:FC)
 |qB (k:Nat) (b:FC)
 |wg (id:Nat) (c:Cut) (a b:FC)
def ef:FC->XC
 |.skip=>.skip
 |.ret=>.ret
 |.exit i=>.exit i
 |.wH d=>.wH (d.map FOp.o)
 |.draw _ d e=>.draw (d.map FOp.o) e
 |.qQ d e=>.draw (d.map FOp.o) e
 |.seq a b=>.seq (ef a) (ef b)
 |.cond c a b=>.cond c (ef a) (ef b)
 |.block i b=>.block i (ef b)
 |.loop _ _ b=>.loop (ef b)
 |.qB _ b=>.loop (ef b)
 |.wg _ _ a b=>.seq (ef a) (ef b)
abbrev zID{β:Type}(K:Ext->Sta->Option β)(k:Sta->Option β):Ext->Sta->Option β
 |.normal,st=>k st
 |.exit i,st=>K (.exit i) st
 |.ret,st=>K .ret st
abbrev zPi{β:Type}(id:Nat)(K:Ext->Sta->Option β):Ext->Sta->Option β
 |.normal,st=>K .normal st
 |.exit i,st=>match Nat.beq i id with
  |true=>K .normal st
  |false=>K (.exit i) st
 |.ret,st=>K .ret st
def zWO{β:Type}(c:Cut)(K:Ext->Sta->Option β)(F:JE->Heap->Vecs->Option β):Ext->Sta->Option β
 |.normal,st=>zR0 c F st
 |.exit i,st=>K (.exit i) st
 |.ret,st=>K .ret st
def zOB{β:Type}(B:(Ext->Sta->Option β)->Sta->Option β)(c:Cut)(K:Ext->Sta->Option β):Nat->JE->Heap->Vecs->Option β
 |0,_,_,_=>none
 |n+1,b,H,V=>B (zWO c K (zOB B c K n)) (mkW c b H V)
noncomputable def ze:Nat:=Classical.choose (⟨1180591620717411303424,rfl⟩:∃n:Nat,n=1180591620717411303424)
theorem zE3:ze=1180591620717411303424:=Classical.choose_spec (⟨1180591620717411303424,rfl⟩:∃n:Nat,n=1180591620717411303424)
def zJ1{β:Type}(B:(Ext->Sta->Option β)->Sta->Option β)(K:Ext->Sta->Option β):Nat->Sta->Option β
 |0,_=>none
 |n+1,st=>B (zID K (zJ1 B K n)) st
def FT{β:Type}(U:Nat)(G:Cx)(tb:TbF)(th:TbH):FC->(Ext->Sta->Option β)->Sta->Option β
 |.skip,K,st=>K .normal st
 |.ret,K,st=>K .ret st
 |.exit i,K,st=>K (.exit i) st
 |.wH d,K,st=>zQv G tb th d (K .normal) st
 |.draw j d e,K,st=>match zUj (d.map FOp.o) e&&j.all (zWL st.fr)with
  |true=>zNb G tb d (K .normal) st
  |false=>none
 |.qQ d e,K,st=>match zKv (d.map toQ) e&&zMU 0 [] [] [] (d.map toQ) e with
  |true=>zL1 (loF st.fr d) G tb th d (K .normal) st
  |false=>none
 |.seq a b,K,st=>FT U G tb th a (zID K (FT U G tb th b K)) st
 |.cond c a b,K,st=>match c.ev G st.fr with
  |some (.bool f)=>match c with
   |.t n=>brF n f st λf st=>match f with
    |true=>FT U G tb th a K st
    |false=>FT U G tb th b K st
   |_=>br f (FT U G tb th a K st) (FT U G tb th b K st)
  |_=>none
 |.block i b,K,st=>FT U G tb th b (zPi i K) st
 |.qB k b,K,st=>zJ1 (FT U G tb th b) K k st
 |.loop _ c b,K,st=>zR0 c (zOB (FT U G tb th b) c K U) st
 |.wg _ c a b,K,st=>FT U G tb th a (zID K (zR0 c λh H V=>FT U G tb th b K (mkW c h H V))) st
def zL2(id:Nat):FC->Bool
 |.seq a b|.cond _ a b=>zL2 id a||zL2 id b
 |.block _ b=>zL2 id b
 |.loop i _ b=>Nat.beq id i||zL2 id b
 |.qB _ b=>zL2 id b
 |.wg i _ a b=>Nat.beq id i||(zL2 id a||zL2 id b)
 |_=>false
def zOj{β:Type}(U:Nat)(G:Cx)(tb:TbF)(th:TbH)(id:Nat):FC->(Ext->Sta->Option β)->JV->JE->Heap->Vecs->Option β
 |.seq a b,K,d=>match zL2 id a with
  |true=>zOj U G tb th id a (zID K (FT U G tb th b K)) d
  |false=>zOj U G tb th id b K d
 |.cond _ a b,K,d=>match zL2 id a with
  |true=>zOj U G tb th id a K d
  |false=>zOj U G tb th id b K d
 |.block i b,K,d=>zOj U G tb th id b (zPi i K) d
 |.qB _ b,K,d=>match d with
  |[]=>λ_ _ _=>none
  |n::d=>zOj U G tb th id b (zID K (zJ1 (FT U G tb th b) K n)) d
 |.loop i c b,K,d=>match d with
  |[]=>λ_ _ _=>none
  |n::d=>match Nat.beq id i with
   |true=>atJ (zOB (FT U G tb th b) c K n)
   |false=>zOj U G tb th id b (zWO c K (zOB (FT U G tb th b) c K n)) d
 |.wg i c a b,K,d=>match Nat.beq id i with
  |true=>atJ λe H V=>FT U G tb th b K (mkW c e H V)
  |false=>match zL2 id a with
   |true=>zOj U G tb th id a (zID K (zR0 c λe H V=>FT U G tb th b K (mkW c e H V))) d
   |false=>zOj U G tb th id b K d
 |_,_,_=>λ_ _ _=>none
def zaI(b:List XR):Ext->Sta->JF
 |.exit _,_=>none
 |_,st=>match zJi st.H st.fr b with
  |some d=>zCA st.H st.V 8 (zEn d)
  |none=>none
def zai(n:Nat):AV->Bool
 |.sym j=>Nat.blt j n
 |v=>ppS 12 v
def outB(n:Nat):Heap->Bool
 |[]=>true
 |(_,.cells _ b)::r=>b.all (zai n)&&outB n r
 |_=>false
def zTP:Vecs->Bool
 |[]=>true
 |(_,o)::r=>o.qA&&zTP r
def zQw(d:List XR)(pn:JV):Ext->Sta->Option (AV×Heap×Vecs)
 |.exit _,_=>none
 |_,st=>match zJi st.H st.fr d with
  |some b=>match zSd (zEn b)with
   |false=>match zEk 8 (zEn b)||!zLX st.fr 0 pn with
    |false=>zNB (List.range pn.length) (zFQ st.H (List.range pn.length) []) [] st λ_ H V=>match outB V.length H&&zTP V with
     |true=>some (zEn b,H,V)
     |false=>none
    |true=>none
   |true=>match zLX st.fr 0 pn with
    |true=>zNB (List.range pn.length) (zFQ st.H (List.range pn.length) (zJx 8 (zEn b) [])) [zEn b] st λus H V=>match us with
     |[u]=>match zSd u&&(outB V.length H&&zTP V)with
      |true=>some (u,H,V)
      |false=>none
     |_=>none
    |false=>none
  |none=>none
theorem zeD{β:Type}{b:Bool}{x:Option β}{r:β}(h:gd b x=some r):b=true/\x=some r:=by
 cases b
 .cases h
 .exact⟨rfl,h⟩
theorem zEy{β:Type}{p:Prop}[Decidable p]{x:Option β}{r:β}(h:gd (decide p) x=some r):p/\x=some r:=
 let ⟨a,b⟩:=zeD h;⟨QP a,b⟩
theorem zPj{β:Type}{b:Bool}{x y:Option β}{r:β}(h:br b x y=some r):(b=true/\x=some r)\/(b=false/\y=some r):=by
 cases b
 .exact .inr ⟨rfl,h⟩
 .exact .inl ⟨rfl,h⟩
theorem zPk{α β:Type}{o:Option α}{f:α->Option β}{r:β}(h:bd o f=some r):∃a,o=some a/\f a=some r:=by
 cases o with
 |none=>cases h
 |some a=>exact⟨a,rfl,h⟩
theorem zNP{β:Type}{t:Nat}{c:Bool}{st:Sta}{k:Bool->Sta->Option β}{r:β}(h:brF t c st k=some r):k c ⟨st.fr.put t (.bool c),st.H,st.V,st.m,st.mv⟩=some r:=by
 rcases zPj h with⟨rfl,h⟩|⟨rfl,h⟩<;>exact h
def WKs(vs us:JE):Prop:=vs.length=us.length/\∀(i:Nat) v u,vs[i]?=some v->us[i]?=some u->WK v u
theorem WKs.vJ{vs:JE}:WKs vs vs:=⟨rfl,λi v u h b=>by rw[h]at b;cases b;exact .refl _⟩
theorem WKs.nil{us:JE}(h:WKs [] us):us=[]:=by
 cases us with
 |nil=>rfl
 |cons a b=>exact absurd h.1 (by simp)
theorem WKs.cons{v u:AV}{vs us:JE}(h:WK v u)(f:WKs vs us):WKs (v::vs) (u::us):=⟨by simp[f.1],λi a b d e=>by
 cases i with
 |zero=>simp at d e;subst d;subst e;exact h
 |succ i=>exact f.2 i a b (by simpa using d) (by simpa using e)⟩
theorem WKs.w6{v:AV}{vs us:JE}(h:WKs (v::vs) us):∃u d,us=u::d/\WK v u/\WKs vs d:=by
 cases us with
 |nil=>exact absurd h.1 (by simp)
 |cons u us=>exact⟨u,us,rfl,h.2 0 v u rfl rfl,by simpa using h.1,λi a b e f=>h.2 (i+1) a b (by simpa using e) (by simpa using f)⟩
theorem WKs.split{a b us:JE}(h:WKs (a++b) us):WKs a (us.take a.length)/\WKs b (us.drop a.length):=by
 obtain⟨h1,f⟩:=h;rw[QC]at h1;refine⟨⟨by rw[Qh];omega,λi v u e d=>?_⟩,⟨by rw[Qp];omega,λi v u e d=>?_⟩⟩
 .have j:=(QB.1 e).1;rw[List.getElem?_take,if_pos j]at d;exact f i v u (by rw[Qs j];exact e) d
 .rw[List.getElem?_drop]at d;exact f (a.length+i) v u (by rw[List.getElem?_append_right (by omega)];simpa using e) d
theorem zV9:∀{a b:List (AV×AV)},zSG a=zSG b->a=b
 |[],[],_=>rfl
 |[],(k,v)::b,h=>by cases h
 |(k,v)::a,[],h=>by cases h
 |(k,v)::a,(e,d)::b,h=>by
  simp only[zSG,List.cons.injEq]at h;obtain⟨rfl,rfl,h⟩:=h;rw[zV9 h]
theorem zBR{β:Type}{r:β}:∀{ds:List D}{wk:Bool}{F:JE->Heap->Vecs->Option β}{vs:JE}{H:Heap}{V:Vecs},din wk ds (zHP ds F) vs H V=some r->∃us,WKs vs us/\(wk=false->us=vs)/\F us H V=some r
 |[],wk,F,vs,H,V,h=>by
  cases vs with
  |nil=>
   cases H with
   |nil=>
    cases V with
    |nil=>exact⟨[],.vJ,λ_=>rfl,h⟩
    |cons=>cases h
   |cons=>cases h
  |cons=>cases h
 |.v .b::ds,wk,F,vs,H,V,h=>by
  cases vs with
  |nil=>cases h
  |cons v vs=>
   cases v<;>first|(cases h;done)|skip
   obtain⟨us,h1,f,d⟩:=zBR (ds:=ds) h;exact⟨_,.cons (.refl _) h1,λe=>by rw[f e],d⟩
 |.v (.i k)::ds,wk,F,vs,H,V,h=>by
  cases vs with
  |nil=>cases h
  |cons v vs=>
   cases v<;>first|(cases h;done)|skip
   rename_i Q n;simp only[din]at h;split at h
   .rename_i e;have:=zJF e;subst this;obtain⟨us,h1,f,d⟩:=zBR (ds:=ds) h;exact⟨_,.cons (.refl _) h1,λe=>by rw[f e],d⟩
   .cases h
 |.v .s::ds,wk,F,vs,H,V,h=>by
  cases vs with
  |nil=>cases h
  |cons v vs=>
   cases v<;>first|(cases h;done)|skip
   obtain⟨us,h1,f,d⟩:=zBR (ds:=ds) h;exact⟨_,.cons (.refl _) h1,λe=>by rw[f e],d⟩
 |.v (.l J)::ds,wk,F,vs,H,V,h=>by
  cases vs with
  |nil=>cases h
  |cons v vs=>
   cases v<;>first|(cases h;done)|skip
   .simp only[din]at h;split at h
    .obtain⟨us,h1,f,d⟩:=zBR (ds:=ds) h;exact⟨_,.cons (.nil _) h1,λe=>by simp_all,d⟩
    .cases h
   .simp only[din]at h;split at h
    .rename_i e;have:=zc e;subst this;obtain⟨us,h1,f,d⟩:=zBR (ds:=ds) h;exact⟨_,.cons (.refl _) h1,λe=>by rw[f e],d⟩
    .cases h
 |.v .av::ds,wk,F,vs,H,V,h=>by
  cases vs with
  |nil=>cases h
  |cons v vs=>
   obtain⟨us,h1,f,d⟩:=zBR (ds:=ds) h;exact⟨_,.cons (.refl _) h1,λe=>by rw[f e],d⟩
 |.v (.c u)::ds,wk,F,vs,H,V,h=>by
  cases vs with
  |nil=>cases h
  |cons v vs=>
   simp only[din]at h;split at h
   .rename_i e;have:=zVV 20 _ _ e;subst this;obtain⟨us,h1,f,d⟩:=zBR (ds:=ds) h;exact⟨_,.cons (.refl _) h1,λe=>by rw[f e],d⟩
   .cases h
 |.v (.agg n)::ds,wk,F,vs,H,V,h=>by
  cases vs with
  |nil=>cases h
  |cons v vs=>
   cases v<;>first|(cases h;done)|skip
   rename_i K;simp only[din]at h;split at h
   .rename_i e;have:=zc e;subst this;obtain⟨us,h1,f,d⟩:=zBR (ds:=ds) h;obtain⟨s1,B⟩:=h1.split;exact⟨_,.cons (.agg s1.1 s1.2) B,λe=>by rw[f e];simp,d⟩
   .cases h
 |.v (.qc n)::ds,wk,F,vs,H,V,h=>by
  cases vs with
  |nil=>cases h
  |cons v vs=>
   cases v<;>first|(cases h;done)|skip
   rename_i K;simp only[din]at h;split at h
   .rename_i e;have:=zc e;subst this;obtain⟨us,h1,f,d⟩:=zBR (ds:=ds) h;obtain⟨s1,B⟩:=h1.split;exact⟨_,.cons (.qc s1.1 s1.2) B,λe=>by rw[f e];simp,d⟩
   .cases h
 |.v (.ep off)::ds,wk,F,vs,H,V,h=>by
  cases vs with
  |nil=>cases h
  |cons v vs=>
   cases v<;>first|(cases h;done)|skip
   simp only[din]at h;split at h
   .rename_i e;have:=zc e;subst this;obtain⟨us,h1,f,d⟩:=zBR (ds:=ds) h;obtain⟨u,A,rfl,y,I⟩:=h1.w6;exact⟨_,.cons (.qd _ y) I,λe=>by have:=f e;simp_all,d⟩
   .cases h
 |.v (.uR t)::ds,wk,F,vs,H,V,h=>by
  cases vs with
  |nil=>cases h
  |cons v vs=>
   cases v<;>first|(cases h;done)|skip
   simp only[din]at h;split at h
   .rename_i e;have:=zc e;subst this;obtain⟨us,h1,f,d⟩:=zBR (ds:=ds) h;obtain⟨u,A,rfl,y,I⟩:=h1.w6;exact⟨_,.cons (.iface _ y) I,λe=>by have:=f e;simp_all,d⟩
   .cases h
 |.hc R str n::ds,wk,F,vs,H,V,h=>by
  cases vs with
  |cons=>cases h
  |nil=>
   cases H with
   |nil=>cases h
   |cons p H=>
    obtain⟨O,o⟩:=p;cases o<;>first|(cases h;done)|skip
    simp only[din]at h;split at h
    .rename_i e;simp only[qr,beq_iff_eq]at e;obtain⟨⟨x,q⟩,N⟩:=e;have:=zc x;subst this;subst q;obtain⟨us,h1,f,d⟩:=zBR (ds:=ds) h;rw[f rfl]at d;exact⟨[],.vJ,λ_=>rfl,d⟩
    .cases h
 |.vec j J::ds,wk,F,vs,H,V,h=>by
  cases vs with
  |cons=>cases h
  |nil=>
   cases V with
   |nil=>cases h
   |cons p V=>
    obtain⟨z,o⟩:=p;cases o<;>first|(cases h;done)|skip
    simp only[din]at h;split at h
    .rename_i e;simp only[qr]at e;obtain⟨x,q⟩:=e;have:=zc x;subst this;have:=zc q;subst this;obtain⟨us,h1,f,d⟩:=zBR (ds:=ds) h;rw[f rfl]at d;exact⟨[],.vJ,λ_=>rfl,d⟩
    .cases h
 |.mp j::ds,wk,F,vs,H,V,h=>by
  cases vs with
  |cons=>cases h
  |nil=>
   cases V with
   |nil=>cases h
   |cons p V=>
    obtain⟨z,o⟩:=p;cases o<;>first|(cases h;done)|skip
    simp only[din]at h;split at h
    .rename_i e;have:=zc e;subst this;obtain⟨us,h1,f,d⟩:=zBR (ds:=ds) h;rw[f rfl]at d;exact⟨[],.vJ,λ_=>rfl,d⟩
    .cases h
 |.uQ j M::ds,wk,F,vs,H,V,h=>by
  cases vs with
  |cons=>cases h
  |nil=>
   cases V with
   |nil=>cases h
   |cons p V=>
    obtain⟨z,o⟩:=p;cases o<;>first|(cases h;done)|skip
    simp only[din]at h;split at h
    .rename_i e;rw[qr]at e;have:=zc e.1;subst this;have:=zV9 (AV.agg.inj (zVV 20 _ _ e.2));subst this;obtain⟨us,h1,f,d⟩:=zBR (ds:=ds) h;rw[f rfl]at d;exact⟨[],.vJ,λ_=>rfl,d⟩
    .cases h
 |.vn j J n::ds,wk,F,vs,H,V,h=>by
  cases vs with
  |cons=>cases h
  |nil=>
   cases V with
   |nil=>cases h
   |cons p V=>
    obtain⟨z,o⟩:=p;cases o<;>first|(cases h;done)|skip
    simp only[din]at h;split at h
    .rename_i e;simp only[qr]at e;obtain⟨x,q,N⟩:=e;have:=zc x;subst this;have:=zc q;subst this;obtain⟨us,h1,f,d⟩:=zBR (ds:=ds) h;rw[f rfl]at d;exact⟨[],.vJ,λ_=>rfl,d⟩
    .cases h
theorem zXF{β:Type}{l:Bool}{kd:List Kd}{d:AV}{r:β}:∀{es:List (AV×AV)}{k:JF->Option β},lkB l kd d es k=some r->∃o,zCt l kd d es=some o/\k o=some r
 |[],k,h=>⟨none,rfl,h⟩
 |(j,v)::es,k,h=>by
  simp only[lkB]at h;split at h
  .rename_i b e;cases b with
   |true=>exact⟨some v,by simp only[zCt,e],h⟩
   |false=>
    obtain⟨o,h1,n⟩:=zXF (es:=es) (k:=k) h;exact⟨o,by simp only[zCt,e];exact h1,n⟩
  .cases h
theorem zPl{β:Type}{wk:Bool}{b:List K}{o:JF}{k:AV->Option β}{r:β}(h:dK wk b o (dko b k)=some r):∃v u,o=some v/\WK v u/\(wk=false->u=v)/\k u=some r:=by
 cases o with
 |none=>cases h
 |some v=>
  obtain⟨us,h1,f,j⟩:=zBR h;obtain⟨u,i,rfl,d,l⟩:=h1.w6;have:=l.nil;subst this;exact⟨v,u,rfl,d,λe=>by have:=f e;simp_all,j⟩
theorem zeE{β:Type}{wk:Bool}{ds:List D}{o:Option (AV×Heap×Vecs)}{k:AV->Heap->Vecs->Option β}{r:β}(h:dD wk ds o (ddo ds k)=some r):∃v u H V,o=some (v,H,V)/\WK v u/\(wk=false->u=v)/\k u H V=some r:=by
 cases o with
 |none=>cases h
 |some p=>
  obtain⟨v,H,V⟩:=p;obtain⟨us,h1,d,i⟩:=zBR h;obtain⟨u,f,rfl,b,j⟩:=h1.w6;have:=j.nil;subst this;exact⟨v,u,H,V,rfl,b,λe=>by have:=d e;simp_all,i⟩
def VIP:VI->Prop
 |.vec _ b=>∀e∈b,PP e
 |.mp b=>∀p∈b,PP p.1/\PP p.2
 |.qU _ _ _=>True
structure CPS(st:Sta):Prop where
 fr:zFn st.mv st.m st.fr
 H:HCP st.mv st.m st.H
 V:∀j vi,st.V.get j=some vi->j<st.mv/\VIP vi
 lt:∀p∈st.H,p.1<st.m
theorem CPS.wU{st:Sta}(s:CPS st){vi:VI}(h:VIP vi):CPS ⟨st.fr,st.H,(st.mv,vi)::st.V,st.m,st.mv+1⟩:=
 ⟨s.fr.mono (Qd _) (QA _),s.H.mono (Qd _) (QA _),λj v b=>by
  rw[Vecs.qh]at b;split at b
  .rename_i e;cases b;exact⟨by show j<st.mv+1;omega,h⟩
  .have:=s.V j v b;exact⟨Nat.lt_succ_of_lt this.1,this.2⟩,s.lt⟩
theorem CPS.uH{st:Sta}(s:CPS st){j:Nat}{vi:VI}(d:j<st.mv)(h:VIP vi):CPS ⟨st.fr,st.H,(j,vi)::st.V.del j,st.m,st.mv⟩:=
 ⟨s.fr,s.H,λi v b=>by
  rw[Vecs.qh]at b;split at b
  .rename_i e;subst e;cases b;exact⟨d,h⟩
  .rw[Vecs.qO]at b;split at b
   .cases b
   .exact s.V i v b,s.lt⟩
theorem CPS.uS{st:Sta}(s:CPS st){j:Nat}{vi:VI}(h:VIP vi):CPS ⟨st.fr,st.H,(st.mv,vi)::st.V.del j,st.m,st.mv+1⟩:=
 ⟨s.fr.mono (Qd _) (QA _),s.H.mono (Qd _) (QA _),λi v b=>by
  rw[Vecs.qh]at b;split at b
  .rename_i e;cases b;exact⟨by show i<st.mv+1;omega,h⟩
  .rw[Vecs.qO]at b;split at b
   .cases b
   .have:=s.V i v b;exact⟨Nat.lt_succ_of_lt this.1,this.2⟩,s.lt⟩
theorem CPS.put{st:Sta}(s:CPS st){n:Nat}{v:AV}(h:CP st.mv st.m v):CPS ⟨st.fr.put n v,st.H,st.V,st.m,st.mv⟩:=
 ⟨λt u e=>by
  rw[Fr.qq]at e;split at e
  .cases e;exact h
  .exact s.fr t u e,s.H,s.V,s.lt⟩
theorem CPS.qu{st:Sta}(s:CPS st){d:Option Nat}{v:AV}(h:CP st.mv st.m v):CPS (st.put d v):=by
 cases d with
 |none=>exact s
 |some n=>exact s.put h
def tbS(tb:TbF):TblS:=tb.map λs=>(s.1,(λargs=>∀x∈args,PP x),s.2)
theorem zXG{tb:TbF}{f:Nat}{g:JE->JF}{args:JE}{v:AV}{k:AV->Prop}(b:zSi tb f=some g)(i:g args=some v)(d:∀x∈args,PP x)(hk:k v):zIx (tbS tb) f args k:=by
 induction tb with
 |nil=>cases b
 |cons s r h=>
  simp only[zSi]at b;simp only[tbS,Qe,zIx];split at b
  .rename_i e;cases b;simp only[e,i];exact⟨d,hk⟩
  .rename_i e;simp only[e];exact h b
theorem zbB{tb:TbF}{f:Nat}{g:JE->JF}(h:zSi tb f=some g):(f,g)∈tb:=by
 induction tb with
 |nil=>cases h
 |cons s r b=>
  simp only[zSi]at h;split at h
  .rename_i e;cases h;rw[zc e];exact .head _
  .exact .tail _ (b h)
structure Stp{β:Type}(G:Cx)(tb:TbF)(st:Sta)(wk:Bool)(k:AV->Sta->Option β)(r:β)(W:(AV->Sta->Prop)->Prop)(v u:AV)(st':Sta):Prop where
 k:k u st'=some r
 vS:WK v u
 eq:wk=false->u=v
 cp:CP st'.mv st'.m u
 ve:CPS st'
 w:∀C:AV->Sta->Prop,C v st'->W C
 le:st.mv<=st'.mv
section
variable{β:Type}{P:Program}{G:Cx}{tb:TbF}{st:Sta}{k:AV->Sta->Option β}{r:β}{wk:Bool}
theorem zcP{H:Heap}{sz n m:Nat}{u:AV}{o:JE}(hH:HCP n m H)(l:CP n m u)(d:zEa H sz u=some o)(f:(zSc u||ppS 12 (.agg o))=true):∀e∈o,PP e:=by
 rw[Bool.or_eq_true]at f;rcases f.symm with f|f
 .have p:CP n m (.agg o):=by
   refine .agg _ λe j=>?_
   cases u with
   |qa=>cases d;cases j
   |qg q J=>
    simp only[zEa]at d;split at d
    .cases d;cases l with
     |qg _ _ h=>exact(h e j).cp
    .cases d
   |row=>
    simp only[zEa]at d;split at d
    .split at d
     .rename_i str R A;split at d
      .obtain⟨_,T,_,S,F⟩:=zAQ d;obtain⟨i,K⟩:=List.getElem?_of_mem j;obtain⟨Q,M⟩:=zAo F;obtain⟨O,B,D⟩:=z6 (M i e K);obtain⟨x,I,N,v⟩:=hH.get A;cases N;refine zD2 D λz y=>v z ?_
       rw[B]at y;exact Qc (QT (Qc (QT y)))
      .cases d
     .cases d
    .cases d
   |str s=>
    simp only[zEa]at d;split at d
    .cases d;obtain⟨b,_,rfl⟩:=Qg.1 j;exact .int _ _
    .cases d
   |_=>cases d
  have:=zEH 12 p f;cases this with
  |agg _ h=>exact h
 .cases u with
  |qg q J=>
   simp only[zEa]at d;split at d
   .cases d;cases l with
    |qg _ _ h=>exact h
   .cases d
  |_=>cases f
theorem zWa{sz len n m:Nat}{cs es:JE}(p:zE7 sz len cs=some es)(b:∀c∈cs,CP n m c)(l:es.all (ppS 12)=true):∀e∈es,PP e:=by
 obtain⟨h1,v,A,y,h⟩:=zAQ p;intro e f;obtain⟨i,q⟩:=List.getElem?_of_mem f;obtain⟨q1,u⟩:=zAo h;obtain⟨z,o,j⟩:=z6 (u i e q);refine zEH (n:=n) (k:=m) 12 (zD2 j λx d=>b x ?_) (QD.1 l e f)
 rw[o]at d;exact QT (Qc (QT d))
theorem zXH{n:Bool}{kd:List Kd}{j:AV}:∀{es:List (AV×AV)}{u:AV},(∀p∈es,PP p.1/\PP p.2)->zCt n kd j es=some (some u)->PP u:=by
 intro es
 induction es with
 |nil=>intro u _ h;cases h
 |cons q r l=>
  intro u d h;simp only[zCt]at h;split at h
  .cases h;exact(d _ (.head _)).2
  .exact l (λp e=>d p (.tail _ e)) h
  .cases h
theorem zeF{y:Bool}{kd:List Kd}{o u:AV}(l:PP o)(j:PP u):∀{es e:List (AV×AV)},(∀p∈es,PP p.1/\PP p.2)->zGn y kd o u es=some e->∀p∈e,PP p.1/\PP p.2:=by
 intro es
 induction es with
 |nil=>intro e _ h p d;cases h;simp only[Qa]at d;subst d;exact⟨l,j⟩
 |cons q r x=>
  intro e n h p d;simp only[zGn]at h;split at h
  .cases h;rcases QH.1 d with rfl|d
   .exact⟨l,j⟩
   .exact n p (.tail _ d)
  .split at h
   .rename_i z v;cases h;rcases QH.1 d with rfl|d
    .exact n _ (.head _)
    .exact x (λp d=>n p (.tail _ d)) v p d
   .cases h
  .cases h
theorem zS6{n:Int}{lo d:JF}{k:Int->Int->Option β}(h:zUq n lo d k=some r):∃l u,k l u=some r/\∀C:Int->Int->Prop,C l u->zMb n lo d C:=by
 unfold zUq at h;split at h
 .split at h
  .exact⟨_,_,h,λC hc=>hc⟩
  .obtain⟨h1,b⟩:=zEy h;exact⟨_,_,b,λC hc=>⟨h1,hc⟩⟩
  .cases h
 .split at h
  .obtain⟨h1,b⟩:=zEy h;exact⟨_,_,b,λC hc=>⟨h1,hc⟩⟩
  .obtain⟨h1,b⟩:=zEy h;exact⟨_,_,b,λC hc=>⟨h1,hc⟩⟩
  .cases h
 .cases h
theorem zL3{n:Int}:∀{l:Nat}{k:Nat->Option β},zRy n l k=some r->∃m,m<l/\n=.ofNat m/\k m=some r
 |0,k,h=>by cases h
 |l+1,k,h=>by
  rcases zPj h with⟨e,h⟩|⟨_,h⟩
  .exact⟨l,QX _,QP e,h⟩
  .obtain⟨m,h1,b,d⟩:=zL3 h;exact⟨m,Nat.lt_succ_of_lt h1,b,d⟩
theorem zOC{n:Int}{m:Nat}(b:n=.ofNat m):∀{l:Nat}{C:Nat->Prop},C m->zKt n l C
 |0,C,_=>trivial
 |l+1,C,h=>⟨zOC b h,λe=>by
  have:m=l:=by rw[b]at e;exact Int.ofNat.inj e
  exact this▸h⟩
theorem zWb{f:Nat}{vs:JE}{O:List K}(y:TbW P G (tbS tb))(s:CPS st)(n:∀x∈vs,CP st.mv st.m x)(h:zW2 wk tb f vs O st k=some r):∃v u M,Stp G tb st wk k r (zEW (tbS tb) f vs st) v u M:=by
 have key:∀{args:JE}{J:AV->Option β},(∀x∈args,PP x)->zWN wk tb f args O J=some r->∃v u,PP v/\WK v u/\(wk=false->u=v)/\J u=some r/\∀C:AV->Prop,C v->zIx (tbS tb) f args C:=λ{args J} e h=>by
  unfold zWN at h;split at h
  .rename_i g F;have q:=zbB F;have o:(f,(λargs:JE=>∀x∈args,PP x),g)∈tbS tb:=Qg.2 ⟨_,q,rfl⟩
   split at h
   .obtain⟨v,h1,d⟩:=zPk h;exact⟨v,v,(y _ o args v e h1).2.1,.refl _,λ_=>rfl,d,λC hc=>zXG F h1 e hc⟩
   .obtain⟨v,u,h1,d,p,j⟩:=zPl h;exact⟨v,u,(y _ o args v e h1).2.1,d,p,j,λC hc=>zXG F h1 e hc⟩
  .cases h
 unfold zW2 at h;split at h
 .rename_i z;have e:∀x∈vs,PP x:=λx A=>zNA 8 (n x A) (by have:=List.any_eq_false.1 z x A;simpa using this)
  obtain⟨v,u,h1,d,p,j,I⟩:=key e h;exact⟨v,u,st,j,d,p,(d.pp h1).cp,s,λC hc=>by unfold zEW;simp only[z];exact I _ hc,(by first|exact QA _|exact Qd _)⟩
 .rename_i z;split at h
  .rename_i l b;have e:∀x∈l,PP x:=by
    obtain⟨m1,m2⟩:=zCc b;intro x A;obtain⟨i,Q⟩:=List.getElem?_of_mem A;have B:i<vs.length:=by have:=(QB.1 Q).1;omega
    have R:=QF B;exact frz_pp s 8 (n _ (QE R)) (m2 i _ x R Q)
   obtain⟨v,u,h1,d,p,j,I⟩:=key e h;split at j
   .rename_i N;have D:zDF 8 v=true:=scalar_wk 8 d N;exact⟨v,u,st,j,d,p,(d.pp h1).cp,s,λC hc=>by unfold zEW;simp only[z,b];exact I _ (by simp only[D];exact hc),(by first|exact QA _|exact Qd _)⟩
   .cases j
  .cases h
where
 scalar_wk:∀(d:Nat){v u:AV},WK v u->zDF d u=true->zDF d v=true:=by
  intro d
  induction d with
  |zero=>intro v u _ h;cases h
  |succ d ih=>
   intro v u hw h;have al:∀{cs cs':JE},cs.length=cs'.length->(∀(i:Nat) c c',cs[i]?=some c->cs'[i]?=some c'->WK c c')->cs'.all (zDF d)=true->cs.all (zDF d)=true:=λhl hi ha=>by
    rw[QD]at ha⊢;intro c hc;obtain⟨i,hi'⟩:=List.getElem?_of_mem hc;have hlt:=(QB.1 hi').1;have h2:=QF (show i<_ from hl▸hlt)
    exact ih (hi i c _ hi' h2) (ha _ (QE h2))
   cases hw with
   |refl=>exact h
   |nil=>cases h
   |qd=>cases h
   |iface t hw=>exact ih hw h
   |agg hl hi=>exact al hl hi h
   |qc hl hi=>exact al hl hi h
 frz_pp {st:Sta} (s:CPS st):∀(d:Nat){v v':AV},CP st.mv st.m v->frz st.H st.V d v=some v'->PP v':=by
  intro d
  induction d with
  |zero=>intro v v' _ h;cases h
  |succ d ih=>
   intro v v' hcp h;have al:∀{l l':JE},(∀e∈l,CP st.mv st.m e)->zF (frz st.H st.V d) l=some l'->∀e∈l',PP e:=λhl hm=>by
    obtain⟨m1,m2⟩:=zCc hm;intro x hx;obtain⟨i,hi⟩:=List.getElem?_of_mem hx;have hlt:=(QB.1 hi).1;have hv:=QF (show i<_ from m1▸hlt)
    exact ih (hl _ (QE hv)) (m2 i _ x hv hi)
   unfold frz at h;split at h
   .split at h
    .rename_i hV;cases h;exact .qg _ _ (s.V _ _ hV).2
    .cases h
   .split at h
    .rename_i hg;obtain⟨str,cs,e,hc⟩:=s.H.get hg;cases e;split at h
     .rename_i cs' hcs;cases h;exact .qd _ _ (.agg _ (al hc hcs))
     .cases h
    .cases h
   .cases hcp with
    |func _ _ _ ha hb=>
     split at h
     .rename_i a' hA;split at h
      .rename_i b' hB;cases h;exact .func _ _ _ (al ha hA) (al hb hB)
      .cases h
     .cases h
   .cases hcp with
    |agg _ hc=>
     split at h
     .rename_i cs' hcs;cases h;exact .agg _ (al hc hcs)
     .cases h
   .split at h
    .rename_i hg;obtain⟨str,cs,e,hc⟩:=s.H.get hg;cases e;split at h
     .split at h
      .rename_i hre;split at h
       .rename_i hpp;cases h;refine .qg _ _ λe he=>?_
        obtain⟨h1,h2,h3,h4,h5⟩:=zAQ hre;obtain⟨i,hi⟩:=List.getElem?_of_mem he;obtain⟨q1,q2⟩:=zAo h5;obtain⟨q3,q4,q5⟩:=z6 (q2 i e hi);refine zEH (n:=st.mv) (k:=st.m) 8 (zD2 q5 λx hx=>hc x ?_) (QD.1 hpp e he)
        rw[q4]at hx;exact Qc (QT (Qc (QT hx)))
       .cases h
      .cases h
     .cases h
    .cases h
   .split at h
    .cases h
    .rename_i hh;cases h;exact zNA d hcp hh
theorem zVm(aj:TbW P G (tbS tb))(Y:GPP G){o:XO}{ks:List K}(d:zy o=true)(s:CPS st)(h:fop wk G tb st o ks k=some r):∃v u I,Stp G tb st wk k r (wop G (tbS tb) st o ks) v u I:=by
 have J:∀{o':XO},zPg o'=true->zy o'=true->FXd st (xoS G zj st.fr st.H st.m o') k=some r->∃v u I,Stp G tb st wk k r (λC=>WXd st (xoS G zj st.fr st.H st.m o') C) v u I:=λ{o'} hd d h=>by
  unfold FXd at h;split at h
  .rename_i v H m e;obtain⟨h1,D⟩:=zRi hd d Y s.fr s.H e;obtain⟨X,h4⟩:=zUm hd s.lt e;exact⟨v,v,_,h,.refl _,λ_=>rfl,h1,⟨s.fr.mono (QA _) h4,D,s.V,X⟩,λC hc=>by unfold WXd;simp only[e];exact hc,(by first|exact QA _|exact Qd _)⟩
  .cases h
 have val:∀{v u:AV}{W:(AV->Sta->Prop)->Prop},WK v u->(wk=false->u=v)->CP st.mv st.m u->k u st=some r->(∀C:AV->Sta->Prop,C v st->W C)->∃v u I,Stp G tb st wk k r W v u I:=λhw N hc hk hC=>⟨_,_,st,hk,hw,N,hc,s,hC,(by first|exact QA _|exact Qd _)⟩
 have F:∀{v:AV}{W:(AV->Sta->Prop)->Prop},CP st.mv st.m v->k v st=some r->(∀C:AV->Sta->Prop,C v st->W C)->∃v u I,Stp G tb st wk k r W v u I:=λhc hk hC=>val (.refl _) (λ_=>rfl) hc hk hC
 have M:CP (st.mv+1) st.m (.sym st.mv):=.sym _ (QX _);have nil:CP st.mv st.m (.qc []):=.qc _ λe N=>by cases N
 cases o<;>try (cases h;done)
 all_goals try (exact J rfl d h)
 case build z ps=>
  simp only[fop]at h
  delta wop;dsimp only
  cases ks with
  |nil=>exact J rfl d h
  |cons k0 ks=>
   dsimp only at h;unfold FXd at h;split at h
   .rename_i v H m e;obtain⟨h1,D⟩:=zRi (o:=.build z ps) rfl d Y s.fr s.H e;obtain⟨X,h4⟩:=zUm (o:=.build z ps) rfl s.lt e;obtain⟨v',u,e1,e2,e3,e4⟩:=zPl h;cases e1;exact⟨v,u,_,e4,e2,e3,e2.cp h1,⟨s.fr.mono (QA _) h4,D,s.V,X⟩,λC hc=>by unfold WXd;simp only[e];exact hc,(by first|exact QA _|exact Qd _)⟩
   .cases h
 case q9 x i l T ag=>
  simp only[fop]at h
  delta wop;dsimp only
  cases ks with
  |nil=>exact J rfl d h
  |cons k0 ks=>
   dsimp only at h⊢;split at h
   .rename_i kd n hi;rw[hi];obtain⟨m,h1,D,X⟩:=zL3 h;have B:zy (.q9 x (.c (.int kd (.ofNat m))) l T ag)=true:=by
     simp only[zy,XO.qb,zAm,List.all_append,Qb,List.all_nil,QV,qr]at d⊢;exact⟨d.1,rfl⟩
    obtain⟨v,u,I,q⟩:=J (o':=.q9 x (.c (.int kd (.ofNat m))) l T ag) rfl B X;refine⟨v,u,I,q.k,q.vS,q.eq,q.cp,q.ve,λC hc=>⟨⟨by rw[D];exact QU _,by rw[D];exact Int.ofNat_lt.2 h1⟩,zOC D (q.w C hc)⟩,q.le⟩
   .cases h
 case qy x i l T=>
  simp only[fop]at h
  delta wop;dsimp only
  cases ks with
  |nil=>exact J rfl d h
  |cons k0 ks=>
   dsimp only at h⊢;split at h
   .rename_i kd n hi;rw[hi];obtain⟨m,h1,D,X⟩:=zL3 h;have B:zy (.qy x (.c (.int kd (.ofNat m))) l T)=true:=by
     simp only[zy,XO.qb,zAm,List.all_append,Qb,List.all_nil,QV,qr]at d⊢;exact⟨d.1,rfl⟩
    obtain⟨v,u,I,q⟩:=J (o':=.qy x (.c (.int kd (.ofNat m))) l T) rfl B X;refine⟨v,u,I,q.k,q.vS,q.eq,q.cp,q.ve,λC hc=>⟨⟨by rw[D];exact QU _,by rw[D];exact Int.ofNat_lt.2 h1⟩,zOC D (q.w C hc)⟩,q.le⟩
   .cases h
 case pick cc x y=>
  simp only[fop]at h
  delta wop;dsimp only
  have B:(zG cc=true/\zG x=true)/\zG y=true:=by simp only[zy,XO.qb,zAm,List.all_append,Qb,List.all_nil,QV,qr]at d;exact d
  split at h
  .rename_i cb a6;rw[a6];split at h
   .rename_i n;rcases zPj h with⟨rfl,D⟩|⟨rfl,D⟩
    .split at D
     .rename_i v hv;exact⟨v,v,_,D,.refl _,λ_=>rfl,zAc Y s.fr B.1.2 hv,s.put (.bool _),λC hc=>by simp only[Br,hv];exact hc,(by first|exact QA _|exact Qd _)⟩
     .cases D
    .split at D
     .rename_i v hv;exact⟨v,v,_,D,.refl _,λ_=>rfl,zAc Y s.fr B.2 hv,s.put (.bool _),λC hc=>by simp only[Br,hv];exact hc,(by first|exact QA _|exact Qd _)⟩
     .cases D
   .rename_i S;cases cc with
    |t n=>exact absurd rfl (S n)
    |_=>exact J rfl d h
  .cases h
 case bin op x y=>
  simp only[fop]at h
  delta wop;dsimp only
  split at h
  .rename_i s1 A;rw[A];split at h
   .split at h
    .rename_i s2 Q;rw[Q];obtain⟨h1,D⟩:=zEy h;exact F (.str _) D λC hc=>⟨h1,hc⟩
    .cases h
   .obtain⟨v,u,I,q⟩:=J rfl d h;refine⟨v,u,I,q.k,q.vS,q.eq,q.cp,q.ve,λC hc=>?_,q.le⟩
    have:=q.w C hc;cases op<;>first|exact this|(rename_i S;exact absurd rfl S)
  .rename_i k1 n1 A;rw[A];split at h
   .split at h
    .rename_i k2 n2 Q;rw[Q];split at h
     .rename_i hk;obtain⟨h1,D⟩:=zEy h;exact F (.int _ _) D λC hc=>by simp only[hk];exact⟨h1,hc⟩
     .cases h
    .cases h
   .split at h
    .rename_i k2 n2 Q;rw[Q];split at h
     .rename_i hk;obtain⟨h1,D⟩:=zEy h;exact F (.int _ _) D λC hc=>by simp only[hk];exact⟨h1,hc⟩
     .cases h
    .cases h
   .split at h
    .rename_i k2 n2 Q;rw[Q];obtain⟨h1,D⟩:=zEy h;exact F (.int _ _) D λC hc=>⟨h1,hc⟩
    .cases h
   .split at h
    .rename_i k2 n2 Q;rw[Q];obtain⟨h1,D⟩:=zEy h;exact F (.int _ _) D λC hc=>⟨h1,hc⟩
    .cases h
   .obtain⟨v,u,I,q⟩:=J rfl d h;refine⟨v,u,I,q.k,q.vS,q.eq,q.cp,q.ve,λC hc=>?_,q.le⟩
    have:=q.w C hc;rename_i g1 g2 g3 g4;cases op<;>first|exact this|exact absurd rfl g1|exact absurd rfl g2|exact absurd rfl g3|exact absurd rfl g4
  .cases h
 case wF neg kd x y=>
  simp only[fop]at h
  delta wop;dsimp only
  split at h
  .rename_i a A;split at h
   .rename_i b Q;split at h
    .rename_i q hq;rw[A,Q];exact F (by unfold zEV;exact .bool _) h λC hc=>by simp only[hq];exact hc
    .cases h
   .cases h
  .cases h
 case wK x i=>
  simp only[fop]at h
  delta wop;dsimp only
  split at h
  .rename_i s1 A;split at h
   .rename_i kd n hi;rw[A,hi];obtain⟨c,h1,D⟩:=zPk h;exact F (.int _ _) D λC hc=>⟨c,h1,hc⟩
   .cases h
  .cases h
 case wC x lo hi=>
  simp only[fop]at h
  delta wop;dsimp only
  split at h
  .rename_i s1 A;split at h
   .rename_i ay ae;split at h
    .rename_i aq af;rw[A];simp only[ae,af];obtain⟨l,u,h1,D⟩:=zS6 h;exact F (.str _) h1 λC hc=>D _ hc
    .cases h
   .cases h
  .cases h
 case wv x lo hi mx T=>
  simp only[fop]at h
  delta wop;dsimp only
  split at h
  .rename_i ab es A;split at h
   .rename_i R;split at h
    .split at h
     .rename_i ay ae;split at h
      .rename_i aq af;rw[A];simp only[R,ae,af];obtain⟨l,u,h1,D⟩:=zS6 h;have B:zG x=true:=by
        simp only[zy,XO.qb,zAm,List.all_append,Qb,List.all_nil,QV,qr]at d;exact d.1.1.1
       have ac:=zAc Y s.fr B A;cases ac with
       |qg _ _ ah=>exact F (.qg _ _ λe N=>ah e (QT (Qc N))) h1 λC hc=>D _ hc
      .cases h
     .cases h
    .cases h
   .cases h
  .rename_i A;have be:=A;have hh:=h;unfold FXd at hh;split at hh
   .rename_i v H m e;rw[A];have:v=.qa/\H=st.H/\m=st.m:=by
     simp only[xoS,A]at e;split at e
     .split at e
      .rename_i hq;cases e;refine⟨?_,rfl,rfl⟩
       have hv:∀{v0:AV},some AV.qa=some v0->v0=.qa:=λh=>by cases h;rfl
       rename_i v0 _ _ _ q1 _ _ _ _;have:=hv q1;subst this;simp only[zK6]at hq
       repeat' split at hq
       all_goals first|(cases hq;done)|(cases hq;rfl)
      .cases e
     .cases e
    obtain⟨rfl,rfl,rfl⟩:=this;exact F .qa hh λC hc=>by unfold WXd;simp only[e];exact hc
   .cases hh
  .cases h
 case qC x i T=>
  simp only[fop]at h
  delta wop;dsimp only
  have B:zG x=true/\zG i=true:=by simp only[zy,XO.qb,zAm,List.all_append,Qb,List.all_nil,QV,qr]at d;exact d
  split at h
  .rename_i ab es A;split at h
   .rename_i R;split at h
    .rename_i kd n hi;rw[A];simp only[R,hi];obtain⟨v,u,h1,D,X,h4⟩:=zPl h;have ac:=zAc Y s.fr B.1 A;cases ac with
     |qg _ _ ah=>
      have aa:PP v:=by
       unfold ixN at h1;split at h1
       .exact ah v (QE h1)
       .cases h1
      exact val (.qd 0 D) (λe=>by rw[X e]) (.qd _ _ (D.pp aa)) h4 λC hc=>⟨v,h1,hc⟩
    .cases h
   .cases h
  .rename_i j A;split at h
   .rename_i ab es O;split at h
    .rename_i R;split at h
     .rename_i kd n hi;rw[A];simp only[O,R,hi];obtain⟨h1,D⟩:=zEy h;exact⟨_,_,_,D,.refl _,λ_=>rfl,M,s.wU trivial,λC hc=>⟨h1,hc⟩,(by first|exact QA _|exact Qd _)⟩
     .cases h
    .cases h
   .cases h
  .rename_i A;split at h
   .rename_i kd n hi;rw[A];simp only[hi];obtain⟨m,h1,D,X⟩:=zL3 h;have ak:zy (.qC x (.c (.int kd (.ofNat m))) T)=true:=by
     simp only[zy,XO.qb,zAm,List.all_append,Qb,List.all_nil,QV,qr];exact⟨B.1,rfl⟩
    obtain⟨v,u,I,q⟩:=J (o':=.qC x (.c (.int kd (.ofNat m))) T) rfl ak X;refine⟨v,u,I,q.k,q.vS,q.eq,q.cp,q.ve,λC hc=>⟨⟨by rw[D];exact QU _,by rw[D];exact Int.ofNat_lt.2 h1⟩,zOC D (q.w C hc)⟩,q.le⟩
   .cases h
  .cases h
 case wj x=>
  simp only[fop]at h
  delta wop;dsimp only
  split at h
  .rename_i j A;split at h
   .rename_i T es O;rw[A];simp only[O];exact F (.int _ _) h λC hc=>hc
   .cases h
  .rename_i S;obtain⟨v,u,I,q⟩:=J rfl d h;refine⟨v,u,I,q.k,q.vS,q.eq,q.cp,q.ve,λC hc=>?_,q.le⟩
   split
   .rename_i j A;exact absurd A (S j)
   .exact q.w C hc
 case load x T ag=>
  have hd:=λh=>J (o':=.load x T ag) rfl d h
  simp only[fop]at h
  delta wop;dsimp only
  cases hc:isC ks with
  |true=>
   cases A:x.ev G st.fr with
   |none=>rw[hc,A]at h;cases h
   |some a=>rw[hc,A]at h;cases a<;>first|(cases h;done)|exact hd h
  |false=>
   cases A:x.ev G st.fr with
   |none=>rw[hc,A]at h;exact hd h
   |some a=>
    rw[hc,A]at h;cases a with
    |sym p=>
     simp only at h⊢;split at h
     .rename_i j i off U;split at h
      .rename_i ab es O;obtain⟨v,u,h1,D,X,h4⟩:=zPl h;have aa:PP v:=by
        unfold ldE at h1;split at h1
        .rename_i e N;exact zVj ((s.V _ _ O).2 e (QE N)).cells h1
        .cases h1
       exact val D X (D.pp aa).cp h4 λC hc=>by simp only[U,O];exact⟨v,h1,hc⟩
      .cases h
     .cases h
    |_=>exact hd h
 case qR x f=>
  simp only[fop]at h
  delta wop;dsimp only
  split at h
  .rename_i p A;split at h
   .rename_i j i off U;split at h
    .rename_i ab es O;rw[A];simp only[U,O];exact⟨_,_,_,h,.refl _,λ_=>rfl,M,s.wU trivial,λC hc=>hc,(by first|exact QA _|exact Qd _)⟩
    .cases h
   .cases h
  .rename_i S;obtain⟨v,u,I,q⟩:=J rfl d h;refine⟨v,u,I,q.k,q.vS,q.eq,q.cp,q.ve,λC hc=>?_,q.le⟩
   split
   .rename_i j A;exact absurd A (S j)
   .exact q.w C hc
 case store x y T=>
  simp only[fop]at h
  delta wop;dsimp only
  have B:zG x=true/\zG y=true:=by simp only[zy,XO.qb,zAm,List.all_append,Qb,List.all_nil,QV,qr]at d;exact d
  split at h
  .rename_i p A;split at h
   .rename_i j i off U;split at h
    .rename_i ab es O;split at h
     .rename_i v Q;split at h
      .rename_i R;split at h
       .rename_i new aw;rw[A];simp only[U,O,Q,R,aw];simp only[qr]at R;have aa:PP v:=zEH 12 (zAc Y s.fr B.2 Q) R.2;refine⟨_,_,_,h,.refl _,λ_=>rfl,nil,s.uH (s.V _ _ O).1 (λe N=>?_),λC hc=>hc,(by first|exact QA _|exact Qd _)⟩
        rcases List.mem_or_eq_of_mem_set N with N|rfl
        .exact(s.V _ _ O).2 e N
        .exact aa
       .cases h
      .cases h
     .cases h
    .cases h
   .cases h
  .rename_i S;obtain⟨v,u,I,q⟩:=J rfl d h;refine⟨v,u,I,q.k,q.vS,q.eq,q.cp,q.ve,λC hc=>?_,q.le⟩
   split
   .rename_i j A;exact absurd A (S j)
   .exact q.w C hc
 case vB x=>
  simp only[fop]at h
  delta wop;dsimp only
  split at h
  .rename_i s1 A;rw[A];refine⟨_,_,_,h,.refl _,λ_=>rfl,M,s.wU (λe N=>?_),λC hc=>hc,(by first|exact QA _|exact Qd _)⟩
   obtain⟨b,_,rfl⟩:=Qg.1 N;exact .int _ _
  .cases h
 case vj x=>
  simp only[fop]at h
  delta wop;dsimp only
  split at h
  .rename_i j A;split at h
   .rename_i T es O;split at h
    .rename_i R;rw[A];simp only[O,R];obtain⟨q,h1,D⟩:=zPk h;exact F (.str _) D λC hc=>⟨q,h1,hc⟩
    .cases h
   .cases h
  .rename_i T es A;split at h
   .rename_i R;rw[A];simp only[R];obtain⟨q,h1,D⟩:=zPk h;exact F (.str _) D λC hc=>⟨q,h1,hc⟩
   .cases h
  .rename_i A;rw[A];exact F (.str _) h λC hc=>hc
  .cases h
 case qx len T z ps=>
  simp only[fop]at h
  delta wop;dsimp only
  cases ks with
  |cons k0 ks=>
   cases k0 with
   |c u=>
    dsimp only at h⊢;split at h
    .rename_i es N;rw[N];obtain⟨cs,hf,hl,hr,U⟩:=zXy N;simp only[zy,XO.qb,qr]at d;have hz:z.all (zBp 12)=true:=d.2;have ad:∀c'∈cs,CP st.mv st.m c':=zLs Y s.fr (by simpa[List.all_map]using d.1) (λc' hc=>(zCb 12 (QD.1 hz c' hc)).cp) hf
     exact F (.qg _ _ (zWa hr ad U)) h λC hc=>hc
    .cases h
   |_=>exact J rfl d h
  |nil=>
   dsimp only at h⊢;split at h
   .rename_i cs hf;split at h
    .rename_i hl;split at h
     .rename_i es hr;split at h
      .rename_i U;simp only[hf,hl,hr,U];simp only[zy,XO.qb,qr]at d;have hz:z.all (zBp 12)=true:=d.2;have ad:∀c'∈cs,CP st.mv st.m c':=zLs Y s.fr (by simpa[List.all_map]using d.1) (λc' hc=>(zCb 12 (QD.1 hz c' hc)).cp) hf
       exact⟨_,_,_,h,.refl _,λ_=>rfl,M,s.wU (zWa hr ad U),λC hc=>hc,(by first|exact QA _|exact Qd _)⟩
      .cases h
     .cases h
    .cases h
   .cases h
 case qL l cx T bytes z=>
  simp only[fop]at h
  delta wop;dsimp only
  split at h
  .rename_i k1 n hl;split at h
   .rename_i k2 m ac;split at h
    .rename_i e hr hz;rw[hl];simp only[ac,hr,hz];obtain⟨h1,D⟩:=zEy h;simp only[zy,XO.qb,qr]at d;have ba:z.all (zBp 12)=true:=d.2;have a1:∀c'∈z,PP c':=λc' hc=>zCb 12 (QD.1 ba c' hc)
     have a7:PP e:=by
      obtain⟨q1,q2,q3,q4,q5⟩:=zAQ hr;have az:=(zAo q5).2 0 e rfl;obtain⟨_,q7,q8⟩:=z6 az;refine zS3 q8 λx A=>a1 x ?_
      rw[q7]at A;exact QT (Qc (QT A))
     exact⟨_,_,_,D,.refl _,λ_=>rfl,M,s.wU (λx A=>by rw[(List.mem_replicate.1 A).2];exact a7),λC hc=>⟨h1,hc⟩,(by first|exact QA _|exact Qd _)⟩
    .cases h
   .cases h
  .cases h
 case append x y T bytes=>
  simp only[fop]at h
  delta wop;dsimp only
  have B:zG x=true/\zG y=true:=by simp only[zy,XO.qb,zAm,List.all_append,Qb,List.all_nil,QV,qr]at d;exact d
  split at h
  .cases h
  .rename_i ao;split at h
   .rename_i v A;split at h
    .rename_i u Q;split at h
     .rename_i ys N;split at h
      .rename_i ai;have al:=zcP s.H (zAc Y s.fr B.2 Q) N ai;split at h
       .obtain⟨h1,D⟩:=zEy h;rw[A,Q];simp only[ao,N,ai];exact⟨_,_,_,D,.refl _,λ_=>rfl,M,s.wU al,λC hc=>⟨h1,hc⟩,(by first|exact QA _|exact Qd _)⟩
       .rename_i j;split at h
        .rename_i ab es O;split at h
         .rename_i R;obtain⟨h1,D⟩:=zEy h;rw[A,Q];simp only[ao,N,ai,O,R];exact⟨_,_,_,D,.refl _,λ_=>rfl,M,s.uS (λe N=>(QK.1 N).elim ((s.V _ _ O).2 e) (al e)),λC hc=>⟨h1,hc⟩,(by first|exact QA _|exact Qd _)⟩
         .cases h
        .cases h
       .cases h
      .cases h
     .cases h
    .cases h
   .cases h
 case wm=>
  exact⟨_,_,_,h,.refl _,λ_=>rfl,M,s.wU (λp U=>by cases U),λC hc=>hc,(by first|exact QA _|exact Qd _)⟩
 case lookup ag kd m x z ok=>
  simp only[fop]at h
  delta wop;dsimp only
  have hz:zBp 12 z=true:=by simp only[zy,XO.qb,zAm,qr]at d;exact d.2
  split at h
  .rename_i j hm;split at h
   .rename_i es O;split at h
    .rename_i kv A;split at h
     .rename_i bb;rw[hm];simp only[O,A,bb];have hl:∀{b:Bool}{u:AV},PP u->PP (lkV ok b u):=λ{b u} hu=>by
       cases ok
       .exact hu
       .exact .qc _ λe N=>by
         simp only[QH,List.not_mem_nil,or_false]at N;rcases N with rfl|rfl
         .exact hu
         .exact .bool _
      split at h
      .obtain⟨q,h1,D⟩:=zXF h;cases q with
       |some u=>
        have U:PP (lkV ok true u):=hl (zXH (s.V _ _ O).2 h1);exact val (.refl _) (λ_=>rfl) U.cp D λC hc=>⟨_,by rw[h1];rfl,hc⟩
       |none=>
        have U:PP (lkV ok false z):=hl (zCb 12 hz);exact val (.refl _) (λ_=>rfl) U.cp D λC hc=>⟨_,by rw[h1];rfl,hc⟩
      obtain⟨v,u,h1,D,X,h4⟩:=zPl h;have aa:PP v:=by
       unfold lkR at h1;split at h1
       .rename_i hf;cases h1;exact hl (zXH (s.V _ _ O).2 hf)
       .cases h1;exact hl (zCb 12 hz)
       .cases h1
      exact val D X (D.pp aa).cp h4 λC hc=>⟨v,h1,hc⟩
     .cases h
    .cases h
   .cases h
  .cases h
 case wE ag kd m x y=>
  simp only[fop]at h
  delta wop;dsimp only
  have B:(zG m=true/\zG x=true)/\zG y=true:=by simp only[zy,XO.qb,zAm,List.all_append,Qb,List.all_nil,QV,qr]at d;exact d
  split at h
  .rename_i j hm;split at h
   .rename_i es O;split at h
    .rename_i kv A;split at h
     .rename_i u Q;split at h
      .rename_i R;rw[hm];simp only[O,A,Q,R];simp only[qr]at R;obtain⟨ax,h1,D⟩:=zPk h;have au:PP kv:=zEH 12 (zAc Y s.fr B.1.2 A) R.1.2;have a8:PP u:=zEH 12 (zAc Y s.fr B.2 Q) R.2;exact⟨_,_,_,D,.refl _,λ_=>rfl,nil,s.uH (s.V _ _ O).1 (zeF au a8 (s.V _ _ O).2 h1),λC hc=>⟨ax,h1,hc⟩,(by first|exact QA _|exact Qd _)⟩
      .cases h
     .cases h
    .cases h
   .cases h
  .cases h
 case call f xs=>
  simp only[fop]at h
  delta wop;dsimp only
  have B:xs.all zG=true:=by simp only[zy,XO.qb,zAm,QV]at d;exact d
  split at h
  .rename_i vs hv;rw[hv];exact zWb aj s (zId Y s.fr B hv) h
  .cases h
 case qM fx xs=>
  simp only[fop]at h
  delta wop;dsimp only
  have B:zG fx=true/\xs.all zG=true:=by simp only[zy,XO.qb,zAm,List.all_append,Qb,List.all_nil,QV,qr]at d;exact d
  split at h
  .rename_i f first bc hf;split at h
   .rename_i vs hv;rw[hf];simp only[hv];refine zWb aj s (λx A=>?_) h
    have ar:=zAc Y s.fr B.1 hf;cases ar with
    |func _ _ _ q1 q2=>
     rcases QK.1 A with A|A
     .rcases QK.1 A with A|A
      .exact q1 x A
      .exact zId Y s.fr B.2 hv x A
     .exact q2 x A
   .cases h
  .cases h
end
theorem zSl{h:Nat}{l:JV}{k:Nat}(e:posN h 0 l=some k):k<l.length:=by
 obtain⟨j,h1,b⟩:=zGU e;have:=(QB.1 b).1;omega
theorem zbC{hm z:JV}{n k:Nat}:∀(d:Nat){v v':AV},CP n k v->rnV hm z d v=some v'->CP z.length hm.length v':=by
 intro d
 induction d with
 |zero=>intro v v' _ h;cases h
 |succ d Q=>
  intro v v' hc h;have A:∀{N O:JE},(∀e∈N,CP n k e)->zF (rnV hm z d) N=some O->∀e∈O,CP z.length hm.length e:=λW D e X=>by
   obtain⟨m1,m2⟩:=zCc D;obtain⟨i,p⟩:=List.getElem?_of_mem X;have B:=(QB.1 p).1;have M:=QF (show i<_ from m1▸B)
   exact Q (W _ (QE M)) (m2 i _ e M p)
  unfold rnV at h;cases hc with
  |ptr K o hk=>
   simp only at h;split at h
   .rename_i i p;cases h;exact .ptr _ _ (zSl p)
   .cases h
  |row K o l s c e hk=>
   simp only at h;split at h
   .rename_i i p;cases h;exact .row _ _ _ _ _ _ (zSl p)
   .cases h
  |map K hk=>
   simp only at h;split at h
   .rename_i i p;cases h;exact .map _ (zSl p)
   .cases h
  |sym j hj=>
   simp only at h;split at h
   .rename_i i p;cases h;exact .sym _ (zSl p)
   .cases h
  |func f a b Y R=>
   simp only at h;split at h
   .rename_i a' T;split at h
    .rename_i b' hB;cases h;exact .func _ _ _ (A Y T) (A R hB)
    .cases h
   .cases h
  |iface t u U=>
   simp only at h;split at h
   .rename_i u' F;cases h;exact .iface _ _ (Q U F)
   .cases h
  |agg S y=>
   simp only at h;split at h
   .rename_i J x;cases h;exact .agg _ (A y x)
   .cases h
  |qc S y=>
   simp only at h;split at h
   .rename_i J x;cases h;exact .qc _ (A y x)
   .cases h
  |bool b=>cases h;exact .bool _
  |int q m=>cases h;exact .int _ _
  |str s=>cases h;exact .str _
  |qm=>cases h;exact .qm
  |qa=>cases h;exact .qa
  |ql=>cases h;exact .ql
  |qk=>cases h;exact .qk
  |qf=>cases h;exact .qf
  |qd e off I=>cases h;exact .qd _ _ I
  |qg sz es I=>cases h;exact .qg _ _ I
def CPW(H:Heap)(V:Vecs):Prop:=CPS ⟨[],H,V,H.length,V.length⟩
theorem CPW.mk'{H:Heap}{V:Vecs}(h:CPW H V){fr:Fr}(b:zFn V.length H.length fr):CPS ⟨fr,H,V,H.length,V.length⟩:=⟨b,h.H,h.V,h.lt⟩
theorem zKz{β:Type}{r:β}{hm u:JV}{vs:JE}{st:Sta}{k:JE->Heap->Vecs->Option β}(s:CPS st)(hc:∀v∈vs,CP st.mv st.m v)(h:zNB hm u vs st k=some r):
  ∃us H V,k us H V=some r/\(∀v∈us,CP V.length H.length v)/\us.length=vs.length/\CPW H V/\H.length=hm.length/\V.length=u.length/\H.keys=List.range' 0 hm.length/\∀C:JE->Heap->Vecs->Prop,C us H V->zE8 hm u vs st C:=by
 unfold zNB at h;split at h
 .rename_i A;split at h
  .rename_i us l;split at h
   .rename_i H hH;split at h
    .rename_i V F;obtain⟨h1,D,M⟩:=zLt hH;obtain⟨v1,v2⟩:=zMd F;obtain⟨m1,m2⟩:=zCc l;have n:∀v∈us,CP V.length H.length v:=λv O=>by
      obtain⟨i,f⟩:=List.getElem?_of_mem O;have d:=(QB.1 f).1;have b:=QF (show i<_ from m1▸d)
      rw[v1,h1];exact zbC 8 (hc _ (QE b)) (m2 i _ v b f)
     refine⟨us,H,V,h,n,m1,⟨λt v e=>(by cases e),λp y=>?_,λj R Q=>?_,λp y=>?_⟩,h1,v1,D,λC I=>?_⟩
     .obtain⟨j,T,str,U,z,_,rfl,J,B⟩:=M p y;refine⟨str,z,rfl,λc o=>?_⟩
      obtain⟨_,_,e,x⟩:=s.H.get J;cases e;obtain⟨m1,m2⟩:=zCc B;obtain⟨i,f⟩:=List.getElem?_of_mem o;have d:=(QB.1 f).1;have b:=QF (show i<_ from m1▸d)
      show CP V.length H.length c
      rw[v1,h1];exact zbC 8 (x _ (QE b)) (m2 i _ c b f)
     .obtain⟨q,S,rfl,K,N,_⟩:=v2 j R Q;have:=(QB.1 K).1;exact⟨by show 0+q<V.length;omega,(s.V _ _ N).2⟩
     .have:p.1∈H.keys:=List.mem_map_of_mem y;rw[D,List.mem_range']at this;obtain⟨i,f,e⟩:=this;show p.1<H.length
      omega
     .unfold zE8;simp only[A,l,hH,F];exact I
    .cases h
   .cases h
  .cases h
 .cases h
theorem CPS.vX{st:Sta}(s:CPS st){h sz o:Nat}{v:AV}{es:JE}(D:zOt st.H h sz v=some (o,es)):CPS ⟨st.fr,st.H.del o,(st.mv,.vec sz es)::st.V,st.m,st.mv+1⟩:=by
 obtain⟨l,S,M,str,N,rfl,_,F,R,J,b⟩:=zNa D;obtain⟨q1,T,O,Q,I⟩:=zAQ J;obtain⟨_,_,B,f⟩:=s.H.get F;cases B;have j:∀e∈es,PP e:=by
  intro e u;obtain⟨i,K⟩:=List.getElem?_of_mem u;obtain⟨_,A⟩:=zAo I;obtain⟨_,z,y⟩:=z6 (A i e K);refine zEH (n:=st.mv) (k:=st.m) 12 (zD2 y λx q=>f x ?_) (QD.1 b e u)
  rw[z]at q;exact QT (Qc (QT q))
 have d:=s.wU (vi:=.vec sz es) j;exact⟨d.fr,λp b=>d.H p ((Heap.wu _ _).subset b),d.V,λp b=>d.lt p ((Heap.wu _ _).subset b)⟩
theorem zJ2{h:Nat}:∀{g:JN}{st:Sta},CPS st->CPS (qD h g st)/\(qD h g st).fr=st.fr/\(qD h g st).m=st.m/\st.mv<=(qD h g st).mv
 |[],st,s=>⟨s,rfl,rfl,QA _⟩
 |(i,x)::g,st,s=>by
  simp only[qD];split
  .rename_i str f v;split
   .have q:=s.wU (vi:=.vec x []) λe B=>by cases B
    have n:∀c∈f.set i (.sym st.mv),CP (st.mv+1) st.m c:=λc hc=>by
     rcases List.mem_or_eq_of_mem_set hc with hc|rfl
     .obtain⟨_,_,e,l⟩:=q.H.get v;cases e;exact l c hc
     .exact .sym _ (QX _)
    obtain⟨a,b,c,d⟩:=zJ2 (h:=h) (g:=g) (st:=⟨st.fr,st.H.put h (.cells str (f.set i (.sym st.mv))),(st.mv,.vec x [])::st.V,st.m,st.mv+1⟩) ⟨q.fr,q.H.put n,q.V,λp j=>by
     have:p.1∈(st.H.put h (.cells str (f.set i (.sym st.mv)))).keys:=List.mem_map_of_mem j;rcases zE9 j with rfl|j
     .exact s.lt (h,.cells str f) (Heap.qj v)
     .exact s.lt p j⟩
    exact⟨a,b,c,Qj (Qd _) d⟩
   .split
    .rename_i y A z;have s1:=s.vX z;have o:(st.H.del y).get h=some (.cells str f):=by
      obtain⟨_,_,_,_,_,_,u,_⟩:=zNa z;exact(Heap.qO u).trans v
     have n:∀c∈f.set i (.sym st.mv),CP (st.mv+1) st.m c:=λc hc=>by
      rcases List.mem_or_eq_of_mem_set hc with hc|rfl
      .obtain⟨_,_,e,l⟩:=s1.H.get o;cases e;exact l c hc
      .exact .sym _ (QX _)
     obtain⟨a,b,c,d⟩:=zJ2 (h:=h) (g:=g) (st:=⟨st.fr,(st.H.del y).put h (.cells str (f.set i (.sym st.mv))),(st.mv,.vec x A)::st.V,st.m,st.mv+1⟩) ⟨s1.fr,s1.H.put n,s1.V,λp j=>by
      rcases zE9 j with rfl|j
      .exact s1.lt (h,.cells str f) (Heap.qj o)
      .exact s1.lt p j⟩
     exact⟨a,b,c,Qj (Qd _) d⟩
    .exact zJ2 s
   .exact zJ2 s
  .exact⟨s,rfl,rfl,QA _⟩
theorem CPS.wy{st:Sta}(s:CPS st){v:AV}(hc:CP st.mv st.m v):CP st.mv st.m (wy st.V v):=by
 unfold Sy.wy;split
 .split
  .rename_i b;exact .qg _ _ (s.V _ _ b).2
  .exact hc
 .exact hc
theorem CPS.wG{st:Sta}(s:CPS st):CPS (wG st):=by
 refine⟨λt u b=>?_,s.H,λj e h=>(by cases h),s.lt⟩
 have b:Fr.get (st.fr.map λp=>(p.1,Sy.wy st.V p.2)) t=some u:=b
 rw[Fr.get_map]at b;cases hg:Fr.get st.fr t with
 |none=>rw[hg]at b;cases b
 |some d=>
  rw[hg]at b;cases b;exact s.wy (s.fr t d hg)
theorem CPS.wz{st:Sta}(s:CPS st){n:Nat}:CPS (wz n st):=by
 unfold Sy.wz;split
 .split
  .rename_i v;split
   .split
    .rename_i fl q;have o:∀c∈fl,PP c:=zIA q (s.V _ _ v).2;refine⟨λu x d=>?_,λp b=>?_,λi j h=>?_,λp b=>?_⟩
     .rw[Fr.qq]at d;split at d
      .cases d;exact .row _ _ _ _ _ _ (QX _)
      .exact(s.fr u x d).mono (QA _) (Qd _)
     .rcases QH.1 b with rfl|b
      .exact⟨true,fl,rfl,λc hc=>(o c hc).cp⟩
      .obtain⟨str,l,e,f⟩:=s.H p b;exact⟨str,l,e,λc hc=>(f c hc).mono (QA _) (Qd _)⟩
     .have h:((st.V.del _).get i)=some j:=h;rw[Vecs.qO]at h;split at h
      .cases h
      .exact s.V i j h
     .rcases QH.1 b with rfl|b
      .exact QX _
      .exact Nat.lt_succ_of_lt (s.lt p b)
    .exact s
   .exact s
  .exact s
 .exact s
theorem zFY:∀{g:JN}{st:Sta},CPS st->CPS (zG5 g st)
 |[],st,s=>s
 |(t,b)::g,st,s=>by
  simp only[zG5];split
  .split
   .exact zFY s.wG
   .exact zFY s.wz
  .split
   .exact zFY ((s.wU (vi:=.vec b []) λe d=>by cases d).put (.sym _ (QX _)))
   .split
    .rename_i f;exact zFY ((s.vX f).put (.sym _ (QX _)))
    .exact zFY s
   .exact zFY s
  .split
   .exact zFY (zJ2 s).1
   .exact zFY s
theorem zJ3{β:Type}{r:β}{c:Cut}{F:JE->Heap->Vecs->Option β}{st:Sta}(s:CPS st)(h:zR0 c F st=some r):∃vs H V,F vs H V=some r/\CPS (mkW c vs H V)/\∀C:Inv,C vs H V->zVH c C st:=by
 have s:=zFY (g:=c.grow) s;unfold zR0 zbz at h;split at h
 .cases h
 .rename_i vs b;unfold zSj at h;have f:∀v∈vs,CP (zG5 c.grow st).mv (zG5 c.grow st).m v:=λv u=>by
   obtain⟨h1,l⟩:=zRo b;obtain⟨i,d⟩:=List.getElem?_of_mem u;have j:=(QB.1 d).1;have o:=QF (show i<_ from h1▸j)
   exact s.fr _ _ (l i _ v o d)
  obtain⟨us,H,V,h1,l,x,p,_,_,_,q⟩:=zKz s f h;refine⟨us,H,V,h1,p.mk' λt v e=>?_,λC n=>?_⟩
  .obtain⟨i,_,d⟩:=zPU e;exact l v (QE d)
  .unfold zVH canon;rw[b];exact q C n
def zQx(e:FEnt):HEnt:=⟨e.f,e.grow,λargs H V=>(∀x∈args,CP V.length H.length x)/\CPW H V/\H.keys=List.range' 0 H.length,e.val⟩
structure FOK(P:Program)(G:Cx)(e:FEnt):Prop where
 h:HOK P G (zQx e)
 v:∀args H V v H2 V2,(∀x∈args,CP V.length H.length x)->CPW H V->H.keys=List.range' 0 H.length->e.val args H V=some (v,H2,V2)->∀j vi,V2.get j=some vi->j<V2.length/\VIP vi
def toT(th:TbH)(o:FOp):TOp:=⟨o.o,o.ks,o.h.map λ_=>th.map zQx⟩
theorem zPX{f:Nat}:∀{th:TbH},zM6 (th.map zQx) f=(zPW th f).map zQx
 |[]=>rfl
 |s::r=>by
  simp only[Qe,zM6,zPW];have e:Nat.beq f (zQx s).f=Nat.beq f s.f:=rfl;rw[e];cases Nat.beq f s.f with
  |true=>rfl
  |false=>exact zPX
section
variable{β:Type}{P:Program}{G:Cx}{tb:TbF}{th:TbH}{st:Sta}{r:β}
theorem zbD{g:JN}{args:JE}(s:CPS st):CPS (qH g args st)/\(qH g args st).fr=st.fr/\(qH g args st).m=st.m/\st.mv<=(qH g args st).mv:=by
 unfold qH;split
 .exact zJ2 s
 .exact⟨s,rfl,rfl,QA _⟩
theorem WK.vg{v u:AV}{mv:Nat}(h:WK v u):WK (Sy.vg mv v) (Sy.vg mv u):=by
 cases h with
 |refl=>exact .refl _
 |nil d=>exact .nil d
 |qd off h=>exact .qd off h
 |iface t h=>exact .iface t h
 |agg b h=>exact .agg b h
 |qc b h=>exact .qc b h
theorem zUs{e:FEnt}(he:FOK P G e){ds:List D}{args:JE}{k:AV->Sta->Option β}(s:CPS st)(W:∀x∈args,CP st.mv st.m x)(h:zUr e ds args st k=some r):∃v u X,Stp G tb st true k r (zHn (zQx e) args st) v u X:=by
 obtain⟨s1,e1,e2,e3⟩:=zbD (g:=e.grow) (args:=args) s;unfold zUr zSj at h;have R:∀x∈args,CP (qH e.grow args st).mv (qH e.grow args st).m x:=λx hx=>(W x hx).mono e3 (by rw[e2];exact QA _)
 obtain⟨us,H,V,h1,T,h3,U,h5,h6,h7,h8⟩:=zKz s1 R h;obtain⟨v,u,H2,V2,g1,g2,_,g3⟩:=zeE h1;have hk:H.keys=List.range' 0 H.length:=by rw[h7,h5]
 obtain⟨o,_⟩:=he.h.2 us H V v H2 V2 ⟨T,U,hk⟩ g1;have A:=he.v us H V v H2 V2 T U hk g1;generalize M:qH e.grow args st=st1 at *;have J:∀C:AV->Sta->Prop,C (zOv e.grow st1.mv v) (zM5 e.grow (zJn st1.H 30 0 (args.foldl (λa v=>hsA 8 v a) (List.range 0))) (zFQ st1.H (zJn st1.H 30 0 (args.foldl (λa v=>hsA 8 v a) (List.range 0))) (args.foldl (λa v=>zJx 8 v a) [])) st1 H2 V2)->zHn (zQx e) args st C:=λC Q=>by
  unfold zHn;have y:qH (zQx e).grow args st=st1:=M;simp only[y];unfold zNJ;refine h8 _ ⟨⟨T,U,hk⟩,?_⟩
  have g1:(zQx e).val us H V=some (v,H2,V2):=g1;simp only[g1];exact Q
 cases hi:inpl e.grow with
 |true=>
  have d:∀hm z,zM5 e.grow hm z st1 H2 V2=⟨st1.fr,st1.H,zM4 z V2 st1.V,st1.m,st1.mv⟩:=λhm z=>by unfold zM5;rw[hi]
  have f:∀x,zOv e.grow st1.mv x=x:=λx=>by unfold zOv;rw[hi]
  rw[d,f]at g3;have K:PP v:=(he.h.uW hi ⟨T,U,hk⟩ g1).2.2.2.1;refine⟨v,u,_,g3,g2,λe=>(by cases e),(g2.pp K).cp,⟨s1.fr,s1.H,?_,s1.lt⟩,λC Q=>J C ?_,e3⟩
  .intro j vi I;obtain⟨ac,h0,⟨i,q1,q2⟩|⟨rfl,_⟩⟩:=zV4 I
   .exact⟨(s1.V _ _ h0).1,(A _ _ q2).2⟩
   .exact s1.V _ _ h0
  .rw[d,f];exact Q
 |false=>
 have d:∀hm z,zM5 e.grow hm z st1 H2 V2=⟨st1.fr,zKu hm st1.mv H2 st1.H,zOu z st1.mv V2 st1.V,st1.m,st1.mv+V2.length⟩:=λhm z=>by unfold zM5;rw[hi]
 have f:∀x,zOv e.grow st1.mv x=vg st1.mv x:=λx=>by unfold zOv;rw[hi]
 rw[d,f]at g3;have O:CP (st1.mv+V2.length) st1.m (vg st1.mv u):=by
  rcases o.pp with l|⟨j,rfl,I⟩
  .have S:=g2.pp l;have:vg st1.mv u=u:=by cases S<;>rfl
   rw[this];exact S.cp
  .cases g2;exact .sym _ (by show st1.mv+j<st1.mv+V2.length;omega)
 refine⟨_,_,_,g3,g2.vg,λe=>(by cases e),O,⟨?_,?_,?_,?_⟩,λC Q=>?_,Qj e3 (Qy _ _)⟩
 .exact s1.fr.mono (Qy _ _) (QA _)
 .intro p l;have N:H2.keys=H.keys:=o.keys;have F:H2.length=H.length:=by have:=congrArg List.length N;simpa[Heap.keys]using this
  rcases zJ0 (hm:=_) (by rw[F,h5]) (by rw[N,h7]) (λp l=>let ⟨a,b,c,_⟩:=o.cells p l;⟨a,b,c⟩) l with⟨q1,_⟩|⟨i,str,cs,ho,q1,q2,q3,q4⟩
  .obtain⟨str,cs,e,B⟩:=s1.H p q1;exact⟨str,cs,e,λc hc=>(B c hc).mono (Qy _ _) (QA _)⟩
  .refine⟨str,_,q3,λc hc=>?_⟩
   obtain⟨c0,Y,rfl⟩:=Qg.1 hc;obtain⟨aa,ab,e',B⟩:=o.cells _ q2;cases e';rcases B c0 Y with l|⟨j,rfl,I⟩
   .have:vg st1.mv c0=c0:=by cases l<;>rfl
    rw[this];exact l.cp
   .exact .sym _ (by show st1.mv+j<st1.mv+V2.length;omega)
 .intro j vi I;rcases zE0 I with⟨j',rfl,n⟩|⟨_,n⟩
  .refine⟨?_,(A _ _ n).2⟩
   have:=(A _ _ n).1;show st1.mv+j'<st1.mv+V2.length
   omega
  .have:=s1.V _ _ n;exact⟨Qf this.1 (Qy _ _),this.2⟩
 .intro p l;have:p.1∈(zKu _ st1.mv H2 st1.H).keys:=List.mem_map_of_mem l;rw[zUn]at this;obtain⟨q,hq,e⟩:=Qg.1 this;rw[←e];exact s1.lt q hq
 .exact J C (by rw[d,f];exact Q)
end
end Go.Sy
