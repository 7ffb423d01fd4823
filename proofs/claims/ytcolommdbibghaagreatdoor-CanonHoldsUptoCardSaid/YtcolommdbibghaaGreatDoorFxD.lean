/- A LIBRARY: WHAT A FUNCTION'S CODE RECKONS, AS A LEAN FUNCTION, AND THAT ITS WORD IS THE MODEL'S: part 4 of 6. No condition. -/
import Derived.Test.YtcolommdbibghaaGreatDoorFxC
set_option linter.unusedVariables false
set_option linter.unusedSimpArgs false
namespace Go.Sy
section
variable{P:Program}{G:Cx}{nt:Nat}{E:Env}{w:World}{a:Act}{β:Nat->Option Nat}{st:Sta}
 {Z0 B0:Nat->Prop} {w0:World} {dl:List Deferred} {tb:TblS}
theorem zDu{h:Nat}:∀{l:JV}{i k:Nat},posN h i l=some k->∃j,k=i+j/\l[j]?=some h
 |[],i,k,e=>by cases e
 |a::r,i,k,e=>by
  simp only[posN]at e;split at e
  .rename_i d;cases e;exact⟨0,rfl,by rw[zb d];rfl⟩
  .obtain⟨j,h1,b⟩:=zDu e;exact⟨j+1,by omega,by simpa using b⟩
theorem zLF{n:Nat}:∀{l:JV},inN n l=false->n ∉ l
 |[],_,h=>by cases h
 |a::r,e,h=>by
  simp only[inN]at e;split at e
  .cases e
  .rename_i b;rcases QG.1 h with rfl|h
   .rw[Nat.beq_refl]at b;cases b
   .exact zLF e h
theorem zIP:∀{l:JV},zHQ l=true->l.Nodup
 |[],_=>.nil
 |a::r,h=>by
  simp only[zHQ,qr,Bool.not_eq_true']at h;exact Qx.2 ⟨zLF h.1,zIP h.2⟩
def zV(E:Env)(hm sm:JV):Env:=⟨λi=>E.ρ (hm.getD i 0),λi=>∃h,hm[i]?=some h/\E.D h,E.Z,λi=>E.σ (sm.getD i 0)⟩
theorem zK0{hm sm:JV}{n k:Nat}:∀(d:Nat){v v':AV}{cv:Value},CP n k v->VR E w v cv->rnV hm sm d v=some v'->VR (zV E hm sm) w v' cv/\CP sm.length hm.length v':=by
 intro d
 induction d with
 |zero=>intro v v' cv _ _ h;cases h
 |succ d ih=>
  intro v v' cv z p h;have al:∀{U Y:JE}{vs:JC},(∀e∈U,CP n k e)->VRs E w U vs->zp (rnV hm sm d) U=some Y->VRs (zV E hm sm) w Y vs/\∀e∈Y,CP sm.length hm.length e:=λ{U Y vs} hc M ac=>by
   obtain⟨m1,m2⟩:=zAz ac;have key:∀(i:Nat) y u,Y[i]?=some y->vs[i]?=some u->VR (zV E hm sm) w y u/\CP sm.length hm.length y:=λi y u R W=>by
    have hi:i<U.length:=by have:=(QC.1 R).1;omega
    have A:=QE hi;exact ih (hc _ (QF A)) (M.2 i _ u A W) (m2 i _ y A R)
   refine⟨⟨m1.trans M.1,λi y u R W=>(key i y u R W).1⟩,λe I=>?_⟩
   obtain⟨i,hi⟩:=List.getElem?_of_mem I;have B:i<vs.length:=by have:=(QC.1 hi).1;have:=M.1;omega
   exact(key i e _ hi (QE B)).2
  have hD:∀{h i:Nat},posN h 0 hm=some i->E.D h->(zV E hm sm).D i/\(zV E hm sm).ρ i=E.ρ h/\i<hm.length:=λ{h i} e O=>by
   obtain⟨j,Q,J⟩:=zDu e;have Q:i=j:=by omega
   subst Q;refine⟨⟨h,J,O⟩,?_,(QC.1 J).1⟩
   show E.ρ (hm.getD i 0)=E.ρ h
   rw[List.getD_eq_getElem?_getD,J];rfl
  have q:∀{v:AV}{cv:Value},PP v->VR E w v cv->VR (zV E hm sm) w v cv:=λhp p=>VR.pp (E:=E) (E':=zV E hm sm) (w:=w) (w':=w) (λb K=>⟨K,rfl⟩) p hp
  unfold rnV at h;split at h
  .split at h
   .rename_i i e;cases h;cases p with
    |ptr _ _ O=>
     obtain⟨g1,g2,g3⟩:=hD e O;rw[←g2];exact⟨.ptr _ _ g1,.ptr _ _ g3⟩
   .cases h
  .split at h
   .rename_i i e;cases h;obtain⟨j,Q,J⟩:=zDu e;have B:i<hm.length:=by have:=(QC.1 J).1;omega
    cases p with
    |row _ _ _ _ _ cap _ O T S aa z ae K=>
     obtain⟨g1,g2,g3⟩:=hD e O;rw[←g2]at K⊢;exact⟨.row _ _ _ _ _ cap _ g1 T S aa z ae K,.row _ _ _ _ _ _ B⟩
    |wm _ _ _ _ ad=>exact⟨.wm _ _ _ _ ad,.row _ _ _ _ _ _ B⟩
   .cases h
  .split at h
   .rename_i i e;cases h;cases p with
    |map _ O=>
     obtain⟨g1,g2,g3⟩:=hD e O;rw[←g2];exact⟨.map _ g1,.map _ g3⟩
   .cases h
  .split at h
   .rename_i i e;cases h;obtain⟨j,Q,J⟩:=zDu e;have Q:i=j:=by omega
    subst Q;have B:i<sm.length:=(QC.1 J).1;cases p with
    |sym _ _ I h1=>
     refine⟨.sym _ _ (I.trans ?_) h1,.sym _ B⟩
     show _=E.σ (sm.getD i 0)
     rw[List.getD_eq_getElem?_getD,J];rfl
   .cases h
  .split at h
   .rename_i x' A;split at h
    .rename_i y' R;cases h;cases z with
     |func _ _ _ X K=>
      cases p with
      |func _ _ _ vf vc hf hc rf rc=>
       obtain⟨⟨g1,g2⟩,g3⟩:=al (vs:=vf.toList) X ⟨by simpa using hf,λi x v A p=>rf i x v A (by simpa using p)⟩ A
       obtain⟨⟨g4,g5⟩,g6⟩:=al (vs:=vc.toList) K ⟨by simpa using hc,λi x v A p=>rc i x v A (by simpa using p)⟩ R
       exact⟨.func _ _ _ vf vc (by simpa using g1) (by simpa using g4) (λi x v A p=>g2 i x v A (by simpa using p)) (λi x v A p=>g5 i x v A (by simpa using p)),.func _ _ _ g3 g6⟩
    .cases h
   .cases h
  .split at h
   .rename_i u' W;cases h;cases z with
    |iface _ _ hc=>
     cases p with
     |iface _ _ cv p=>
      obtain⟨g1,g2⟩:=ih hc p W;exact⟨.iface _ _ cv g1,.iface _ _ g2⟩
   .cases h
  .split at h
   .rename_i ab N;cases h;cases z with
    |agg _ hc=>
     obtain⟨vs,rfl,k1,k2⟩:=p.qX;obtain⟨g1,g2⟩:=al hc k1 N;exact⟨VR.qT g1 k2,.agg _ g2⟩
   .cases h
  .split at h
   .rename_i ab N;cases h;cases z with
    |qg _ hc=>
     obtain⟨vs,rfl,k1⟩:=p.w5;obtain⟨g1,g2⟩:=al hc k1 N;exact⟨VR.qI g1,.qg _ g2⟩
   .cases h
  .cases h;cases z with
   |qc e off I=>exact⟨q (.qc _ _ I) p,.qc _ _ I⟩
   |qo sz es I=>exact⟨q (.qo _ _ I) p,.qo _ _ I⟩
   |bool b=>exact⟨q (.bool _) p,.bool _⟩
   |int k m=>exact⟨q (.int _ _) p,.int _ _⟩
   |str s=>exact⟨q (.str _) p,.str _⟩
   |qj=>exact⟨q .qj p,.qj⟩
   |qa=>exact⟨q .qa p,.qa⟩
   |qm=>exact⟨q .qm p,.qm⟩
   |ql=>exact⟨q .ql p,.ql⟩
   |qe=>exact⟨q .qe p,.qe⟩
   |ptr h' o' hk=>exact(‹∀(h o:Nat),AV.ptr h' o'=AV.ptr h o->False› _ _ rfl).elim
   |row F a2 a3 a4 a5 a6 hk=>exact(‹∀(h o l s c:Nat)(e:Bool),AV.row F a2 a3 a4 a5 a6=AV.row h o l s c e->False› _ _ _ _ _ _ rfl).elim
   |map F hk=>exact(‹∀(h:Nat),AV.map F=AV.map h->False› _ rfl).elim
   |sym F hk=>exact(‹∀(h:Nat),AV.sym F=AV.sym h->False› _ rfl).elim
   |func F a2 a3 X K=>exact(‹∀(f:Fn)(a b:JE),AV.func F a2 a3=AV.func f a b->False› _ _ _ rfl).elim
   |iface F a2 X=>exact(‹∀(t:Nat)(v:AV),AV.iface F a2=AV.iface t v->False› _ _ rfl).elim
   |agg F X=>exact(‹∀(cs:JE),AV.agg F=AV.agg cs->False› _ rfl).elim
   |qg F X=>exact(‹∀(cs:JE),AV.qg F=AV.qg cs->False› _ rfl).elim
theorem zHV{H:Heap}{hm sm:JV}:∀{l:JV}{i:Nat}{H':Heap},rnH H hm sm i l=some H'->H'.length=l.length/\H'.keys=List.range' i l.length/\∀p∈H',∃(j:Nat) (h:Nat) (str:Bool) (cs cs':JE),l[j]?=some h/\p=(i+j,HO.cells str cs')/\H.get h=some (.cells str cs)/\zp (rnV hm sm 8) cs=some cs'
 |[],i,H',e=>by cases e;exact⟨rfl,rfl,λp b=>by cases b⟩
 |h::r,i,H',e=>by
  simp only[rnH]at e;split at e
  .rename_i str cs n;split at e
   .rename_i cs' f;split at e
    .rename_i H2 v;cases e;obtain⟨h1,d,x⟩:=zHV v;refine⟨by simp[h1],?_,λp b=>?_⟩
     .have d:List.map (·.1) H2=List.range' (i+1) r.length:=d;show List.map (·.1) ((i,HO.cells str cs')::H2)=_
      rw[Qa,d,QZ,List.range'_succ]
     .rcases QG.1 b with rfl|b
      .exact⟨0,h,str,cs,cs',rfl,rfl,n,f⟩
      .obtain⟨j,o,k,c1,c2,q1,y,q,u⟩:=x p b;exact⟨j+1,o,k,c1,c2,by simpa using q1,by rw[y];congr 1;omega,q,u⟩
    .cases e
   .cases e
  .cases e
theorem zGK{V:Vecs}:∀{l:JV}{i:Nat}{b:Vecs},zH4 V i l=some b->b.length=l.length/\∀j vi,b.get j=some vi->∃k s,j=i+k/\l[k]?=some s/\V.get s=some vi/\vi.qA=true
 |[],i,b,e=>by cases e;exact⟨rfl,λj vi h=>by cases h⟩
 |s::r,i,b,e=>by
  have key:∀{V2:Vecs}{vi:VI},V.get s=some vi->vi.qA=true->zH4 V (i+1) r=some V2->b=(i,vi)::V2->b.length=(s::r).length/\∀j vi,b.get j=some vi->∃k n,j=i+k/\(s::r)[k]?=some n/\V.get n=some vi/\vi.qA=true:=by
   intro V2 vi d u f e;subst e;obtain⟨h1,p⟩:=zGK f;refine⟨by simp[h1],λj o h=>?_⟩
   rw[Vecs.qf]at h;split at h
   .rename_i e;cases h;exact⟨0,s,e.symm,rfl,d,u⟩
   .obtain⟨k,n,q1,y,q,v⟩:=p j o h;exact⟨k+1,n,by omega,by simpa using y,q,v⟩
  simp only[zH4]at e;split at e
  .rename_i z x d;split at e
   .rename_i V2 f;cases e;exact key d rfl f rfl
   .cases e
  .rename_i x d;split at e
   .rename_i V2 f;cases e;exact key d rfl f rfl
   .cases e
  .cases e
theorem zK1{fr:Fr}:∀{ts:JV}{vs:JE},zNy fr ts=some vs->vs.length=ts.length/\∀(i t:Nat) v,ts[i]?=some t->vs[i]?=some v->fr.get t=some v
 |[],vs,e=>by cases e;exact⟨rfl,λi t v h=>by simp at h⟩
 |t::ts,vs,e=>by
  simp only[zNy]at e;split at e
  .rename_i v n;split at e
   .rename_i r l;cases e;obtain⟨h1,j⟩:=zK1 l;refine⟨by simp[h1],λi k f d b=>?_⟩
    cases i with
    |zero=>simp at d b;subst d;subst b;exact n
    |succ i=>exact j i k f (by simpa using d) (by simpa using b)
   .cases e
  .cases e
theorem zJI:∀{ts:JV}{vs:JE}{t:Nat}{v:AV},(zRu ts vs).get t=some v->∃i:Nat,ts[i]?=some t/\vs[i]?=some v
 |[],vs,t,v,h=>by cases vs<;>cases h
 |t0::ts,[],t,v,h=>by cases h
 |t0::ts,v0::vs,t,v,h=>by
  simp only[zRu,Fr.get]at h;split at h
  .rename_i e;cases h;exact⟨0,by rw[zb e];rfl,rfl⟩
  .obtain⟨i,h1,b⟩:=zJI h;exact⟨i+1,by simpa using h1,by simpa using b⟩
structure CanV(hm sm:JV)(st:Sta)(H:Heap)(V:Vecs):Prop where
 u9:hm.Nodup
 u7:sm.Nodup
 rh:rnH st.H hm sm 0 hm=some H
 rv:zH4 st.V 0 sm=some V
theorem zIw(hG:GPP G)(s:SR G nt E w a β st){hm sm:JV}{vs0:JE}{cvs:JC}(ai:∀v∈vs0,CP st.mv st.m v)(Q:VRs E w vs0 cvs){k:JE->Heap->Vecs->Prop}(h:zCu hm sm vs0 st k):
  ∃vs H V,k vs H V/\CanV hm sm st H V/\zp (rnV hm sm 8) vs0=some vs/\VRs (zV E hm sm) w vs cvs/\(∀v∈vs,CP V.length H.length v)/\(∀aa a' fr',FrR (zV E hm sm) w fr' a' aa->zCx V.length H.length fr'->SR G aa (zV E hm sm) w a' (λi=>β (sm.getD i 0)) ⟨fr',H,V,H.length,V.length⟩) ∧
   Kp E.Z (BS E β st.H st.V) w (zV E hm sm).Z (BS (zV E hm sm) (λi=>β (sm.getD i 0)) H V) w:=by
 unfold zCu at h;split at h
 rotate_left
 .exact h.elim
 rename_i ac;rw[qr]at ac;have W:=zIP ac.1;have X:=zIP ac.2;split at h
 rotate_left
 .exact h.elim
 rename_i vs ad;split at h
 rotate_left
 .exact h.elim
 rename_i H hH;split at h
 rotate_left
 .exact h.elim
 rename_i V hV;obtain⟨g1,g2,g3⟩:=zHV hH;obtain⟨v1,v2⟩:=zGK hV;obtain⟨m1,m2⟩:=zAz ad;have hσ:∀{j z:Nat},sm[j]?=some z->(zV E hm sm).σ j=E.σ z:=λ{j z} e=>by
  show E.σ (sm.getD j 0)=E.σ z
  rw[List.getD_eq_getElem?_getD,e];rfl
 have hρ:∀{j I:Nat},hm[j]?=some I->(zV E hm sm).ρ j=E.ρ I:=λ{j I} e=>by
  show E.ρ (hm.getD j 0)=E.ρ I
  rw[List.getD_eq_getElem?_getD,e];rfl
 have inj:∀{l:JV}{i j x:Nat},l.Nodup->l[i]?=some x->l[j]?=some x->i=j:=λ{l i j x} hn J S=>by
  obtain⟨h1,h2⟩:=QC.1 J;obtain⟨h3,h4⟩:=QC.1 S;exact(List.getElem_inj hn).1 (h2.trans h4.symm)
 have Y:∀(i:Nat) x u,vs[i]?=some x->cvs[i]?=some u->VR (zV E hm sm) w x u/\CP V.length H.length x:=λi x u F hu=>by
  have J:i<vs0.length:=by have:=(QC.1 F).1;omega
  have d:=QE J;have:=zK0 8 (ai _ (QF d)) (Q.2 i _ u d hu) (m2 i _ x d F);rw[v1,g1];exact this
 refine⟨vs,H,V,h,⟨W,X,hH,hV⟩,ad,⟨m1.trans Q.1,λi x u F hu=>(Y i x u F hu).1⟩,λx F=>?_,λaa a' fr' ao ak=>⟨⟨?_,λp y=>?_,λp y q hq e=>?_,λp y=>?_,λp y=>?_,s.hr.we⟩,ao,?_,λi J=>?_,ak,λp y=>?_,λj K S=>?_,λj j2 i off S=>?_,λj K b S ho D=>?_,λj j' K ag b h1 h2 h3 h4 h5 h6=>?_⟩,?_⟩
 .obtain⟨i,J⟩:=List.getElem?_of_mem F;have M:i<cvs.length:=by have:=(QC.1 J).1;have:=Q.1;omega
  exact(Y i x _ J (QE M)).2
 .show H.keys.Nodup
  rw[g2];exact List.nodup_range'
 .obtain⟨j,I,str,T,A,o,rfl,f,N⟩:=g3 p y;have:=s.hr.qx _ (Heap.qi f);exact⟨I,by simpa using o,this⟩
 .obtain⟨j,I,str,T,A,o,rfl,f,N⟩:=g3 p y;obtain⟨j2,h2,aq,au,ar,f1,rfl,f3,f4⟩:=g3 q hq;simp only[QS]at e⊢;rw[hρ o,hρ f1]at e;have:=s.hr.inj _ (Heap.qi f) _ (Heap.qi f3) e;simp only at this;subst this;exact inj W o f1
 .obtain⟨j,I,str,T,A,o,rfl,f,N⟩:=g3 p y;simp only[QS];rw[hρ o];have ae:=Heap.qi f;have al:=s.hr.obj _ ae;obtain⟨_,_,ec,ab⟩:=s.cH.get f;cases ec;obtain⟨cc,ee,ff,q1,B,R,O⟩:=al;obtain⟨r1,r2⟩:=zAz N;refine⟨cc,ee,ff,q1,by omega,R,λi x F=>?_⟩
  have J:i<T.length:=by have:=(QC.1 F).1;omega
  have d:=QE J;obtain⟨v,k1,k2,k3⟩:=O i _ d;exact⟨v,k1,k2,(zK0 8 (ab _ (QF d)) k3 (r2 i _ x d F)).1⟩
 .obtain⟨j,I,str,T,A,o,rfl,f,N⟩:=g3 p y;simp only[QS];rw[hρ o];exact s.hr.nz _ (Heap.qi f)
 .exact λg u hg=>⟨VR.pp (E:=E) (E':=zV E hm sm) (w:=w) (w':=w) (λb D=>⟨D,rfl⟩) (s.hg g u hg).1 (hG g u hg),(s.hg g u hg).2⟩
 .obtain⟨I,e,_⟩:=J;show i<H.length
  rw[g1];exact(QC.1 e).1
 .obtain⟨j,I,str,T,A,o,rfl,f,N⟩:=g3 p y;refine⟨str,A,rfl,λx F=>?_⟩
  show CP V.length H.length x
  rw[v1,g1];obtain⟨_,_,ec,ab⟩:=s.cH.get f;cases ec;obtain⟨r1,r2⟩:=zAz N;obtain⟨i,J⟩:=List.getElem?_of_mem F;have M:i<T.length:=by have:=(QC.1 J).1;omega
  have d:=QE M;obtain⟨_,_,_,_,_,_,O⟩:=s.hr.obj _ (Heap.qi f);obtain⟨v,k1,k2,k3⟩:=O i _ d;exact(zK0 8 (ab _ (QF d)) k3 (r2 i _ x d J)).2
 .obtain⟨U,z,rfl,B,R,O⟩:=v2 j K S;simp only[QS]at S⊢;have M:=(QC.1 B).1;refine⟨by show U<V.length;rw[v1];exact M,?_⟩
  have n:sm.getD U 0=z:=by rw[List.getD_eq_getElem?_getD,B];rfl
  have af:=(s.qR z K R).2;cases K with
  |vec sz es=>
   obtain⟨y,⟨o,e2,f⟩|⟨b,str,T,cp,ex,o,e2,f,N,e5,e6⟩⟩:=af
   .exact⟨y,.inl ⟨by simp only[n];exact o,(hσ B).trans e2,f⟩⟩
   .exact⟨y,.inr ⟨b,str,T,cp,ex,by simp only[n];exact o,OR.pp (E:=E) (E':=zV E hm sm) (w:=w) (w':=w) rfl (λb D=>⟨D,rfl⟩) N e2,by rw[hσ B];exact f,N,e5,e6⟩⟩
  |mp es=>
   obtain⟨y,b,o,e2,f⟩:=af;exact⟨y,b,by simp only[n];exact o,OR.pm (E:=E) (E':=zV E hm sm) (w:=w) (w':=w) rfl (λb D=>⟨D,rfl⟩) y e2,(hσ B).trans f⟩
  |qU=>cases O
  |dn=>cases O
 .obtain⟨U,z,rfl,B,R,O⟩:=v2 j _ S;cases O
 .obtain⟨U,z,rfl,B,R,O⟩:=v2 j K S;simp only[QS]at D;have n:sm.getD U 0=z:=by rw[List.getD_eq_getElem?_getD,B];rfl
  rw[n]at D;obtain⟨z1,z2⟩:=s.bz z K b R ho D;refine⟨z1,λp y e=>?_⟩
  obtain⟨j,I,str,T,A,o,rfl,f,N⟩:=g3 p y;simp only[QS]at e;rw[hρ o]at e;exact z2 _ (Heap.qi f) e
 .obtain⟨U,z,rfl,B,R,O⟩:=v2 j K h1;obtain⟨aj,s2,rfl,r2,r3,r4⟩:=v2 j' ag h2;simp only[QS]at h5 h6⊢;have n:sm.getD U 0=z:=by rw[List.getD_eq_getElem?_getD,B];rfl
  have ah:sm.getD aj 0=s2:=by rw[List.getD_eq_getElem?_getD,r2];rfl
  rw[n]at h5;rw[ah]at h6;have:=s.qQ z s2 K ag b R r3 h3 h4 h5 h6;subst this;exact inj X B r2
 .refine Kp.less λx F=>?_
  rcases F with⟨p,y,e⟩|⟨j,K,S,ho,D⟩
  .obtain⟨j,I,str,T,A,o,rfl,f,N⟩:=g3 p y;simp only[QS]at e;rw[hρ o]at e;exact .inl ⟨_,Heap.qi f,e⟩
  .obtain⟨U,z,rfl,B,R,O⟩:=v2 j K S;simp only[QS]at D;have n:sm.getD U 0=z:=by rw[List.getD_eq_getElem?_getD,B];rfl
   rw[n]at D;exact .inr ⟨z,K,R,ho,D⟩
theorem zY3(B:GPP G)(s:SR G nt E w a β st){c:Cut}{k:JE->Heap->Vecs->Prop}(h:canon c st k):∃vs H V,k vs H V/\∃l o,SR G nt l w a o (mkW c vs H V)/\Kp E.Z (BS E β st.H st.V) w l.Z (BS l o H V) w:=by
 unfold canon at h;split at h
 .exact h.elim
 rename_i vs0 f;unfold zHR at h;generalize zDT st.H 30 0 (vs0.foldl (λa v=>hsA 8 v a) (List.range c.pins))=D at h
 generalize zCH st.H D (vs0.foldl (λa v=>zE5 8 v a) [])=sm at h
 obtain⟨F,I⟩:=zK1 f;have n:∀(i:Nat) x,vs0[i]?=some x->∃t,c.qG[i]?=some t/\st.fr.get t=some x:=λi x e=>by
  have j:i<c.qG.length:=by have:=(QC.1 e).1;omega
  have d:=QE j;exact⟨_,d,I i _ x d e⟩
 obtain⟨vs,H,V,q,K,M,y,J,z,A⟩:=zIw B s (vs0:=vs0) (cvs:=c.qG.map λt=>a.tmps.getD t undef) (λx e=>by
  obtain⟨i,j⟩:=List.getElem?_of_mem e;obtain⟨t,_,b⟩:=n i x j;exact s.qY t x b) ⟨by simp[F],λi x u e p=>by
  obtain⟨t,h1,b⟩:=n i x e;rw[Qb,h1]at p;cases p;exact s.hf.get t x b⟩ h
 refine⟨vs,H,V,q,_,_,z nt a (zRu c.qG vs) ⟨s.hf.size,λt v d=>?_⟩ (λt v d=>?_),A⟩
 .obtain⟨i,h1,b⟩:=zJI d;exact y.2 i v _ b (by rw[Qb,h1];rfl)
 .obtain⟨i,h1,b⟩:=zJI d;exact J v (QF b)
end
def HFn(P:Program)(G:Cx)(f:Nat)(args:JE)(H:Heap)(V:Vecs)(v:AV)(H2:Heap)(V2:Vecs):Prop:=
 ∀(E:Env)(w:World)(β:Nat->Option Nat)(b:JB),SR G 0 E w { tmps:=#[],defers:=[] } β ⟨[],H,V,H.length,V.length⟩->VRs E w args b.toList->(∀x∈args,CP V.length H.length x) →
  Calls P f b w λe h=>∃i d j,e=.returned i/\VR d h v i/\(∀p∈H2,p.1<H.length->d.ρ p.1=E.ρ p.1)/\SR G 0 d h { tmps:=#[],defers:=[] } j ⟨[],H2,V2,H2.length,V2.length⟩/\Kp E.Z (BS E β H V) w d.Z (BS d j H2 V2) h
def OP1(n k:Nat)(v:AV):Prop:=PP v\/(∃j,v=.sym j/\j<n)\/∃i o,v=.ptr i o/\i<k
def OPV(n k:Nat)(v:AV):Prop:=OP1 n k v\/∃l,v=.qg l/\∀u∈l,OP1 n k u
theorem zOm{v:AV}{hm:JV}{m mv:Nat}(h:PP v):wF hm m mv v=v:=by cases h<;>rfl
theorem zUO{v:AV}{hm:JV}{m mv:Nat}(h:PP v):vR hm m mv v=v:=by
 cases h with
 |qg l b=>
  show AV.qg (l.map (wF hm m mv))=_
  have:l.map (wF hm m mv)=l.map id:=List.map_congr_left λu d=>zOm (b u d)
  rw[this,List.map_id]
 |_=>rfl
theorem zY4{v:AV}{mv:Nat}(h:PP v):rn1 mv v=v:=by cases h<;>rfl
theorem zRb{v:AV}{mv:Nat}(h:PP v):rnB mv v=v:=by
 cases h with
 |qg l b=>
  show AV.qg (l.map (rn1 mv))=_
  have:l.map (rn1 mv)=l.map id:=List.map_congr_left λu d=>zY4 (b u d)
  rw[this,List.map_id]
 |_=>rfl
structure HOut(v:AV)(H H2:Heap)(V2:Vecs):Prop where
 pp:OPV V2.length H2.length v
 keys:H2.keys=List.range' 0 H2.length
 u3:H.length<=H2.length
 cells:∀p∈H2,∃str cs,p.2=.cells str cs/\∀c∈cs,PP c\/∃j,c=.sym j/\j<V2.length
 qA:∀j vi,V2.get j=some vi->vi.qA=true
def zWf(P:Program)(G:Cx)(f:Nat)(args:JE)(V:Vecs)(v:AV)(V2:Vecs):Prop:=
 (∀j o,V.get j=some o->∃l n h,o=.vec l n/\V2.get j=some (.vec l h)/\h.length=n.length) ∧
 ∀(E:Env)(w:World)(β:Nat->Option Nat)(b:JB),SR G 0 E w { tmps:=#[],defers:=[] } β ⟨[],[],V,0,V.length⟩->VRs E w args b.toList->(∀x∈args,CP V.length 0 x) →
  Calls P f b w λe i=>∃k d,e=.returned k/\VR d i v k/\d.σ=E.σ/\SR G 0 d i { tmps:=#[],defers:=[] } β ⟨[],[],V2,0,V.length⟩/\Kp E.Z (BS E β [] V) w d.Z (BS d β [] V2) i
def HOK(P:Program)(G:Cx)(e:HEnt):Prop:=Enters P e.f/\∀args H V v H2 V2,e.pre args H V->e.val args H V=some (v,H2,V2)->HOut v H H2 V2/\match inpl e.grow with
 |true=>H=[]/\H2=[]/\PP v/\zWf P G e.f args V v V2
 |false=>HFn P G e.f args H V v H2 V2
section
variable{P:Program}{G:Cx}{nt:Nat}{E:Env}{w:World}{a:Act}{β:Nat->Option Nat}{st:Sta}
 {Z0 B0:Nat->Prop} {w0:World} {dl:List Deferred} {tb:TblS}
theorem zTo{H:Heap}{fr:Fr}(Y:HR E H w)(M:FrR E w fr a nt)(K:GR G E w){o:Oper}{l:XO}(hc:zAN P o.op=some l){f:Nat}{args:JE}(W:Enters P f)
  (hk:(∃xs,l=.call f xs/\evs G fr xs=some args)\/∃B xs first d vs,l=.qN B xs/\B.ev G fr=some (.func (.func f) first d)/\evs G fr xs=some vs/\args=first++vs++d):
  ∃cargs:JB,VRs E w args cargs.toList/\(execOp a.eval o).run P w=.ok (.enter f cargs) w:=by
 have J:∀call:Sy.Call,xoS G call fr H 0 l=call f args H 0:=by
  intro call;rcases hk with⟨xs,rfl,h⟩|⟨B,xs,first,d,vs,rfl,h1,p,rfl⟩
  .simp only[xoS,h]
  .simp only[xoS,h1,p,zEZ]
 have no:(∀b:Bool,zAn P E H w 0 (execOp a.eval o) (.bool b) H 0)->False:=by
  intro D;obtain⟨cv,E1,w1,_,_,v1,N⟩:=D true;obtain⟨ae,E2,w2,_,_,v2,A⟩:=D false;cases v1;cases v2;rcases N with N|⟨N,S⟩
  .rcases A with A|⟨A,k⟩
   .rw[N]at A;cases A
   .rw[N]at A;cases A
  .cases S
 have X:∀b,xoS G (λ_ _ H nx=>some (.bool b,H,nx)) fr H 0 l=some (.bool b,H,0):=λb=>J _
 have n:zDL E 0 0:=λh h1 p=>by omega
 by_cases I:∃c,o.op=.call c
 rotate_left
 .exact(no λb=>zSx Y M K (λc h=>I ⟨c,h⟩) hc n (X b)).elim
 obtain⟨⟨callee,z,ts⟩,O⟩:=I;rw[O]at hc;have q:∀{x:Operand}{ax:XV}{j:List XV}{first d vs:JE},callee=.value x->zw x=some ax->zDK z.toList=some j->ax.ev G fr=some (.func (.func f) first d)->evs G fr j=some vs->args=first++vs++d →
   ∃cargs:JB,VRs E w args cargs.toList/\(execOp a.eval o).run P w=.ok (.enter f cargs) w:=by
  intro x ax j first d vs S k e3 e4 e5 e6;subst S;subst e6;have F:=zC M K k e4;generalize Q:a.eval x=cx at F;cases F with
  |func _ _ _ vf vc aa ac rf rc=>
   have u:=zC0 M K e3 e5;have h1:VRs E w first vf.toList:=⟨by simpa using aa,λi x v J F=>rf i x v J (by simpa using F)⟩
   have p:VRs E w d vc.toList:=⟨by simpa using ac,λi x v J F=>rc i x v J (by simpa using F)⟩
   refine⟨vf++z.map a.eval++vc,by simpa using(h1.append u).append p,?_⟩
   simp only[execOp,O,resolve,Sem.run_bind,Q,Deferred.ofValue,Sem.run_pure,Result.andThen_ok,invoke];exact zHM W
 have gen:∀{x:Operand},callee=.value x->(∃ax,zw x=some ax/\∃j,zDK z.toList=some j/\l=.qN ax j)->∃cargs:JB,VRs E w args cargs.toList/\(execOp a.eval o).run P w=.ok (.enter f cargs) w:=by
  rintro x ec ⟨ax,y,j,has,e⟩
  rcases hk with⟨xs,k,h⟩|⟨B,xs,first,d,vs,k,h1,p,R⟩
  .rw[e]at k;cases k
  .rw[e]at k;cases k;exact q ec y has h1 p R
 cases callee with
 |builtin b=>exact(no λU=>zKJ Y M K O hc n (X U)).elim
 |value x=>
  cases x with
  |func f'=>
   simp only[zAN]at hc;split at hc
   .rename_i fn T;split at hc
    .obtain⟨j,has,hc⟩:=za hc;cases hc;rcases hk with⟨xs,k,h⟩|⟨B,xs,first,d,vs,k,h1,p,R⟩
     .cases k;exact q (x:=.func f) (ax:=.c (.func (.func f) [] [])) rfl rfl has rfl h (by simp)
     .cases k
    .rename_i ab;obtain⟨j,has,hc⟩:=za hc;exact(no λU=>zQQ Y M K O T ab has hc (X U)).elim
   .cases hc
  |tmp t=>
   obtain⟨j,has,hc⟩:=za hc;cases hc;exact gen rfl ⟨_,rfl,j,has,rfl⟩
  |const af=>
   obtain⟨ax,y,hc⟩:=za hc;obtain⟨j,has,hc⟩:=za hc;cases hc;exact gen rfl ⟨ax,y,j,has,rfl⟩
  |global g=>
   obtain⟨j,has,hc⟩:=za hc;cases hc;exact gen rfl ⟨_,rfl,j,has,rfl⟩
 |invoke r m=>
  obtain⟨ar,ad,hc⟩:=za hc;obtain⟨j,has,hc⟩:=za hc;cases hc;rcases hk with⟨xs,k,h⟩|⟨B,xs,first,d,vs,k,h1,p,R⟩
  .cases k
  .cases k
theorem zK2{h:Nat}:∀{l:JV}{i:Nat},posN h i l=none->h ∉ l
 |[],i,e=>by simp
 |a::r,i,e=>by
  simp only[posN]at e;split at e
  .cases e
  .rename_i b;have:=zK2 e;simp only[QG,not_or];exact⟨zAq b,this⟩
theorem zCg{sm:JV}{mv:Nat}{V:Vecs}:∀{V2:Vecs}{j:Nat}{vi:VI},(zIr sm mv V2 V).get j=some vi->(∃b,j=mv+b/\V2.get b=some vi)\/(j ∉ sm/\V.get j=some vi)
 |[],j,vi,h=>by
  refine .inr ?_
  simp only[zIr]at h
  induction V with
  |nil=>cases h
  |cons p r d=>
   obtain⟨k,o⟩:=p;rw[List.filter_cons]at h;split at h
   .rename_i hk;rw[Vecs.qf]at h⊢;split at h
    .rename_i e;cases h;subst e;simp only[Bool.not_eq_true']at hk;exact⟨zLF hk,by simp⟩
    .rename_i e;rw[if_neg e];exact d h
   .rename_i hk;obtain⟨h1,f⟩:=d h;refine⟨h1,?_⟩
    rw[Vecs.qf,if_neg ?_]
    .exact f
    .rintro rfl
     have:inN k sm=true:=by simpa using hk
     have mem:∀{l:JV},inN k l=true->k∈l:=by
      intro l
      induction l with
      |nil=>intro h;cases h
      |cons a r d=>
       intro h;simp only[inN]at h;split at h
       .rename_i e;rw[zb e];exact .head _
       .exact .tail _ (d h)
     exact h1 (mem this)
 |(k,o)::r,j,vi,h=>by
  simp only[zIr]at h;rw[Vecs.qf]at h;split at h
  .rename_i e;cases h;exact .inl ⟨k,e.symm,by rw[Vecs.qf];simp⟩
  .rename_i e;rcases zCg h with⟨b,h1,f⟩|h
   .refine .inl ⟨b,h1,?_⟩
    rw[Vecs.qf,if_neg (by omega)]
    exact f
   .exact .inr h
theorem zNE{hm:JV}{mv:Nat}{H2 H:Heap}:(zEi hm mv H2 H).keys=H.keys:=by
 unfold zEi Heap.keys;rw[List.map_map];apply List.map_congr_left;intro p b;simp only[Function.comp];split
 .split<;>rfl
 .rfl
theorem zEv{hm:JV}{mv:Nat}{H2 H:Heap}(v:hm.length<=H2.length)(hk:H2.keys=List.range' 0 H2.length)(k:∀p∈H2,∃str cs,p.2=HO.cells str cs){p:Nat×HO}(x:p∈zEi hm mv H2 H):
  (p∈H/\p.1 ∉ hm)\/∃(i:Nat) (str:Bool) (cs:JE) (o:HO),hm[i]?=some p.1/\(i,HO.cells str cs)∈H2/\p.2=.cells str (cs.map (rnB mv))/\(p.1,o)∈H:=by
 unfold zEi at x;obtain⟨q,u,e⟩:=QL.1 x;split at e
 .rename_i i z;obtain⟨j,h1,l⟩:=zDu z;have B:i=j:=by omega
  subst B;have f:i<H2.length:=by have:=(QC.1 l).1;omega
  have n:=QE f;have d:=Qi f;obtain⟨str,cs,y⟩:=k _ d;have h:H2[i].1=i:=by
   have:H2.keys[i]?=some H2[i].1:=by simp[Heap.keys,n]
   rw[hk,List.getElem?_range' (by omega)]at this
   simpa using this.symm
  have b:H2[i]=(i,HO.cells str cs):=Prod.ext h y;rw[n,b]at e;simp only at e;subst e;exact .inr ⟨i,str,cs,q.2,l,b▸d,rfl,u⟩
 .rename_i A;subst e;exact .inl ⟨u,zK2 A⟩
theorem zOZ{V:Vecs}:∀{l:JV}{i:Nat}{b:Vecs},zH4 V i l=some b->∀(k s:Nat),l[k]?=some s->∃vi,b.get (i+k)=some vi/\V.get s=some vi
 |[],i,b,e,k,s,h=>by simp at h
 |o::r,i,b,e,k,s,h=>by
  have key:∀{V2:Vecs}{vi:VI},V.get o=some vi->zH4 V (i+1) r=some V2->b=(i,vi)::V2->∃vi,b.get (i+k)=some vi/\V.get s=some vi:=by
   intro V2 vi d f e;subst e;cases k with
   |zero=>
    simp at h;subst h;exact⟨vi,by rw[Vecs.qf];simp,d⟩
   |succ k=>
    obtain⟨j,h1,n⟩:=zOZ f k s (by simpa using h)
    refine⟨j,?_,n⟩
    rw[Vecs.qf,if_neg (by omega)]
    rw[←h1];congr 1;omega
  simp only[zH4]at e;split at e
  .rename_i q p d;split at e
   .rename_i V2 f;cases e;exact key d f rfl
   .cases e
  .rename_i p d;split at e
   .rename_i V2 f;cases e;exact key d f rfl
   .cases e
  .cases e
theorem zG9{a b:Nat}(h:Nat.blt a b=false):b<=a:=by
 rcases Nat.lt_or_ge a b with d|d
 .have:Nat.blt a b=true:=by rw[Qg];exact d
  rw[this]at h;cases h
 .exact d
theorem zAe{n m mv:Nat}:∀{H2:Heap}{p:Nat×HO},p∈zEh n m mv H2->∃(i:Nat) (str:Bool) (cs:JE),n<=i/\p.1=m+(i-n)/\(i,HO.cells str cs)∈H2/\p.2=.cells str (cs.map (rnB mv))
 |[],p,h=>by cases h
 |(j,o)::r,p,h=>by
  cases o with
  |cells str cs=>
   simp only[zEh]at h;split at h
   .obtain⟨i,d,c2,h1,b,f,e⟩:=zAe h;exact⟨i,d,c2,h1,b,.tail _ f,e⟩
   .rename_i k;rcases QG.1 h with rfl|h
    .exact⟨j,str,cs,zG9 k,rfl,.head _,rfl⟩
    .obtain⟨i,d,c2,h1,b,f,e⟩:=zAe h;exact⟨i,d,c2,h1,b,.tail _ f,e⟩
  |_=>
   simp only[zEh]at h;obtain⟨i,d,c2,h1,b,f,e⟩:=zAe h;exact⟨i,d,c2,h1,b,.tail _ f,e⟩
theorem zGt{n m mv:Nat}:∀{H2:Heap},H2.keys.Nodup->(zEh n m mv H2).keys.Nodup
 |[],_=>.nil
 |(j,o)::r,h=>by
  have b:(Heap.keys r).Nodup:=(Qx.1 h).2;have q:j ∉ Heap.keys r:=(Qx.1 h).1;cases o with
  |cells str y=>
   simp only[zEh];split
   .exact zGt b
   .rename_i d;have d:n<=j:=zG9 d;refine Qx.2 ⟨λl=>?_,zGt b⟩
    obtain⟨p,f,e⟩:=QL.1 l;obtain⟨i,v,c2,h1,u,k,x⟩:=zAe f;have e:p.1=m+(j-n):=e;have:i=j:=by omega
    subst this;exact q (QL.2 ⟨_,k,rfl⟩)
  |_=>simp only[zEh];exact zGt b
theorem SR.back(hG:GPP G)(s:SR G nt E w a β st){hm sm:JV}{H H2:Heap}{V V2:Vecs}(cv:CanV hm sm st H V){v:AV}{aj:Value}(o:HOut v H H2 V2){E':Env}{β':Nat->Option Nat}{w':World}(hv:VR E' w' v aj)(hρ:∀p∈H2,p.1<H.length->E'.ρ p.1=(zV E hm sm).ρ p.1)
  (s':SR G 0 E' w' { tmps:=#[],defers:=[] } β' ⟨[],H2,V2,H2.length,V2.length⟩) (T:Kp (zV E hm sm).Z (BS (zV E hm sm) (λi=>β (sm.getD i 0)) H V) w E'.Z (BS E' β' H2 V2) w') {d:Option Nat} (hd:∀n,d=some n->n<nt):
  ∃E2 β2,SR G nt E2 w' (a.put d aj) β2 ⟨qv st.fr d (vR hm st.m st.mv v),zEi hm st.mv H2 st.H++zEh hm.length st.m st.mv H2,zIr sm st.mv V2 st.V,st.m+(H2.length-hm.length),st.mv+V2.length⟩/\Kp E.Z (BS E β st.H st.V) w E2.Z (BS E2 β2 (zEi hm st.mv H2 st.H++zEh hm.length st.m st.mv H2) (zIr sm st.mv V2 st.V)) w':=by
 obtain⟨g1,g2,g3⟩:=zHV cv.rh;obtain⟨v1,v2⟩:=zGK cv.rv;have ax:∀{j h':Nat},hm[j]?=some h'->(zV E hm sm).ρ j=E.ρ h':=λ{j h'} e=>by
  show E.ρ (hm.getD j 0)=E.ρ h'
  rw[List.getD_eq_getElem?_getD,e];rfl
 have F:H2.keys=List.range' 0 H2.length:=o.keys;have M:hm.length<=H2.length:=g1▸o.u3
 have hρ:∀p∈H2,p.1<hm.length->E'.ρ p.1=(zV E hm sm).ρ p.1:=λp f hl=>hρ p f (g1.symm▸hl)
 have ba:∀p∈st.H,p.1<st.m:=λp f=>s.qx _ (s.hr.qx p f)
 have af:∀p∈H2,∃str I,p.2=HO.cells str I:=λp f=>let ⟨str,I,e,_⟩:=o.cells p f;⟨str,I,e⟩
 have hB:∀{x},BS (zV E hm sm) (λi=>β (sm.getD i 0)) H V x->(∃q∈st.H,q.1∈hm/\E.ρ q.1=x)\/∃s0 z,s0∈sm/\st.V.get s0=some z/\z.qA=true/\β s0=some x:=by
  rintro x (⟨p,f,e⟩|⟨j,z,Y,ho,A⟩)
  .obtain⟨j,h',str,I,ai,e1,rfl,e3,e4⟩:=g3 p f;simp only[QS]at e;rw[ax e1]at e;exact .inl ⟨_,Heap.qi e3,QF e1,e⟩
  .obtain⟨kk,s0,rfl,q2,q3,q4⟩:=v2 j z Y;simp only[QS]at A;have aq:sm.getD kk 0=s0:=by rw[List.getD_eq_getElem?_getD,q2];rfl
   rw[aq]at A;exact .inr ⟨s0,z,QF q2,q3,ho,A⟩
 have ad:∀{x},BS (zV E hm sm) (λi=>β (sm.getD i 0)) H V x->BS E β st.H st.V x:=λJ=>by
  rcases hB J with⟨q,R,_,e⟩|⟨s0,z,_,h1,K,N⟩
  .exact .inl ⟨q,R,e⟩
  .exact .inr ⟨s0,z,h1,K,N⟩
 have ay:∀p∈st.H,p.1 ∉ hm->¬BS (zV E hm sm) (λi=>β (sm.getD i 0)) H V (E.ρ p.1):=λp f X J=>by
  rcases hB J with⟨q,R,bj,e⟩|⟨s0,z,_,h1,K,N⟩
  .exact X (s.hr.inj p f q R e.symm▸bj)
  .exact(s.bz s0 z _ h1 K N).2 p f rfl
 have ag:∀j z b,st.V.get j=some z->z.qA=true->β j=some b->j ∉ sm->¬BS (zV E hm sm) (λi=>β (sm.getD i 0)) H V b:=λj z b h1 K N X J=>by
  rcases hB J with⟨q,R,_,e⟩|⟨s0,ar,a7,O,B,k3⟩
  .exact(s.bz j z b h1 K N).2 q R e
  .exact X (s.qQ j s0 z ar b h1 O K B N k3▸a7)
 have bs:∀b,E.Z b->¬BS (zV E hm sm) (λi=>β (sm.getD i 0)) H V b:=λb hz J=>by
  rcases hB J with⟨q,R,_,e⟩|⟨s0,ar,a7,O,B,k3⟩
  .exact s.hr.nz q R (e▸hz)
  .exact(s.bz s0 ar b O B k3).1 hz
 have hZ:∀b,E.Z b->E'.Z b/\w'.heap[b]? = w.heap[b]?:=λb A=>⟨T.qH b A,T.wh b (s.hr.we b A) (bs b A)⟩
 have aa:∀j z b,st.V.get j=some z->z.qA=true->β j=some b->b<w.heap.size:=λj z b h1 K N=>(s.qR j z h1).2.lt K N
 let E2:Env:=⟨λh=>if h<st.m then E.ρ h else E'.ρ (h-st.m+hm.length),λh=>E.D h\/(st.m<=h/\h<st.m+(H2.length-hm.length)),E'.Z,λi=>if i<st.mv then E.σ i else E'.σ (i-st.mv)⟩
 let β2:Nat->Option Nat:=λi=>if i<st.mv then β i else β' (i-st.mv)
 have σn:∀j,E2.σ (st.mv+j)=E'.σ j:=λj=>by
  show(if st.mv+j<st.mv then E.σ (st.mv+j)else E'.σ (st.mv+j-st.mv))=E'.σ j
  rw[if_neg (by omega),Nat.add_sub_cancel_left]
 have βn:∀j,β2 (st.mv+j)=β' j:=λj=>by
  show(if st.mv+j<st.mv then β (st.mv+j)else β' (st.mv+j-st.mv))=β' j
  rw[if_neg (by omega),Nat.add_sub_cancel_left]
 have σo:∀j,j<st.mv->E2.σ j=E.σ j:=λj Y=>if_pos Y
 have ρo:∀h,h<st.m->E2.ρ h=E.ρ h:=λh hh=>if_pos hh
 have ρn:∀i,hm.length<=i->E2.ρ (st.m+(i-hm.length))=E'.ρ i:=λi hi=>by
  show(if st.m+(i-hm.length)<st.m then _ else E'.ρ (st.m+(i-hm.length)-st.m+hm.length))=_
  rw[if_neg (by omega)]
  congr 1;omega
 have βo:∀j,j<st.mv->β2 j=β j:=λj Y=>if_pos Y
 have mo:∀{x:AV}{cx:Value},CP st.mv st.m x->VR E w x cx->VR E2 w' x cx:=λhc J=>
  VR.ve (E:=E) (E':=E2) (w:=w) (w':=w') (λh hl hh=>⟨.inl hh,ρo h hl⟩) hZ T.qn σo J hc
 have mn:∀{x:AV}{cx:Value},PP x->VR E' w' x cx->VR E2 w' x cx:=λf J=>VR.pp (E:=E') (E':=E2) (w:=w') (w':=w') (λb A=>⟨A,rfl⟩) J f
 have ao:VR E2 w' (vR hm st.m st.mv v) aj/\CP (st.mv+V2.length) (st.m+(H2.length-hm.length)) (vR hm st.m st.mv v):=by
  have one:∀{u:AV}{cu:Value},OP1 V2.length H2.length u->VR E' w' u cu->VR E2 w' (wF hm st.m st.mv u) cu/\CP (st.mv+V2.length) (st.m+(H2.length-hm.length)) (wF hm st.m st.mv u):=λ{u cu} hu hv=>by
   rcases hu with f|⟨j,rfl,Y⟩|⟨i,o,rfl,hi⟩
   .rw[zOm f];exact⟨mn f hv,f.cp⟩
   .refine⟨?_,.sym _ (Nat.add_lt_add_left Y _)⟩
    cases hv with
    |sym _ _ he h1=>exact .sym _ _ (he.trans (σn j).symm) h1
   .unfold wF;dsimp only;split
    .rename_i A;have hi:i<hm.length:=by simpa[Qg]using A
     have au:=QE hi;have aq:hm.getD i i=hm[i]:=by rw[List.getD_eq_getElem?_getD,au];rfl
     have hk:i∈H2.keys:=by rw[F,List.mem_range'];exact⟨i,by omega,by omega⟩
     obtain⟨q,R,e⟩:=QL.1 hk;have bc:=hρ q R (e▸hi)
     rw[e,ax au]at bc;have bq:hm[i]∈st.H.keys:=by
      have bp:i∈H.keys:=by rw[g2,List.mem_range'];exact⟨i,hi,by omega⟩
      obtain⟨p,f,ep⟩:=QL.1 bp;obtain⟨j,h',str,I,ai,e1,rfl,e3,e4⟩:=g3 p f;have ej:j=i:=by simpa using ep
      subst ej;rw[au]at e1;cases e1;exact QL.2 ⟨_,Heap.qi e3,rfl⟩
     obtain⟨p0,bu,bl⟩:=QL.1 bq;have hD:E.D hm[i]:=bl▸s.hr.qx p0 bu
     have U:=s.qx _ hD;rw[aq];refine⟨?_,.ptr _ _ (Nat.lt_add_right _ U)⟩
     cases hv with
     |ptr _ _ hd=>
      rw[bc,←ρo _ U];exact VR.ptr (E:=E2) _ _ (.inl hD)
    .rename_i A;have A:hm.length<=i:=zG9 A;refine⟨?_,.ptr _ _ (by omega)⟩
     cases hv with
     |ptr _ _ hd=>
      rw[←ρn i A];exact VR.ptr (E:=E2) _ _ (.inr ⟨by omega,by omega⟩)
  rcases o.pp with f|⟨l,rfl,hl⟩
  .cases v with
   |qg l=>
    rcases f with f|⟨_,e,_⟩|⟨_,_,e,_⟩
    .rw[zUO f];exact⟨mn f hv,f.cp⟩
    .cases e
    .cases e
   |_=>exact one f hv
  .show VR E2 w' (.qg (l.map (wF hm st.m st.mv))) aj/\CP (st.mv+V2.length) (st.m+(H2.length-hm.length)) (.qg (l.map (wF hm st.m st.mv)))
   cases hv with
   |qg _ vs M hr=>
    have bk:∀(i:Nat)(y:AV),l[i]?=some y->∃u,vs[i]?=some u:=λi y h=>by
     have:=(QC.1 h).1;exact⟨_,Qe (M▸this)⟩
    refine⟨.qg _ _ (by rw[QP];exact M) λi x u J hu=>?_,.qg _ λe he=>?_⟩
    .rw[Qb]at J;cases h:l[i]? with
     |none=>rw[h]at J;cases J
     |some y=>
      rw[h]at J;cases J;exact(one (hl y (QF h)) (hr i y u h hu)).1
    .obtain⟨y,hy,rfl⟩:=QL.1 he;obtain⟨i,hi⟩:=List.getElem?_of_mem hy;obtain⟨u,hu⟩:=bk i y hi;exact(one (hl y hy) (hr i y u hi hu)).2
 have Q:∀{p:Nat×HO},p∈zEi hm st.mv H2 st.H->∃o,(p.1,o)∈st.H:=λ{p} f=>by
  rcases zEv M F af f with⟨h,_⟩|⟨_,_,_,o,_,_,_,h⟩
  .exact⟨p.2,h⟩
  .exact⟨o,h⟩
 have bf:∀{i h:Nat},hm[i]?=some h->i<hm.length:=λe=>(QC.1 e).1
 have ak:∀{i:Nat}{h:Nat}{oo:HO},hm[i]?=some h->(i,oo)∈H2->E'.ρ i=E.ρ h:=λh1 K=>(hρ _ K (bf h1)).trans (ax h1)
 have ae:∀{x},BS E' β' H2 V2 x->∀p∈st.H,p.1 ∉ hm->E.ρ p.1≠x:=λ{x} J p f X e=>by
  rcases T.own x J with h|h
  .exact ay p f X (e▸h)
  .have:=s.hr.lt f;omega
 have S:∀{p:Nat×HO},p∈zEi hm st.mv H2 st.H->p.1<st.m:=λ{p} f=>by
  obtain⟨o,h⟩:=Q f;exact ba (p.1,o) h
 have a6:∀{p:Nat×HO}{i:Nat}{str:Bool}{I:JE},p∈zEi hm st.mv H2 st.H->hm.length<=i->(i,HO.cells str I)∈H2->E.ρ p.1≠E'.ρ i:=λ{p i str I} f hi a8 e=>by
  rcases zEv M F af f with⟨h,X⟩|⟨j,bv,bw,o2,O,B,k3,k4⟩
  .exact ae (.inl ⟨_,a8,rfl⟩) p h X e
  .rw[←ak O B]at e;have:=s'.hr.inj _ B _ a8 e;have hl:=bf O;simp only at this;omega
 have ac:∀{i:Nat}{str:Bool}{I:JE}{h:Nat},(i,HO.cells str I)∈H2->E2.ρ h=E'.ρ i->OR E2 w' (E2.ρ h) (.cells str (I.map (rnB st.mv))):=λ{i str I h} B e=>by
  have bb:=s'.hr.obj _ B;simp only at bb;rw[e];obtain⟨cc,ee,ff,q1,q2,q3,q4⟩:=bb;refine⟨cc,ee,ff,q1,by simpa using q2,q3,λi2 x J=>?_⟩
  rw[Qb]at J;cases hc2:I[i2]? with
  |none=>rw[hc2]at J;cases J
  |some c=>
   rw[hc2]at J;cases J;obtain⟨u,r1,r2,r3⟩:=q4 i2 c hc2;refine⟨u,r1,r2,?_⟩
   obtain⟨al,ai,ec,az⟩:=o.cells _ B;cases ec;rcases az c (QF hc2)with ah|⟨j,rfl,Y⟩
   .have:rnB st.mv c=c:=zRb ah;rw[this];exact mn ah r3
   .cases r3 with
    |sym _ _ he h1=>exact .sym _ _ (he.trans (σn j).symm) h1
 have a1:∀{i:Nat}{str:Bool}{I:JE},(i,HO.cells str I)∈H2->∀c∈I.map (rnB st.mv),CP (st.mv+V2.length) (st.m+(H2.length-hm.length)) c:=λ{i str I} B c hc=>by
  obtain⟨c0,bm,rfl⟩:=QL.1 hc;obtain⟨al,ai,ec,az⟩:=o.cells _ B;cases ec;rcases az c0 bm with ah|⟨j,rfl,Y⟩
  .have:rnB st.mv c0=c0:=zRb ah;rw[this];exact ah.cp
  .exact .sym _ (Nat.add_lt_add_left Y _)
 refine⟨E2,β2,⟨⟨?_,λp f=>?_,λp f q R e=>?_,λp f=>?_,λp f=>?_,s'.hr.we⟩,?_,λg u hg=>⟨VR.pp (E:=E) (E':=E2) (w:=w) (w':=w') hZ (s.hg g u hg).1 (hG g u hg),(s.hg g u hg).2.mono T.qn⟩,λh hD=>?_,?_,λp f=>?_,λj z Y=>?_,λj j2 i off Y=>?_,λj z b Y ho A=>?_,λj W z ab b h1 K N h4 h5 h6=>?_⟩,?_⟩
 .show(Heap.keys (zEi hm st.mv H2 st.H++zEh hm.length st.m st.mv H2)).Nodup
  unfold Heap.keys;rw[Qy];refine List.nodup_append.2 ⟨?_,zGt s'.hr.nodup,λx J y hy e=>?_⟩
  .show(zEi hm st.mv H2 st.H).keys.Nodup
   rw[zNE];exact s.hr.nodup
  .obtain⟨p,f,rfl⟩:=QL.1 J;obtain⟨q,R,rfl⟩:=QL.1 hy;obtain⟨i,_,_,h1,K,_⟩:=zAe R;have:=S f;omega
 .rcases QH.1 f with f|f
  .obtain⟨o,h⟩:=Q f;exact .inl (s.hr.qx (p.1,o) h)
  .obtain⟨i,str,I,h1,K,N,_⟩:=zAe f;have hk:i<H2.length:=by
    have:i∈H2.keys:=QL.2 ⟨_,N,rfl⟩;rw[F,List.mem_range']at this;obtain⟨a,b,c⟩:=this;omega
   exact .inr ⟨by omega,by omega⟩
 .rcases QH.1 f with f|f
  .rcases QH.1 R with R|R
   .obtain⟨o1,h1⟩:=Q f;obtain⟨o2,K⟩:=Q R;rw[ρo _ (S f),ρo _ (S R)]at e;exact s.hr.inj (p.1,o1) h1 (q.1,o2) K e
   .obtain⟨i,str,I,h1,K,N,_⟩:=zAe R;rw[ρo _ (S f),K,ρn i h1]at e;exact(a6 f h1 N e).elim
  .obtain⟨i,str,I,h1,K,N,_⟩:=zAe f;rcases QH.1 R with R|R
   .rw[ρo _ (S R),K,ρn i h1]at e;exact(a6 R h1 N e.symm).elim
   .obtain⟨i',al,ai,bt,be,bn,_⟩:=zAe R;rw[K,ρn i h1,be,ρn i' bt]at e;have:=s'.hr.inj _ N _ bn e;simp only at this;rw[K,be,this]
 .rcases QH.1 f with f|f
  .rcases zEv M F af f with⟨h,X⟩|⟨i,str,I,o2,O,B,k3,k4⟩
   .obtain⟨str,I,e,aw⟩:=s.cH p h;have:=s.hr.obj p h;rw[e]at this⊢;rw[ρo _ (S f)];exact OR.ve (T.wh _ (s.hr.lt h) (ay p h X)) (λhc hv=>mo hc hv) aw this
   .rw[k3];exact ac B ((ρo _ (S f)).trans (ak O B).symm)
  .obtain⟨i,str,I,h1,K,N,h4⟩:=zAe f;rw[h4];exact ac N (by rw[K];exact ρn i h1)
 .rcases QH.1 f with f|f
  .rw[ρo _ (S f)];rcases zEv M F af f with⟨h,X⟩|⟨i,str,I,o2,O,B,k3,k4⟩
   .intro hz;rcases T.qP _ hz with h1|h1|h1
    .exact s.hr.nz p h h1
    .exact ay p h X h1
    .have:=s.hr.lt h;have h1:w.heap.size<=E.ρ p.1:=h1;omega
   .have:=s'.hr.nz _ B;simp only at this;rw[ak O B]at this;exact this
  .obtain⟨i,str,I,h1,K,N,h4⟩:=zAe f;rw[K,ρn i h1];exact s'.hr.nz _ N
 .exact s.hf.ux s.qY (λhc hv=>mo hc hv) hd ao.1
 .rcases hD with h1|⟨_,h1⟩
  .exact Nat.lt_add_right _ (s.qx h h1)
  .exact h1
 .exact(s.qY.mono (Qt _ _) (Qt _ _)).qv ao.2
 .rcases QH.1 f with f|f
  .rcases zEv M F af f with⟨h,X⟩|⟨i,str,I,o2,O,B,k3,k4⟩
   .obtain⟨str,I,e,aw⟩:=s.cH p h;exact⟨str,I,e,λc hc=>(aw c hc).mono (Qt _ _) (Qt _ _)⟩
   .exact⟨str,_,k3,a1 B⟩
  .obtain⟨i,str,I,h1,K,N,h4⟩:=zAe f;exact⟨str,_,h4,a1 N⟩
 .rcases zCg Y with⟨W,rfl,h1⟩|⟨X,h1⟩
  .obtain⟨O,B⟩:=s'.qR W z h1;refine⟨Nat.add_lt_add_left O _,?_⟩
   cases z with
   |vec sz es=>
    obtain⟨f,⟨e1,e2,e3⟩|⟨b,str,I,cp,ex,e1,e2,e3,e4,e5,e6⟩⟩:=B
    .exact⟨f,.inl ⟨(βn W).trans e1,(σn W).trans e2,e3⟩⟩
    .exact⟨f,.inr ⟨b,str,I,cp,ex,(βn W).trans e1,OR.pp (E:=E') (E':=E2) (w:=w') (w':=w') rfl (λb A=>⟨A,rfl⟩) e4 e2,by rw[σn];exact e3,e4,e5,e6⟩⟩
   |mp es=>
    obtain⟨f,b,e1,e2,e3⟩:=B;exact⟨f,b,(βn W).trans e1,OR.pm (E:=E') (E':=E2) (w:=w') (w':=w') rfl (λb A=>⟨A,rfl⟩) f e2,(σn W).trans e3⟩
   |qU j2 i off=>
    have:=o.qA _ _ h1;cases this
   |dn n=>
    have:=o.qA _ _ h1;cases this
  .obtain⟨O,B⟩:=s.qR j z h1;refine⟨Nat.lt_add_right _ O,B.mono (σo j O) (λ_=>βo j O) (λb ho A=>T.wh b (aa j z b h1 ho A) (ag j z b h1 ho A X)) hZ T.qn λj2 i off e sz es bo=>?_⟩
   subst e;have U:=s.vp j j2 i off h1;rcases zCg bo with⟨W,e1,_⟩|⟨_,K⟩
   .omega
   .exact⟨βo j2 U,es,K,rfl⟩
 .rcases zCg Y with⟨W,rfl,h1⟩|⟨X,h1⟩
  .have:=o.qA _ _ h1;cases this
  .exact Nat.lt_add_right _ (s.vp j j2 i off h1)
 .rcases zCg Y with⟨W,rfl,h1⟩|⟨X,h1⟩
  .rw[βn]at A;obtain⟨z1,z2⟩:=s'.bz W z b h1 ho A;refine⟨z1,λp f e=>?_⟩
   rcases QH.1 f with f|f
   .rw[ρo _ (S f)]at e;rcases zEv M F af f with⟨h,X⟩|⟨i,str,I,o2,O,B,k3,k4⟩
    .exact ae (.inr ⟨W,z,h1,ho,A⟩) p h X e
    .exact z2 _ B ((ak O B).trans e)
   .obtain⟨i,str,I,q1,q2,q3,q4⟩:=zAe f;rw[q2,ρn i q1]at e;exact z2 _ q3 e
  .have U:=(s.qR j z h1).1;rw[βo j U]at A;obtain⟨z1,z2⟩:=s.bz j z b h1 ho A;refine⟨λhz=>?_,λp f e=>?_⟩
   .rcases T.qP _ hz with k|k|k
    .exact z1 k
    .exact ag j z b h1 ho A X k
    .have:=aa j z b h1 ho A;omega
   .rcases QH.1 f with f|f
    .rw[ρo _ (S f)]at e;obtain⟨oo,h⟩:=Q f;exact z2 _ h e
    .obtain⟨i,str,I,q1,q2,q3,q4⟩:=zAe f;rw[q2,ρn i q1]at e;rcases T.own b (.inl ⟨_,q3,e⟩)with k|k
     .exact ag j z b h1 ho A X k
     .have:=aa j z b h1 ho A;omega
 .rcases zCg h1 with⟨i1,rfl,O⟩|⟨bi,O⟩
  .rcases zCg K with⟨i2,rfl,B⟩|⟨bg,B⟩
   .rw[βn]at h5 h6;rw[s'.qQ i1 i2 z ab b O B N h4 h5 h6]
   .have U:=(s.qR W ab B).1;rw[βn]at h5;rw[βo W U]at h6;rcases T.own b (.inr ⟨i1,z,O,N,h5⟩)with k|k
    .exact(ag W ab b B h4 h6 bg k).elim
    .have:=aa W ab b B h4 h6;omega
  .have U:=(s.qR j z O).1;rw[βo j U]at h5;rcases zCg K with⟨i2,rfl,B⟩|⟨bg,B⟩
   .rw[βn]at h6;rcases T.own b (.inr ⟨i2,ab,B,h4,h6⟩)with k|k
    .exact(ag j z b O N h5 bi k).elim
    .have:=aa j z b O N h5;omega
   .have bh:=(s.qR W ab B).1;rw[βo W bh]at h6;exact s.qQ j W z ab b O B N h4 h5 h6
 .refine⟨T.qH,λx J=>?_,λx J=>?_,T.tape,T.os,T.output,T.size,λx J A=>T.wh x J λh=>A (ad h),T.qn⟩
  .rcases T.qP x J with h|h|h
   .exact .inl h
   .exact .inr (.inl (ad h))
   .exact .inr (.inr h)
  .rcases J with⟨p,f,e⟩|⟨j,z,Y,ho,A⟩
   .rcases QH.1 f with f|f
    .rw[ρo _ (S f)]at e;obtain⟨oo,h⟩:=Q f;exact .inl (.inl ⟨_,h,e⟩)
    .obtain⟨i,str,I,q1,q2,q3,q4⟩:=zAe f;rw[q2,ρn i q1]at e;rcases T.own x (.inl ⟨_,q3,e⟩)with k|k
     .exact .inl (ad k)
     .exact .inr k
   .rcases zCg Y with⟨W,rfl,h1⟩|⟨X,h1⟩
    .rw[βn]at A;rcases T.own x (.inr ⟨W,z,h1,ho,A⟩)with k|k
     .exact .inl (ad k)
     .exact .inr k
    .rw[βo j (s.qR j z h1).1]at A;exact .inl (.inr ⟨j,z,h1,ho,A⟩)
theorem Vecs.get_map{g:Nat->VI->VI}:∀{V:Vecs}{j:Nat},Vecs.get (V.map λp=>(p.1,g p.1 p.2)) j=(Vecs.get V j).map (g j)
 |[],j=>rfl
 |(k,o)::r,j=>by
  rw[Qa,Vecs.qf,Vecs.qf];split
  .rename_i e;subst e;rfl
  .exact Vecs.get_map
def zPI(sm:JV)(V2:Vecs)(k:Nat)(o:VI):VI:=match posN k 0 sm with
 |some i=>match V2.get i with
  |some b=>b
  |none=>o
 |none=>o
theorem zO0{sm:JV}{V2 V:Vecs}{j:Nat}{vi:VI}(h:(zG4 sm V2 V).get j=some vi):∃b,V.get j=some b/\((∃i,posN j 0 sm=some i/\V2.get i=some vi)\/(vi=b/\∀i,posN j 0 sm=some i->V2.get i=none)):=by
 have e:zG4 sm V2 V=V.map λp=>(p.1,zPI sm V2 p.1 p.2):=by
  unfold zG4;apply List.map_congr_left
  rintro ⟨k,o⟩ _
  unfold zPI;dsimp only;cases posN k 0 sm with
  |none=>rfl
  |some i=>dsimp only;cases V2.get i<;>rfl
 rw[e,Vecs.get_map (g:=zPI sm V2)]at h;unfold zPI at h;cases hv:V.get j with
 |none=>rw[hv]at h;cases h
 |some b=>
  rw[hv]at h;simp only[Option.map_some,QK]at h;refine⟨b,rfl,?_⟩
  cases hp:posN j 0 sm with
  |none=>rw[hp]at h;exact .inr ⟨h.symm,λi d=>by cases d⟩
  |some i=>
   rw[hp]at h;simp only at h;cases hq:V2.get i with
   |none=>rw[hq]at h;exact .inr ⟨h.symm,λf d=>by cases d;exact hq⟩
   |some x=>rw[hq]at h;simp only at h;subst h;exact .inl ⟨i,rfl,hq⟩
theorem SR.uL(hG:GPP G)(s:SR G nt E w a β st){sm:JV}{V V2:Vecs}(cv:CanV [] sm st [] V){v:AV}{aa:Value}(q:PP v)
  (hl:∀j vi,V.get j=some vi->∃sz es l,vi=.vec sz es/\V2.get j=some (.vec sz l)/\l.length=es.length) {E':Env} {w':World} (hv:VR E' w' v aa) (hσ:E'.σ=(zV E [] sm).σ)
  (s':SR G 0 E' w' { tmps:=#[],defers:=[] } (λi=>β (sm.getD i 0)) ⟨[],[],V2,0,V.length⟩) (B:Kp (zV E [] sm).Z (BS (zV E [] sm) (λi=>β (sm.getD i 0)) [] V) w E'.Z (BS E' (λi=>β (sm.getD i 0)) [] V2) w') {d:Option Nat} (hd:∀n,d=some n->n<nt):
  ∃I β2,SR G nt I w' (a.put d aa) β2 ⟨qv st.fr d v,st.H,zG4 sm V2 st.V,st.m,st.mv⟩/\Kp E.Z (BS E β st.H st.V) w I.Z (BS I β2 st.H (zG4 sm V2 st.V)) w':=by
 obtain⟨v1,v2⟩:=zGK cv.rv;have v3:=zOZ cv.rv;have af:∀{i j:Nat},posN j 0 sm=some i->sm.getD i 0=j/\j∈sm:=λ{i j} h=>by
  obtain⟨k,e1,U⟩:=zDu h;have:i=k:=by omega
  subst this;exact⟨by rw[List.getD_eq_getElem?_getD,U];rfl,QF U⟩
 have hB:∀{x},BS (zV E [] sm) (λi=>β (sm.getD i 0)) [] V x->∃F vi,F∈sm/\st.V.get F=some vi/\vi.qA=true/\β F=some x:=by
  rintro x (⟨p,q,e⟩|⟨j,vi,Q,N,o⟩)
  .cases q
  .obtain⟨kk,F,rfl,X,q3,q4⟩:=v2 j vi Q;simp only[QS]at o;have ah:sm.getD kk 0=F:=by rw[List.getD_eq_getElem?_getD,X];rfl
   rw[ah]at o;exact⟨F,vi,QF X,q3,N,o⟩
 have W:∀{x},BS (zV E [] sm) (λi=>β (sm.getD i 0)) [] V x->BS E β st.H st.V x:=λA=>by
  obtain⟨F,vi,_,h1,z,S⟩:=hB A;exact .inr ⟨F,vi,h1,z,S⟩
 have ag:∀p∈st.H,¬BS (zV E [] sm) (λi=>β (sm.getD i 0)) [] V (E.ρ p.1):=λp q A=>by
  obtain⟨F,vi,_,h1,z,S⟩:=hB A;exact(s.bz F vi _ h1 z S).2 p q rfl
 have ae:∀j vi b,st.V.get j=some vi->vi.qA=true->β j=some b->j ∉ sm->¬BS (zV E [] sm) (λi=>β (sm.getD i 0)) [] V b:=λj vi b h1 z S hn A=>by
  obtain⟨F,f,ab,R,O,k3⟩:=hB A;exact hn (s.qQ j F vi f b h1 R z O S k3▸ab)
 have aq:∀b,E.Z b->¬BS (zV E [] sm) (λi=>β (sm.getD i 0)) [] V b:=λb hz A=>by
  obtain⟨F,f,ab,R,O,k3⟩:=hB A;exact(s.bz F f b R O k3).1 hz
 have hZ:∀b,E.Z b->E'.Z b/\w'.heap[b]? = w.heap[b]?:=λb o=>⟨B.qH b o,B.wh b (s.hr.we b o) (aq b o)⟩
 have T:∀j vi b,st.V.get j=some vi->vi.qA=true->β j=some b->b<w.heap.size:=λj vi b h1 z S=>(s.qR j vi h1).2.lt z S
 let I:Env:=⟨E.ρ,E.D,E'.Z,E.σ⟩
 have σn:∀{i j},posN j 0 sm=some i->E'.σ i=E.σ j:=λ{i j} h=>by
  rw[hσ];show E.σ (sm.getD i 0)=E.σ j
  rw[(af h).1]
 have βn:∀{i j},posN j 0 sm=some i->(λi=>β (sm.getD i 0)) i=β j:=λ{i j} h=>by
  show β (sm.getD i 0)=β j
  rw[(af h).1]
 have mo:∀{x:AV}{cx:Value},CP st.mv st.m x->VR E w x cx->VR I w' x cx:=λhc A=>
  VR.ve (E:=E) (E':=I) (w:=w) (w':=w') (λh _ hh=>⟨hh,rfl⟩) hZ B.qn (λ_ _=>rfl) A hc
 have mn:∀{x:AV}{cx:Value},PP x->VR E' w' x cx->VR I w' x cx:=λq A=>VR.pp (E:=E') (E':=I) (w:=w') (w':=w') (λb o=>⟨o,rfl⟩) A q
 have ac:∀{i j},posN j 0 sm=some i->∃vi,V.get i=some vi/\st.V.get j=some vi:=λ{i j} h=>by
  obtain⟨k,e1,U⟩:=zDu h;have:i=k:=by omega
  subst this;obtain⟨vi,a1,a2⟩:=v3 i j U;exact⟨vi,by simpa using a1,a2⟩
 have K:∀{j vi},(zG4 sm V2 st.V).get j=some vi->(∃i sz es l,posN j 0 sm=some i/\V2.get i=some vi/\vi=.vec sz l/\st.V.get j=some (.vec sz es)/\l.length=es.length)\/(st.V.get j=some vi/\j ∉ sm):=λ{j vi} h=>by
  obtain⟨f,Y,⟨i,h1,z⟩|⟨rfl,z⟩⟩:=zO0 h
  .obtain⟨M,R,O⟩:=ac h1;obtain⟨sz,es,l,q1,X,q3⟩:=hl i M R;subst q1;rw[X]at z;cases z;exact .inl ⟨i,sz,es,l,h1,X,rfl,O,q3⟩
  .refine .inr ⟨Y,?_⟩
   cases q:posN j 0 sm with
   |none=>exact zK2 q
   |some i=>
    obtain⟨M,R,O⟩:=ac q;obtain⟨sz,es,l,q1,X,q3⟩:=hl i M R;rw[z i q]at X;cases X
 have y:∀{j vi},(zG4 sm V2 st.V).get j=some vi->∃f,st.V.get j=some f/\f.qA=vi.qA:=λ{j vi} h=>by
  rcases K h with⟨i,sz,es,l,_,_,rfl,k,_⟩|⟨k,_⟩
  .exact⟨_,k,rfl⟩
  .exact⟨_,k,rfl⟩
 refine⟨I,β,⟨⟨s.hr.nodup,s.hr.qx,s.hr.inj,λp q=>?_,λp q hz=>?_,s'.hr.we⟩,?_,λg u hg=>⟨VR.pp (E:=E) (E':=I) (w:=w) (w':=w') hZ (s.hg g u hg).1 (hG g u hg),(s.hg g u hg).2.mono B.qn⟩,s.qx,?_,s.cH,λj vi Q=>?_,λj j2 i off Q=>?_,λj vi b Q N o=>?_,λj j' vi au b h1 z S h4 h5 h6=>?_⟩,?_⟩
 .obtain⟨str,cs,e,ak⟩:=s.cH p q;have:=s.hr.obj p q;rw[e]at this⊢;exact OR.ve (B.wh _ (s.hr.lt q) (ag p q)) (λhc hv=>mo hc hv) ak this
 .rcases B.qP _ hz with h1|h1|h1
  .exact s.hr.nz p q h1
  .exact ag p q h1
  .have:=s.hr.lt q;have h1:w.heap.size<=E.ρ p.1:=h1;omega
 .exact s.hf.ux s.qY (λhc hv=>mo hc hv) hd (mn q hv)
 .exact s.qY.qv q.cp
 .rcases K Q with⟨i,sz,es,l,h1,z,rfl,h4,h5⟩|⟨h1,hn⟩
  .obtain⟨R,O⟩:=s'.qR i _ z;refine⟨(s.qR j _ h4).1,?_⟩
   obtain⟨ad,⟨e1,U,e3⟩|⟨b,str,cs,cp,ex,e1,U,e3,e4,e5,e6⟩⟩:=O
   .exact⟨ad,.inl ⟨(βn h1).symm.trans e1,(σn h1).symm.trans U,e3⟩⟩
   .refine⟨ad,.inr ⟨b,str,cs,cp,ex,(βn h1).symm.trans e1,OR.pp (E:=E') (E':=I) (w:=w') (w':=w') rfl (λb o=>⟨o,rfl⟩) e4 U,?_,e4,e5,e6⟩⟩
    have:I.σ j=E'.σ i:=(σn h1).symm;rw[this];exact e3
  .obtain⟨R,O⟩:=s.qR j vi h1;refine⟨R,O.mono rfl (λ_=>rfl) (λb N o=>B.wh b (T j vi b h1 N o) (ae j vi b h1 N o hn)) hZ B.qn λj2 i off e sz es ao=>?_⟩
   refine⟨rfl,?_⟩
   rcases K ao with⟨i',ar,aj,l,a1,a2,a3,a4,a5⟩|⟨a1,_⟩
   .cases a3;exact⟨aj,a4,a5.symm⟩
   .exact⟨es,a1,rfl⟩
 .rcases K Q with⟨_,_,_,_,_,_,e,_⟩|⟨h1,_⟩
  .cases e
  .exact s.vp j j2 i off h1
 .obtain⟨f,Y,J⟩:=y Q;obtain⟨z1,z2⟩:=s.bz j f b Y (J.trans N) o;refine⟨λhz=>?_,z2⟩
  rcases K Q with⟨i,sz,es,l,h1,z,rfl,h4,h5⟩|⟨h1,hn⟩
  .exact(s'.bz i _ b z rfl ((βn h1).trans o)).1 hz
  .rcases B.qP _ hz with k|k|k
   .exact z1 k
   .exact ae j vi b h1 N o hn k
   .have:=T j vi b h1 N o;omega
 .obtain⟨f,Y,J⟩:=y h1;obtain⟨M,ai,al⟩:=y z;exact s.qQ j j' f M b Y ai (J.trans S) (al.trans h4) h5 h6
 .refine⟨B.qH,λx A=>?_,λx A=>?_,B.tape,B.os,B.output,B.size,λx A o=>B.wh x A λh=>o (W h),B.qn⟩
  .rcases B.qP x A with h|h|h
   .exact .inl h
   .exact .inr (.inl (W h))
   .exact .inr (.inr h)
  .rcases A with⟨p,q,e⟩|⟨j,vi,Q,N,o⟩
   .exact .inl (.inl ⟨p,q,e⟩)
   .obtain⟨f,Y,J⟩:=y Q;exact .inl (.inr ⟨j,f,Y,J.trans N,o⟩)
theorem zHa{H:Heap}{h sz b:Nat}{v:AV}{es:JE}(e:zIq H h sz v=some (b,es)):∃l c x str cs,v=.row b 0 l sz c x/\b≠h/\H.get b=some (.cells str cs)/\cs.length=l*sz/\zCt sz l cs=some es/\es.all (ppS 12)=true:=by
 unfold zIq at e;split at e
 .split at e
  .rename_i f;split at e
   .rename_i i;split at e
    .rename_i k;split at e
     .rename_i n;split at e
      .rename_i j;cases e;simp only[qr,Bool.not_eq_true']at f;obtain⟨d,a2,a3⟩:=f;have d:=zb d;have a2:=zb a2;subst d;subst a2;exact⟨_,_,_,_,_,rfl,zAq a3,i,zb k,n,j⟩
      .cases e
     .cases e
    .cases e
   .cases e
  .cases e
 .cases e
theorem Heap.qL:∀{H:Heap}{h k:Nat},h≠k->(H.del h).get k=H.get k
 |[],_,_,_=>rfl
 |(i,o)::r,h,k,b=>by
  simp only[Heap.del];split
  .rename_i d;have:=zb d;subst this;have:Nat.beq i k=false:=by
    cases e:Nat.beq i k with
    |false=>rfl
    |true=>exact absurd (zb e) b
   simp only[Heap.get,this]
  .simp only[Heap.get];split
   .rfl
   .exact Heap.qL b
theorem SR.ub(hG:GPP G)(s:SR G nt E w a β st){h sz y:Nat}{v:AV}{es:JE}{u:Value}(ht:zIq st.H h sz v=some (y,es))(hu:VR E w v u):
  ∃β',SR G nt ⟨E.ρ,E.D,E.Z,λi=>if i=st.mv then u else E.σ i⟩ w a β' ⟨st.fr,st.H.del y,(st.mv,.vec sz es)::st.V,st.m,st.mv+1⟩/\u.oneCell'=true/\Kp E.Z (BS E β st.H st.V) w E.Z (BS ⟨E.ρ,E.D,E.Z,λi=>if i=st.mv then u else E.σ i⟩ β' (st.H.del y) ((st.mv,.vec sz es)::st.V)) w:=by
 obtain⟨l,cp,ex,str,S,rfl,_,R,hl,hr,o⟩:=zHa ht;have K:=zET.ur hu;have hσ:∀i,i<st.mv->(if i=st.mv then u else E.σ i)=E.σ i:=λi hi=>by
  have:i≠st.mv:=by omega
  simp[this]
 have hm:∀{v:AV}{cv:Value},CP st.mv st.m v->VR E w v cv->VR ⟨E.ρ,E.D,E.Z,λi=>if i=st.mv then u else E.σ i⟩ w v cv:=λhc U=>
  VR.ve (E:=E) (E':=⟨E.ρ,E.D,E.Z,λi=>if i=st.mv then u else E.σ i⟩) (w:=w) (w':=w) (λh _ hh=>⟨hh,rfl⟩) (λb J=>⟨J,rfl⟩) (.refl w) hσ U hc
 have A:∀j z,st.V.get j=some z->j≠st.mv:=λj z h=>by have:=(s.qR j z h).1;omega
 have f:=Heap.qi R;have d:∀{p:Nat×HO},p∈st.H.del y->p∈st.H/\p.1≠y:=λo=>Heap.vh s.hr.nodup o
 obtain⟨q1,q2,q3,q4,Y⟩:=z4 hr;obtain⟨_,_,ec,Q⟩:=s.cH _ f;cases ec;have F:∀e∈es,PP e:=by
  intro e he;obtain⟨i,hi⟩:=List.getElem?_of_mem he;obtain⟨_,p2⟩:=zQ Y;obtain⟨_,p4,p5⟩:=zI (p2 i e hi);refine zBM (n:=st.mv) (k:=st.m) 12 (zBD p5 λx hx=>Q x ?_) (QD.1 o e he)
  rw[p4]at hx;exact QM (QW (QM hx))
 have B:∀c∈S,PP c:=by
  rw[List.take_of_length_le (by omega)]at Y
  exact zCc Y F
 have M:zET w (E.ρ y) es.length sz cp ex u:=by rw[q2];exact K
 refine⟨λj=>if j=st.mv then some (E.ρ y)else β j,⟨⟨(s.hr.sub (Heap.wx _ _)).nodup,λp o=>s.hr.qx p (d o).1,λp o q hq e=>s.hr.inj p (d o).1 q (d hq).1 e,λp o=>?_,λp o=>s.hr.nz p (d o).1,s.hr.we⟩,⟨s.hf.size,λt v hu=>hm (s.qY t v hu) (s.hf.get t v hu)⟩,λg v R=>⟨hm (hG g v R).cp (s.hg g v R).1,(s.hg g v R).2⟩,s.qx,s.qY.mono (QT _) (QA _),λp o=>?_,λj z h=>?_,λj X i off h=>?_,λj z b h ho J=>?_,λj W z I b h1 y N h4 T O=>?_⟩,K.one,?_⟩
 .obtain⟨str,S,e,B⟩:=s.cH p (d o).1;have:=s.hr.obj p (d o).1;rw[e]at this⊢;exact OR.ve rfl (λhc U=>hm hc U) B this
 .obtain⟨str,S,e,B⟩:=s.cH p (d o).1;exact⟨str,S,e,λc hc=>(B c hc).mono (QT _) (QA _)⟩
 .rw[Vecs.qf]at h;split at h
  .rename_i e;subst e;cases h;refine⟨QR _,F,.inr ⟨E.ρ y,str,S,cp,ex,by simp,?_,by simpa using M,B,by rw[q2];exact q4,by rw[q2];exact Y⟩⟩
   exact OR.ve rfl (λhc U=>hm hc U) Q (s.hr.obj _ f)
  .have h1:=s.qR j z h;refine⟨Nat.lt_succ_of_lt h1.1,h1.2.mono (by simp[A j z h]) (λ_=>by simp[A j z h]) (λb _ _=>rfl) (λb J=>⟨J,rfl⟩) (.refl w) λX i off e sz es F=>?_⟩
   subst e;have:=s.vp j X i off h;rw[Vecs.qf,if_neg (by omega)]at F
   have aa:X≠st.mv:=by omega
   exact⟨by simp[aa],es,F,rfl⟩
 .rw[Vecs.qf]at h;split at h
  .cases h
  .exact Nat.lt_succ_of_lt (s.vp j X i off h)
 .rw[Vecs.qf]at h;split at h
  .rename_i e;subst e;simp only[if_true,QK]at J;subst J;exact⟨s.hr.nz _ f,λp o e=>(d o).2 (s.hr.inj p (d o).1 _ f e)⟩
  .simp only[if_neg (A j z h)]at J;obtain⟨z1,z2⟩:=s.bz j z b h ho J;exact⟨z1,λp o=>z2 p (d o).1⟩
 .rw[Vecs.qf]at h1 y;split at h1
  .rename_i e;subst e;split at y
   .rename_i e;exact e
   .simp only[if_true,QK]at T;simp only[if_neg (A W I y)]at O;subst T;exact absurd rfl ((s.bz W I _ y h4 O).2 _ f)
  .simp only[if_neg (A j z h1)]at T;split at y
   .rename_i e;subst e;simp only[if_true,QK]at O;subst O;exact absurd rfl ((s.bz j z _ h1 N T).2 _ f)
   .simp only[if_neg (A W I y)]at O;exact s.qQ j W z I b h1 y N h4 T O
 .refine Kp.less λx hx=>?_
  rcases hx with⟨p,o,e⟩|⟨j,z,h1,y,N⟩
  .exact .inl ⟨p,(d o).1,e⟩
  .rw[Vecs.qf]at h1;split at h1
   .rename_i e;subst e;simp only[if_true,QK]at N;exact .inl ⟨_,f,N⟩
   .simp only[if_neg (A j z h1)]at N;exact .inr ⟨j,z,h1,y,N⟩
theorem SR.uw(s:SR G nt E w a β st){h i:Nat}{str:Bool}{cs:JE}{v':AV}(S:st.H.get h=some (.cells str cs))(T:∀c e f,w.heap[E.ρ h]?=some (Obj.cells c e f)->∃u,c[i]?=some u/\u.oneCell'=true/\VR E w v' u)(hc:CP st.mv st.m v'):
  SR G nt E w a β ⟨st.fr,st.H.put h (.cells str (cs.set i v')),st.V,st.m,st.mv⟩/\∀x,BS E β (st.H.put h (.cells str (cs.set i v'))) st.V x->BS E β st.H st.V x:=by
 have l:=Heap.qi S;have k:∀{p:Nat×HO},p∈st.H.put h (.cells str (cs.set i v'))->∃o,(p.1,o)∈st.H:=λ{p} d=>by
  rcases zCv d with rfl|d
  .exact⟨_,l⟩
  .exact⟨p.2,d⟩
 refine⟨⟨⟨?_,λp d=>?_,λp d q K e=>?_,λp d=>?_,λp d=>?_,s.hr.we⟩,s.hf,s.hg,s.qx,s.qY,λp d=>?_,s.qR,s.vp,λj U b h v J=>?_,s.qQ⟩,λx n=>?_⟩
 .show(st.H.put h _).keys.Nodup
  rw[Heap.wI];exact s.hr.nodup
 .obtain⟨o,v⟩:=k d;exact s.hr.qx (p.1,o) v
 .obtain⟨Q,h1⟩:=k d;obtain⟨O,F⟩:=k K;exact s.hr.inj (p.1,Q) h1 (q.1,O) F e
 .rcases zCv d with rfl|d
  .obtain⟨A,D,B,q1,W,N,R⟩:=s.hr.obj _ l;refine⟨A,D,B,q1,by simpa using W,N,λi2 x n=>?_⟩
   rw[List.getElem?_set]at n;split at n
   .rename_i e;subst e;split at n
    .cases n;exact T A D B q1
    .cases n
   .exact R i2 x n
  .exact s.hr.obj p d
 .obtain⟨o,v⟩:=k d;exact s.hr.nz (p.1,o) v
 .rcases zCv d with rfl|d
  .obtain⟨_,_,I,z⟩:=s.cH _ l;cases I;refine⟨str,_,rfl,λc y=>?_⟩
   rcases List.mem_or_eq_of_mem_set y with h|rfl
   .exact z c h
   .exact hc
  .exact s.cH p d
 .obtain⟨M,z2⟩:=s.bz j U b h v J;refine⟨M,λp d=>?_⟩
  obtain⟨o,h1⟩:=k d;exact z2 (p.1,o) h1
 .rcases n with⟨p,d,e⟩|h
  .obtain⟨o,v⟩:=k d;exact .inl ⟨_,v,e⟩
  .exact .inr h
theorem SR.uE(D:GPP G)(s:SR G nt E w a β st){h i sz b:Nat}{str:Bool}{cs:JE}{v:AV}{es:JE}(n:st.H.get h=some (.cells str cs))(B:cs[i]?=some v)(l:zIq st.H h sz v=some (b,es)):
  ∃E' d,SR G nt E' w a d ⟨st.fr,(st.H.del b).put h (.cells str (cs.set i (.sym st.mv))),(st.mv,.vec sz es)::st.V,st.m,st.mv+1⟩/\Kp E.Z (BS E β st.H st.V) w E'.Z (BS E' d ((st.H.del b).put h (.cells str (cs.set i (.sym st.mv)))) ((st.mv,.vec sz es)::st.V)) w:=by
 obtain⟨F,M,I,q1,N,J,A⟩:=s.hr.obj _ (Heap.qi n);obtain⟨u,x,o,q⟩:=A i v B;obtain⟨d,s1,K,p⟩:=s.ub D l q;obtain⟨_,_,_,_,_,_,j,_⟩:=zHa l;have k:(st.H.del b).get h=some (.cells str cs):=(Heap.qL j).trans n;obtain⟨z,y⟩:=s1.uw (i:=i) (v':=.sym st.mv) k (λc e f hc=>by
  have hc:w.heap[E.ρ h]?=some (Obj.cells c e f):=hc;rw[q1]at hc;cases hc;exact⟨u,x,o,.sym _ _ (by simp) o⟩) (.sym _ (QR _))
 exact⟨_,d,z,p.trans (Kp.less y)⟩
theorem SR.uI(l:GPP G)(s:SR G nt E w a β st){t sz k f:Nat}{v:AV}{es:JE}(n:st.fr.get t=some v)(i:zIq st.H k sz v=some (f,es)):
  ∃E' d,SR G nt E' w a d ⟨st.fr.put t (.sym st.mv),st.H.del f,(st.mv,.vec sz es)::st.V,st.m,st.mv+1⟩/\Kp E.Z (BS E β st.H st.V) w E'.Z (BS E' d (st.H.del f) ((st.mv,.vec sz es)::st.V)) w:=by
 obtain⟨d,s1,j,h⟩:=s.ub l i (s.hf.get _ _ n);refine⟨_,d,⟨s1.hr,⟨s1.hf.size,λu x b=>?_⟩,s1.hg,s1.qx,λu x b=>?_,s1.cH,s1.qR,s1.vp,s1.bz,s1.qQ⟩,h⟩
 .rw[Fr.qu]at b;split at b
  .rename_i e;subst e;cases b;exact .sym _ _ (by simp) j
  .exact s1.hf.get u x b
 .rw[Fr.qu]at b;split at b
  .cases b;exact .sym _ (QR _)
  .exact s1.qY u x b
theorem SR.uD(hG:GPP G)(s:SR G nt E w a β st){h i sz:Nat}{str:Bool}{cs:JE}(X:st.H.get h=some (.cells str cs))(hi:cs[i]?=some .qa):
  ∃E' β',SR G nt E' w a β' ⟨st.fr,st.H.put h (.cells str (cs.set i (.sym st.mv))),(st.mv,.vec sz [])::st.V,st.m,st.mv+1⟩/\Kp E.Z (BS E β st.H st.V) w E'.Z (BS E' β' (st.H.put h (.cells str (cs.set i (.sym st.mv)))) ((st.mv,.vec sz [])::st.V)) w:=by
 have hσ:∀i,i<st.mv->(if i=st.mv then Value.slice none 0 0 else E.σ i)=E.σ i:=λi hi=>by
  have:i≠st.mv:=by omega
  simp[this]
 have O:∀{v:AV}{I:Value},CP st.mv st.m v->VR E w v I->VR ⟨E.ρ,E.D,E.Z,λi=>if i=st.mv then .slice none 0 0 else E.σ i⟩ w v I:=λhc hv=>
  VR.ve (E:=E) (E':=⟨E.ρ,E.D,E.Z,λi=>if i=st.mv then .slice none 0 0 else E.σ i⟩) (w:=w) (w':=w) (λh _ X=>⟨X,rfl⟩) (λb B=>⟨B,rfl⟩) (.refl w) hσ hv hc
 have n:∀j f,st.V.get j=some f->j≠st.mv:=λj f h=>by have:=(s.qR j f h).1;omega
 have l:=Heap.qi X;have y:∀{p:Nat×HO},p∈st.H.put h (.cells str (cs.set i (.sym st.mv)))->∃o,(p.1,o)∈st.H:=λ{p} d=>by
  rcases zCv d with rfl|d
  .exact⟨_,l⟩
  .exact⟨p.2,d⟩
 refine⟨⟨E.ρ,E.D,E.Z,λi=>if i=st.mv then .slice none 0 0 else E.σ i⟩,λj=>if j=st.mv then none else β j,⟨⟨?_,λp d=>?_,λp d q hq e=>?_,λp d=>?_,λp d=>?_,s.hr.we⟩,⟨s.hf.size,λu v hu=>O (s.qY u v hu) (s.hf.get u v hu)⟩,λg u U=>⟨O (hG g u U).cp (s.hg g u U).1,(s.hg g u U).2⟩,s.qx,s.qY.mono (QT _) (QA _),λp d=>?_,λj f h=>?_,λj N i off h=>?_,λj f b h F B=>?_,λj j' f J b h1 A K h4 W h6=>?_⟩,?_⟩
 .show(st.H.put h _).keys.Nodup
  rw[Heap.wI];exact s.hr.nodup
 .obtain⟨o,F⟩:=y d;exact s.hr.qx (p.1,o) F
 .obtain⟨o1,h1⟩:=y d;obtain⟨o2,A⟩:=y hq;exact s.hr.inj (p.1,o1) h1 (q.1,o2) A e
 .rcases zCv d with rfl|d
  .obtain⟨_,_,T,k⟩:=s.cH _ l;cases T;obtain⟨cc,ee,ff,q1,q2,q3,q4⟩:=s.hr.obj _ l;refine⟨cc,ee,ff,q1,by simpa using q2,q3,λi2 x z=>?_⟩
   rw[List.getElem?_set]at z;split at z
   .rename_i e;subst e;split at z
    .cases z;obtain⟨u,S,Y,Q⟩:=q4 i _ hi;refine⟨u,S,Y,?_⟩
     have hz:∀{I:Value},VR E w .qa I->I=.slice none 0 0:=λh=>by cases h;rfl
     rw[hz Q];exact .sym _ _ (by simp only[if_true]) rfl
    .cases z
   .obtain⟨u,S,Y,Q⟩:=q4 i2 x z;exact⟨u,S,Y,O (k x (QF z)) Q⟩
  .obtain⟨str,cs,e,k⟩:=s.cH p d;have:=s.hr.obj p d;rw[e]at this⊢;exact OR.ve rfl (λhc hv=>O hc hv) k this
 .obtain⟨o,F⟩:=y d;exact s.hr.nz (p.1,o) F
 .rcases zCv d with rfl|d
  .obtain⟨_,_,T,k⟩:=s.cH _ l;cases T;refine⟨str,_,rfl,λc hc=>?_⟩
   rcases List.mem_or_eq_of_mem_set hc with h|rfl
   .exact(k c h).mono (QT _) (QA _)
   .exact .sym _ (QR _)
  .obtain⟨str,cs,e,k⟩:=s.cH p d;exact⟨str,cs,e,λc hc=>(k c hc).mono (QT _) (QA _)⟩
 .rw[Vecs.qf]at h;split at h
  .rename_i e;subst e;cases h;exact⟨QR _,λe he=>(by cases he),.inl ⟨by simp,by simp,rfl⟩⟩
  .have h1:=s.qR j f h;refine⟨Nat.lt_succ_of_lt h1.1,h1.2.mono (by simp[n j f h]) (λ_=>by simp[n j f h]) (λb _ _=>rfl) (λb B=>⟨B,rfl⟩) (.refl w) λN i off e sz es M=>?_⟩
   subst e;have:=s.vp j N i off h;rw[Vecs.qf,if_neg (by omega)]at M
   have R:N≠st.mv:=by omega
   exact⟨by simp[R],es,M,rfl⟩
 .rw[Vecs.qf]at h;split at h
  .cases h
  .exact Nat.lt_succ_of_lt (s.vp j N i off h)
 .rw[Vecs.qf]at h;split at h
  .rename_i e;subst e;simp at B
  .simp only[if_neg (n j f h)]at B;obtain⟨z1,z2⟩:=s.bz j f b h F B;refine⟨z1,λp d=>?_⟩
   obtain⟨o,h1⟩:=y d;exact z2 (p.1,o) h1
 .rw[Vecs.qf]at h1 A;split at h1
  .rename_i e;subst e;simp at W
  .split at A
   .rename_i e;subst e;simp at h6
   .simp only[if_neg (n j f h1)]at W;simp only[if_neg (n j' J A)]at h6;exact s.qQ j j' f J b h1 A K h4 W h6
 .refine Kp.less λx z=>?_
  rcases z with⟨p,d,e⟩|⟨j,f,h1,A,K⟩
  .obtain⟨o,F⟩:=y d;exact .inl ⟨_,F,e⟩
  .rw[Vecs.qf]at h1;split at h1
   .rename_i e;subst e;simp at K
   .simp only[if_neg (n j f h1)]at K;exact .inr ⟨j,f,h1,A,K⟩
theorem SR.qD(b:GPP G){h:Nat}:∀{g:JN}{E:Env}{β:Nat->Option Nat}{st:Sta},SR G nt E w a β st->(qD h g st).fr=st.fr/\∃E' p,SR G nt E' w a p (qD h g st)/\Kp E.Z (BS E β st.H st.V) w E'.Z (BS E' p (qD h g st).H (qD h g st).V) w
 |[],E,β,st,s=>⟨rfl,E,β,s,Kp.refl⟩
 |(i,sz)::g,E,β,st,s=>by
  simp only[Sy.qD];split
  .rename_i str z o;split
   .rename_i l;obtain⟨x,u,s1,d⟩:=s.uD b o l (sz:=sz);obtain⟨e,k,f,j,n⟩:=SR.qD b (g:=g) s1;exact⟨e,k,f,j,d.trans n⟩
   .rename_i v _ l;split
    .rename_i y A q;obtain⟨x,u,s1,d⟩:=s.uE b o l q;obtain⟨e,k,f,j,n⟩:=SR.qD b (g:=g) s1;exact⟨e,k,f,j,d.trans n⟩
    .exact SR.qD b (g:=g) s
   .exact SR.qD b (g:=g) s
  .exact⟨rfl,E,β,s,Kp.refl⟩
theorem SR.qJ(d:GPP G){g:JN}{args:JE}(s:SR G nt E w a β st):(qJ g args st).fr=st.fr/\∃E' b,SR G nt E' w a b (qJ g args st)/\Kp E.Z (BS E β st.H st.V) w E'.Z (BS E' b (qJ g args st).H (qJ g args st).V) w:=by
 unfold Sy.qJ;split
 .exact SR.qD d s
 .exact⟨rfl,E,β,s,Kp.refl⟩
theorem zSH{o:Oper}{l:XO}{k:AV->Sta->Prop}(c:Ctx P G nt Z0 B0 w0 dl E w a β st o l){e:HEnt}(he:HOK P G e){args:JE}
  (hk:(∃xs,l=.call e.f xs/\evs G st.fr xs=some args)\/∃y xs first d vs,l=.qN y xs/\y.ev G st.fr=some (.func (.func e.f) first d)/\evs G st.fr xs=some vs/\args=first++vs++d) (h:zDU e args st k):OpK P G nt Z0 B0 w0 dl o w a k:=by
 intro next Q hn;unfold zDU at h;obtain⟨aa,E1,β1,s1,B⟩:=c.s.qJ c.hG (g:=e.grow) (args:=args);generalize qJ e.grow args st=st1 at *;have M:(∃xs,l=.call e.f xs/\evs G st1.fr xs=some args)\/∃y xs first d vs,l=.qN y xs/\y.ev G st1.fr=some (.func (.func e.f) first d)/\evs G st1.fr xs=some vs/\args=first++vs++d:=by rw[aa];exact hk
 obtain⟨j,hv,ac⟩:=zTo s1.hr s1.hf s1.hg c.hc he.1 M;have O:∀x∈args,CP st1.mv st1.m x:=by
  rcases M with⟨xs,rfl,K⟩|⟨y,xs,first,d,vs,rfl,h1,h2,rfl⟩
  .have p:xs.all zo=true:=by have:=c.ok;simp only[zn,XO.qb,zM,QO]at this;exact this
   exact zEs c.hG s1.qY p K
  .have p:zo y=true/\xs.all zo=true:=by have:=c.ok;simp only[zn,XO.qb,zM,List.all_append,QU,List.all_nil,QO,qr]at this;exact this
   intro x n;have T:=zJ c.hG s1.qY p.1 h1;cases T with
   |func _ _ _ q1 q2=>
    rcases QH.1 n with n|n
    .rcases QH.1 n with n|n
     .exact q1 x n
     .exact zEs c.hG s1.qY p.2 h2 x n
    .exact q2 x n
 unfold zHR at h;obtain⟨z,H,V,⟨N,b⟩,cv,_,F,q,J,_⟩:=zIw c.hG s1 O hv h;split at b
 rotate_left
 .exact b.elim
 rename_i v H2 V2 W;obtain⟨ho,i⟩:=he.2 _ _ _ _ _ _ N W;unfold Oper.wp;rw[ac];unfold zG5 zIs at b;cases hi:inpl e.grow with
 |false=>
  rw[hi]at i b;have i:HFn P G e.f z H V v H2 V2:=i;refine(i _ w _ j (J 0 { tmps:=#[],defers:=[] } [] ⟨rfl,λt v h=>by cases h⟩ (λt v h=>by cases h)) F q).mono λee w' K=>?_
  obtain⟨u,E',β',rfl,k1,S,X,Y⟩:=K;obtain⟨R,U,s2,A⟩:=s1.back c.hG cv ho k1 S X Y c.hd;exact hn _ _ u R w' b ⟨U,s2,(c.kp.trans B).trans A,by rw[DRun.put_defers];exact c.df⟩
 |true=>
  rw[hi]at i b;obtain⟨rfl,rfl,I,D,i⟩:=i;have ab:=(zHV cv.rh).1;generalize zDT st1.H 30 0 (args.foldl (λa v=>hsA 8 v a) (List.range 0))=hm at *
  have:hm=[]:=by
   cases hm with
   |nil=>rfl
   |cons a r=>simp at ab
  subst this;refine(i _ w _ j (J 0 { tmps:=#[],defers:=[] } [] ⟨rfl,λt v h=>by cases h⟩ (λt v h=>by cases h)) F q).mono λee w' K=>?_
  obtain⟨u,E',rfl,k1,S,X,Y⟩:=K;obtain⟨R,U,s2,A⟩:=s1.uL c.hG cv I D k1 S X Y c.hd;exact hn _ _ u R w' b ⟨U,s2,(c.kp.trans B).trans A,by rw[DRun.put_defers];exact c.df⟩
theorem HOK.of{e:HEnt}(h:inpl e.grow=false)(h1:Enters P e.f)(d:∀args H V v H2 V2,e.pre args H V->e.val args H V=some (v,H2,V2)->HOut v H H2 V2/\HFn P G e.f args H V v H2 V2):HOK P G e:=
 ⟨h1,λargs H V v H2 V2 a b=>⟨(d args H V v H2 V2 a b).1,by rw[h];exact(d args H V v H2 V2 a b).2⟩⟩
theorem HOK.u5{e:HEnt}(h:inpl e.grow=true)(h1:Enters P e.f)(d:∀args H V v H2 V2,e.pre args H V->e.val args H V=some (v,H2,V2)->HOut v H H2 V2/\H=[]/\H2=[]/\PP v/\zWf P G e.f args V v V2):HOK P G e:=
 ⟨h1,λargs H V v H2 V2 a b=>⟨(d args H V v H2 V2 a b).1,by rw[h];exact(d args H V v H2 V2 a b).2⟩⟩
theorem HOK.uY{e:HEnt}(d:HOK P G e)(h:inpl e.grow=true){args:JE}{H H2:Heap}{V V2:Vecs}{v:AV}(a:e.pre args H V)(b:e.val args H V=some (v,H2,V2)):HOut v H H2 V2/\H=[]/\H2=[]/\PP v/\zWf P G e.f args V v V2:=by
 have:=d.2 args H V v H2 V2 a b;rw[h]at this;exact this
theorem zO1{b:List HEnt}{f:Nat}{e:HEnt}(h:zG6 b f=some e):e∈b/\e.f=f:=by
 induction b with
 |nil=>cases h
 |cons s r d=>
  simp only[zG6]at h;split at h
  .rename_i q;cases h;exact⟨.head _,(zb q).symm⟩
  .exact⟨.tail _ (d h).1,(d h).2⟩
theorem zDv{F:JV}:∀{H:Heap}{p:Nat×HO},p∈zEG F H->p∈H/\inN p.1 F=true
 |[],_,h=>by cases h
 |q::r,p,h=>by
  unfold zEG at h;split at h
  .rename_i b;rcases QG.1 h with rfl|h
   .exact⟨.head _,b⟩
   .exact⟨.tail _ (zDv h).1,(zDv h).2⟩
  .exact⟨.tail _ (zDv h).1,(zDv h).2⟩
theorem zK3{F:JV}:∀(H:Heap),(zEG F H).Sublist H
 |[]=>.slnil
 |q::r=>by
  unfold zEG;split
  .exact .cons_cons _ (zK3 r)
  .exact .cons _ (zK3 r)
theorem zAi{F:JV}:∀{H:Heap}{p:Nat×HO},p∈zJE F H->p∈H/\inN p.1 F=false
 |[],_,h=>by cases h
 |q::r,p,h=>by
  unfold zJE at h;split at h
  .exact⟨.tail _ (zAi h).1,(zAi h).2⟩
  .rename_i b;rcases QG.1 h with rfl|h
   .exact⟨.head _,b⟩
   .exact⟨.tail _ (zAi h).1,(zAi h).2⟩
theorem zK4{F:JV}:∀(H:Heap),(zJE F H).Sublist H
 |[]=>.slnil
 |q::r=>by
  unfold zJE;split
  .exact .cons _ (zK4 r)
  .exact .cons_cons _ (zK4 r)
theorem zIx{b:Heap}{fr0:Fr}:∀{fr:Fr}{t:Nat}{u:AV},(zIt b fr0 fr).get t=some u->∃v,fr0.get t=some v/\u=zOy b v
 |[],_,_,h=>by cases h
 |(s,x)::r,t,u,h=>by
  unfold zIt at h;split at h
  .rename_i v d;simp only[Fr.get]at h;split at h
   .rename_i e;cases h;exact⟨v,by rw[←zb e];exact d,rfl⟩
   .exact zIx h
  .exact zIx h
theorem zLG{mv m:Nat}{H:Heap}(hH:HCP mv m H):∀(d:Nat){v v':AV},CP mv m v->frz H [] d v=some v'->PP v':=by
 intro d
 induction d with
 |zero=>intro v v' _ h;cases h
 |succ d T=>
  intro v v' b h;have j:∀{l F:JE},(∀e∈l,CP mv m e)->zp (frz H [] d) l=some F->∀e∈F,PP e:=λQ S=>by
   obtain⟨m1,m2⟩:=zAz S;intro x p;obtain⟨i,o⟩:=List.getElem?_of_mem p;have q:=(QC.1 o).1;have D:=QE (show i<_ from m1▸q)
   exact T (Q _ (QF D)) (m2 i _ x D o)
  unfold frz at h;split at h
  .split at h
   .rename_i X;cases X
   .cases h
  .split at h
   .rename_i u;obtain⟨str,J,e,hc⟩:=hH.get u;cases e;split at h
    .rename_i z f;cases h;exact .qc _ _ (.agg _ (j hc f))
    .cases h
   .cases h
  .cases b with
   |func _ _ _ U I=>
    split at h
    .rename_i a' M;split at h
     .rename_i b' W;cases h;exact .func _ _ _ (j U M) (j I W)
     .cases h
    .cases h
  .cases b with
   |agg _ hc=>
    split at h
    .rename_i z f;cases h;exact .agg _ (j hc f)
    .cases h
  .split at h
   .rename_i u;obtain⟨str,J,e,hc⟩:=hH.get u;cases e;split at h
    .split at h
     .rename_i A;split at h
      .rename_i y;cases h;refine .qo _ _ λe B=>?_
       obtain⟨h1,h2,h3,h4,K⟩:=z4 A;obtain⟨i,o⟩:=List.getElem?_of_mem B;obtain⟨q1,Y⟩:=zQ K;obtain⟨q3,O,N⟩:=zI (Y i e o);refine zBM (n:=mv) (k:=m) 8 (zBD N λx p=>hc x ?_) (QD.1 y e B)
       rw[O]at p;exact QW (QM (QW (QM p)))
      .cases h
     .cases h
    .cases h
   .cases h
  .split at h
   .cases h
   .rename_i R;cases h;exact zHn d b R
theorem Rs.uK{F:JV}{d:Option Nat}{v v':AV}{cv:Value}(hG:GPP G)(hd:∀n,d=some n->n<nt)(h:Rs G nt Z0 B0 w0 dl E w (a.put d cv) (st.put d v))(hv:frz (zEG F st.H) [] 8 v=some v'):
  ∃E',Rs G nt Z0 B0 w0 dl E' w (a.put d cv) ((vG F (zEG F st.H) st).put d v'):=by
 obtain⟨β,s,k0,X⟩:=h.out;generalize O:zEG F st.H=y at *;have l:∀p∈y,p∈st.H:=λp k=>(zDv (O▸k)).1
 have T:SR G nt E w (a.put d cv) β ⟨qv st.fr d v,y,[],st.m,st.mv⟩:=
  ⟨s.hr.sub (O▸zK3 st.H),s.hf,s.hg,s.qx,s.qY,λp k=>s.cH p (l p k),λj A K=>(by cases K),λj j2 i off K=>(by cases K),λj A b K=>(by cases K),λj j' A aa b K=>(by cases K)⟩
 let Q:Env:=⟨E.ρ,E.D,λx=>E.Z x\/BS E β y [] x,E.σ⟩
 have up:∀{u J},VR (zAI E β y []) w u J->VR Q w u J:=λf=>VR.mono (E:=zAI E β y []) (E':=Q) (λ_ h=>h.elim) (λb B=>⟨B,rfl⟩) (.refl w) f
 have same:∀{u J},VR E w u J->VR Q w u J:=λf=>VR.mono (E:=E) (E':=Q) (λ_ h=>⟨h,rfl⟩) (λb B=>⟨.inl B,rfl⟩) (.refl w) f
 have I:∀x,BS E β y [] x->∃p∈y,E.ρ p.1=x:=λx o=>by
  rcases o with o|⟨j,A,K,_⟩
  .exact o
  .cases K
 have S:∀{u J},CP st.mv st.m u->VR E w u J->VR Q w (zOy y u) J/\CP st.mv st.m (zOy y u):=λ{u J} hc f=>by
  unfold zOy;split
  .exact⟨same f,hc⟩
  .split
   .rename_i u' he;exact⟨up (zDt T 8 hc f he),(zLG T.cH 8 hc he).cp⟩
   .exact⟨same f,hc⟩
 have Y:∀n,d=some n->VR E w v ((a.put d cv).tmps.getD n undef)/\CP st.mv st.m v:=λn e=>by
  subst e;have h1:(st.put (some n) v).fr.get n=some v:=by
   show(st.fr.put n v).get n=_
   rw[Fr.qu,if_pos rfl]
  exact⟨s.hf.get n v h1,s.qY n v h1⟩
 have W:∀t u,d≠some t->st.fr.get t=some u->VR E w u ((a.put d cv).tmps.getD t undef)/\CP st.mv st.m u:=λt u U f=>by
  have h1:(st.put d v).fr.get t=some u:=by
   cases d with
   |none=>exact f
   |some n=>
    show(st.fr.put n v).get t=_
    rw[Fr.qu,if_neg (λe=>U (by rw[e]))]
    exact f
  exact⟨s.hf.get t u h1,s.qY t u h1⟩
 have N:∀t u,((vG F y st).put d v').fr.get t=some u->VR Q w u ((a.put d cv).tmps.getD t undef)/\CP st.mv st.m u:=λt u f=>by
  by_cases e:d=some t
  .subst e;obtain⟨h1,M⟩:=Y t rfl;have:u=v':=by
    have f:((zIt y st.fr st.fr).put t v').get t=some u:=f;rw[Fr.qu,if_pos rfl]at f;cases f;rfl
   subst this;exact⟨up (zDt T 8 M h1 hv),(zLG T.cH 8 M hv).cp⟩
  .have f:(zIt y st.fr st.fr).get t=some u:=by
    cases d with
    |none=>exact f
    |some n=>
     have f:((zIt y st.fr st.fr).put n v').get t=some u:=f;rw[Fr.qu,if_neg (λh=>e (by rw[h]))]at f
     exact f
   obtain⟨u0,h1,rfl⟩:=zIx f;obtain⟨M,R⟩:=W t u0 e h1;exact S R M
 refine⟨Q,β,⟨⟨?_,?_,?_,?_,?_,?_⟩,⟨s.hf.size,λt u f=>(N t u f).1⟩,λg u h=>⟨same (s.hg g u h).1,(s.hg g u h).2⟩,s.qx,λt u f=>(N t u f).2,λp k=>s.cH p (zAi k).1,λj A h=>⟨(s.qR j A h).1,(s.qR j A h).2.mono rfl (λ_=>rfl) (λb _ _=>rfl) (λb B=>⟨.inl B,rfl⟩) (.refl w) λ_ _ _ _ sz es h=>⟨rfl,es,h,rfl⟩⟩,s.vp,λj A b h1 M R=>⟨?_,λp k=>(s.bz j A b h1 M R).2 p (zAi k).1⟩,s.qQ⟩,k0.trans ⟨λx o=>.inl o,λx o=>?_,λx o=>?_,rfl,rfl,rfl,QA _,λ_ _ _=>rfl,.refl w⟩,X⟩
 .exact(s.hr.sub (zK4 (F:=F) st.H)).nodup
 .exact λp k=>s.hr.qx p (zAi k).1
 .exact λp k q z=>s.hr.inj p (zAi k).1 q (zAi z).1
 .exact λp k=>(s.hr.obj p (zAi k).1).mono rfl same
 .rintro p k (hz|hz)
  .exact s.hr.nz p (zAi k).1 hz
  .obtain⟨q,z,e⟩:=I _ hz;have:=s.hr.inj q (l q z) p (zAi k).1 e;have h1:=(zDv (O▸z)).2
   rw[this,(zAi k).2]at h1;cases h1
 .rintro b (B|B)
  .exact s.hr.we b B
  .obtain⟨q,z,rfl⟩:=I _ B;exact s.hr.lt (l q z)
 .rintro (hz|hz)
  .exact(s.bz j A b h1 M R).1 hz
  .obtain⟨q,z,e⟩:=I _ hz;exact(s.bz j A b h1 M R).2 q (l q z) e
 .rcases o with o|o
  .exact .inl o
  .obtain⟨q,z,e⟩:=I _ o;exact .inr (.inl (.inl ⟨q,l q z,e⟩))
 .rcases o with⟨p,k,e⟩|o
  .exact .inl (.inl ⟨p,(zAi k).1,e⟩)
  .exact .inl (.inr o)
theorem Fr.get_map{g:AV->AV}:∀{fr:Fr}{t:Nat},Fr.get (fr.map λp=>(p.1,g p.2)) t=(Fr.get fr t).map g
 |[],t=>rfl
 |(k,o)::r,t=>by
  simp only[Qa,Fr.get];split
  .rfl
  .exact Fr.get_map
theorem Rs.vF{d:Option Nat}{v:AV}{cv:Value}(hd:∀n,d=some n->n<nt)(h:Rs G nt Z0 B0 w0 dl E w (a.put d cv) (st.put d v)):
  ∃E',Rs G nt Z0 B0 w0 dl E' w (a.put d cv) ((wv st).put d (wB st.V v)):=by
 obtain⟨β,s,k0,ae⟩:=h.out;have sF:SR G nt E w (a.put d cv) β ⟨qv st.fr d v,[],st.V,st.m,st.mv⟩:=
  ⟨⟨.nil,λp l=>(by cases l),λp l=>(by cases l),λp l=>(by cases l),λp l=>(by cases l),s.hr.we⟩,s.hf,s.hg,s.qx,s.qY,λp l=>(by cases l),s.qR,s.vp,λj I b h1 K R=>⟨(s.bz j I b h1 K R).1,λp l=>(by cases l)⟩,s.qQ⟩
 let J:Env:=⟨E.ρ,E.D,λx=>E.Z x\/BS E β [] st.V x,E.σ⟩
 have up:∀{u B},VR (zAI E β [] st.V) w u B->VR J w u B:=λf=>VR.mono (E:=zAI E β [] st.V) (E':=J) (λ_ h=>h.elim) (λb O=>⟨O,rfl⟩) (.refl w) f
 have same:∀{u B},VR E w u B->VR J w u B:=λf=>VR.mono (E:=E) (E':=J) (λ_ h=>⟨h,rfl⟩) (λb O=>⟨.inl O,rfl⟩) (.refl w) f
 have W:∀{x},BS E β [] st.V x->∃j I,st.V.get j=some I/\I.qA=true/\β j=some x:=λ{x} o=>by
  rcases o with⟨p,l,_⟩|h
  .cases l
  .exact h
 have sd:∀(k:Nat){u B},CP st.mv st.m u->VR E w u B->VR J w (wE st.V k u) B/\CP st.mv st.m (wE st.V k u):=by
  intro k
  induction k with
  |zero=>intro u B hc f;exact⟨same f,hc⟩
  |succ k ih=>
   intro u B hc f;have al:∀{T:JE}{Q:JC},(∀e∈T,CP st.mv st.m e)->VRs E w T Q->VRs J w (T.map (wE st.V k)) Q/\∀e∈T.map (wE st.V k),CP st.mv st.m e:=λ{T Q} o S=>by
    have key:∀(i:Nat) x u,T[i]?=some x->Q[i]?=some u->VR J w (wE st.V k x) u/\CP st.mv st.m (wE st.V k x):=λi x u h1 K=>ih (o x (QF h1)) (S.2 i x u h1 K)
    refine⟨⟨by rw[QP];exact S.1,λi y u N f=>?_⟩,λe he=>?_⟩
    .rw[Qb]at N;cases h:T[i]? with
     |none=>rw[h]at N;cases N
     |some x=>rw[h]at N;cases N;exact(key i x u h f).1
    .obtain⟨x,af,rfl⟩:=QL.1 he;obtain⟨i,hi⟩:=List.getElem?_of_mem af;have ac:i<Q.length:=by have:=(QC.1 hi).1;have:=S.1;omega
     exact(key i x _ hi (QE ac)).2
   unfold wE;split
   .rename_i j;split
    .rename_i sz es hV;have h1:frz [] st.V 1 (.sym j)=some (.qo sz es):=by simp only[frz,hV]
     exact⟨up (zDt sF 1 hc f h1),.qo _ _ (s.qR j _ hV).2.1⟩
    .exact⟨same f,hc⟩
   .cases hc with
    |agg _ F=>
     obtain⟨Q,rfl,k1,k2⟩:=f.qX;obtain⟨g1,g2⟩:=al F k1;exact⟨VR.qT g1 k2,.agg _ g2⟩
   .cases hc with
    |qg _ F=>
     obtain⟨Q,rfl,k1⟩:=f.w5;obtain⟨g1,g2⟩:=al F k1;exact⟨VR.qI g1,.qg _ g2⟩
   .exact⟨same f,hc⟩
 have sv:∀{u B},CP st.mv st.m u->VR E w u B->VR J w (wB st.V u) B/\CP st.mv st.m (wB st.V u):=λhc f=>sd 4 hc f
 have so:∀{p:Nat×HO},p∈st.H->OR J w (E.ρ p.1) (zRt st.V p.2)/\∃str cs,zRt st.V p.2=.cells str cs/\∀c∈cs,CP st.mv st.m c:=λ{p} l=>by
  obtain⟨str,cs,e,F⟩:=s.cH p l;have Y:=s.hr.obj p l;rw[e]at Y⊢;obtain⟨cc,ee,ff,q1,q2,q3,q4⟩:=Y;refine⟨⟨cc,ee,ff,q1,by simpa using q2,q3,λi x o=>?_⟩,str,_,rfl,λc hc=>?_⟩
  .rw[Qb]at o;cases h:cs[i]? with
   |none=>rw[h]at o;cases o
   |some y=>
    rw[h]at o;cases o;obtain⟨u,r1,r2,r3⟩:=q4 i y h;exact⟨u,r1,r2,(sd 4 (F y (QF h)) r3).1⟩
  .obtain⟨y,N,rfl⟩:=QL.1 hc;obtain⟨i,hi⟩:=List.getElem?_of_mem N;obtain⟨u,r1,r2,r3⟩:=q4 i y hi;exact(sd 4 (F y N) r3).2
 have z:∀{p:Nat×HO},p∈(wv st).H->∃q∈st.H,p=(q.1,zRt st.V q.2):=λ{p} l=>by
  obtain⟨q,A,e⟩:=QL.1 l;exact⟨q,A,e.symm⟩
 have ag:∀n,d=some n->VR E w v ((a.put d cv).tmps.getD n undef)/\CP st.mv st.m v:=λn e=>by
  subst e;have h1:(st.put (some n) v).fr.get n=some v:=by
   show(st.fr.put n v).get n=_
   rw[Fr.qu,if_pos rfl]
  exact⟨s.hf.get n v h1,s.qY n v h1⟩
 have ab:∀t u,d≠some t->st.fr.get t=some u->VR E w u ((a.put d cv).tmps.getD t undef)/\CP st.mv st.m u:=λt u aa f=>by
  have h1:(st.put d v).fr.get t=some u:=by
   cases d with
   |none=>exact f
   |some n=>
    show(st.fr.put n v).get t=_
    rw[Fr.qu,if_neg (λe=>aa (by rw[e]))]
    exact f
  exact⟨s.hf.get t u h1,s.qY t u h1⟩
 have M:∀t u,((wv st).put d (wB st.V v)).fr.get t=some u->VR J w u ((a.put d cv).tmps.getD t undef)/\CP st.mv st.m u:=λt u f=>by
  by_cases e:d=some t
  .subst e;obtain⟨h1,K⟩:=ag t rfl;have f:Fr.get (Fr.put (st.fr.map λp=>(p.1,wB st.V p.2)) t (wB st.V v)) t=some u:=f
   rw[Fr.qu,if_pos rfl]at f;cases f;exact sv K h1
  .have f:Fr.get (st.fr.map λp=>(p.1,wB st.V p.2)) t=some u:=by
    cases d with
    |none=>exact f
    |some n=>
     have f:Fr.get (Fr.put (st.fr.map λp=>(p.1,wB st.V p.2)) n (wB st.V v)) t=some u:=f
     rw[Fr.qu,if_neg (λh=>e (by rw[h]))]at f
     exact f
   rw[Fr.get_map]at f;cases hg:Fr.get st.fr t with
   |none=>rw[hg]at f;cases f
   |some u0=>
    rw[hg]at f;cases f;obtain⟨K,R⟩:=ab t u0 e hg;exact sv R K
 have U:Heap.keys ((wv st).put d (wB st.V v)).H=Heap.keys st.H:=by
  show List.map Prod.fst (List.map (λp=>(p.1,zRt st.V p.2)) st.H)=List.map Prod.fst st.H
  rw[List.map_map];rfl
 refine⟨J,β,⟨⟨by rw[U];exact s.hr.nodup,λp l=>?_,λp l q A e=>?_,λp l=>?_,?_,?_⟩,⟨s.hf.size,λt u f=>(M t u f).1⟩,λg u h=>⟨same (s.hg g u h).1,(s.hg g u h).2⟩,s.qx,λt u f=>(M t u f).2,λp l=>?_,λj I h=>(by cases h),λj j2 i off h=>(by cases h),λj I b h=>(by cases h),λj j' I ai b h=>(by cases h)⟩,k0.trans ⟨λx o=>.inl o,λx o=>?_,λx o=>?_,rfl,rfl,rfl,QA _,λ_ _ _=>rfl,.refl w⟩,ae⟩
 .obtain⟨q,A,rfl⟩:=z l;exact s.hr.qx q A
 .obtain⟨p0,ah,rfl⟩:=z l;obtain⟨q0,ad,rfl⟩:=z A;exact s.hr.inj p0 ah q0 ad e
 .obtain⟨q,A,rfl⟩:=z l;exact(so A).1
 .intro p l X;obtain⟨q,A,rfl⟩:=z l;rcases X with X|X
  .exact s.hr.nz q A X
  .obtain⟨j,I,h1,K,R⟩:=W X;exact(s.bz j I _ h1 K R).2 q A rfl
 .rintro b (O|O)
  .exact s.hr.we b O
  .obtain⟨j,I,h1,K,R⟩:=W O;exact(s.qR j I h1).2.lt K R
 .obtain⟨q,A,rfl⟩:=z l;exact(so A).2
 .rcases o with o|o
  .exact .inl o
  .exact .inr (.inl (.inr (W o)))
 .rcases o with⟨p,l,e⟩|⟨j,I,h,_⟩
  .obtain⟨q,A,rfl⟩:=z l;exact .inl (.inl ⟨q,A,e⟩)
  .cases h
theorem zJJ(u:TbW P G tb){o:Oper}{t:TOp}{k:AV->Sta->Prop}(c:Ctx P G nt Z0 B0 w0 dl E w a β st o t.o.op)(i:∀es,t.h=some es->∀e∈es,HOK P G e)(h:zA5 G tb st t k):OpK P G nt Z0 B0 w0 dl o w a k:=by
 unfold zA5 at h;split at h
 .exact zUN u c h
 .rename_i es j;unfold zKT at h;split at h
  .rename_i f n b;rw[b]at c;split at h
   .rename_i e q;obtain⟨p,rfl⟩:=zO1 q;split at h
    .rename_i v d;exact zSH c (i es j e p) (.inl ⟨n,rfl,d⟩) h
    .exact h.elim
   .exact h.elim
  .rename_i y n b;rw[b]at c;split at h
   .rename_i f first l x;split at h
    .rename_i e q;obtain⟨p,rfl⟩:=zO1 q;split at h
     .rename_i v d;exact zSH c (i es j e p) (.inr ⟨y,n,first,l,v,rfl,x,d,rfl⟩) h
     .exact h.elim
    .exact h.elim
   .exact h.elim
  .exact h.elim
theorem zTp(i:TbW P G tb){o:Oper}{t:TOp}{k:AV->Sta->Prop}(c:Ctx P G nt Z0 B0 w0 dl E w a β st o t.o.op)(d:∀es,t.h=some es->∀e∈es,HOK P G e)(h:zH5 G tb st t k):OpK P G nt Z0 B0 w0 dl o w a k:=by
 unfold zH5 at h;split at h
 .have r:Rs G nt Z0 B0 w0 dl E w (a.put none (.tuple #[])) (st.put none (.qg [])):=⟨β,c.s,c.kp,c.df⟩;obtain⟨j,I,B,D,d2⟩:=r.vF (λn e=>by cases e)
  exact zJJ (t:=⟨t.o,t.ks.tail,t.h⟩) i ⟨B,D,d2,c.hG,c.hm,c.hc,c.hd,c.ok⟩ d h
 split at h
 .rename_i x;have z:zJd t.o.op=true:=by
   cases ho:t.o.op<;>rw[ho]at x<;>first|rfl|cases x
  have hk:=c.wG (k:=λv st=>zOz st v k) z h
  intro next Q y;refine hk next Q λv p u J q b f=>?_
  have b:zOz p v k:=b;unfold zOz at b;split at b
  .obtain⟨j,l⟩:=f.vF c.hd;exact y _ _ u j q b l
  .simp only at b;split at b
   .rename_i A F;obtain⟨j,l⟩:=f.uK c.hG c.hd F;exact y A _ u j q b l
   .exact b.elim
 .exact zJJ i c d h
end
section
variable{P:Program}{G:Cx}{nt:Nat}{E:Env}{w:World}{a:Act}{β:Nat->Option Nat}{st:Sta}
 {Z0 B0:Nat->Prop} {w0:World} {dl:List Deferred} {tb:TblS}
theorem SR.steps(s:SR G nt E w a β st){E':Env}{w':World}{F:Act}{H':Heap}{fr':Fr}{m':Nat}(v:HR E' H' w')(t:Tr E st.H w E' H' w' st.m m')(z:FrR E' w' fr' F nt)(D:zCx st.mv m' fr')(B:HCP st.mv m' H'):
  SR G nt E' w' F β ⟨fr',H',st.V,m',st.mv⟩/\Kp E.Z (BS E β st.H st.V) w E'.Z (BS E' β H' st.V) w':=by
 have o:∀b,E.Z b->E'.Z b/\w'.heap[b]? = w.heap[b]?:=λb k=>⟨t.qH b k,t.wh b (s.hr.we b k) λp f e=>s.hr.nz p f (e▸k)⟩
 have hblk:∀j d b,st.V.get j=some d->d.qA=true->β j=some b->b<w.heap.size/\w'.heap[b]? = w.heap[b]?:=λj d b h1 i n=>by
  have l:=(s.qR j d h1).2.lt i n;exact⟨l,t.wh b l λp f e=>(s.bz j d b h1 i n).2 p f e⟩
 refine⟨⟨v,z,s.hg.step s.hr t,λh M=>?_,D,B,λj d h1=>⟨(s.qR j d h1).1,?_⟩,s.vp,λj d b h1 i n=>⟨λJ=>?_,λp f e=>?_⟩,s.qQ⟩,?_⟩
 .rcases(t.qx h).1 M with h1|h1
  .exact QX (s.qx h h1) t.le
  .exact h1.2
 .exact(s.qR j d h1).2.mono (congrFun t.sig j) (λ_=>rfl) (λb K k=>(hblk j d b h1 K k).2) o t.qn λ_ _ _ _ O N h=>⟨rfl,N,h,rfl⟩
 .have l:=s.bz j d b h1 i n;rcases t.qP b J with A|⟨p,f,e⟩|A
  .exact l.1 A
  .exact l.2 p f e
  .have:=(hblk j d b h1 i n).1;omega
 .have l:=s.bz j d b h1 i n;rcases t.own p f with⟨q,y,I⟩|A
  .exact l.2 q y (I.trans e)
  .have:=(hblk j d b h1 i n).1;omega
 .refine⟨t.qH,λx u=>?_,λx u=>?_,t.tape,t.os,t.output,t.size,λx u k=>t.wh x u λp f e=>k (.inl ⟨p,f,e⟩),t.qn⟩
  .rcases t.qP x u with h|h|h
   .exact .inl h
   .exact .inr (.inl (.inl h))
   .exact .inr (.inr h)
  .rcases u with⟨p,f,rfl⟩|h
   .rcases t.own p f with⟨q,y,e⟩|h
    .exact .inl (.inl ⟨q,y,e⟩)
    .exact .inr h
   .exact .inl (.inr h)
theorem Rs.known(r:Rs G nt Z0 B0 w0 dl E w a st){n:Nat}{v:AV}(h:st.fr.get n=some v):Rs G nt Z0 B0 w0 dl E w a ⟨st.fr.put n v,st.H,st.V,st.m,st.mv⟩:=
 let ⟨β,s,k,d⟩:=r.out
 ⟨β,s.known h,k,d⟩
theorem Rs.skip(r:Rs G nt Z0 B0 w0 dl E w a st){d:Option Nat}(b:∀n,d=some n->n<nt):Rs G nt Z0 B0 w0 dl E w (a.put d undef) (st.put d (.qg [])):=
 let ⟨β,s,k,df⟩:=r.out
 ⟨β,⟨s.hr,s.hf.put id b (VR.qI (vs:=#[]) VRs.nil),s.hg,s.qx,s.qY.qv (.qg _ λe f=>by cases f),s.cH,s.qR,s.vp,s.bz,s.qQ⟩,k,by rw[DRun.put_defers];exact df⟩
theorem WK.vr{E:Env}{w:World}{v v':AV}(h:WK v v'):∀{cv:Value},VR E w v cv->VR E w v' cv:=by
 induction h with
 |refl v=>exact id
 |nil y=>intro cv d;cases d;exact .wq _ _ _ (QV _)
 |qc off h f=>
  intro cv d;cases d with
  |qc _ _ b o cv k u d hc=>
   refine .qc _ _ b o cv ?_ u (f d) hc
   cases h<;>first|exact k|rfl|cases k
 |iface t h f=>intro cv d;cases d with|iface _ _ cv d=>exact .iface _ _ cv (f d)
 |agg j h f=>
  intro cv d;cases d with
  |agg _ p e n h1=>exact .agg _ p (j.symm.trans e) (λi x v l d=>by
    have q:=(QC.1 l).1;have hc:=QE (show i<_ from j▸q)
    exact f i _ x hc l (n i _ v hc d)) h1
 |qg j h f=>
  intro cv d;cases d with
  |qg _ p e n=>exact .qg _ p (j.symm.trans e) (λi x v l d=>by
    have q:=(QC.1 l).1;have hc:=QE (show i<_ from j▸q)
    exact f i _ x hc l (n i _ v hc d))
theorem WK.pp{v v':AV}(h:WK v v'):PP v->PP v':=by
 have p:∀{l f:JE},l.length=f.length->(∀(i:Nat) c o,l[i]?=some c->f[i]?=some o->PP c->PP o)->(∀e∈l,PP e)->∀e∈f,PP e:=λj d h e n=>by
  obtain⟨i,q⟩:=List.getElem?_of_mem n;have k:=(QC.1 q).1;have hc:=QE (show i<_ from j.symm▸k)
  exact d i _ e hc q (h _ (QF hc))
 induction h with
 |refl v=>exact id
 |nil u=>intro _;exact .qo _ _ λe n=>by cases n
 |qc off h d=>intro b;cases b with|qc _ _ b=>exact .qc _ _ (d b)
 |iface t h d=>intro b;cases b with|iface _ _ b=>exact .iface _ _ (d b)
 |agg j h d=>intro b;cases b with|agg _ b=>exact .agg _ (p j d b)
 |qg j h d=>intro b;cases b with|qg _ b=>exact .qg _ (p j d b)
theorem WK.cp{n k:Nat}{v v':AV}(h:WK v v'):CP n k v->CP n k v':=by
 have u:∀{o f:JE},o.length=f.length->(∀(i:Nat) c q,o[i]?=some c->f[i]?=some q->CP n k c->CP n k q)->(∀e∈o,CP n k e)->∀e∈f,CP n k e:=λj d h e p=>by
  obtain⟨i,x⟩:=List.getElem?_of_mem p;have l:=(QC.1 x).1;have hc:=QE (show i<_ from j.symm▸l)
  exact d i _ e hc x (h _ (QF hc))
 induction h with
 |refl v=>exact id
 |nil y=>intro _;exact .qo _ _ λe p=>by cases p
 |qc off h d=>intro b;cases b with|qc _ _ b=>exact .qc _ _ (h.pp b)
 |iface t h d=>intro b;cases b with|iface _ _ b=>exact .iface _ _ (d b)
 |agg j h d=>intro b;cases b with|agg _ b=>exact .agg _ (u j d b)
 |qg j h d=>intro b;cases b with|qg _ b=>exact .qg _ (u j d b)
theorem Rs.uN{cv:Value}{d:Option Nat}{v v':AV}(r:Rs G nt Z0 B0 w0 dl E w (a.put d cv) (st.put d v))(h:WK v v'):Rs G nt Z0 B0 w0 dl E w (a.put d cv) (st.put d v'):=by
 cases d with
 |none=>exact r
 |some n=>
  obtain⟨β,s,j,i⟩:=r.out;have b:∀{t u},(st.fr.put n v').get t=some u->(t=n/\u=v')\/(t≠n/\(st.fr.put n v).get t=some u):=λ{t u} e=>by
   rw[Fr.qu]at e⊢;split at e
   .rename_i q;subst q;cases e;exact .inl ⟨rfl,rfl⟩
   .rename_i q;exact .inr ⟨λh=>q h.symm,by rw[if_neg q];exact e⟩
  have f:(st.fr.put n v).get n=some v:=by rw[Fr.qu,if_pos rfl]
  refine⟨β,⟨s.hr,⟨s.hf.size,λt u e=>?_⟩,s.hg,s.qx,λt u e=>?_,s.cH,s.qR,s.vp,s.bz,s.qQ⟩,j,i⟩
  .rcases b e with⟨rfl,rfl⟩|⟨_,e⟩
   .exact h.vr (s.hf.get _ _ f)
   .exact s.hf.get t u e
  .rcases b e with⟨rfl,rfl⟩|⟨_,e⟩
   .exact h.cp (s.qY _ _ f)
   .exact s.qY t u e
def At(pn:JV)(a b:Act):Prop:=∀t∈pn,b.tmps.getD t undef=a.tmps.getD t undef
theorem At.refl{pn:JV}:At pn a a:=λ_ _=>rfl
theorem At.trans{pn:JV}{b a2:Act}(h:At pn a b)(k:At pn b a2):At pn a a2:=λt d=>(k t d).trans (h t d)
theorem At.put{pn:JV}{d:Option Nat}{cv:Value}(h:∀n,d=some n->n ∉ pn):At pn a (a.put d cv):=by
 intro t b;cases d with
 |none=>rfl
 |some n=>
  have:n≠t:=λe=>h n rfl (e▸b)
  show(a.tmps.setIfInBounds n cv).getD t undef=a.tmps.getD t undef
  simp only[Array.getD_eq_getD_getElem?,Array.getElem?_setIfInBounds,if_neg this]
theorem zJK{pn:JV}{d:Option Nat}(h:(match d with|some d=>!inN d pn|none=>true)=true):∀n,d=some n->n ∉ pn:=by
 rintro n rfl
 simp only[Bool.not_eq_true']at h;exact zLF h
theorem zXN{call:Call}{pn:JV}{K:Fr->Heap->Nat->Prop}:∀(ops:List XOper){fr:Fr}{H:Heap}{nx:Nat},(∀o∈ops,∀n,o.dst=some n->n ∉ pn)->WN G call ops K fr H nx->WN G call ops (λfr' H' b=>K fr' H' b/\∀t∈pn,fr'.get t=fr.get t) fr H nx:=by
 have key:∀(ops:List XOper)(f:Fr){fr:Fr}{H:Heap}{nx:Nat},(∀o∈ops,∀n,o.dst=some n->n ∉ pn)->(∀t∈pn,fr.get t=f.get t)->WN G call ops K fr H nx->WN G call ops (λfr' H' b=>K fr' H' b/\∀t∈pn,fr'.get t=f.get t) fr H nx:=by
  intro ops
  induction ops with
  |nil=>intro f fr H nx _ h k;exact⟨k,h⟩
  |cons o r z=>
   intro f fr H nx j h k;have d:∀{v:AV},∀t∈pn,(qv fr o.dst v).get t=f.get t:=λ{v} t q=>by
    cases hdd:o.dst with
    |none=>exact h t q
    |some n=>
     have:n ∉ pn:=j o (.head _) n hdd;have i:n≠t:=λe=>this (e▸q)
     rw[zFp,Fr.qu];simp only[i,i.symm,if_false];exact h t q
   have l:=λ{fr H nx}=>z f (fr:=fr) (H:=H) (nx:=nx) λy x=>j y (.tail _ x)
   simp only[WN]at k⊢;split at k
   .obtain⟨v,H',b,p,u⟩:=k;exact⟨v,H',b,p,l d u⟩
   .unfold zPD at k⊢;split at k
    .exact⟨λe=>let ⟨v,H',b,p,u⟩:=k.1 e;⟨v,H',b,p,l d u⟩,λe=>l d (k.2 e)⟩
    .exact l d k
    .exact k.elim
 exact λops fr H nx j k=>key ops fr j (λ_ _=>rfl) k
theorem zNF(I:TbW P G tb)(hG:GPP G)(hm:zAr P G){pn:JV}{ops:Array Oper}{Q:Exit->Act->World->Prop}{K:Sta->Prop}:∀(ts:List TOp)(os:List Oper)(k:Nat){st:Sta},(∀j,os[j]? = ops[k+j]?)->ts.map TOp.o=os.map (zm P ops) →
  (∀o∈os,∀d,o.dst=some d->d<nt)->(∀t∈ts,zn t.o.op=true)->(∀t∈ts,∀es,t.h=some es->∀e∈es,HOK P G e)->(∀t∈ts,∀n,t.o.dst=some n->n ∉ pn)->zDq G tb ts K st->∀{E w a},Rs G nt Z0 B0 w0 dl E w a st->(∀A E' w' U,K A->Rs G nt Z0 B0 w0 dl E' w' U A->At pn a U->Q .normal U w')->wpOps P ops Q (List.range' k os.length) a w
 |[],[],k,st,_,_,_,_,_,_,h,E,w,a,r,D=>D st E w a h r .refl
 |[],o::os,k,st,_,F,_,_,_,_,h,E,w,a,r,D=>by cases F
 |t::ts,[],k,st,_,F,_,_,_,_,h,E,w,a,r,D=>by cases F
 |t::ts,o::os,k,st,T,F,l,R,M,B,h,E,w,a,r,D=>by
  simp only[Qa,List.cons.injEq]at F;obtain⟨S,e2⟩:=F;have ho:ops[k]?=some o:=by have:=T 0;simpa using this.symm
  have O:∀j,os[j]? = ops[k+1+j]?:=λj=>by have:=T (j+1);rw[List.getElem?_cons_succ]at this;rw[this];congr 1;omega
  have aa:∀o'∈os,∀d,o'.dst=some d->d<nt:=λo' z=>l o' (.tail _ z)
  have N:∀f∈ts,zn f.o.op=true:=λf z=>R f (.tail _ z)
  have x:t.o.dst=o.dst:=by rw[S];exact zA9
  rw[QZ,List.range'_succ,wpOps_cons];have ih:=λst h E w a r=>zNF I hG hm (Q:=Q) (K:=K) ts os (k+1) (st:=st) O e2 aa N (λf z=>M f (.tail _ z)) (λf z=>B f (.tail _ z)) h (E:=E) (w:=w) (a:=a) r
  have q:∀{st:Sta},Rs G nt Z0 B0 w0 dl E w a st->zBm st.fr t.o.guard=some true->zH5 G tb st t (λv st=>∃u,WK v u/\zDq G tb ts K (st.put t.o.dst u))->wpOp P ops Q k (wpOps P ops Q (List.range' (k+1) os.length)) a w:=by
   intro st r p h;obtain⟨β,s,kp,df⟩:=r.out;have y:(zm P ops o).op≠.bad:=λe=>by
    unfold zH5 zA5 at h;rw[S,e]at h;simp only[zOA]at h;split at h
    .split at h
     .exact h
     .exact h
    split at h
    .exact h
    .exact h
   have c:Ctx P G nt Z0 B0 w0 dl E w a β st o t.o.op:=⟨s,kp,df,hG,hm,by rw[S];exact zD1 y,l o (.head _),R t (.head _)⟩
   refine DRun.wpOp_of ho (zBB s.hf (by rw[←S];exact p) (.inr y)) (zTp I c (M t (.head _)) h _ _ λv A cv E' w' hk r'=>?_)
   obtain⟨u,Y,hk⟩:=hk;exact ih _ hk E' w' _ (by rw[x];exact r'.uN Y) λst2 W w2 a2 q1 q2 X=>D st2 W w2 a2 q1 q2 ((At.put (by rw[←x];exact B t (.head _))).trans X)
  have skip:∀{st:Sta},Rs G nt Z0 B0 w0 dl E w a st->zBm st.fr t.o.guard=some false->zDq G tb ts K (st.put t.o.dst (.qg []))->wpOp P ops Q k (wpOps P ops Q (List.range' (k+1) os.length)) a w:=by
   intro st r p h;obtain⟨β,s,kp,df⟩:=r.out;refine DRun.wpOp_not ho (zBB s.hf (by rw[←S];exact p) (.inl rfl)) ?_
   refine ih _ h E w _ ?_ λst2 W w2 a2 q1 q2 X=>D st2 W w2 a2 q1 q2 ((At.put (by rw[←x];exact B t (.head _))).trans X)
   rw[x];exact r.skip (l o (.head _))
  simp only[zDq]at h;split at h
  .rename_i J;exact q r (by rw[J];rfl) h
  .rename_i f b J;split at h
   .rename_i c hc;unfold brT at h;rcases zCI h with⟨rfl,i⟩|⟨rfl,i⟩
    .have i:(match true==b with
      |true=>zH5 G tb ⟨st.fr.put f (.bool true),st.H,st.V,st.m,st.mv⟩ t λv st=>∃u,WK v u/\zDq G tb ts K (st.put t.o.dst u)
      |false=>zDq G tb ts K (Sta.put ⟨st.fr.put f (.bool true),st.H,st.V,st.m,st.mv⟩ t.o.dst (.qg []))):=i
     rw[qt hc]at i;have p:=zFM (b:=b) hc;rw[←J]at p;cases b with
     |true=>exact q (st:=⟨st.fr,st.H,st.V,st.m,st.mv⟩) r p i
     |false=>exact skip (st:=⟨st.fr,st.H,st.V,st.m,st.mv⟩) r p i
    .have i:(match false==b with
      |true=>zH5 G tb ⟨st.fr.put f (.bool false),st.H,st.V,st.m,st.mv⟩ t λv st=>∃u,WK v u/\zDq G tb ts K (st.put t.o.dst u)
      |false=>zDq G tb ts K (Sta.put ⟨st.fr.put f (.bool false),st.H,st.V,st.m,st.mv⟩ t.o.dst (.qg []))):=i
     rw[qt hc]at i;have p:=zFM (b:=b) hc;rw[←J]at p;cases b with
     |true=>exact skip (st:=⟨st.fr,st.H,st.V,st.m,st.mv⟩) r p i
     |false=>exact q (st:=⟨st.fr,st.H,st.V,st.m,st.mv⟩) r p i
   .rename_i hc;exact skip r (by rw[J];simp only[zBm,hc]) h
   .exact h.elim
theorem zRS(z:TbW P G tb)(N:GPP G)(hm:zAr P G)(j:P.follows .mixedOrders=true){pn:JV}{id:Nat}{ops:Array Oper}{ts:List TOp}{ds:List XD}{Q:Exit->Act->World->Prop}{K:Sta->Prop}(hc:zD P (.region id ops true)=some (.draw (ts.map TOp.o) ds))(l:zC6 nt (.draw (ts.map TOp.o) ds)=true)
  (I:∀t∈ts,zn t.o.op=true) (J:∀t∈ts,∀n,t.o.dst=some n->n ∉ pn) (F:∀t∈pn,zPG st.fr t=true) (f:zNz (ts.map TOp.o) ds=true) (h:zBC G tb ts K st) (r:Rs G nt Z0 B0 w0 dl E w a st) (X:∀v E' w' i,K v->Rs G nt Z0 B0 w0 dl E' w' i v->At pn a i->Q .normal i w'):(Code.region id ops true).wp P Q a w:=by
 obtain⟨β,s,W,U⟩:=r.out;unfold zNz at f;rw[qr]at f;have b:=zMz z N (V:=st.V) (mv:=st.mv) (K:=K) ts I s.qY s.cH (λp q=>s.qx p.1 (s.hr.qx p q)) h
 have b:=zXN (pn:=pn) _ (λo ho=>by
  obtain⟨t,A,e⟩:=QL.1 ho;exact e▸J t A) b
 have u:∀t h o,st.fr.get t=some (.ptr h o)->h<st.m:=λt h o B=>by
  obtain⟨_,s,_,_⟩:=r.out;have:=s.qY t _ B;cases this with
  |ptr _ _ hk=>exact hk
 obtain⟨fr',H',aa,e,kd,d⟩:=zUH zTn u f.1 f.2 b;obtain⟨ab,Y⟩:=zTh (zVR z N) hm j hc l e;refine Y E w a Q dl s.hr s.hf s.hg (λh h1 D f=>by have:=s.qx h f;omega) U λE' w' i R O M k4=>?_
 have:=s.steps R O M kd.cf kd.cH;refine X _ E' w' i kd.k ⟨β,this.1,W.trans this.2,k4⟩ λt A=>?_
 have q:=F t A;unfold zPG at q;split at q
 .rename_i h off B;have h1:=s.hf.get t _ B;have D:=M.get t _ ((d t A).trans B);generalize a.tmps.getD t undef=x at h1;generalize i.tmps.getD t undef=y at D;cases h1 with
  |ptr _ _ S=>
   cases D with
   |ptr _ _ T=>rw[O.agree h S]
 .cases q
theorem zMa(M:TbW P G tb)(U:GPP G)(hm:zAr P G){pn:JV}{ops:Array Oper}{i:Nat}{o:Oper}{t:TOp}(ho:ops[i]?=some o)(y:t.o=zm P ops o)(N:∀d,o.dst=some d->d<nt)(J:zn t.o.op=true)(D:∀es,t.h=some es->∀e∈es,HOK P G e)(A:∀n,t.o.dst=some n->n ∉ pn)
  {k:Sta->Prop} (h:zC8 G tb st t k) (r:Rs G nt Z0 B0 w0 dl E w a st) {K:Act->World->Prop} {Q:Exit->Act->World->Prop} (S:∀x E' w' F,k x->Rs G nt Z0 B0 w0 dl E' w' F x->At pn a F->K F w'):wpOp P ops Q i K a w:=by
 have q:t.o.dst=o.dst:=by rw[y];exact zA9
 have l:∀{st:Sta},Rs G nt Z0 B0 w0 dl E w a st->zBm st.fr t.o.guard=some true->zA5 G tb st t (λv st=>∃p,WK v p/\k (st.put t.o.dst p))->wpOp P ops Q i K a w:=by
  intro st r j h;obtain⟨β,s,R,O⟩:=r.out;have u:(zm P ops o).op≠.bad:=λe=>by
   unfold zA5 at h;split at h
   .rw[y,e]at h;exact h
   .rw[y,e]at h;exact h
  have c:Ctx P G nt Z0 B0 w0 dl E w a β st o t.o.op:=⟨s,R,O,U,hm,by rw[y];exact zD1 u,N,J⟩
  refine DRun.wpOp_of ho (zBB s.hf (by rw[←y];exact j) (.inr u)) (zJJ M c D h _ _ λv x W E' w' hk T=>?_)
  obtain⟨p,I,hk⟩:=hk;exact S _ E' w' _ hk (by rw[q];exact T.uN I) (At.put (by rw[←q];exact A))
 have skip:∀{st:Sta},Rs G nt Z0 B0 w0 dl E w a st->zBm st.fr t.o.guard=some false->k (st.put t.o.dst (.qg []))->wpOp P ops Q i K a w:=by
  intro st r j h;obtain⟨β,s,R,O⟩:=r.out;refine DRun.wpOp_not ho (zBB s.hf (by rw[←y];exact j) (.inl rfl)) ?_
  refine S _ E w _ h ?_ (At.put (by rw[←q];exact A))
  rw[q];exact r.skip N
 simp only[zC8]at h;split at h
 .rename_i z;exact l r (by rw[z];rfl) h
 .rename_i B b z;split at h
  .rename_i c hc;unfold brT at h;rcases zCI h with⟨rfl,f⟩|⟨rfl,f⟩
   .have f:(match true==b with
     |true=>zA5 G tb ⟨st.fr.put B (.bool true),st.H,st.V,st.m,st.mv⟩ t λv st=>∃p,WK v p/\k (st.put t.o.dst p)
     |false=>k (Sta.put ⟨st.fr.put B (.bool true),st.H,st.V,st.m,st.mv⟩ t.o.dst (.qg []))):=f
    rw[qt hc]at f;have j:=zFM (b:=b) hc;rw[←z]at j;cases b with
    |true=>exact l (st:=⟨st.fr,st.H,st.V,st.m,st.mv⟩) r j f
    |false=>exact skip (st:=⟨st.fr,st.H,st.V,st.m,st.mv⟩) r j f
   .have f:(match false==b with
     |true=>zA5 G tb ⟨st.fr.put B (.bool false),st.H,st.V,st.m,st.mv⟩ t λv st=>∃p,WK v p/\k (st.put t.o.dst p)
     |false=>k (Sta.put ⟨st.fr.put B (.bool false),st.H,st.V,st.m,st.mv⟩ t.o.dst (.qg []))):=f
    rw[qt hc]at f;have j:=zFM (b:=b) hc;rw[←z]at j;cases b with
    |true=>exact skip (st:=⟨st.fr,st.H,st.V,st.m,st.mv⟩) r j f
    |false=>exact l (st:=⟨st.fr,st.H,st.V,st.m,st.mv⟩) r j f
  .rename_i hc;exact skip r (by rw[z];simp only[zBm,hc]) h
  .exact h.elim
theorem zSI{ops:Array Oper}{ds:List XD}(Y:ds.length=ops.size)(ha:DRun.Ahead ops ds)(S:DRun.Down ops){Q:Exit->Act->World->Prop}(I:Nat->(Nat->Bool)->Act->World->Prop)(hQ:∀L a w,(∀j,j<ops.size->L j=true)->I 0 L a w->Q .normal a w)
  (hs:∀n L a w i o d,I (n+1) L a w->ops[i]?=some o->ds[i]?=some d->L i=false->(∀j,d.qd.testBit j=true->L j=true)->wpOp P ops Q i (λN w'=>I n (λj=>L j||j==i) N w') a w):
  ∀(fuel:Nat)(listed:Array Bool)(a:Act)(w:World),listed.size=ops.size->listed.toList.count false=fuel →
   (∀(k:Nat)(dk:XD),listed.getD k false=true->ds[k]?=some dk->∀j,dk.qd.testBit j=true->listed.getD j false=true) →
   I fuel (λj=>listed.getD j false) a w->wpAny P .any ops Q fuel listed a w:=by
 have done:∀(listed:Array Bool),listed.size=ops.size->Region.ready .any ops listed=[]->∀j,j<ops.size->listed.getD j false=true:=by
  intro listed b B j
  induction j using Nat.strongRecOn with
  |_ j T=>
   intro l;cases hl:listed.getD j false with
   |true=>rfl
   |false=>
    have p:j<listed.size:=b▸l
    have:j∈Region.ready .any ops listed:=by
     rw[mem_ready];refine⟨?_,ops[j],Qe l,λe M K=>?_⟩
     .simpa[p]using hl
     .have:=S j _ (Qe l) e M K;exact T e.on this (by omega)
    rw[B]at this;cases this
 intro fuel
 induction fuel with
 |zero=>
  intro listed a w b hc y v;refine⟨?_,hQ _ a w (λj l=>by
   have p:j<listed.size:=b▸l
   cases hl:listed.getD j false with
   |true=>rfl
   |false=>
    have z:listed[j]=false:=by simpa[p]using hl
    have:false∈listed.toList:=by rw[←z];simp
    have:=List.count_pos_iff.2 this;omega) v⟩
  cases B:Region.ready .any ops listed with
  |nil=>rfl
  |cons x r=>
   have hx:x∈Region.ready .any ops listed:=by rw[B];exact .head _
   obtain⟨h1,o,A,_⟩:=mem_ready.1 hx;have u:=(Array.getElem?_eq_some_iff.1 A).1;have p:x<listed.size:=b▸u
   have z:listed[x]=false:=by simpa[p]using h1
   have:false∈listed.toList:=by rw[←z];simp
   have:=List.count_pos_iff.2 this;omega
 |succ fuel T=>
  intro listed a w b hc y v;refine⟨λB=>?_,λi hi=>?_⟩
  .have h0:=done listed b B;have:false∈listed.toList:=List.count_pos_iff.1 (by omega)
   obtain⟨j,l,e⟩:=List.getElem_of_mem this;have U:j<ops.size:=by rw[←b];simpa using l
   have R:=h0 j U;have p:j<listed.size:=by simpa using l
   have e:listed[j]=false:=by simpa using e
   simp[p,e]at R
  .obtain⟨h1,o,A,z⟩:=mem_ready.1 hi;have u:=(Array.getElem?_eq_some_iff.1 A).1;have f:i<listed.size:=b▸u
   have X:listed.getD i false=false:=by simpa[f]using h1
   have D:∀j,(listed.setIfInBounds i true).getD j false=(listed.getD j false||j==i):=by
    intro j;by_cases l:i=j
    .subst l;simp[f]
    .have:(j==i)=false:=by simp;exact λh=>l h.symm
     simp only[Array.getD_eq_getD_getElem?,Array.getElem?_setIfInBounds,if_neg l,this,Bool.or_false]
   have q:∀(d:XD),ds[i]?=some d->∀j,d.qd.testBit j=true->listed.getD j false=true:=by
    intro d J j l;obtain⟨e,M,K,h|⟨d',R,O⟩⟩:=ha i o d A J j l
    .rw[h];exact z e M K
    .exact y e.on d' (z e M K) R j O
   obtain⟨d,J⟩:∃d,ds[i]?=some d:=⟨ds[i],QE (by omega)⟩
   have:=hs fuel _ a w i o d v A J X (q d J);refine wpOp_mono (λN w' h=>?_) this
   refine T _ N w' (by simpa using b) ?_ ?_ ?_
   .have O:(listed.setIfInBounds i true).toList=listed.toList.set i true:=by simp
    rw[O,List.count_set (by simpa using f)]
    have W:listed.toList[i]'(by simpa using f)=false:=by simpa[f]using X
    have h6:0<listed.toList.count false:=List.count_pos_iff.2 (by rw[←W];exact Qi _)
    simp only[W];simp;simp at h6 hc;omega
   .intro k dk hk F j l;rw[D]at hk⊢;rw[Bool.or_eq_true,beq_iff_eq]at hk;rcases hk with hk|hk
    .rw[y k dk hk F j l];rfl
    .subst hk;rw[q dk F j l];rfl
   .have e:(λj=>(listed.setIfInBounds i true).getD j false)=λj=>listed.getD j false||j==i:=funext D
    rw[e];exact h
theorem zRc{ops:Array Oper}(z:zLy 0 ops.toList=true):(zCC ops P ops.toList (Region.before ops).toList).length=ops.size/\DRun.Ahead ops (zCC ops P ops.toList (Region.before ops).toList)/\DRun.Down ops:=by
 obtain⟨v,J⟩:=zL3 (ops:=ops);have p:∀{j:Nat}{d:XD},(zCC ops P ops.toList (Region.before ops).toList)[j]?=some d->(Region.before ops)[j]?=some d.qd:=λh=>by
  obtain⟨m,a,b⟩:=zKN h;rw[b];simpa using a
 have f:∀(l:List Oper)(i:JV),l.length=i.length->(zCC ops P l i).length=l.length:=by
  intro l
  induction l with
  |nil=>intro i _;simp[zCC]
  |cons o l M=>intro i n;cases i with
   |nil=>simp at n
   |cons m i=>simp[zCC,M i (by simpa using n)]
 refine⟨by rw[f _ _ (by simp[v])];simp,?_,λj o x e u q=>?_⟩
 .intro j o d x F k hk;obtain⟨m,c1,c2⟩:=J j o x;have:=p F;rw[c1]at this;cases this;obtain⟨e,u,q,h|⟨K,D,I⟩⟩:=c2 k hk
  .exact⟨e,u,q,.inl h⟩
  .refine⟨e,u,q,.inr ?_⟩
   have B:e.on<(zCC ops P ops.toList (Region.before ops).toList).length:=by
    rw[f _ _ (by simp[v])]
    have:=(Array.getElem?_eq_some_iff.1 D).1
    simpa[v]using this
   refine⟨_,QE B,?_⟩
   have A:=p (QE B);have y:(Region.before ops)[e.on]?=some K:=D;rw[y]at A;rw[←Qs A];exact I
 .have:=zJB z j o (by simpa using x) e u q
  omega
theorem zO2{F:Nat->TOp->Prop}{listed:Nat}:∀{ts:List TOp}{ds:List XD}{i0:Nat},zLD F listed i0 ts ds->∀(i:Nat) t d,ts[i]?=some t->ds[i]?=some d->listed.testBit (i0+i)=false->d.qd &&& listed=d.qd->F (i0+i) t
 |[],ds,i0,h,i,t,d,f,_,_,_=>by simp at f
 |t0::ts,[],i0,h,i,t,d,_,b,_,_=>by simp at b
 |t0::ts,d0::ds,i0,h,i,t,d,f,b,k,l=>by
  simp only[zLD]at h;cases i with
  |zero=>
   simp only[List.getElem?_cons_zero,QK]at f b;subst f;subst b;have:(!listed.testBit i0&&Nat.beq (d0.qd &&& listed) d0.qd)=true:=by
    rw[l];simp only[Nat.add_zero]at k;rw[k,Nat.beq_refl];rfl
   rw[this]at h;exact h.1
  |succ i=>
   have j:zLD F listed (i0+1) ts ds:=by
    split at h
    .exact h.2
    .exact h
   have:=zO2 j i t d (by simpa using f) (by simpa using b) (by rw[←k];congr 1;omega) l
   have e:i0+(i+1)=i0+1+i:=by omega
   rw[e];exact this
theorem zRd(ab:TbW P G tb)(hG:GPP G)(hm:zAr P G)(M:P.follows .mixedOrders=true){pn:JV}{id:Nat}{ops:Array Oper}{ts:List TOp}{ds:List XD}{Q:Exit->Act->World->Prop}{K:Sta->Prop}(hc:zD P (.region id ops true)=some (.draw (ts.map TOp.o) ds))(F:zC6 nt (.draw (ts.map TOp.o) ds)=true)
  (aa:∀t∈ts,zn t.o.op=true) (af:∀t∈ts,∀es,t.h=some es->∀e∈es,HOK P G e) (ag:∀t∈ts,∀n,t.o.dst=some n->n ∉ pn) (h:zPF G tb ts ds K ts.length 0 st) (r:Rs G nt Z0 B0 w0 dl E w a st) (hQ:∀p E' w' x,K p->Rs G nt Z0 B0 w0 dl E' w' x p->At pn a x->Q .normal x w'):(Code.region id ops true).wp P Q a w:=by
 simp only[zD]at hc;split at hc
 rotate_left
 .cases hc
 rename_i Y;split at hc
 rotate_left
 .cases hc
 simp only[QK,XC.draw.injEq]at hc;obtain⟨e1,e2⟩:=hc;obtain⟨hl,T,b⟩:=zRc (P:=P) Y;rw[e2]at hl T;have I:ts.length=ops.size:=by
  have:=congrArg List.length e1
  simpa using this.symm
 have W:∀(i:Nat) o,ops[i]?=some o->∃t,ts[i]?=some t/\t.o=zm P ops o:=λi o z=>by
  have h1:(ops.toList.map (zm P ops))[i]?=some (zm P ops o):=by simp[z]
  rw[e1,Qb]at h1;cases y:ts[i]? with
  |none=>rw[y]at h1;cases h1
  |some t=>rw[y]at h1;exact⟨t,rfl,by simpa using h1⟩
 refine wp_region_any M ?_
 have r':Rs G nt Z0 B0 w0 dl E { w with drawn:=w.drawn+1 } a st:=by
  obtain⟨β,s,kp,df⟩:=r.out;obtain⟨d1,d2⟩:=zFl (w':={ w with drawn:=w.drawn+1 }) s.hr ⟨rfl,rfl,rfl,rfl⟩ st.m
  have:=s.steps d1 d2 ⟨s.hf.size,λt u y=>d2.vr s.hr (s.hf.get t u y)⟩ s.qY s.cH
  exact⟨β,this.1,kp.trans this.2,df⟩
 refine zSI hl T b (λn L x w'=>∃listed st E,(∀j,j<ops.size->L j=listed.testBit j)/\(∀j,ops.size<=j->listed.testBit j=false)/\zPF G tb ts ds K n listed st/\Rs G nt Z0 B0 w0 dl E w' x st/\At pn a x) (λL x w' _ ⟨listed,p,E',_,_,hk,hr,B⟩=>hQ p E' w' x hk hr B) ?_ ops.size _ a _ (by simp) (by simp) ?_ ⟨0,st,E,λj v=>by simp[v],λj _=>by simp,I▸h,r',.refl⟩
 .rintro n L x w' i o d ⟨listed,p,E',hL,hhi,hk,hr,B⟩ z D hLi hpre
  have N:=(Array.getElem?_eq_some_iff.1 z).1;obtain⟨t,y,et⟩:=W i o z;have l:=QF y;have ae:listed.testBit i=false:=(hL i N).symm.trans hLi;have hp:d.qd &&& listed=d.qd:=by
   apply Nat.eq_of_testBit_eq;intro j;rw[Nat.testBit_and];cases v:d.qd.testBit j with
   |false=>rfl
   |true=>
    have h1:=hpre j v;have X:j<ops.size:=by
     obtain⟨e,S,R,h2|⟨d',h3,h4⟩⟩:=T i o d z D j v
     .have:=b i o z e S R;omega
     .have low:∀(i:Nat)(d:XD)(k:Nat),ds[i]?=some d->d.qd.testBit k=true->k<i:=by
       intro i
       induction i using Nat.strongRecOn with
       |_ i ih=>
        intro d k D hk;have N:i<ops.size:=by have:=(QC.1 D).1;omega
        obtain⟨e,S,R,h|⟨d',h3,h4⟩⟩:=T i _ d (Qe N) D k hk
        .rw[h];exact b i _ (Qe N) e S R
        .have h5:=b i _ (Qe N) e S R;have:=ih e.on h5 d' k h3 h4;omega
      have:=low i d j D v;omega
    rw[←hL j X,h1];rfl
  have q:=zO2 (i0:=0) hk i t d y D (by rw[QS];exact ae) hp
  rw[QS]at q;refine zMa ab hG hm z et (λdd ad=>?_) (aa t l) (af t l) (ag t l) q hr λst2 E2 w2 a2 ac U J=>⟨listed ||| 2 ^ i,st2,E2,λj v=>?_,λj v=>?_,ac,U,B.trans J⟩
  .have h1:=QD.1 F _ (List.mem_map_of_mem (f:=TOp.o) l);rw[et,zA9,ad]at h1
   simpa[Qg]using h1
  .rw[Nat.testBit_or,←hL j v,Nat.testBit_two_pow];congr 1;by_cases A:i=j
   .subst A;simp
   .have:¬j=i:=λh=>A h.symm
    simp[A,this]
  .rw[Nat.testBit_or,hhi j v,Nat.testBit_two_pow];have:¬i=j:=by omega
   simp[this]
 .intro k dk hk;by_cases O:k<ops.size
  .simp[O]at hk
  .simp[O]at hk
end
theorem zMb:∀{ts:List TOp}{ds:List XD},zFO ts ds=true->∀(i:Nat) t d,ts[i]?=some t->ds[i]?=some d->(∀x∈zG3 t.o.op.qb,x∈d.looks)/\∀g b,t.o.guard=some (g,b)->g∈d.looks
 |[],ds,h,i,t,d,j,f=>by simp at j
 |o::r,[],h,i,t,d,j,f=>by simp at f
 |o::r,d0::ds,h,i,t,d,j,f=>by
  simp only[zFO,qr]at h;have mem:∀{n:Nat}{l:JV},inN n l=true->n∈l:=by
   intro n l
   induction l with
   |nil=>intro h;cases h
   |cons a r q=>
    intro h;simp only[inN]at h;split at h
    .rename_i e;rw[zb e];exact .head _
    .exact .tail _ (q h)
  cases i with
  |zero=>
   simp at j f;subst j;subst f;refine⟨λx p=>mem (QD.1 h.1.1 x p),λg b k=>?_⟩
   have:=h.1.2;rw[k]at this;exact mem this
  |succ i=>exact zMb h.2 i t d (by simpa using j) (by simpa using f)
structure SeqQ(ts:List TOp)(ds:List XD)(i0:Nat)(bars hard hardN rds rdsN:JV):Prop where
 b:∀(i:Nat) t d,ts[i]?=some t->ds[i]?=some d->2<=clsQ t->(∀c∈bars,d.qd.testBit c=true)/\∀(j:Nat) t',j<i->ts[j]?=some t'->2<=clsQ t'->d.qd.testBit (i0+j)=true
 h:∀(i:Nat) t d,ts[i]?=some t->ds[i]?=some d->clsQ t=1->(hLd t=true->∀c∈hardN,d.qd.testBit c=true)/\(hLd t=false->∀c∈hard,d.qd.testBit c=true)/\∀(j:Nat) t',j<i->ts[j]?=some t'->3<=clsQ t'->(hLd t&&vOn t')=false->d.qd.testBit (i0+j)=true
 r:∀(i:Nat) t d,ts[i]?=some t->ds[i]?=some d->3<=clsQ t->(vOn t=true->∀c∈rdsN,d.qd.testBit c=true)/\(vOn t=false->∀c∈rds,d.qd.testBit c=true)/\∀(j:Nat) t',j<i->ts[j]?=some t'->clsQ t'=1->(hLd t'&&vOn t)=false->d.qd.testBit (i0+j)=true
theorem SeqQ.cons{r:List TOp}{ds:List XD}{i0:Nat}{F I o K D v y n B p:JV}{t0:TOp}{d0:XD}(q:SeqQ r ds (i0+1) v y n B p)
  (R:∀c∈F,c∈v) (b2:2<=clsQ t0->i0∈v) (W:2<=clsQ t0->∀c∈F,d0.qd.testBit c=true)
  (h1:∀c∈I,c∈y) (T:∀c∈o,c∈n) (h3:3<=clsQ t0->i0∈y) (h4:3<=clsQ t0->vOn t0=false->i0∈n) (h5:clsQ t0=1->hLd t0=true->∀c∈o,d0.qd.testBit c=true) (h6:clsQ t0=1->hLd t0=false->∀c∈I,d0.qd.testBit c=true)
  (U:∀c∈K,c∈B) (r2:∀c∈D,c∈p) (S:clsQ t0=1->i0∈B) (X:clsQ t0=1->hLd t0=false->i0∈p) (r5:3<=clsQ t0->vOn t0=true->∀c∈D,d0.qd.testBit c=true) (Y:3<=clsQ t0->vOn t0=false->∀c∈K,d0.qd.testBit c=true):
  SeqQ (t0::r) (d0::ds) i0 F I o K D:=by
 have O:∀j,i0+(j+1)=i0+1+j:=λj=>by omega
 refine⟨λi t d A z k=>?_,λi t d A z k=>?_,λi t d A z k=>?_⟩
 .cases i with
  |zero=>
   simp at A z;subst A;subst z;exact⟨W k,λj J N=>by omega⟩
  |succ i=>
   obtain⟨q1,M⟩:=q.b i t d (by simpa using A) (by simpa using z) k
   refine⟨λc l=>q1 c (R c l),λj J N f e=>?_⟩
   cases j with
   |zero=>simp at f;subst f;exact q1 i0 (b2 e)
   |succ j=>rw[O];exact M j J (by omega) (by simpa using f) e
 .cases i with
  |zero=>
   simp at A z;subst A;subst z;exact⟨h5 k,h6 k,λj J N=>by omega⟩
  |succ i=>
   obtain⟨q1,M,Q⟩:=q.h i t d (by simpa using A) (by simpa using z) k
   refine⟨λx c l=>q1 x c (T c l),λx c l=>M x c (h1 c l),λj J N f e u=>?_⟩
   cases j with
   |zero=>
    simp at f;subst f;cases x:hLd t with
    |true=>rw[x]at u;exact q1 x i0 (h4 e (by simpa using u))
    |false=>exact M x i0 (h3 e)
   |succ j=>rw[O];exact Q j J (by omega) (by simpa using f) e u
 .cases i with
  |zero=>
   simp at A z;subst A;subst z;exact⟨r5 k,Y k,λj J N=>by omega⟩
  |succ i=>
   obtain⟨q1,M,Q⟩:=q.r i t d (by simpa using A) (by simpa using z) k
   refine⟨λx c l=>q1 x c (r2 c l),λx c l=>M x c (U c l),λj J N f e u=>?_⟩
   cases j with
   |zero=>
    simp at f;subst f;cases x:vOn t with
    |true=>rw[x]at u;exact q1 x i0 (X e (by simpa using u))
    |false=>exact M x i0 (S e)
   |succ j=>rw[O];exact Q j J (by omega) (by simpa using f) e u
theorem zEw:∀{ts:List TOp}{ds:List XD}{i0:Nat}{j k b o f:JV},zFV i0 j k b o f ts ds=true->SeqQ ts ds i0 j k b o f
 |[],ds,i0,j,k,b,o,f,h=>⟨λi t d q=>by simp at q,λi t d q=>by simp at q,λi t d q=>by simp at q⟩
 |t0::r,[],i0,j,k,b,o,f,h=>by cases h
 |t0::r,d0::ds,i0,j,k,b,o,f,h=>by
  have all:∀{l:JV},(l.all λc=>d0.qd.testBit c)=true->∀c∈l,d0.qd.testBit c=true:=λp c hc=>QD.1 p c hc
  simp only[zFV]at h;split at h
  .rename_i hc;exact(zEw h).cons (λc h=>h) (λh=>by omega) (λh=>by omega) (λc h=>h) (λc h=>h) (λh=>by omega) (λh=>by omega) (λh=>by omega) (λh=>by omega) (λc h=>h) (λc h=>h) (λh=>by omega) (λh=>by omega) (λh=>by omega) (λh=>by omega)
  .rename_i hc;split at h
   .rename_i p;rw[qr]at h;exact(zEw h.2).cons (λc h=>h) (λh=>by omega) (λh=>by omega) (λc h=>h) (λc h=>h) (λh=>by omega) (λh=>by omega) (λ_ _=>all h.1) (λ_ e=>by rw[p]at e;cases e) (λc h=>.tail _ h) (λc h=>h) (λ_=>.head _) (λ_ e=>by rw[p]at e;cases e) (λh=>by omega) (λh=>by omega)
   .rename_i p;rw[qr]at h;exact(zEw h.2).cons (λc h=>h) (λh=>by omega) (λh=>by omega) (λc h=>h) (λc h=>h) (λh=>by omega) (λh=>by omega) (λ_ e=>by rw[p]at e;cases e) (λ_ _=>all h.1) (λc h=>.tail _ h) (λc h=>.tail _ h) (λ_=>.head _) (λ_ _=>.head _) (λh=>by omega) (λh=>by omega)
  .rename_i hc;rw[qr]at h;exact(zEw h.2).cons (λc h=>.tail _ h) (λ_=>.head _) (λ_=>all h.1) (λc h=>h) (λc h=>h) (λh=>by omega) (λh=>by omega) (λh=>by omega) (λh=>by omega) (λc h=>h) (λc h=>h) (λh=>by omega) (λh=>by omega) (λh=>by omega) (λh=>by omega)
  .rename_i u n v;split at h
   .rename_i p;simp only[qr]at h;exact(zEw h.2).cons (λc h=>.tail _ h) (λ_=>.head _) (λ_=>all h.1.1) (λc h=>.tail _ h) (λc h=>h) (λ_=>.head _) (λ_ e=>by rw[p]at e;cases e) (λh=>absurd h n) (λh=>absurd h n) (λc h=>h) (λc h=>h) (λh=>absurd h n) (λh=>absurd h n) (λ_ _=>all h.1.2) (λ_ e=>by rw[p]at e;cases e)
   .rename_i p;simp only[qr]at h;exact(zEw h.2).cons (λc h=>.tail _ h) (λ_=>.head _) (λ_=>all h.1.1) (λc h=>.tail _ h) (λc h=>.tail _ h) (λ_=>.head _) (λ_ _=>.head _) (λh=>absurd h n) (λh=>absurd h n) (λc h=>h) (λc h=>h) (λh=>absurd h n) (λh=>absurd h n) (λ_ e=>by rw[p]at e;cases e) (λ_ _=>all h.1.2)
structure SameQ(fr fr':Fr)(s0 s:Sta):Prop where
 H:s.H=s0.H
 V:s.V=s0.V
 m:s.m=s0.m
 mv:s.mv=s0.mv
 f0:∀t,s0.fr.get t=fr.get t
 f:∀t,s.fr.get t=fr'.get t
section
variable{G:Cx}{tb:TblS}{fr fr':Fr}{H H2:Heap}{V V2:Vecs}{m m2 mv mv2:Nat}{C C':AV->Sta->Prop}
theorem zY5{o o':XO}(e:xoS G zd fr H m o=xoS G zd fr' H m o')(d:∀v b s,C v b->SameQ fr fr' b s->C' v s)(h:WXd ⟨fr,H,V,m,mv⟩ (xoS G zd fr H m o) C):WXd ⟨fr',H,V,m,mv⟩ (xoS G zd fr' H m o') C':=by
 rw[←e];unfold WXd at h⊢;split at h
 .exact d _ _ _ h ⟨rfl,rfl,rfl,rfl,λ_=>rfl,λ_=>rfl⟩
 .exact h.elim
theorem zGu{n:Int}{lo b:JF}{k d:Int->Int->Prop}(h:zGJ n lo b k)(hk:∀l u,k l u->d l u):zGJ n lo b d:=by
 cases lo with
 |none=>
  cases b with
  |none=>exact hk _ _ h
  |some u=>cases u<;>first|exact⟨h.1,hk _ _ h.2⟩|exact h.elim
 |some l=>
  cases l with
  |int e l=>
   cases b with
   |none=>exact⟨h.1,hk _ _ h.2⟩
   |some u=>cases u<;>first|exact⟨h.1,hk _ _ h.2⟩|exact h.elim
  |_=>exact h.elim
theorem zC3{n:Int}:∀{l:Nat}{k b:Nat->Prop},zFN n l k->(∀m,k m->b m)->zFN n l b
 |0,k,b,h,hk=>trivial
 |l+1,k,b,h,hk=>⟨zC3 h.1 hk,λe=>hk _ (h.2 e)⟩
theorem zEJ{f:Nat}{args:JE}{k b:AV->Prop}:∀{tb:TblS},zEF tb f args k->(∀v,k v->b v)->zEF tb f args b
 |[],h,_=>h.elim
 |s::r,h,hk=>by
  simp only[zEF]at h⊢;cases e:Nat.beq f s.1 with
  |true=>
   rw[e]at h;refine⟨h.1,?_⟩
   have:=h.2;cases hv:s.2.2 args with
   |some v=>rw[hv]at this;exact hk _ this
   |none=>rw[hv]at this;exact this.elim
  |false=>
   rw[e]at h;exact zEJ h hk
theorem zRe{f:Nat}{vs:JE}(d:∀v b s,C v b->SameQ fr fr' b s->C' v s)(h:zBV tb f vs ⟨fr,H,V,m,mv⟩ C):zBV tb f vs ⟨fr',H,V,m,mv⟩ C':=by
 have mk:∀{v:AV},C v ⟨fr,H,V,m,mv⟩->C' v ⟨fr',H,V,m,mv⟩:=λh=>d _ _ _ h ⟨rfl,rfl,rfl,rfl,λ_=>rfl,λ_=>rfl⟩
 unfold zBV at h⊢;cases hh:vs.any (zAU 8)with
 |false=>rw[hh]at h;exact zEJ h λv h=>mk h
 |true=>
  rw[hh]at h;simp only at h⊢;cases hm:zp (frz H V 8) vs with
  |none=>rw[hm]at h;exact h.elim
  |some args=>
   rw[hm]at h;refine zEJ h λv h=>?_
   cases hs:zBe 8 v with
   |true=>rw[hs]at h;exact mk h
   |false=>rw[hs]at h;exact h.elim
theorem zY6{o:XO}{B:List K}(d:∀x∈o.qb,x.ev G fr=x.ev G fr')(D:∀v S s,C v S->SameQ fr fr' S s->C' v s)(h:wop G tb ⟨fr,H,V,m,mv⟩ o B C):wop G tb ⟨fr',H,V,m,mv⟩ o B C':=by
 have mk:∀{v:AV}{W:Heap}{U:Vecs}{M I:Nat},C v ⟨fr,W,U,M,I⟩->C' v ⟨fr',W,U,M,I⟩:=λh=>D _ _ _ h ⟨rfl,rfl,rfl,rfl,λ_=>rfl,λ_=>rfl⟩
 have e:∀{o':XO},(∀x∈o'.qb,x.ev G fr=x.ev G fr')->WXd ⟨fr,H,V,m,mv⟩ (xoS G zd fr H m o') C->WXd ⟨fr',H,V,m,mv⟩ (xoS G zd fr' H m o') C':=λd h=>zY5 (by rw[←zFI,←zFI];exact zQU d) D h
 cases o<;>try (exact h.elim)
 all_goals try (exact e d h)
 case wc x i l sz ag=>
  cases B with
  |nil=>exact e d h
  |cons Q B=>
   simp only[wop]at h⊢;rw[←d i (by simp[XO.qb])]
   split at h
   .exact⟨h.1,zC3 h.2 λM N=>e (λy j=>by
     simp only[XO.qb,QH,QY]at j;rcases j with rfl|rfl
     .exact d _ (by simp[XO.qb])
     .rfl) N⟩
   .exact h.elim
 case qz x i l sz=>
  cases B with
  |nil=>exact e d h
  |cons Q B=>
   simp only[wop]at h⊢;rw[←d i (by simp[XO.qb])]
   split at h
   .exact⟨h.1,zC3 h.2 λM N=>e (λy j=>by
     simp only[XO.qb,QH,QY]at j;rcases j with rfl|rfl
     .exact d _ (by simp[XO.qb])
     .rfl) N⟩
   .exact h.elim
 case pick c a b=>
  have k:=d c (by simp[XO.qb])
  have A:=d a (by simp[XO.qb])
  have Y:=d b (by simp[XO.qb])
  simp only[wop]at h⊢;rw[←k];split at h
  .rename_i T F;split at h
   .rename_i n;have R:fr.get n=some (.bool T):=F;have J:fr'.get n=some (.bool T):=k.symm.trans F;rcases zCI h with⟨rfl,h⟩|⟨rfl,h⟩
    .simp only[Br,←A];cases hv:a.ev G fr with
     |some v=>
      rw[hv]at h;exact D _ _ _ h ⟨rfl,rfl,rfl,rfl,λt=>by simp only[qt R],λt=>by simp only[qt J]⟩
     |none=>rw[hv]at h;exact h.elim
    .simp only[Br,←Y];cases hv:b.ev G fr with
     |some v=>
      rw[hv]at h;exact D _ _ _ h ⟨rfl,rfl,rfl,rfl,λt=>by simp only[qt R],λt=>by simp only[qt J]⟩
     |none=>rw[hv]at h;exact h.elim
   .rename_i O;cases c with
    |t n=>exact absurd rfl (O n)
    |_=>exact e d h
  .exact h.elim
 case bin op x y=>
  have k:=d x (by simp[XO.qb])
  have A:=d y (by simp[XO.qb])
  have p:=λh=>e (o':=.bin op x y) d h
  simp only[wop]at h⊢;rw[←k,←A];split at h
  .rename_i s1 X;cases op with
   |add=>
    simp only at h⊢;split at h
    .exact⟨h.1,mk h.2⟩
    .exact h.elim
   |_=>exact p h
  .rename_i k1 n1 X;cases op with
   |quo=>
    simp only at h⊢;split at h
    .split at h
     .exact⟨h.1,mk h.2⟩
     .exact h.elim
    .exact h.elim
   |rem=>
    simp only at h⊢;split at h
    .split at h
     .exact⟨h.1,mk h.2⟩
     .exact h.elim
    .exact h.elim
   |shl=>
    simp only at h⊢;split at h
    .exact⟨h.1,mk h.2⟩
    .exact h.elim
   |shr=>
    simp only at h⊢;split at h
    .exact⟨h.1,mk h.2⟩
    .exact h.elim
   |_=>exact p h
  .exact h.elim
 case qW neg kd x y=>
  simp only[wop]at h⊢;rw[←d x (by simp[XO.qb]),←d y (by simp[XO.qb])]
  split at h
  .split at h
   .split at h
    .exact mk h
    .exact h.elim
   .exact h.elim
  .exact h.elim
 case wP x i=>
  simp only[wop]at h⊢;rw[←d x (by simp[XO.qb]),←d i (by simp[XO.qb])]
  split at h
  .split at h
   .obtain⟨c,h1,q⟩:=h;exact⟨c,h1,mk q⟩
   .exact h.elim
  .exact h.elim
 case wJ x lo hi=>
  have k:evo G fr lo=evo G fr' lo:=zBL λy j=>d y (by simp[XO.qb,j])
  have A:evo G fr hi=evo G fr' hi:=zBL λy j=>d y (by simp[XO.qb,j])
  simp only[wop]at h⊢;rw[←d x (by simp[XO.qb]),←k,←A]
  split at h
  .split at h
   .split at h
    .exact zGu h λl u h=>mk h
    .exact h.elim
   .exact h.elim
  .exact h.elim
 case wy x lo hi mx sz=>
  have k:evo G fr lo=evo G fr' lo:=zBL λy j=>d y (by simp[XO.qb,j])
  have A:evo G fr hi=evo G fr' hi:=zBL λy j=>d y (by simp[XO.qb,j])
  have p:=λh=>e (o':=.wy x lo hi mx sz) d h
  simp only[wop]at h⊢;rw[←d x (by simp[XO.qb]),←k,←A]
  split at h
  .split at h
   .split at h
    .split at h
     .split at h
      .exact zGu h λl u h=>mk h
      .exact h.elim
     .exact h.elim
    .exact h.elim
   .exact h.elim
  .exact p h
  .exact h.elim
 case qB x i sz=>
  simp only[wop]at h⊢;rw[←d x (by simp[XO.qb]),←d i (by simp[XO.qb])]
  split at h
  .split at h
   .split at h
    .obtain⟨v,h1,q⟩:=h;exact⟨v,h1,mk q⟩
    .exact h.elim
   .exact h.elim
  .split at h
   .split at h
    .split at h
     .exact⟨h.1,mk h.2⟩
     .exact h.elim
    .exact h.elim
   .exact h.elim
  .split at h
   .exact⟨h.1,zC3 h.2 λM N=>e (λy j=>by
     simp only[XO.qb,QH,QY]at j;rcases j with rfl|rfl
     .exact d _ (by simp[XO.qb])
     .rfl) N⟩
   .exact h.elim
  .exact h.elim
 case wb x=>
  have p:=λh=>e (o':=.wb x) d h
  simp only[wop]at h⊢;rw[←d x (by simp[XO.qb])]
  split at h
  .split at h
   .exact mk h
   .exact mk h
   .exact h.elim
  .exact p h
 case load x sz ag=>
  have p:=λh=>e (o':=.load x sz ag) d h
  simp only[wop]at h⊢;rw[←d x (by simp[XO.qb])]
  split at h
  .exact p h
  .exact h.elim
  .split at h
   .split at h
    .obtain⟨v,h1,q⟩:=h;exact⟨v,h1,mk q⟩
    .exact h.elim
   .exact h.elim
  .exact p h
 case qC x f=>
  have p:=λh=>e (o':=.qC x f) d h
  simp only[wop]at h⊢;rw[←d x (by simp[XO.qb])]
  split at h
  .split at h
   .split at h
    .exact mk h
    .exact h.elim
   .exact h.elim
  .exact p h
 case store x y sz=>
  have p:=λh=>e (o':=.store x y sz) d h
  simp only[wop]at h⊢;rw[←d x (by simp[XO.qb]),←d y (by simp[XO.qb])]
  split at h
  .split at h
   .split at h
    .split at h
     .split at h
      .split at h
       .exact mk h
       .exact h.elim
      .exact h.elim
     .exact h.elim
    .exact h.elim
   .exact h.elim
  .exact p h
 case vJ x=>
  simp only[wop]at h⊢;rw[←d x (by simp[XO.qb])]
  split at h
  .exact mk h
  .exact h.elim
 case vB x=>
  simp only[wop]at h⊢;rw[←d x (by simp[XO.qb])]
  split at h
  .split at h
   .split at h
    .obtain⟨v,h1,q⟩:=h;exact⟨v,h1,mk q⟩
    .exact h.elim
   .exact h.elim
  .split at h
   .obtain⟨v,h1,q⟩:=h;exact⟨v,h1,mk q⟩
   .exact h.elim
  .exact mk h
  .exact h.elim
 case qy len sz z ps=>
  cases B with
  |cons Q B=>
   cases Q with
   |c u=>
    have k:zAC G fr z ps=zAC G fr' z ps:=zEX λy j=>d y (by simp only[XO.qb];exact j)
    have A:bsL G fr len sz z ps=bsL G fr' len sz z ps:=by unfold bsL;rw[k]
    simp only[wop]at h⊢;rw[←A];split at h
    .exact mk h
    .exact h.elim
   |_=>exact e d h
  |nil=>
   have k:zAC G fr z ps=zAC G fr' z ps:=zEX λy j=>d y (by simp only[XO.qb];exact j)
   simp only[wop]at h⊢;rw[←k];split at h
   .split at h
    .split at h
     .split at h
      .exact mk h
      .exact h.elim
     .exact h.elim
    .exact h.elim
   .exact h.elim
 case qM l c sz bytes z=>
  simp only[wop]at h⊢;rw[←d l (by simp[XO.qb]),←d c (by simp[XO.qb])]
  split at h
  .split at h
   .split at h
    .exact⟨h.1,mk h.2⟩
    .exact h.elim
   .exact h.elim
  .exact h.elim
 case append x y sz bytes=>
  simp only[wop]at h⊢;rw[←d x (by simp[XO.qb]),←d y (by simp[XO.qb])]
  split at h
  .exact h.elim
  .split at h
   .split at h
    .split at h
     .split at h
      .split at h
       .exact⟨h.1,mk h.2⟩
       .split at h
        .split at h
         .split at h
          .exact⟨h.1,mk h.2⟩
          .exact⟨h.1,mk h.2⟩
         .exact h.elim
        .exact h.elim
       .exact h.elim
      .exact h.elim
     .exact h.elim
    .exact h.elim
   .exact h.elim
 case wu=>exact mk h
 case lookup ag kd mm x z ok=>
  simp only[wop]at h⊢;rw[←d mm (by simp[XO.qb]),←d x (by simp[XO.qb])]
  split at h
  .split at h
   .split at h
    .split at h
     .obtain⟨v,h1,q⟩:=h;exact⟨v,h1,mk q⟩
     .exact h.elim
    .exact h.elim
   .exact h.elim
  .exact h.elim
 case wM ag kd mm x y=>
  simp only[wop]at h⊢;rw[←d mm (by simp[XO.qb]),←d x (by simp[XO.qb]),←d y (by simp[XO.qb])]
  split at h
  .split at h
   .split at h
    .split at h
     .split at h
      .obtain⟨v,h1,q⟩:=h;exact⟨v,h1,mk q⟩
      .exact h.elim
     .exact h.elim
    .exact h.elim
   .exact h.elim
  .exact h.elim
 case call f xs=>
  have k:evs G fr xs=evs G fr' xs:=zCf λy j=>d y (by simp[XO.qb,j])
  simp only[wop]at h⊢;rw[←k];split at h
  .exact zRe D h
  .exact h.elim
 case qN fx xs=>
  have k:evs G fr xs=evs G fr' xs:=zCf λy j=>d y (by simp[XO.qb,j])
  simp only[wop]at h⊢;rw[←d fx (by simp[XO.qb]),←k]
  split at h
  .split at h
   .exact zRe D h
   .exact h.elim
  .exact h.elim
theorem zUP{o:XO}(hk:zP o=0){v:AV}{H':Heap}{n:Nat}(h:xoS G zd fr H m o=some (v,H',n)):H'=H/\n=m/\∀H2 m2,xoS G zd fr H2 m2 o=some (v,H2,m2):=by
 cases o<;>first|(simp[zP]at hk;done)|(simp only[xoS]at h⊢;repeat' split at h)<;>first|(cases h;done)|(cases h;simp_all;done)|(cases h;simp_all;omega)
theorem zUQ{o:XO}{k:List K}(hk:zP o=0)(J:∀x,o≠.wb x)(A:∀v s,C v s->s.mv=mv)(z:∀v f,C v ⟨f,H,V,m,mv⟩->C' v ⟨f,H2,V2,m2,mv2⟩)(h:wop G tb ⟨fr,H,V,m,mv⟩ o k C):wop G tb ⟨fr,H2,V2,m2,mv2⟩ o k C':=by
 have mk:∀{v:AV}{f:Fr},C v ⟨f,H,V,m,mv⟩->C' v ⟨f,H2,V2,m2,mv2⟩:=λh=>z _ _ h
 have d:∀{o':XO},zP o'=0->WXd ⟨fr,H,V,m,mv⟩ (xoS G zd fr H m o') C->WXd ⟨fr,H2,V2,m2,mv2⟩ (xoS G zd fr H2 m2 o') C':=λhk h=>by
  unfold WXd at h;split at h
  .rename_i v N n e;obtain⟨rfl,rfl,I⟩:=zUP hk e;unfold WXd;rw[I H2 m2];exact mk h
  .exact h.elim
 cases o<;>try (exact h.elim)
 all_goals try (simp[zP]at hk;done)
 all_goals try (exact d hk h)
 case wc x i l sz ag=>
  cases k with
  |nil=>exact d hk h
  |cons F k=>
   simp only[wop]at h⊢;split at h
   .exact⟨h.1,zC3 h.2 λB p=>d rfl p⟩
   .exact h.elim
 case qz x i l sz=>
  cases k with
  |nil=>exact d hk h
  |cons F k=>
   simp only[wop]at h⊢;split at h
   .exact⟨h.1,zC3 h.2 λB p=>d rfl p⟩
   .exact h.elim
 case pick c a b=>
  have j:=λh=>d (o':=.pick c a b) rfl h
  simp only[wop]at h⊢;split at h
  .rename_i M D;split at h
   .rename_i n;rcases zCI h with⟨rfl,h⟩|⟨rfl,h⟩
    .simp only[Br];cases hv:a.ev G fr with
     |some v=>rw[hv]at h;exact mk h
     |none=>rw[hv]at h;exact h.elim
    .simp only[Br];cases hv:b.ev G fr with
     |some v=>rw[hv]at h;exact mk h
     |none=>rw[hv]at h;exact h.elim
   .exact j h
  .exact h.elim
 case bin op x y=>
  have j:=λh=>d (o':=.bin op x y) rfl h
  simp only[wop]at h⊢;split at h
  .cases op with
   |add=>
    simp only at h⊢;split at h
    .exact⟨h.1,mk h.2⟩
    .exact h.elim
   |_=>exact j h
  .cases op with
   |quo=>
    simp only at h⊢;split at h
    .split at h
     .exact⟨h.1,mk h.2⟩
     .exact h.elim
    .exact h.elim
   |rem=>
    simp only at h⊢;split at h
    .split at h
     .exact⟨h.1,mk h.2⟩
     .exact h.elim
    .exact h.elim
   |shl=>
    simp only at h⊢;split at h
    .exact⟨h.1,mk h.2⟩
    .exact h.elim
   |shr=>
    simp only at h⊢;split at h
    .exact⟨h.1,mk h.2⟩
    .exact h.elim
   |_=>exact j h
  .exact h.elim
 case qW neg kd x y=>
  simp only[wop]at h⊢;split at h
  .split at h
   .split at h
    .exact mk h
    .exact h.elim
   .exact h.elim
  .exact h.elim
 case wP x i=>
  simp only[wop]at h⊢;split at h
  .split at h
   .obtain⟨c,h1,q⟩:=h;exact⟨c,h1,mk q⟩
   .exact h.elim
  .exact h.elim
 case wJ x lo hi=>
  simp only[wop]at h⊢;split at h
  .split at h
   .split at h
    .exact zGu h λl u h=>mk h
    .exact h.elim
   .exact h.elim
  .exact h.elim
 case wy x lo hi mx sz=>
  have j:=λh=>d (o':=.wy x lo hi mx sz) rfl h
  simp only[wop]at h⊢;split at h
  .split at h
   .split at h
    .split at h
     .split at h
      .exact zGu h λl u h=>mk h
      .exact h.elim
     .exact h.elim
    .exact h.elim
   .exact h.elim
  .exact j h
  .exact h.elim
 case qB x i sz=>
  simp only[wop]at h⊢;split at h
  .split at h
   .split at h
    .obtain⟨v,h1,q⟩:=h;exact⟨v,h1,mk q⟩
    .exact h.elim
   .exact h.elim
  .split at h
   .split at h
    .split at h
     .exact absurd (show mv+1=mv from A _ _ h.2) (by omega)
     .exact h.elim
    .exact h.elim
   .exact h.elim
  .split at h
   .exact⟨h.1,zC3 h.2 λB p=>d rfl p⟩
   .exact h.elim
  .exact h.elim
 case wb x=>exact absurd rfl (J x)
 case qC x f=>
  have j:=λh=>d (o':=.qC x f) rfl h
  simp only[wop]at h⊢;split at h
  .split at h
   .split at h
    .exact absurd (show mv+1=mv from A _ _ h) (by omega)
    .exact h.elim
   .exact h.elim
  .exact j h
structure Ext1(H H2:Heap)(mv ms:Nat):Prop where
 g:∀h,h<ms->H2.get h=H.get h
 c:∀h str cs,h<ms->H.get h=some (.cells str cs)->∀c∈cs,CP mv ms c
theorem zXO{ms:Nat}(x:Ext1 H H2 mv ms):∀(d:Nat){v:AV},CP mv ms v->frz H2 V d v=frz H V d v:=by
 intro d
 induction d with
 |zero=>intro v _;rfl
 |succ d z=>
  intro v hc;have i:∀{l:JE},(∀e∈l,CP mv ms e)->zp (frz H2 V d) l=zp (frz H V d) l:=by
   intro l
   induction l with
   |nil=>intro _;rfl
   |cons a r j=>intro p;simp only[zp,z (p a (.head _)),j λe y=>p e (.tail _ y)]
  cases hc with
  |ptr h o hk=>
   simp only[frz,x.g h hk];cases hg:H.get h with
   |none=>rfl
   |some u=>
    cases u with
    |cells str n=>simp only[i (x.c h str n hk hg)]
    |_=>rfl
  |row h o l s c e hk=>simp only[frz,x.g h hk]
  |func f a b A q=>simp only[frz,i A,i q]
  |agg n k=>simp only[frz,i k]
  |_=>rfl
def zZv:XO->Prop
 |.wb _|.load _ _ _|.lookup _ _ _ _ _ _|.call _ _|.qN _ _=>True
 |_=>False
theorem zUR{o:XO}{U:List K}{ms:Nat}(hG:GPP G)(j:zn o=true)(x:Ext1 H H2 mv ms)(hf:∀t v,XV.t t∈o.qb->fr.get t=some v->CP mv ms v)(ho:zZv o)
  (T:∀v,C v ⟨fr,H,V,m,mv⟩->C' v ⟨fr,H2,V,m2,mv⟩) (h:wop G tb ⟨fr,H,V,m,mv⟩ o U C):wop G tb ⟨fr,H2,V,m2,mv⟩ o U C':=by
 have mk:∀{v:AV},C v ⟨fr,H,V,m,mv⟩->C' v ⟨fr,H2,V,m2,mv⟩:=λh=>T _ h
 have B:∀{y:XV}{v:AV},y∈o.qb->zo y=true->y.ev G fr=some v->CP mv ms v:=λ{y v} l k b=>by
  cases y with
  |t n=>exact hf n v l b
  |g n=>exact(hG n v b).cp
  |c u=>
   have:u=v:=by simpa[XV.ev]using b
   subst this;exact(zAy 12 k).cp
 have F:∀{A:List XV}{d:JE},(∀y∈A,y∈o.qb/\zo y=true)->evs G fr A=some d->∀v∈d,CP mv ms v:=by
  intro A
  induction A with
  |nil=>intro d _ e v b;cases e;cases b
  |cons y r Q=>
   intro d l e v b;simp only[evs]at e;split at e
   .rename_i u hu;split at e
    .rename_i us O;cases e;rcases QG.1 b with rfl|b
     .exact B (l y (.head _)).1 (l y (.head _)).2 hu
     .exact Q (λz hz=>l z (.tail _ hz)) O v b
    .cases e
   .cases e
 have p:∀{f:Nat}{d:JE},(∀v∈d,CP mv ms v)->zBV tb f d ⟨fr,H,V,m,mv⟩ C->zBV tb f d ⟨fr,H2,V,m2,mv⟩ C':=λ{f d} D h=>by
  have S:zp (frz H2 V 8) d=zp (frz H V 8) d:=by
   clear h
   induction d with
   |nil=>rfl
   |cons a r Q=>simp only[zp,zXO x 8 (D a (.head _)),Q λv b=>D v (.tail _ b)]
  unfold zBV at h⊢;cases hh:d.any (zAU 8)with
  |false=>rw[hh]at h;exact zEJ h λv h=>mk h
  |true=>
   rw[hh]at h;simp only[S];simp only at h;split at h
   .refine zEJ h λv h=>?_
    split at h
    .exact mk h
    .exact h.elim
   .exact h.elim
 cases o<;>try (exact(show False from ho).elim)
 case wb y=>
  simp only[wop]at h⊢;split at h
  .split at h
   .exact mk h
   .exact mk h
   .exact h.elim
  .unfold WXd at h;split at h
   .rename_i v X n e;obtain⟨rfl,rfl,e2⟩:=zUP rfl e;unfold WXd;rw[e2 H2 m2];exact mk h
   .exact h.elim
 case load y sz ag=>
  have k:zo y=true:=by simp only[zn,XO.qb,zM,QO,QU,List.all_nil]at j;exact j
  have I:WXd ⟨fr,H,V,m,mv⟩ (xoS G zd fr H m (.load y sz ag)) C->WXd ⟨fr,H2,V,m2,mv⟩ (xoS G zd fr H2 m2 (.load y sz ag)) C':=λh=>by
   unfold WXd at h;split at h
   .rename_i v X n e;have Y:xoS G zd fr H2 m2 (.load y sz ag)=some (v,H2,m2)/\X=H/\n=m:=by
     simp only[xoS]at e⊢;cases b:y.ev G fr with
     |none=>rw[b]at e;cases e
     |some a=>
      rw[b]at e;simp only at e⊢;have hc:=B (by simp[XO.qb]) k b
      have q:zDa H2 sz ag a=zDa H sz ag a:=by
       cases hc<;>first|rfl|(simp only[zDa,x.g _ ‹_›];done)|skip
      rw[q];split at e
      .cases e;exact⟨rfl,rfl,rfl⟩
      .cases e
    obtain⟨e1,rfl,rfl⟩:=Y;unfold WXd;rw[e1];exact mk h
   .exact h.elim
  simp only[wop]at h⊢;split at h
  .exact I h
  .exact h.elim
  .split at h
   .split at h
    .obtain⟨v,h1,J⟩:=h;exact⟨v,h1,mk J⟩
    .exact h.elim
   .exact h.elim
  .exact I h
 case lookup ag kd mm y z ok=>
  simp only[wop]at h⊢;split at h
  .split at h
   .split at h
    .split at h
     .obtain⟨v,h1,J⟩:=h;exact⟨v,h1,mk J⟩
     .exact h.elim
    .exact h.elim
   .exact h.elim
  .exact h.elim
 case call f A=>
  have i:A.all zo=true:=by simp only[zn,XO.qb,zM,QO]at j;exact j
  simp only[wop]at h⊢;split at h
  .rename_i d b;exact p (F (λy l=>⟨by simp only[XO.qb];exact l,QD.1 i y l⟩) b) h
  .exact h.elim
 case qN fx A=>
  have i:zo fx=true/\A.all zo=true:=by simp only[zn,XO.qb,zM,List.all_append,QU,List.all_nil,QO,qr]at j;exact j
  simp only[wop]at h⊢;split at h
  .rename_i f first W N;split at h
   .rename_i d b;refine p (λv M=>?_) h
    have R:=B (by simp[XO.qb]) i.1 N
    cases R with
    |func _ _ _ q1 q2=>
     rcases QH.1 M with q|q
     .rcases QH.1 q with q|q
      .exact q1 v q
      .exact F (λy l=>⟨by simp[XO.qb,l],QD.1 i.2 y l⟩) b v q
     .exact q2 v q
   .exact h.elim
  .exact h.elim
theorem zHW{h:Nat}:∀{g:JN}{H:Heap}{V:Vecs}{mv:Nat},qD h g ⟨fr',H,V,m,mv⟩=⟨fr',(qD h g ⟨fr,H,V,m,mv⟩).H,(qD h g ⟨fr,H,V,m,mv⟩).V,(qD h g ⟨fr,H,V,m,mv⟩).m,(qD h g ⟨fr,H,V,m,mv⟩).mv⟩/\(qD h g ⟨fr,H,V,m,mv⟩).fr=fr
 |[],H,V,mv=>⟨rfl,rfl⟩
 |(i,e)::g,H,V,mv=>by
  simp only[qD];cases hg:H.get h with
  |none=>exact⟨rfl,rfl⟩
  |some d=>
   cases d with
   |cells str b=>
    simp only;cases hc:b[i]? with
    |none=>exact zHW
    |some c=>
     cases c<;>simp only<;>(try exact zHW)
     all_goals
      split
      .exact zHW
      .exact zHW
   |_=>exact⟨rfl,rfl⟩
theorem zVS{g:JN}{args:JE}:qJ g args ⟨fr',H,V,m,mv⟩=⟨fr',(qJ g args ⟨fr,H,V,m,mv⟩).H,(qJ g args ⟨fr,H,V,m,mv⟩).V,(qJ g args ⟨fr,H,V,m,mv⟩).m,(qJ g args ⟨fr,H,V,m,mv⟩).mv⟩/\(qJ g args ⟨fr,H,V,m,mv⟩).fr=fr:=by
 unfold qJ;split
 .exact zHW
 .exact⟨rfl,rfl⟩
theorem zRT{hm sm:JV}{vs:JE}{st d:Sta}{k e:JE->Heap->Vecs->Prop}(i:d.H=st.H)(f:d.V=st.V)(h:zCu hm sm vs st k)(hk:∀a b c,k a b c->e a b c):zCu hm sm vs d e:=by
 unfold zCu at h⊢;rw[i,f];split at h
 .split at h
  .split at h
   .split at h
    .exact hk _ _ _ h
    .exact h.elim
   .exact h.elim
  .exact h.elim
 .exact h.elim
theorem zO3{e:HEnt}{args:JE}(i:∀v f s,C v f->SameQ fr fr' f s->C' v s)(h:zDU e args ⟨fr,H,V,m,mv⟩ C):zDU e args ⟨fr',H,V,m,mv⟩ C':=by
 obtain⟨g1,g2⟩:=zVS (fr:=fr) (fr':=fr') (H:=H) (V:=V) (m:=m) (mv:=mv) (g:=e.grow) (args:=args);unfold zDU at h⊢;rw[g1];generalize j:qJ e.grow args ⟨fr,H,V,m,mv⟩=s at *;unfold zHR at h⊢;refine zRT (st:=s) rfl rfl h λa b c d=>⟨d.1,?_⟩
 have:=d.2;split at this
 .refine i _ _ _ this ?_
  unfold zG5;cases inpl e.grow<;>exact⟨rfl,rfl,rfl,rfl,λt=>by rw[←g2],λt=>rfl⟩
 .exact this.elim
theorem zOn{t:TOp}(d:∀x∈t.o.op.qb,x.ev G fr=x.ev G fr')(i:∀v l s,C v l->SameQ fr fr' l s->C' v s)(h:zA5 G tb ⟨fr,H,V,m,mv⟩ t C):zA5 G tb ⟨fr',H,V,m,mv⟩ t C':=by
 unfold zA5 at h⊢;split at h
 .exact zY6 d i h
 .rename_i p u;unfold zKT at h⊢;split at h
  .rename_i f args b;rw[b]at d;have k:evs G fr args=evs G fr' args:=zCf λy j=>d y (by simp[XO.qb,j])
   simp only[←k];cases hl:zG6 p f with
   |none=>rw[hl]at h;exact h.elim
   |some e=>
    rw[hl]at h;simp only at h⊢;cases hv:evs G fr args with
    |none=>rw[hv]at h;exact h.elim
    |some z=>rw[hv]at h;exact zO3 i h
  .rename_i n args b;rw[b]at d;have k:evs G fr args=evs G fr' args:=zCf λy j=>d y (by simp[XO.qb,j])
   have A:=d n (by simp[XO.qb])
   simp only[←k,←A];cases hf:n.ev G fr with
   |none=>rw[hf]at h;exact h.elim
   |some B=>
    rw[hf]at h;cases B with
    |func fn first q=>
     cases fn with
     |func f=>
      simp only at h⊢;cases hl:zG6 p f with
      |none=>rw[hl]at h;exact h.elim
      |some e=>
       rw[hl]at h;simp only at h⊢;cases hv:evs G fr args with
       |none=>rw[hv]at h;exact h.elim
       |some z=>rw[hv]at h;exact zO3 i h
     |_=>exact h.elim
    |_=>exact h.elim
  .exact h.elim
end
theorem HV.refl(s:Sta):HV s s:=⟨rfl,rfl,rfl,rfl⟩
theorem HV.trans{a b c:Sta}(h:HV a b)(k:HV b c):HV a c:=⟨k.H.trans h.H,k.V.trans h.V,k.m.trans h.m,k.mv.trans h.mv⟩
theorem HV.symm{a b:Sta}(h:HV a b):HV b a:=⟨h.H.symm,h.V.symm,h.m.symm,h.mv.symm⟩
section
variable{G:Cx}{tb:TblS}{s s1 r:Sta}{t:TOp}
theorem cls1(b:t.h=none)(h:clsQ t=1):zZv t.o.op:=by
 obtain⟨⟨d,op,g⟩,f,e⟩:=t;simp only at b;subst b;simp only[clsQ]at h;cases op<;>first|trivial|(simp[zP]at h;done)|(simp only at h;split at h<;>cases h;done)
theorem cls0(b:t.h=none)(h:clsQ t=0):(zP t.o.op=0/\∀x,t.o.op≠.wb x)\/(isC t.ks=true/\((∃x sz f,t.o.op=.load x sz f)\/∃len sz z i,t.o.op=.qy len sz z i)):=by
 obtain⟨⟨d,op,g⟩,k,j⟩:=t;simp only at b;subst b;simp only[clsQ]at h;cases op<;>first|(simp[zP]at h;done)|exact .inl ⟨rfl,λx e=>by cases e⟩|(simp only at h;split at h<;>cases h;done)|skip
 .simp only at h;split at h
  .cases h
  .exact .inr ⟨rfl,.inr ⟨_,_,_,_,rfl⟩⟩
  .cases h
 .simp only at h;split at h
  .rename_i hc;exact .inr ⟨hc,.inl ⟨_,_,_,rfl⟩⟩
  .cases h
theorem zUS{fr:Fr}{H H2:Heap}{V V2:Vecs}{m m2 mv mv2:Nat}{len sz:Nat}{z:JE}{e:List (Nat×Nat×XV)}{b:List K}(hc:isC b=true){C C':AV->Sta->Prop}(d:∀v,C v ⟨fr,H,V,m,mv⟩->C' v ⟨fr,H2,V2,m2,mv2⟩)(h:wop G tb ⟨fr,H,V,m,mv⟩ (.qy len sz z e) b C):wop G tb ⟨fr,H2,V2,m2,mv2⟩ (.qy len sz z e) b C':=by
 cases b with
 |nil=>cases hc
 |cons f b=>
  cases f with
  |c u=>
   simp only[wop]at h⊢;split at h
   .exact d _ h
   .exact h.elim
  |_=>cases hc
theorem zUT{fr:Fr}{H H2:Heap}{V V2:Vecs}{m m2 mv mv2:Nat}{x:XV}{sz:Nat}{f:Bool}{b:List K}(hc:isC b=true){C C':AV->Sta->Prop}(d:∀v,C v ⟨fr,H,V,m,mv⟩->C' v ⟨fr,H2,V2,m2,mv2⟩)(h:wop G tb ⟨fr,H,V,m,mv⟩ (.load x sz f) b C):wop G tb ⟨fr,H2,V2,m2,mv2⟩ (.load x sz f) b C':=by
 cases hx:x.ev G fr with
 |none=>simp only[wop,hc,hx]at h
 |some a=>
  cases a with
  |qc e off=>
   simp only[wop,hc,hx,xoS,zDa]at h⊢;cases hp:part e.cells off sz f with
   |none=>rw[hp]at h;exact h.elim
   |some v=>rw[hp]at h;exact d _ h
  |_=>simp only[wop,hc,hx]at h
theorem zY7{fr:Fr}{H H2:Heap}{V V2:Vecs}{m m2 mv mv2:Nat}{x:XV}{sz h off:Nat}{e:Bool}(hx:x.ev G fr=some (.ptr h off))(f:H2.get h=H.get h){C C':AV->Sta->Prop}(d:∀v,C v ⟨fr,H,V,m,mv⟩->C' v ⟨fr,H2,V2,m2,mv2⟩)(h1:wop G tb ⟨fr,H,V,m,mv⟩ (.load x sz e) [.qg 0] C):wop G tb ⟨fr,H2,V2,m2,mv2⟩ (.load x sz e) [.qg 0] C':=by
 simp only[wop,isC,hx,xoS,zDa,f]at h1⊢
 revert h1
 generalize H.get h=b;intro h1;cases b with
 |none=>exact h1.elim
 |some b=>
  cases b with
  |cells str i=>
   simp only at h1⊢;cases hp:part i off sz e with
   |none=>rw[hp]at h1;exact h1.elim
   |some v=>rw[hp]at h1;exact d _ h1
  |_=>exact h1.elim
theorem zY8{fr:Fr}{H H2:Heap}{V V2:Vecs}{m m2 mv mv2:Nat}{f:Nat}{xs:List XV}{vs:JE}{d:List K}(hx:evs G fr xs=some vs)(e:vs.any (zAU 8)=false){C C':AV->Sta->Prop}(b:∀v,C v ⟨fr,H,V,m,mv⟩->C' v ⟨fr,H2,V2,m2,mv2⟩)(h1:wop G tb ⟨fr,H,V,m,mv⟩ (.call f xs) d C):wop G tb ⟨fr,H2,V2,m2,mv2⟩ (.call f xs) d C':=by
 simp only[wop,hx,zBV,e]at h1⊢;exact zEJ h1 λv h=>b v h
theorem zUU{fr fr':Fr}:∀{xs:List XV},(∀x∈xs,x.ev G fr=x.ev G fr')->evs G fr xs=evs G fr' xs
 |[],_=>rfl
 |x::r,h=>by
  simp only[evs,h x (.head _),zUU λy b=>h y (.tail _ b)]
structure Fit(G:Cx)(t:TOp)(s r:Sta):Prop where
 ag:∀g∈zG3 t.o.op.qb,r.fr.get g=s.fr.get g
 gd:∀g b,t.o.guard=some (g,b)->r.fr.get g=s.fr.get g
 c1:clsQ t=1->hLd t=false->r.V=s.V/\r.mv=s.mv/\∃ms,Ext1 s.H r.H s.mv ms/\∀g v,XV.t g∈t.o.op.qb->s.fr.get g=some v->CP s.mv ms v
 c3:hLd t=true->(∃x sz ag h off,t.o.op=.load x sz ag/\t.ks=[.qg 0]/\x.ev G s.fr=some (.ptr h off)/\r.H.get h=s.H.get h)\/∃f xs vs,t.o.op=.call f xs/\evs G s.fr xs=some vs/\vs.any (zAU 8)=false
 c2:2<=clsQ t->HV s r
theorem zUV(hG:GPP G)(Q:zn t.o.op=true)(y:Fit G t s r){C C':AV->Sta->Prop}(Y:clsQ t<=1->∀v b,C v b->HV s b)
  (F:∀v b x,C v b->(∀g,b.fr.get g=s.fr.get g)->(∀g,x.fr.get g=r.fr.get g)->(clsQ t<=1->HV r x)->(2<=clsQ t->HV b x)->C' v x) (h:zA5 G tb s t C):zA5 G tb r t C':=by
 obtain⟨fr,H,V,m,mv⟩:=s;obtain⟨fr',W,V',m',J⟩:=r;have p:∀x∈t.o.op.qb,x.ev G fr=x.ev G fr':=λx O=>by
  cases x with
  |t n=>exact(y.ag n (zCR O)).symm
  |_=>rfl
 by_cases hc:2<=clsQ t
 .obtain⟨T,u,U,D⟩:=y.c2 hc;simp only at T u U D;subst T;subst u;subst U;subst D;exact zOn p (λv b x h q=>F v b x h q.f0 q.f (λh=>by omega) λ_=>⟨q.H,q.V,q.m,q.mv⟩) h
 .have k:clsQ t<=1:=by omega
  have h1:=zOn (C':=λv x=>∃b,C v b/\SameQ fr fr' b x) p (λv b x h q=>⟨b,h,q⟩) h
  have d:t.h=none:=by
   cases A:t.h with
   |none=>rfl
   |some es=>unfold clsQ at k;rw[A]at k;simp at k
  unfold zA5 at h1⊢;rw[d]at h1⊢;have i:∀{v:AV}{f:Fr}{H2:Heap}{V2:Vecs}{m2 mv2:Nat},H2=W->V2=V'->m2=m'->mv2=J->(∃b,C v b/\SameQ fr fr' b ⟨f,H,V,m,mv⟩)->C' v ⟨f,H2,V2,m2,mv2⟩:=λ{v f H2 V2 m2 mv2} q1 q2 q3 q4 ⟨b,h,q⟩=>by
   subst q1;subst q2;subst q3;subst q4;exact F v b _ h q.f0 q.f (λ_=>⟨rfl,rfl,rfl,rfl⟩) λh=>by omega
  by_cases j:hLd t=true
  .obtain⟨x,S,ag,A,off,N,ek,K,M⟩|⟨f,xs,vs,N,K,eh⟩:=y.c3 j
   .rw[N]at h1 p⊢;rw[ek]at h1⊢;have l:x.ev G fr'=some (.ptr A off):=by rw[←p x (by simp[XO.qb])];exact K
    have M:W.get A=H.get A:=M;exact zY7 l M (λv h=>i rfl rfl rfl rfl h) h1
   .rw[N]at h1 p⊢;have l:evs G fr' xs=some vs:=(zUU (xs:=xs) (λx O=>p x O)).symm.trans K
    exact zY8 l eh (λv h=>i rfl rfl rfl rfl h) h1
  have j:hLd t=false:=by simpa using j
  by_cases B:clsQ t=1
  .obtain⟨u,D,ms,X,I⟩:=y.c1 B j;simp only at u D;subst u;subst D;refine zUR hG Q X (λg v R hv=>I g v R (by rw[←hv];exact(y.ag g (zCR R)).symm)) (cls1 d B) (λv h=>i rfl rfl rfl rfl h) h1
  .have h0:clsQ t=0:=by omega
   rcases cls0 d h0 with hk|⟨hk,⟨x,S,ag,e⟩|⟨len,S,z,ps,e⟩⟩
   .refine zUQ hk.1 hk.2 (λv x ⟨b,h,q⟩=>?_) (λv f h=>i rfl rfl rfl rfl h) h1
    rw[q.mv];exact(Y k v b h).mv
   .rw[e]at h1⊢;exact zUT hk (λv h=>i rfl rfl rfl rfl h) h1
   .rw[e]at h1⊢;exact zUS hk (λv h=>i rfl rfl rfl rfl h) h1
theorem zTq(M:GPP G)(J:zn t.o.op=true)(n:Fit G t s r)(u:clsQ t<=1->HV s s1)(h:zC8 G tb s t (λx=>x=s1)){k:Sta->Prop}
  (hk:∀x,(clsQ t<=1->HV r x)->(2<=clsQ t->HV s1 x)->(∀g,x.fr.get g=if t.o.dst=some g then s1.fr.get g else r.fr.get g)->k x):zC8 G tb r t k:=by
 have j:∀{x:Sta}{v:AV}{g:Nat},(x.put t.o.dst v).fr.get g=if t.o.dst=some g then some v else x.fr.get g:=λ{x v g}=>by
  cases hd:t.o.dst with
  |none=>simp[Sta.put,qv]
  |some d=>
   show(x.fr.put d v).get g=_
   rw[Fr.qu];simp
 have i:∀(x:Sta)(v:AV),HV x (x.put t.o.dst v):=λx v=>by
  cases t.o.dst<;>exact⟨rfl,rfl,rfl,rfl⟩
 have q:∀{s r:Sta},Fit G t s r->(clsQ t<=1->HV s s1)->(∀x,(clsQ t<=1->HV r x)->(2<=clsQ t->HV s1 x)->(∀g,x.fr.get g=if t.o.dst=some g then s1.fr.get g else r.fr.get g)->k x)->zA5 G tb s t (λv x=>∃l,WK v l/\x.put t.o.dst l=s1)->zA5 G tb r t (λv x=>∃l,WK v l/\k (x.put t.o.dst l)):=λ{s r} n u hk h=>by
  refine zUV M J n (λy v I ⟨l,_,e⟩=>?_) (λv I x ⟨l,K,e⟩ f0 f D F=>⟨l,K,hk _ (λy=>(D y).trans (i x l)) (λB=>?_) λg=>?_⟩) h
  .have:=i I l;rw[e]at this;exact(u y).trans this.symm
  .have z:=i I l;rw[e]at z;exact z.symm.trans ((F B).trans (i x l))
  .rw[j,←e,j];split
   .rfl
   .exact f g
 have skip:∀{s r:Sta},(clsQ t<=1->HV s s1)->Fit G t s r->(∀x,(clsQ t<=1->HV r x)->(2<=clsQ t->HV s1 x)->(∀g,x.fr.get g=if t.o.dst=some g then s1.fr.get g else r.fr.get g)->k x)->s.put t.o.dst (.qg [])=s1->k (r.put t.o.dst (.qg [])):=λ{s r} u n hk e=>by
  refine hk _ (λ_=>i r _) (λB=>?_) λg=>?_
  .have z:=i s (.qg []);rw[e]at z;exact z.symm.trans ((n.c2 B).trans (i r _))
  .rw[j,←e,j];split<;>rfl
 unfold zC8 at h⊢;cases hg:t.o.guard with
 |none=>
  rw[hg]at h;exact q n u hk h
 |some p=>
  obtain⟨g,b⟩:=p;rw[hg]at h;simp only at h⊢;rw[n.gd g b hg];split at h
  .rename_i c hc;have A:r.fr.get g=some (.bool c):=(n.gd g b hg).trans hc;unfold brT at h⊢;rcases zCI h with⟨rfl,h⟩|⟨rfl,h⟩
   .simp only[Br,qt A]at h⊢;simp only[qt hc]at h;cases b with
    |true=>exact q n u hk h
    |false=>exact skip u n hk h
   .simp only[Br,qt A]at h⊢;simp only[qt hc]at h;cases b with
    |true=>exact skip u n hk h
    |false=>exact q n u hk h
  .exact skip u n hk h
  .exact h.elim
end
section
variable{G:Cx}{tb:TblS}{s s1:Sta}{t:TOp}
theorem zK5{n:Int}{l:Nat}{k:Nat->Prop}(h:0<=n/\n<.ofNat l)(hk:zFN n l k):∃m,k m:=by
 obtain⟨m,rfl⟩:=Int.eq_ofNat_of_zero_le h.1;exact⟨m,zCT hk m (Int.ofNat_lt.1 h.2) rfl⟩
theorem zFQ{x:Option Out}{C:AV->Sta->Prop}(h:WXd s x C):∃v x,C v x:=by
 unfold WXd at h;split at h
 .exact⟨_,_,h⟩
 .exact h.elim
theorem zO4{n:Int}{lo b:JF}{k:Int->Int->Prop}(h:zGJ n lo b k):∃l u,k l u:=by
 cases lo with
 |none=>
  cases b with
  |none=>exact⟨_,_,h⟩
  |some u=>cases u<;>first|exact⟨_,_,h.2⟩|exact h.elim
 |some l=>
  cases l with
  |int d l=>
   cases b with
   |none=>exact⟨_,_,h.2⟩
   |some u=>cases u<;>first|exact⟨_,_,h.2⟩|exact h.elim
  |_=>exact h.elim
theorem zRf{f:Nat}{vs:JE}{C:AV->Sta->Prop}(h:zBV tb f vs s C):∃v x,C v x:=by
 unfold zBV at h;split at h
 .obtain⟨_,_,_,_,v,_,h⟩:=zDJ h;exact⟨_,_,h⟩
 .split at h
  .obtain⟨_,_,_,_,v,_,h⟩:=zDJ h;split at h
   .exact⟨_,_,h⟩
   .exact h.elim
  .exact h.elim
theorem zK6{o:XO}{d:List K}{C:AV->Sta->Prop}(h:wop G tb s o d C):∃v x,C v x:=by
 cases o<;>try (exact h.elim)
 all_goals try (exact zFQ h)
 case wc x i l sz ag=>
  simp only[wop]at h;split at h
  .exact zFQ h
  .split at h
   .obtain⟨m,h⟩:=zK5 h.1 h.2;exact zFQ h
   .exact h.elim
 case qz x i l sz=>
  simp only[wop]at h;split at h
  .exact zFQ h
  .split at h
   .obtain⟨m,h⟩:=zK5 h.1 h.2;exact zFQ h
   .exact h.elim
 case pick c a b=>
  simp only[wop]at h;split at h
  .split at h
   .rcases zCI h with⟨_,h⟩|⟨_,h⟩
    .split at h
     .exact⟨_,_,h⟩
     .exact h.elim
    .split at h
     .exact⟨_,_,h⟩
     .exact h.elim
   .exact zFQ h
  .exact h.elim
 case wJ x lo hi=>
  simp only[wop]at h;split at h
  .split at h
   .split at h
    .obtain⟨l,u,h⟩:=zO4 h;exact⟨_,_,h⟩
    .exact h.elim
   .exact h.elim
  .exact h.elim
 case wy x lo hi mx sz=>
  simp only[wop]at h;split at h
  .split at h
   .split at h
    .split at h
     .split at h
      .obtain⟨l,u,h⟩:=zO4 h;exact⟨_,_,h⟩
      .exact h.elim
     .exact h.elim
    .exact h.elim
   .exact h.elim
  .exact zFQ h
  .exact h.elim
 case call f xs=>
  simp only[wop]at h;split at h
  .exact zRf h
  .exact h.elim
 case qN fx xs=>
  simp only[wop]at h;split at h
  .split at h
   .exact zRf h
   .exact h.elim
  .exact h.elim
 all_goals
  simp only[wop]at h
  repeat' split at h
  all_goals first
   |exact h.elim
   |exact⟨_,_,h⟩
   |(obtain⟨m,h⟩:=zK5 h.1 h.2;exact zFQ h)
   |exact⟨_,_,h.2⟩
   |exact zFQ h
   |(obtain⟨_,_,h⟩:=h;exact⟨_,_,h⟩)
theorem zUW{hm sm:JV}{vs:JE}{st:Sta}{k:JE->Heap->Vecs->Prop}(h:zCu hm sm vs st k):∃a b c,k a b c:=by
 unfold zCu at h
 repeat' split at h
 all_goals first|exact h.elim|exact⟨_,_,_,h⟩
theorem zUX{e:HEnt}{args:JE}{C:AV->Sta->Prop}(h:zDU e args s C):∃v x,C v x:=by
 unfold zDU zHR at h;obtain⟨a,b,c,h⟩:=zUW h;have:=h.2;split at this
 .exact⟨_,_,this⟩
 .exact this.elim
theorem zXP{C:AV->Sta->Prop}(h:zA5 G tb s t C):∃v x,C v x:=by
 unfold zA5 at h;split at h
 .exact zK6 h
 .unfold zKT at h
  repeat' split at h
  all_goals first|exact h.elim|exact zUX h
theorem zRU{g:Nat}(h:zC8 G tb s t (λx=>x=s1))(l:t.o.dst≠some g):s1.fr.get g=s.fr.get g:=by
 have f:∀{x:Sta}{v:AV},(x.put t.o.dst v).fr.get g=x.fr.get g:=λ{x v}=>by
  cases hdd:t.o.dst with
  |none=>rfl
  |some d=>
   show(x.fr.put d v).get g=_
   rw[Fr.qu,if_neg]
   rintro rfl
   exact l hdd
 have j:zA5 G tb s t (λv x=>∃k,WK v k/\x.put t.o.dst k=s1)->s1.fr.get g=s.fr.get g:=λh=>by
  obtain⟨fr,H,V,m,mv⟩:=s;have:=zOn (fr':=fr) (C':=λ_ _=>s1.fr.get g=fr.get g) (λx _=>rfl) (λv u x ⟨k,_,e⟩ q=>by rw[←e,f];exact q.f0 g) h
  obtain⟨_,_,h⟩:=zXP this;exact h
 unfold zC8 at h;split at h
 .exact j h
 .split at h
  .rename_i b n p c hc;unfold brT at h;rcases zCI h with⟨rfl,i⟩|⟨rfl,i⟩
   .simp only[qt hc]at i;cases b with
    |true=>exact j i
    |false=>
     have i:s.put t.o.dst (.qg [])=s1:=i;rw[←i,f]
   .simp only[qt hc]at i;cases b with
    |true=>
     have i:s.put t.o.dst (.qg [])=s1:=i;rw[←i,f]
    |false=>exact j i
  .have h:s.put t.o.dst (.qg [])=s1:=h;rw[←h,f]
  .exact h.elim
end
def frL(c:Nat->Sta)(ts:List TOp)(L:Nat->Bool):Nat->Nat->JF
 |0,g=>(c 0).fr.get g
 |k+1,g=>match ts[k]? with
  |some t=>if L k=true/\t.o.dst=some g then(c (k+1)).fr.get g else frL c ts L k g
  |none=>frL c ts L k g
section
variable{G:Cx}{tb:TblS}{lo:Option Nat}{c:Nat->Sta}{ts:List TOp}{L:Nat->Bool}{g:Nat}
theorem zK7(ch:ChQ G tb lo ts c){i:Nat}(h:∀k t,k<i->ts[k]?=some t->t.o.dst=some g->L k=true):∀k,k<=i->k<=ts.length->frL c ts L k g=(c k).fr.get g
 |0,_,_=>rfl
 |k+1,hk,f=>by
  have b:ts[k]?=some ts[k]:=QE (by omega)
  simp only[frL,b];split
  .rfl
  .rename_i d;rw[zK7 ch h k (by omega) (by omega)]
   refine(zRU (ch.st k _ b) λe=>d ⟨h k _ (by omega) b e,e⟩).symm
theorem zIy{i:Nat}(h:∀k t,i<=k->ts[k]?=some t->L k=true->t.o.dst≠some g):∀k,i<=k->frL c ts L k g=frL c ts L i g
 |0,hk=>by
   have:i=0:=by omega
   subst this;rfl
 |k+1,hk=>by
  by_cases e:i=k+1
  .subst e;rfl
  .simp only[frL];cases ht:ts[k]? with
   |none=>exact zIy h k (by omega)
   |some t=>
    simp only;rw[if_neg λb=>h k t (by omega) ht b.1 b.2]
    exact zIy h k (by omega)
theorem zMA(ch:ChQ G tb lo ts c){a:Nat}:∀b,a<=b->b<=ts.length->(∀k t,a<=k->k<b->ts[k]?=some t->clsQ t<=1)->HV (c a) (c b)
 |0,h,_,_=>by
   have:a=0:=by omega
   subst this;exact HV.refl _
 |b+1,h,i,f=>by
  by_cases e:a=b+1
  .subst e;exact HV.refl _
  .have d:ts[b]?=some ts[b]:=QE (by omega)
   exact(zMA ch b (by omega) (by omega) λk t h1 j=>f k t h1 (by omega)).trans (ch.hv b _ d (f b _ (by omega) (by omega) d))
structure AlQ(lo:Option Nat)(s r:Sta):Prop where
 V:r.V=s.V
 mv:r.mv=s.mv
 m:s.m<=r.m
 g:∀h,h<zBP lo s.m->r.H.get h=s.H.get h
theorem zMB(ch:ChQ G tb lo ts c){a:Nat}:∀b,a<=b->b<=ts.length->(∀k t,a<=k->k<b->ts[k]?=some t->clsQ t<=2)->AlQ lo (c a) (c b)
 |0,h,_,_=>by
   have:a=0:=by omega
   subst this;exact⟨rfl,rfl,QA _,λ_ _=>rfl⟩
 |b+1,h,u,l=>by
  by_cases e:a=b+1
  .subst e;exact⟨rfl,rfl,QA _,λ_ _=>rfl⟩
  .have f:ts[b]?=some ts[b]:=QE (by omega)
   have i:=zMB ch b (by omega) (by omega) λk t h1 j=>l k t h1 (by omega)
   have hc:=l b _ (by omega) (by omega) f
   by_cases j:clsQ ts[b]=2
   .obtain⟨q1,p,n,o⟩:=ch.al b _ f j;exact⟨q1.trans i.V,p.trans i.mv,QI i.m n,λh d=>(o h (QX d (zKU i.m))).trans (i.g h d)⟩
   .have q:=ch.hv b _ f (by omega)
    exact⟨q.V.trans i.V,q.mv.trans i.mv,by rw[q.m];exact i.m,λh d=>by rw[q.H];exact i.g h d⟩
theorem zSJ{t:TOp}(h:hLd t=true):clsQ t=1:=by
 unfold hLd at h;split at h
 .cases h
 rename_i d;split at h
 .cases h
 split at h
 .rename_i b;split at h
  .rename_i hk;simp only[clsQ,d,b,hk,isC]
  .cases h
 .rename_i b;simp only[clsQ,d,b]
 .cases h
theorem zVT{G:Cx}(f:GPP G){x:XV}{sz:Nat}{d:Bool}{fr:Fr}{h off:Nat}(b:zn (.load x sz d)=true)(e:x.ev G fr=some (.ptr h off)):∃n,x=.t n:=by
 cases x with
 |t n=>exact⟨n,rfl⟩
 |g n=>have:=f n _ e;cases this
 |c v=>
  have e:v=.ptr h off:=by simpa[XV.ev]using e
  subst e;simp only[zn,XO.qb,zM,QO,QU,List.all_nil,zo,z9]at b;cases b
theorem zK8(ch:ChQ G tb lo ts c){a:Nat}:∀b,a<=b->b<=ts.length->(∀k t,a<=k->k<b->ts[k]?=some t->clsQ t<=2\/vOn t=true)->(c a).m<=(c b).m/\∀h,h<zBP lo (c a).m->(c b).H.get h=(c a).H.get h
 |0,h,_,_=>by
   have:a=0:=by omega
   subst this;exact⟨QA _,λ_ _=>rfl⟩
 |b+1,h,u,l=>by
  by_cases e:a=b+1
  .subst e;exact⟨QA _,λ_ _=>rfl⟩
  .have f:ts[b]?=some ts[b]:=QE (by omega)
   have i:=zK8 ch b (by omega) (by omega) λk t h1 j=>l k t h1 (by omega)
   rcases l b _ (by omega) (by omega) f with hc|hc
   .by_cases j:clsQ ts[b]=2
    .obtain⟨q1,n,o,p⟩:=ch.al b _ f j;exact⟨QI i.1 o,λh d=>(p h (QX d (zKU i.1))).trans (i.2 h d)⟩
    .have q:=ch.hv b _ f (by omega)
     exact⟨by rw[q.m];exact i.1,λh d=>by rw[q.H];exact i.2 h d⟩
   .obtain⟨q1,n⟩:=ch.vo b _ f hc;exact⟨by rw[n];exact i.1,λh d=>by rw[q1];exact i.2 h d⟩
end
section
variable{P:Program}{G:Cx}{nt:Nat}{E:Env}{w:World}{a:Act}{β:Nat->Option Nat}{st:Sta}
 {Z0 B0:Nat->Prop} {w0:World} {dl:List Deferred} {tb:TblS}
theorem Rs.same{s:Sta}(r:Rs G nt Z0 B0 w0 dl E w a st)(h:HV st s)(d:∀g,s.fr.get g=st.fr.get g):Rs G nt Z0 B0 w0 dl E w a s:=by
 obtain⟨fr,H,V,m,mv⟩:=s;obtain⟨f,b,i,j⟩:=h;simp only at f b i j;subst f;subst b;subst i;subst j;obtain⟨β,s,l,k⟩:=r.out;exact⟨β,⟨s.hr,⟨s.hf.size,λt u e=>s.hf.get t u (by rw[←d t];exact e)⟩,s.hg,s.qx,λt u e=>s.qY t u (by rw[←d t];exact e),s.cH,s.qR,s.vp,s.bz,s.qQ⟩,l,k⟩
theorem zK9{n:Nat}:∀{l:JV},zCB n l=true↔n∈l
 |[]=>by simp[zCB]
 |a::r=>by
  simp only[zCB];split
  .rename_i h;simp[zb h]
  .rename_i h;have:=zAq h;rw[zK9];simp[this]
theorem zLa{x y:Option Nat}{i f:XD}(h:zFJ x i y f=true):(∀d,x=some d->d ∉ f.looks)/\(∀d,y=some d->d ∉ i.looks)/\(∀d,x=some d->y≠some d):=by
 simp only[zFJ,qr]at h;obtain⟨⟨h1,j⟩,k⟩:=h;refine⟨λd e b=>?_,λd e b=>?_,λd e l=>?_⟩
 .subst e;simp[zK9.2 b]at h1
 .subst e;simp[zK9.2 b]at j
 .subst e;subst l;simp at k
theorem zRg(bk:TbW P G tb)(hG:GPP G)(hm:zAr P G)(bb:P.follows .mixedOrders=true){pn:JV}{id:Nat}{ops:Array Oper}{ts:List TOp}{ds:List XD}{Q:Exit->Act->World->Prop}(hc:zD P (.region id ops true)=some (.draw (ts.map TOp.o) ds))(a1:zC6 nt (.draw (ts.map TOp.o) ds)=true)
  (aq:∀t∈ts,zn t.o.op=true) (bp:∀t∈ts,∀es,t.h=some es->∀e∈es,HOK P G e) (bs:∀t∈ts,∀n,t.o.dst=some n->n ∉ pn) (hq:(zFO ts ds&&zFV 0 [] [] [] [] [] ts ds)=true) {lo:Option Nat} {c:Nat->Sta} (h0:c 0=st) (ch:ChQ G tb lo ts c) (r:Rs G nt Z0 B0 w0 dl E w a st)
  (hQ:∀E' w' a',Rs G nt Z0 B0 w0 dl E' w' a' (c ts.length)->At pn a a'->Q .normal a' w'):(Code.region id ops true).wp P Q a w:=by
 rw[qr]at hq;have az:=zMb hq.1;have M:=zEw hq.2;simp only[zD]at hc;split at hc
 rotate_left
 .cases hc
 rename_i bj;split at hc
 rotate_left
 .cases hc
 rename_i O;simp only[QK,XC.draw.injEq]at hc;obtain⟨e1,e2⟩:=hc;obtain⟨hl,ha,ax⟩:=zRc (P:=P) bj;rw[e2]at hl ha O;rw[e1]at O;have bt:ts.length=ops.size:=by
  have:=congrArg List.length e1
  simpa using this.symm
 have bi:∀(i:Nat) o,ops[i]?=some o->∃t,ts[i]?=some t/\t.o=zm P ops o:=λi o ho=>by
  have h1:(ops.toList.map (zm P ops))[i]?=some (zm P ops o):=by simp[ho]
  rw[e1,Qb]at h1;cases y:ts[i]? with
  |none=>rw[y]at h1;cases h1
  |some t=>rw[y]at h1;exact⟨t,rfl,by simpa using h1⟩
 have X:∀(i:Nat) t,ts[i]?=some t->∃d,ds[i]?=some d:=λi t y=>by
  have:=(QC.1 y).1;exact⟨ds[i],QE (by omega)⟩
 have ac:∀(j k:Nat) tj tk dj D,j<k->ts[j]?=some tj->ts[k]?=some tk->ds[j]?=some dj->ds[k]?=some D->D.qd.testBit j=true\/zFJ tj.o.dst dj tk.o.dst D=true:=λj k tj tk dj D bm h1 U I h4=>by
  have:=(zHO O k tk.o D (by simp[U]) h4).2 j tj.o dj bm (by simp[h1]) I
  simpa using this
 refine wp_region_any bb ?_
 have r':Rs G nt Z0 B0 w0 dl E { w with drawn:=w.drawn+1 } a st:=by
  obtain⟨β,s,kp,df⟩:=r.out;obtain⟨d1,d2⟩:=zFl (w':={ w with drawn:=w.drawn+1 }) s.hr ⟨rfl,rfl,rfl,rfl⟩ st.m
  have:=s.steps d1 d2 ⟨s.hf.size,λt u y=>d2.vr s.hr (s.hf.get t u y)⟩ s.qY s.cH
  exact⟨β,this.1,kp.trans this.2,df⟩
 refine zSI hl ha ax (λn L a' w'=>(∀(k:Nat) D,L k=true->ds[k]?=some D->∀j,D.qd.testBit j=true->L j=true)/\∃J E' N,N<=ts.length/\(∀(b:Nat) t,ts[b]?=some t->2<=clsQ t->(L b=true↔b<N))/\HV (c N) J/\(∀g,J.fr.get g=frL c ts L ts.length g)/\Rs G nt Z0 B0 w0 dl E' w' a' J/\At pn a a') ?_ ?_ ops.size _ a _ (by simp) (by simp) ?_ ⟨λk D hk=>?_,st,E,0,QV _,λb t _ _=>?_,by rw[h0];exact HV.refl _,λg=>?_,r',.refl⟩
 ·
  rintro L a' w' hall ⟨_,J,E',N,hjc,hb,hv,hf,hr,hat⟩
  refine hQ E' w' a' (hr.same ?_ λg=>?_) hat
  .refine hv.symm.trans (zMA ch _ hjc (QA _) λk t h1 U y=>?_)
   rcases Nat.lt_or_ge 1 (clsQ t)with S|S
   .have:=(hb k t y S).1 (hall k (by omega))
    omega
   .exact S
  .rw[hf g];exact(zK7 ch (i:=ts.length) (λk t hk y _=>hall k (by omega)) _ (QA _) (QA _)).symm
 .rintro n L a' w' i o d ⟨S,J,E',N,hjc,hb,hv,hf,hr,hat⟩ ho hd hLi hpre
  have hi:=(Array.getElem?_eq_some_iff.1 ho).1;obtain⟨t,y,et⟩:=bi i o ho;have K:=QF y;have bw:i<ts.length:=by omega
  obtain⟨W,af⟩:=az i t d y hd;have later:∀(k:Nat) q,i<k->ts[k]?=some q->L k=true->(∀g,q.o.dst=some g->g ∉ d.looks)/\∀g,t.o.dst=some g->q.o.dst≠some g:=λk q hk l A=>by
   obtain⟨D,z⟩:=X k q l;rcases ac i k t q d D hk y l hd z with h|h
   .have:=S k D A z i h;rw[hLi]at this;cases this
   .obtain⟨q1,q2,q3⟩:=zLa h;exact⟨q2,q3⟩
  have R:∀g∈d.looks,J.fr.get g=(c i).fr.get g:=λg Y=>by
   rw[hf g,zIy (i:=i) (λk q hk l A e=>?_) ts.length (by omega)]
   .refine zK7 ch (λk q hk l e=>?_) i (QA _) (by omega)
    obtain⟨D,z⟩:=X k q l;rcases ac k i q t D d hk l y z hd with h|h
    .exact hpre k h
    .exact absurd Y ((zLa h).1 g e)
   .rcases Nat.lt_or_ge i k with ab|ab
    .exact(later k q ab l A).1 g e Y
    .have:k=i:=by omega
     subst this;rw[hLi]at A;cases A
  have ao:2<=clsQ t->N<=i/\HV (c i) J:=λU=>by
   have h1:N<=i:=by
    rcases Nat.lt_or_ge i N with h|h
    .have:=(hb i t y U).2 h;rw[hLi]at this;cases this
    .exact h
   refine⟨h1,(zMA ch i h1 (by omega) λk q aj B l=>?_).symm.trans hv⟩
   rcases Nat.lt_or_ge 1 (clsQ q)with p|p
   .have I:=(M.b i t d y hd U).2 k q B l p;rw[QS]at I;have:=(hb k q l p).1 (hpre k I);omega
   .exact p
  obtain⟨β',s',bv,bz⟩:=hr.out;have bl:Fit G t (c i) J:=by
   refine⟨λg Y=>R g (W g Y),λg b Y=>R g (af g b Y),λh1 ad=>?_,λad=>?_,λU=>(ao U).2⟩
   rotate_left
   .have h1:clsQ t=1:=zSJ ad;rcases ch.ld i t y ad with⟨x,sz,ag,hh,off,eo,ek,ev⟩|⟨f,xs,vs,eo,ev,eh⟩
    rotate_left
    .exact .inr ⟨f,xs,vs,eo,ev,eh⟩
    refine .inl ⟨x,sz,ag,hh,off,eo,ek,ev,?_⟩
    obtain⟨n,rfl⟩:∃n,x=.t n:=by
     have ba:=aq t K;rw[eo]at ba;exact zVT hG ba ev
    have a8:XV.t n∈t.o.op.qb:=by rw[eo];simp[XO.qb]
    have bg:(c i).fr.get n=some (.ptr hh off):=ev;obtain⟨ae,_⟩:=ch.rd i t y h1;have a6:hh<zBP lo (c i).m:=by have:=ae n _ a8 bg;cases this;assumption
    rw[hv.H];rcases Nat.le_total N i with ai|ar
    .have T:=zK8 ch i ai (by omega) λk q aj B l=>by
      rcases Nat.lt_or_ge 2 (clsQ q)with p|p
      .right
       cases hvo:vOn q with
       |true=>rfl
       |false=>
        have I:=(M.h i t d y hd h1).2.2 k q B l p (by rw[hvo,Bool.and_false])
        rw[QS]at I;have:=(hb k q l (by omega)).1 (hpre k I)
        omega
      .exact .inl p
     have:=s'.qY n _ (by rw[R n (W n (zCR a8))];exact bg)
     rw[hv.mv,hv.m]at this;have bq:hh<(c N).m:=by cases this;assumption
     exact(T.2 hh (QX (Nat.lt_min.2 ⟨bq,a6⟩) (zQZ T.1))).symm
    .have T:=zK8 ch N ar hjc λk q aj B l=>by
      rcases Nat.lt_or_ge 2 (clsQ q)with p|p
      .right
       cases hvo:vOn q with
       |true=>rfl
       |false=>
        have A:=(hb k q l (by omega)).2 B
        obtain⟨D,z⟩:=X k q l;have ab:i<k:=by
         rcases Nat.lt_or_ge i k with h|h
         .exact h
         .have:k=i:=by omega
          subst this;rw[y]at l;cases l;omega
        have I:=(M.r k q D l z p).2.2 i t ab y h1 (by rw[hvo,Bool.and_false])
        rw[QS]at I;have:=S k D A z i I;rw[hLi]at this;cases this
      .exact .inl p
     exact T.2 hh a6
   rcases Nat.le_total N i with ai|ar
   .have T:=zMB ch i ai (by omega) λk q aj B l=>by
     rcases Nat.lt_or_ge 2 (clsQ q)with p|p
     .have I:=(M.h i t d y hd h1).2.2 k q B l p (by rw[ad];rfl)
      rw[QS]at I;have:=(hb k q l (by omega)).1 (hpre k I)
      omega
     .exact p
    obtain⟨ae,aw⟩:=ch.rd i t y h1;have low:∀{x:AV},CP (c i).mv (zBP lo (c i).m) x->CP (c N).mv (c N).m x->CP (c i).mv (zBP lo (c N).m) x:=λhx hy=>by
     rw[T.mv]at hx⊢;exact(hx.min hy).mono (QA _) (zQZ T.m)
    refine⟨hv.V.trans T.V.symm,hv.mv.trans T.mv.symm,zBP lo (c N).m,⟨λh hh=>by rw[hv.H];exact(T.g h hh).symm,λh str cs hh Y cc bf=>?_⟩,λg v Y bc=>?_⟩
    .have U:=aw h str cs (QX hh (zKU T.m)) Y cc bf;rw[T.g h hh]at Y;obtain⟨_,_,e,bn⟩:=(ch.cp N hjc).2.get Y;cases e;exact low U (bn cc bf)
    .have:=s'.qY g v (by rw[R g (W g (zCR Y))];exact bc)
     rw[hv.mv,hv.m]at this;exact low (ae g v Y bc) this
   .have T:=zMB ch N ar hjc λk q aj B l=>by
     rcases Nat.lt_or_ge 2 (clsQ q)with p|p
     .have A:=(hb k q l (by omega)).2 B
      obtain⟨D,z⟩:=X k q l;have ab:i<k:=by
       rcases Nat.lt_or_ge i k with h|h
       .exact h
       .have:k=i:=by omega
        subst this;rw[y]at l;cases l;omega
      have I:=(M.r k q D l z p).2.2 i t ab y h1 (by rw[ad];rfl)
      rw[QS]at I;have:=S k D A z i I;rw[hLi]at this;cases this
     .exact p
    obtain⟨ae,aw⟩:=ch.rd i t y h1;exact⟨hv.V.trans T.V,hv.mv.trans T.mv,zBP lo (c i).m,⟨λh hh=>by rw[hv.H];exact T.g h hh,aw⟩,ae⟩
  have au:=zTq hG (aq t K) bl (ch.hv i t y) (ch.st i t y) (k:=λx=>(clsQ t<=1->HV J x)/\(2<=clsQ t->HV (c (i+1)) x)/\∀g,x.fr.get g=if t.o.dst=some g then(c (i+1)).fr.get g else J.fr.get g) λx h1 U I=>⟨h1,U,I⟩
  refine zMa bk hG hm ho et (λdd bo=>?_) (aq t K) (bp t K) (bs t K) au hr λst2 E2 w2 a2 B ay ak=>⟨λk D hk z j hj=>?_,st2,E2,?_⟩
  .have h1:=QD.1 a1 _ (List.mem_map_of_mem (f:=TOp.o) K);rw[et,zA9,bo]at h1
   simpa[Qg]using h1
  .simp only[Bool.or_eq_true,beq_iff_eq]at hk⊢;rcases hk with hk|rfl
   .exact .inl (S k D hk z j hj)
   .rw[hd]at z;cases z;exact .inl (hpre j hj)
  .obtain⟨k1,k2,k3⟩:=B;have be:∀g,st2.fr.get g=frL c ts (λj=>L j||j==i) ts.length g:=λg=>by
    rw[k3 g];by_cases aa:t.o.dst=some g
    .rw[if_pos aa,zIy (i:=i+1) (λk q hk l A e=>?_) ts.length (by omega)]
     .simp only[frL,y];rw[if_pos ⟨by simp,aa⟩]
     .simp only[Bool.or_eq_true,beq_iff_eq]at A;rcases A with A|rfl
      .exact(later k q (by omega) l A).2 g aa e
      .omega
    .rw[if_neg aa,hf g];have:∀k,frL c ts L k g=frL c ts (λj=>L j||j==i) k g:=by
      intro k
      induction k with
      |zero=>rfl
      |succ k ih=>
       simp only[frL];cases htk:ts[k]? with
       |none=>exact ih
       |some q=>
        simp only[Bool.or_eq_true,beq_iff_eq];by_cases a7:k=i
        .subst a7;rw[y]at htk;cases htk;rw[if_neg λh=>aa h.2,if_neg λh=>aa h.2]
         exact ih
        .simp only[a7,or_false,ih]
     exact this _
   rcases Nat.lt_or_ge 1 (clsQ t)with U|h1
   .obtain⟨ai,_⟩:=ao U;refine⟨i+1,by omega,λb q l ah=>?_,k2 U,be,ay,hat.trans ak⟩
    simp only[Bool.or_eq_true,beq_iff_eq]
    constructor
    .rintro (hLb|rfl)
     .have:=(hb b q l ah).1 hLb;omega
     .omega
    .intro bu;rcases Nat.lt_or_ge b i with h|h
     .have I:=(M.b i t d y hd U).2 b q h l ah;rw[QS]at I;exact .inl (hpre b I)
     .exact .inr (by omega)
   .refine⟨N,hjc,λb q l ah=>?_,hv.trans (k1 h1),be,ay,hat.trans ak⟩
    simp only[Bool.or_eq_true,beq_iff_eq];have bh:b≠i:=by rintro rfl;rw[y]at l;cases l;omega
    simp only[bh,or_false];exact hb b q l ah
 .intro k D hk;by_cases F:k<ops.size
  .simp[F]at hk
  .simp[F]at hk
 .by_cases F:k<ops.size
  .simp[F]at hk
  .simp[F]at hk
 .by_cases F:b<ops.size
  .simp[F]
  .simp[F]
 .have:∀k,frL c ts (λj=>(Array.replicate ops.size false).getD j false) k g=st.fr.get g:=by
   intro k
   induction k with
   |zero=>simp only[frL,h0]
   |succ k ih=>
    simp only[frL];split
    .rw[if_neg ?_]
     .exact ih
     .rintro ⟨h,_⟩
      by_cases F:k<ops.size
      .simp[F]at h
      .simp[F]at h
    .exact ih
  exact(this _).symm
end
section
variable{P:Program}{G:Cx}{nt:Nat}{E:Env}{w:World}{a:Act}{β:Nat->Option Nat}{st:Sta}
 {Z0 B0:Nat->Prop} {w0:World} {dl:List Deferred} {tb:TblS}
theorem SR.uF(hG:GPP G)(s:SR G nt E w a β st){t sz:Nat}(S:st.fr.get t=some .qa):∃E' R,SR G nt E' w a R ⟨st.fr.put t (.sym st.mv),st.H,(st.mv,.vec sz [])::st.V,st.m,st.mv+1⟩/\Kp E.Z (BS E β st.H st.V) w E'.Z (BS E' R st.H ((st.mv,.vec sz [])::st.V)) w:=by
 have hσ:∀i,i<st.mv->(if i=st.mv then Value.slice none 0 0 else E.σ i)=E.σ i:=λi hi=>by
  have:i≠st.mv:=by omega
  simp[this]
 have K:∀{v:AV}{o:Value},CP st.mv st.m v->VR E w v o->VR ⟨E.ρ,E.D,E.Z,λi=>if i=st.mv then .slice none 0 0 else E.σ i⟩ w v o:=λhc N=>
  VR.ve (E:=E) (E':=⟨E.ρ,E.D,E.Z,λi=>if i=st.mv then .slice none 0 0 else E.σ i⟩) (w:=w) (w':=w) (λh _ X=>⟨X,rfl⟩) (λb l=>⟨l,rfl⟩) (.refl w) hσ N hc
 have f:∀j d,st.V.get j=some d->j≠st.mv:=λj d h=>by have:=(s.qR j d h).1;omega
 refine⟨⟨E.ρ,E.D,E.Z,λi=>if i=st.mv then .slice none 0 0 else E.σ i⟩,λj=>if j=st.mv then none else β j,⟨⟨s.hr.nodup,s.hr.qx,s.hr.inj,λp Q=>?_,s.hr.nz,s.hr.we⟩,⟨s.hf.size,λu v k=>?_⟩,λg u F=>⟨K (hG g u F).cp (s.hg g u F).1,(s.hg g u F).2⟩,s.qx,λu v k=>?_,s.cH.mono (QT _) (QA _),λj d h=>?_,λj A i off h=>?_,λj d b h W l=>?_,λj O d q b h1 n y T I M=>?_⟩,?_⟩
 .obtain⟨str,cs,e,J⟩:=s.cH p Q;have:=s.hr.obj p Q;rw[e]at this⊢;exact OR.ve rfl (λhc N=>K hc N) J this
 .rw[Fr.qu]at k;split at k
  .rename_i e;subst e;cases k;have U:∀{o:Value},VR E w .qa o->o=.slice none 0 0:=λh=>by cases h;rfl
   rw[U (s.hf.get _ _ S)];exact .sym _ _ (by simp only[if_true]) rfl
  .exact K (s.qY u v k) (s.hf.get u v k)
 .rw[Fr.qu]at k;split at k
  .cases k;exact .sym _ (QR _)
  .exact(s.qY u v k).mono (QT _) (QA _)
 .rw[Vecs.qf]at h;split at h
  .rename_i e;subst e;cases h;exact⟨QR _,λe he=>(by cases he),.inl ⟨by simp,by simp,rfl⟩⟩
  .have h1:=s.qR j d h;refine⟨Nat.lt_succ_of_lt h1.1,h1.2.mono (by simp[f j d h]) (λ_=>by simp[f j d h]) (λb _ _=>rfl) (λb l=>⟨l,rfl⟩) (.refl w) λA i off e sz Y z=>?_⟩
   subst e;have:=s.vp j A i off h;rw[Vecs.qf,if_neg (by omega)]at z
   have B:A≠st.mv:=by omega
   exact⟨by simp[B],Y,z,rfl⟩
 .rw[Vecs.qf]at h;split at h
  .cases h
  .exact Nat.lt_succ_of_lt (s.vp j A i off h)
 .rw[Vecs.qf]at h;split at h
  .rename_i e;subst e;simp at l
  .simp only[if_neg (f j d h)]at l;exact s.bz j d b h W l
 .rw[Vecs.qf]at h1 n;split at h1
  .rename_i e;subst e;simp at I
  .split at n
   .rename_i e;subst e;simp at M
   .simp only[if_neg (f j d h1)]at I;simp only[if_neg (f O q n)]at M;exact s.qQ j O d q b h1 n y T I M
 .refine Kp.less λx hx=>?_
  rcases hx with h|⟨j,d,h1,n,y⟩
  .exact .inl h
  .rw[Vecs.qf]at h1;split at h1
   .rename_i e;subst e;simp at y
   .simp only[if_neg (f j d h1)]at y;exact .inr ⟨j,d,h1,n,y⟩
theorem SR.uV(hG:GPP G)(s:SR G nt E w a β st){t j sz l:Nat}{es fl:JE}(ht:st.fr.get t=some (.sym j))(K:st.V.get j=some (.vec sz es))(hl:l=es.length)(h0:1<=l)(hf:flatten sz es=some fl):
  ∃E' β',SR G nt E' w a β' ⟨st.fr.put t (.row st.m 0 l sz 0 false),(st.m,.cells true fl)::st.H,st.V.del j,st.m+1,st.mv⟩/\Kp E.Z (BS E β st.H st.V) w E'.Z (BS E' β' ((st.m,.cells true fl)::st.H) (st.V.del j)) w:=by
 obtain⟨D,⟨_,_,rfl⟩|⟨b,str,R,cp,ex,v⟩⟩:=zDV s K
 .simp at hl;omega
 have q:fl=R.take (es.length*sz):=by
  have:=v.ue;rw[hf]at this;exact Qs this
 have W:OR E w b (.cells true fl):=by
  obtain⟨c,e,f,h1,A,y,B⟩:=v.uS;refine⟨c,e,f,h1,by rw[q,Qm];omega,y.imp id λh=>⟨rfl,h.2⟩,λi x z=>B i x ?_⟩
  rw[q,List.getElem?_take]at z;split at z
  .exact z
  .cases z
 have F:zET w b l sz 0 false (E.σ j):=by
  rcases v.row with⟨a,_,h,_⟩|⟨cap,h1,A,y,B,h5,h6,h7⟩
  .omega
  .exact .inr ⟨cap,by rw[h1,hl],by omega,y,B,QV _,λh=>(by cases h),h7⟩
 have Q:=s.bz j _ b K rfl v.hb;have T:∀o Y,(some (b,HO.cells true fl):XB)=some (o,Y)->OR E w o Y/\¬E.Z o/\∀p∈st.H,E.ρ p.1≠o:=λo Y e=>by
  cases e;exact⟨W,Q⟩
 have O:∀c∈fl,PP c:=λc hc=>v.pc c (QM (q▸hc))
 have hm:∀{x:AV}{cv:Value},VR E w x cv->VR (zX E st.m (some (b,.cells true fl))) w x cv:=λh=>zEt s h
 have M:∀p∈st.H,p.1≠st.m:=λp d e=>by have:=s.qx _ (s.hr.qx p d);omega
 have hρ:∀p∈st.H,(zX E st.m (some (b,.cells true fl))).ρ p.1=E.ρ p.1:=λp d=>if_neg (M p d)
 have gd:∀{i n},(st.V.del j).get i=some n->j≠i/\st.V.get i=some n:=λ{i n} h=>by
  rw[Vecs.qL]at h;split at h
  .cases h
  .rename_i N;exact⟨N,h⟩
 refine⟨zX E st.m (some (b,.cells true fl)),β,⟨zSF s T,zAH s ht (F.vr (by simp[zX]) (.inr rfl)),λg u hg=>⟨hm (s.hg g u hg).1,(s.hg g u hg).2⟩,λh U=>?_,λu x J=>?_,λp d=>?_,λi n h=>?_,λi j2 k off h=>s.vp i j2 k off (gd h).2,λi n o h ho I=>?_,λi i' n S o h1 A y B h5 h6=>s.qQ i i' n S o (gd h1).2 (gd A).2 y B h5 h6⟩,Kp.less λx z=>?_⟩
 .rcases U with U|rfl
  .exact Nat.lt_succ_of_lt (s.qx h U)
  .exact QR _
 .rw[Fr.qu]at J;split at J
  .cases J;exact .row _ _ _ _ _ _ (QR _)
  .exact(s.qY u x J).mono (QA _) (QT _)
 .rcases QG.1 d with rfl|d
  .exact⟨true,fl,rfl,λc hc=>(O c hc).cp⟩
  .obtain⟨str,R,e,X⟩:=s.cH p d;exact⟨str,R,e,λc hc=>(X c hc).mono (QA _) (QT _)⟩
 .have h1:=s.qR i n (gd h).2;exact⟨h1.1,h1.2.mono rfl (λ_=>rfl) (λb _ _=>rfl) (λb I=>⟨I,rfl⟩) (.refl w) λj2 k off _ sz es D=>⟨rfl,es,(gd D).2,rfl⟩⟩
 .obtain⟨z1,z2⟩:=s.bz i n o (gd h).2 ho I;refine⟨z1,λp d=>?_⟩
  rcases QG.1 d with rfl|d
  .intro e;have e:(if st.m=st.m then b else E.ρ st.m)=o:=e
   rw[if_pos rfl]at e;subst e;exact(gd h).1 (s.qQ j i _ _ b K (gd h).2 rfl ho v.hb I)
  .rw[hρ p d];exact z2 p d
 .rcases z with⟨p,d,e⟩|⟨i,n,h1,A,y⟩
  .rcases QG.1 d with rfl|d
   .have e:(if st.m=st.m then b else E.ρ st.m)=x:=e
    rw[if_pos rfl]at e;exact .inr ⟨j,_,K,rfl,by rw[←e];exact v.hb⟩
   .exact .inl ⟨p,d,by rw[←e,hρ p d]⟩
  .exact .inr ⟨i,n,(gd h1).2,A,y⟩
theorem SR.wD(i:GPP G)(s:SR G nt E w a β st){n:Nat}:∃E' d,SR G nt E' w a d (Sy.wD n st)/\Kp E.Z (BS E β st.H st.V) w E'.Z (BS E' d (Sy.wD n st).H (Sy.wD n st).V) w:=by
 unfold Sy.wD;split
 .rename_i f;split
  .rename_i h;split
   .rename_i b;rw[qr]at b;split
    .rename_i e;exact s.uV i f h (zb b.1) (QN b.2) e
    .exact⟨E,β,s,Kp.refl⟩
   .exact⟨E,β,s,Kp.refl⟩
  .exact⟨E,β,s,Kp.refl⟩
 .exact⟨E,β,s,Kp.refl⟩
theorem Rs.grow(b:GPP G):∀{g:JN}{E:Env}{st:Sta},Rs G nt Z0 B0 w0 dl E w a st->∃E',Rs G nt Z0 B0 w0 dl E' w a (zCy g st)
 |[],E,st,r=>⟨E,r⟩
 |(t,sz)::g,E,st,r=>by
  simp only[zCy];split
  .split
   .obtain⟨E',l⟩:=Rs.vF (d:=none) (v:=.qg []) (cv:=undef) (λn h=>by cases h) r
    exact Rs.grow b l
   .obtain⟨β,s,k,d⟩:=r.out;obtain⟨E',i,e,f⟩:=SR.wD b s;exact Rs.grow b ⟨i,e,k.trans f,d⟩
  .split
   .rename_i j;obtain⟨β,s,k,d⟩:=r.out;obtain⟨E',i,e,f⟩:=s.uF b j (sz:=sz);exact Rs.grow b ⟨i,e,k.trans f,d⟩
   .rename_i v _ o;split
    .rename_i p q j;obtain⟨β,s,k,d⟩:=r.out;obtain⟨E',i,e,f⟩:=s.uI b o j;exact Rs.grow b ⟨i,e,k.trans f,d⟩
    .exact Rs.grow b r
   .exact Rs.grow b r
  .split
   .rename_i h _ _;obtain⟨β,s,k,d⟩:=r.out;obtain⟨_,E',i,e,f⟩:=SR.qD b (h:=h) (g:=[(Nat.mod t 1000,sz)]) s;exact Rs.grow b ⟨i,e,k.trans f,d⟩
   .exact Rs.grow b r
theorem Rs.cut(e:GPP G){c:Cut}{Q:Inv}(r:Rs G nt Z0 B0 w0 dl E w a st)(h:zOx c Q st):∃vs H V,Q vs H V/\∃b,Rs G nt Z0 B0 w0 dl b w a (mkW c vs H V):=by
 obtain⟨l,i⟩:=r.grow e (g:=c.grow);obtain⟨β,s,k,d⟩:=i.out;obtain⟨vs,H,V,h1,b,j,s1,f⟩:=zY3 e s h;exact⟨vs,H,V,h1,b,j,s1,k.trans f,d⟩
theorem zXQ(aa:TbW P G tb)(hG:GPP G)(hm:zAr P G)(W:P.follows .mixedOrders=true){pn:JV}:∀(c:Code){F:TC}{gs:JV}{Q:Ext->Sta->Prop}{st:Sta}{QQ:Exit->Act->World->Prop},zD P c=some (er F)->zC6 nt (er F)=true->zCD F=true->tcH (HOK P G) F->tcN pn F=true->WT G tb F gs Q st->∀{E w a},Rs G nt Z0 B0 w0 dl E w a st →
  (∀x u E' w' B,Q x u->Rs G nt Z0 B0 w0 dl E' w' B u->At pn a B->QQ (zQT x) B w')->c.wp P QQ a w:=by
 intro c
 induction c with
 |skip=>
  intro F gs Q st QQ hc D q v p h E w a r A;simp only[zD,QK]at hc;cases F<;>cases hc
  exact wp_skip (A .normal st E w a h r .refl)
 |label l=>
  intro F gs Q st QQ hc D q v p h E w a r A;simp only[zD,QK]at hc;cases F<;>cases hc
  exact wp_label (A .normal st E w a h r .refl)
 |ret=>
  intro F gs Q st QQ hc D q v p h E w a r A;simp only[zD,QK]at hc;cases F<;>cases hc
  exact wp_ret (A .ret st E w a h r .refl)
 |exit i=>
  intro F gs Q st QQ hc D q v p h E w a r A;simp only[zD,QK]at hc;cases F<;>cases hc
  exact wp_exit (A (.exit i) st E w a h r .refl)
 |region id ab draw=>
  intro F gs Q st QQ hc D q v p h E w a r A;cases draw with
  |false=>
   simp only[zD,QK]at hc;cases F<;>simp only[er]at hc<;>first|(cases hc;done)|skip
   rename_i ts;injection hc with hc
   have af:∀o∈ab.toList,∀d,o.dst=some d->d<nt:=λo ho d ax=>by
    have D:((ts.map TOp.o).all λo=>match o.dst with|some d=>Nat.blt d nt|none=>true)=true:=D
    rw[←hc]at D;have h1:=QD.1 D _ (List.mem_map_of_mem (f:=zm P ab) ho);rw[zA9,ax]at h1
    simpa[Qg]using h1
   refine wp_region ?_
   have:=zNF aa hG hm (Q:=QQ) (K:=Q .normal) ts ab.toList 0 (λj=>by simp) hc.symm af (λt N=>QD.1 q t N) v (λt N=>zJK (QD.1 p t N)) h r λu E' w' B h1 z=>A .normal u E' w' B h1 z
   rw[List.range_eq_range']
   simpa using this
  |true=>
   have ad:=hc;have:∃xs ds,zD P (.region id ab true)=some (.draw xs ds):=by
    simp only[zD]at hc⊢;split at hc
    .split at hc
     .rename_i S e2;exact⟨_,_,rfl⟩
     .cases hc
    .cases hc
   obtain⟨xs,ds,e⟩:=this;rw[e]at hc;simp only[QK]at hc;cases F<;>simp only[er]at hc<;>first|(cases hc;done)|skip
   .rename_i ay ts ag;simp only[WT]at h;split at h
    .rename_i hD;rw[qr]at hD;simp only[tcN,qr]at p;have ah:∀{t:Nat}{l:JV},inN t l=true->t∈l:=by
      intro t l
      induction l with
      |nil=>intro h;cases h
      |cons a r ih=>
       intro h;simp only[inN]at h;split at h
       .rename_i e;rw[zb e];exact .head _
       .exact .tail _ (ih h)
     exact zRS aa hG hm W ad D (λt N=>QD.1 q t N) (λt N=>zJK (QD.1 p.1 t N)) (λt N=>QD.1 hD.2 t (ah (QD.1 p.2 t N))) hD.1 h r λu E' w' B h1 z=>A .normal u E' w' B h1 z
    .exact h.elim
   .rename_i ts ag;exact zRd aa hG hm W ad D (λt N=>QD.1 q t N) v (λt N=>zJK (QD.1 p t N)) h r λu E' w' B h1 z=>A .normal u E' w' B h1 z
   .rename_i ts ag;obtain⟨hq,lo,c,h0,ar,au⟩:=h;exact zRg aa hG hm W ad D (λt N=>QD.1 q t N) v (λt N=>zJK (QD.1 p t N)) hq h0 ar r λE' w' B z M=>A .normal _ E' w' B au z M
 |seq x y X Y=>
  intro F gs Q st QQ hc D q v p h E w a r A;simp only[zD]at hc;obtain⟨xa,ha,hc⟩:=za hc;obtain⟨xb,T,hc⟩:=za hc;simp only[QK]at hc;cases F<;>simp only[er]at hc<;>first|(cases hc;done)|skip
  .rename_i ta R;injection hc with S e2
   subst S;subst e2;simp only[er,zC6,qr]at D;simp only[zCD,qr]at q;simp only[tcN,qr]at p;refine wp_seq (X ha D.1 q.1 v.1 p.1 h r λx u E' w' B h1 z M=>?_)
   cases x with
   |normal=>exact Y T D.2 q.2 v.2 p.2 h1 z λx2 st2 E2 w2 a2 q1 q2 q3=>A x2 st2 E2 w2 a2 q1 q2 (M.trans q3)
   |exit i=>exact A (.exit i) u E' w' B h1 z M
   |ret=>exact A .ret u E' w' B h1 z M
  .rename_i cc J ta R;injection hc with S e2
   subst S;subst e2;simp only[er,zC6,qr]at D;simp only[zCD,qr]at q;simp only[tcN,qr]at p;obtain⟨aw,aq⟩:=h;refine wp_seq (X ha D.1 q.1 v.1 p.1 aw r λx u E' w' B h1 z M=>?_)
   cases x with
   |normal=>
    obtain⟨vs,H,V,q1,E1,q2⟩:=z.cut hG h1;exact Y T D.2 q.2 v.2 p.2 (aq _ _ _ q1) q2 λx2 st2 E2 w2 a2 r1 r2 r3=>A x2 st2 E2 w2 a2 r1 r2 (M.trans r3)
   |exit i=>exact A (.exit i) u E' w' B h1 z M
   |ret=>exact A .ret u E' w' B h1 z M
 |cond cv x y X Y=>
  intro F gs Q st QQ hc D q v p h E w a r A;simp only[zD]at hc;obtain⟨xv,hv,hc⟩:=za hc;obtain⟨xa,ha,hc⟩:=za hc;obtain⟨xb,T,hc⟩:=za hc;simp only[QK]at hc;cases F<;>simp only[er]at hc<;>first|(cases hc;done)|skip
  rename_i cx ta R;injection hc with e0 S e2
  subst e0;subst S;subst e2;simp only[er,zC6,qr]at D;simp only[zCD,qr]at q;simp only[tcN,qr]at p;simp only[WT]at h;obtain⟨β,s,kp,df⟩:=r.out;split at h
  .rename_i cb aj;have O:=(zC s.hf s.hg hv aj).of_bool;split at h
   .rename_i n;have ac:st.fr.get n=some (.bool cb):=aj;unfold brT at h;rcases zCI h with⟨rfl,z⟩|⟨rfl,z⟩
    .exact wp_cond_true O (X ha D.1 q.1 v.1 p.1 z (r.known ac) A)
    .exact wp_cond_false O (Y T D.2 q.2 v.2 p.2 z (r.known ac) A)
   .rcases zCI h with⟨rfl,z⟩|⟨rfl,z⟩
    .exact wp_cond_true O (X ha D.1 q.1 v.1 p.1 z r A)
    .exact wp_cond_false O (Y T D.2 q.2 v.2 p.2 z r A)
  .exact h.elim
 |block i b ih=>
  intro F gs Q st QQ hc D q v p h E w a r A;simp only[zD]at hc;obtain⟨xb,T,hc⟩:=za hc;simp only[QK]at hc;cases F<;>simp only[er]at hc<;>first|(cases hc;done)|skip
  rename_i j R;injection hc with e0 S
  subst e0;subst S;refine wp_block (ih T D q v p h r λx u E' w' B h1 z M=>?_)
  cases x with
  |normal=>exact A .normal u E' w' B h1 z M
  |ret=>exact A .ret u E' w' B h1 z M
  |exit j=>
   show(if j=i then QQ .normal B w' else QQ (.exit j) B w')
   simp only[zQX]at h1;split at h1
   .rename_i e;rw[if_pos (zb e)];exact A .normal u E' w' B h1 z M
   .rename_i e;rw[if_neg (zAq e)];exact A (.exit j) u E' w' B h1 z M
 |loop b ih=>
  intro F gs Q st QQ hc D q v p h E w a r A;simp only[zD]at hc;obtain⟨xb,T,hc⟩:=za hc;simp only[QK]at hc;cases F<;>simp only[er]at hc<;>first|(cases hc;done)|skip
  .rename_i cc I R _;injection hc with S
   subst S;obtain⟨⟨n0,h0⟩,ae⟩:=h;obtain⟨al,H0,V0,q1,E1,q2⟩:=r.cut hG h0;refine wp_loop_ghost (λn a1 w1=>∃vs H V E,I (n::gs) vs H V/\Rs G nt Z0 B0 w0 dl E w1 a1 (mkW cc vs H V)/\At pn a a1) n0 ⟨al,H0,V0,E1,q1,q2,.refl⟩ ?_
   rintro n a1 w1 ⟨vs,H,V,E2,k1,k2,k3⟩
   refine ih T D q v p (ae n _ _ _ k1) k2 λx u E' w' B h1 z M=>?_
   cases x with
   |normal=>
    obtain⟨n',ao,ai⟩:=h1;obtain⟨ak,H',V',q1,E3,q2⟩:=z.cut hG ai;exact⟨n',ao,ak,H',V',E3,q1,q2,k3.trans M⟩
   |exit i=>exact A (.exit i) u E' w' B h1 z (k3.trans M)
   |ret=>exact A .ret u E' w' B h1 z (k3.trans M)
  .rename_i k R _;injection hc with S
   subst S;refine wp_loop_ghost (λn a1 w1=>∃st E,zLE (λn Q st=>WT G tb R (n::gs) Q st) Q n st/\Rs G nt Z0 B0 w0 dl E w1 a1 st/\At pn a a1) k ⟨st,E,h,r,.refl⟩ ?_
   rintro n a1 w1 ⟨st1,E1,k1,k2,k3⟩
   cases n with
   |zero=>exact k1.elim
   |succ n=>
    refine ih T D q v p k1 k2 λx u E' w' B h1 z M=>?_
    cases x with
    |normal=>exact⟨n,QR n,u,E',h1,z,k3.trans M⟩
    |exit i=>exact A (.exit i) u E' w' B h1 z (k3.trans M)
    |ret=>exact A .ret u E' w' B h1 z (k3.trans M)
 |scope b ih=>
  intro F gs Q st QQ hc D q v p h E w a r A;simp only[zD]at hc;have T:=ih (QQ:=λe a w=>QQ e a w/\∃x,e=zQT x) hc D q v p h r λx u E' w' B h1 z M=>⟨A x u E' w' B h1 z M,x,rfl⟩
  intro b' k cs;obtain⟨e,a₁,w₁,⟨hq,x,rfl⟩,U⟩:=T b' (.inScope b::k) cs;cases x with
  |normal=>exact⟨.normal,a₁,w₁,hq,.head step_scope (Steps.trans U (.one step_inScope))⟩
  |exit id=>exact⟨.exit id,a₁,w₁,hq,λk' hk=>.head step_scope (U k' (by simpa[exitTo]using hk))⟩
  |ret=>exact⟨.ret,a₁,w₁,hq,.of_steps (.one step_scope) U⟩
 |refuse az=>
  intro F gs Q st QQ hc D q v p h E w a r A;simp only[zD,QK]at hc;cases F<;>simp only[er]at hc<;>first|(cases hc;done)|skip
  injection hc with e0 S e2
  subst e0;exact h.elim
 |_=>
  intro F gs Q st QQ hc;simp[zD]at hc
theorem zXR{x y:Code}{z:XC}(h:zWd P x y=some z):∃p m i D j W f d e,z=.seq p (.wN m i D j W f d e):=by
 unfold zWd at h;split at h
 .split at h
  .split at h
   .obtain⟨m,_,h⟩:=za h;obtain⟨b,_,h⟩:=za h;cases h;exact⟨_,_,_,_,_,_,_,_,_,rfl⟩
   .cases h
  .cases h
 .cases h
theorem zWC{f:TC}{m:XV}{h:Nat}{D:JV}{i W e:Nat}{d:List XOper}{b:XC}:er f≠.wN m h D i W e d b:=by
 cases f<;>simp[er]
theorem zUY(F:TbW P G tb)(X:GPP G)(hm:zAr P G)(v:P.follows .mixedOrders=true){pn:JV}:∀(c:Code){k:TC}{gs:JV}{Q:Ext->Sta->Prop}{st:Sta}{QQ:Exit->Act->World->Prop},zHj P c=some (er k)->zC6 nt (er k)=true->zCD k=true->tcH (HOK P G) k->tcN pn k=true->WT G tb k gs Q st->∀{E w a},Rs G nt Z0 B0 w0 dl E w a st →
  (∀x b E' w' l,Q x b->Rs G nt Z0 B0 w0 dl E' w' l b->At pn a l->QQ (zQT x) l w')->c.wp P QQ a w:=by
 intro c
 induction c with
 |seq x y B A=>
  intro k gs Q st QQ hc n f j d h E w a r o;simp only[zHj]at hc;split at hc
  .rename_i z hz;simp only[QK]at hc;subst hc;obtain⟨p,m,it,D,en,W,ab,aa,T,e⟩:=zXR hz;cases k<;>simp only[er]at e<;>first|(cases e;done)|skip
   .injection e with _ e2;exact(zWC e2).elim
   .injection e with _ e2;exact(zWC e2).elim
  obtain⟨xa,Y,hc⟩:=za hc;obtain⟨xb,U,hc⟩:=za hc;simp only[QK]at hc;cases k<;>simp only[er]at hc<;>first|(cases hc;done)|skip
  .rename_i ta M;injection hc with e1 e2
   subst e1;subst e2;simp only[er,zC6,qr]at n;simp only[zCD,qr]at f;simp only[tcN,qr]at d;refine wp_seq (B Y n.1 f.1 j.1 d.1 h r λx b E' w' l h1 q u=>?_)
   cases x with
   |normal=>exact A U n.2 f.2 j.2 d.2 h1 q λN st2 K R a2 q1 S q3=>o N st2 K R a2 q1 S (u.trans q3)
   |exit i=>exact o (.exit i) b E' w' l h1 q u
   |ret=>exact o .ret b E' w' l h1 q u
  .rename_i cc J ta M;injection hc with e1 e2
   subst e1;subst e2;simp only[er,zC6,qr]at n;simp only[zCD,qr]at f;simp only[tcN,qr]at d;obtain⟨I,O⟩:=h;refine wp_seq (B Y n.1 f.1 j.1 d.1 I r λx b E' w' l h1 q u=>?_)
   cases x with
   |normal=>
    obtain⟨vs,H,V,q1,E1,S⟩:=q.cut X h1;exact A U n.2 f.2 j.2 d.2 (O _ _ _ q1) S λN st2 K R a2 r1 r2 r3=>o N st2 K R a2 r1 r2 (u.trans r3)
   |exit i=>exact o (.exit i) b E' w' l h1 q u
   |ret=>exact o .ret b E' w' l h1 q u
 |_=>
  intro k gs Q st QQ hc n f j d h E w a r o;exact zXQ F X hm v _ (by simpa only[zHj]using hc) n f j d h r o
theorem zRV(s:SR G nt E w a β st):∀(d:Nat){v v':AV}{cv:Value},CP st.mv st.m v->VR E w v cv->zAJ st.H st.V d v=some v'->VR (zAI E β st.H st.V) w v' cv/\PP v':=by
 have n:∀{v:AV}{cv:Value},PP v->VR E w v cv->VR (zAI E β st.H st.V) w v cv:=λhp l=>VR.pp (E:=E) (E':=zAI E β st.H st.V) (w:=w) (w':=w) (λb Q=>⟨.inl Q,rfl⟩) l hp
 intro d
 induction d with
 |zero=>intro v v' cv _ _ h;cases h
 |succ d ih=>
  intro v v' cv O l h;have K:∀{F M:JE}{vs:JC},(∀e∈F,CP st.mv st.m e)->VRs E w F vs->zp (zAJ st.H st.V d) F=some M->VRs (zAI E β st.H st.V) w M vs/\∀e∈M,PP e:=λ{F M vs} hc A Y=>by
   obtain⟨m1,m2⟩:=zAz Y;have key:∀(i:Nat) y u,M[i]?=some y->vs[i]?=some u->VR (zAI E β st.H st.V) w y u/\PP y:=λi y u D I=>by
    have N:i<F.length:=by have:=(QC.1 D).1;omega
    have o:=QE N;exact ih (hc _ (QF o)) (A.2 i _ u o I) (m2 i _ y o D)
   refine⟨⟨m1.trans A.1,λi y u D I=>(key i y u D I).1⟩,λe B=>?_⟩
   obtain⟨i,N⟩:=List.getElem?_of_mem B;have T:i<vs.length:=by have:=(QC.1 N).1;have:=A.1;omega
   exact(key i e _ N (QE T)).2
  cases O with
  |sym j S=>
   simp only[zAJ]at h;split at h
   .rename_i sz es hV;cases h;have:frz st.H st.V 1 (.sym j)=some (.qo sz es):=by simp only[frz,hV]
    exact⟨zDt s 1 (.sym j S) l this,.qo _ _ (zDV s hV).1⟩
   .cases h
  |agg cs hc=>
   simp only[zAJ]at h;split at h
   .rename_i z p;cases h;obtain⟨vs,rfl,J,R⟩:=l.qX;obtain⟨g1,g2⟩:=K hc J p;exact⟨VR.qT g1 R,.agg _ g2⟩
   .cases h
  |qg cs hc=>
   simp only[zAJ]at h;split at h
   .rename_i z p;cases h;obtain⟨vs,rfl,J⟩:=l.w5;obtain⟨g1,g2⟩:=K hc J p;exact⟨VR.qI g1,.qg _ g2⟩
   .cases h
  |ptr hh off hk=>
   simp only[zAJ]at h;split at h
   .rename_i str cs hg;split at h
    .rename_i z p;cases h;have q:=Heap.qi hg;have W:=s.hr.obj _ q;obtain⟨vs,J,R,k3⟩:=zJG W;obtain⟨_,_,e1,aa⟩:=s.cH.get hg;cases e1;obtain⟨g1,g2⟩:=K aa J p;refine⟨?_,.qc _ _ (.agg _ g2)⟩
     cases l with
     |ptr _ _ hd=>
      have:=VR.qc (E:=zAI E β st.H st.V) (w:=w) (.agg z) off (E.ρ hh) 0 (.agg vs.toArray) rfl (.inr (.inl ⟨_,q,rfl⟩)) (VR.qT (by simpa using g1) (λv l=>R v (by simpa using l))) (λj c S=>by
       rw[QS];exact k3 j c (by simpa[Value.cells]using S))
      rw[QS]at this;exact this
    .cases h
   .cases h
  |iface t u I=>
   simp only[zAJ]at h;split at h
   .rename_i u' U;cases h;cases l with
    |iface _ _ cu X=>
     obtain⟨g1,g2⟩:=ih I X U;exact⟨.iface _ _ cu g1,.iface _ _ g2⟩
   .cases h
  |func f x y ha Q=>
   simp only[zAJ]at h;split at h
   .rename_i x' o;split at h
    .rename_i y' D;cases h;cases l with
     |func _ _ _ vf vc hf hc rf rc=>
      obtain⟨⟨g1,g2⟩,p1⟩:=K (vs:=vf.toList) ha ⟨by simpa using hf,λi x v o l=>rf i x v o (by simpa using l)⟩ o
      obtain⟨⟨g3,g4⟩,p2⟩:=K (vs:=vc.toList) Q ⟨by simpa using hc,λi x v o l=>rc i x v o (by simpa using l)⟩ D
      exact⟨.func _ _ _ vf vc (by simpa using g1) (by simpa using g3) (λi x v o l=>g2 i x v o (by simpa using l)) (λi x v o l=>g4 i x v o (by simpa using l)),.func _ _ _ p1 p2⟩
    .cases h
   .cases h
  |qc e off B=>cases h;exact⟨n (.qc _ _ B) l,.qc _ _ B⟩
  |qo sz es B=>cases h;exact⟨n (.qo _ _ B) l,.qo _ _ B⟩
  |bool b=>cases h;exact⟨n (.bool _) l,.bool _⟩
  |int k m=>cases h;exact⟨n (.int _ _) l,.int _ _⟩
  |str s=>cases h;exact⟨n (.str _) l,.str _⟩
  |qj=>cases h;exact⟨n .qj l,.qj⟩
  |qa=>cases h;exact⟨n .qa l,.qa⟩
  |qm=>cases h;exact⟨n .qm l,.qm⟩
  |ql=>cases h;exact⟨n .ql l,.ql⟩
  |qe=>cases h;exact⟨n .qe l,.qe⟩
  |_=>cases h
theorem zHX{n k:Nat}:∀{i:Nat}{args:JE},(∀x∈args,CP n k x)->zCx n k (qG i args)
 |i,[],h,t,v,e=>by cases e
 |i,x::r,h,t,v,e=>by
  simp only[qG,Fr.get]at e;split at e
  .cases e;exact h _ (.head _)
  .exact zHX (λy b=>h y (.tail _ b)) t v e
theorem zD2:∀h:TC,tcN [] h=true
 |.skip|.ret|.exit _=>rfl
 |.wA d=>by
  simp only[tcN,QD];intro t _;cases t.o.dst<;>rfl
 |.draw f d e=>by
  simp only[tcN,List.all_nil,QO,QD];intro t _;cases t.o.dst<;>rfl
 |.vb d e=>by
  simp only[tcN,QD];intro t _;cases t.o.dst<;>rfl
 |.qS d e=>by
  simp only[tcN,QD];intro t _;cases t.o.dst<;>rfl
 |.seq a b=>by simp only[tcN,zD2 a,zD2 b];rfl
 |.wi _ _ a b=>by simp only[tcN,zD2 a,zD2 b];rfl
 |.cond _ a b=>by simp only[tcN,zD2 a,zD2 b];rfl
 |.block _ b=>by simp only[tcN,zD2 b]
 |.loop _ _ b=>by simp only[tcN,zD2 b]
 |.qE _ b=>by simp only[tcN,zD2 b]
theorem zZ9{f:Nat}{xf:XF}{Y:TC}(hx:FnX P f xf)(J:xf.body=er Y)(au:zCD Y=true)(hG:GPP G)(hm:zAr P G)(ah:P.follows .mixedOrders=true)(aw:TbW P G tb)(ay:tcH (HOK P G) Y){args:JE}{v:AV}(aa:args.length=xf.np)(ak:∀x∈args,PP x)
  (h:WT G tb Y [] (zLi xf.res λu=>u=v) ⟨qG 0 args,[],[],0,0⟩):Enters P f/\∀H nx,FnT P G f args H nx v H nx:=by
 obtain⟨fn,aj,l,U⟩:=hx.ok;unfold compF at l;obtain⟨T,K,l⟩:=za l;obtain⟨xc,a6,l⟩:=za l;obtain⟨rs,a1,l⟩:=za l;split at l
 rotate_left
 .cases l
 rename_i O;rw[qr]at O;simp only[QK]at l;subst l;simp only at J aa h;subst J;have a8:fn.params.size+fn.nfree<=fn.ntmps:=QN O.2;refine⟨⟨fn,T,aj,K,U⟩,λH nx E w k R ai hg ba=>?_⟩
 have a7:k.size=args.length:=by rw[ai.1];simp
 have al:∀{x:AV}{cx:Value},PP x->VR E w x cx->VR ⟨E.ρ,λ_=>False,E.Z,E.σ⟩ w x cx:=λo hv=>VR.pp (E:=E) (E':=⟨E.ρ,λ_=>False,E.Z,E.σ⟩) (w:=w) (w':=w) (λb J=>⟨J,rfl⟩) hv o
 have s0:SR G fn.ntmps ⟨E.ρ,λ_=>False,E.Z,E.σ⟩ w { tmps:=k++Array.replicate (fn.ntmps-k.size) undef,defers:=[] } (λ_=>none) ⟨qG 0 args,[],[],0,0⟩:=by
  refine⟨⟨.nil,λp o=>by simp at o,λp o=>by simp at o,λp o=>by simp at o,λp o=>by simp at o,R.we⟩,⟨?_,λt u ht=>?_⟩,λg u W=>⟨al (hG g u W) (hg g u W).1,(hg g u W).2⟩,λh hh=>hh.elim,zHX λx hx=>(ak x hx).cp,λp o=>(by cases o),λj vi Q=>(by cases Q),λj j2 i off Q=>(by cases Q),λj vi b Q=>(by cases Q),λj j' vi bb b Q=>(by cases Q)⟩
  .simp;omega
  .obtain⟨i,rfl,hi⟩:=zKO ht;obtain⟨X,h1,h2⟩:=ai.getElem? hi;have h3:k[i]?=some X:=by simpa using h1
   have h4:=(Array.getElem?_eq_some_iff.1 h3).1;simp only[QS];rw[Array.getD_eq_getD_getElem?,Array.getElem?_append_left h4,h3];exact al (ak u (QF hi)) h2
 have r0:Rs G fn.ntmps E.Z (λ_=>False) w [] ⟨E.ρ,λ_=>False,E.Z,E.σ⟩ w { tmps:=k++Array.replicate (fn.ntmps-k.size) undef,defers:=[] } ⟨qG 0 args,[],[],0,0⟩:=by
  refine⟨_,s0,Kp.less λx hx=>?_,rfl⟩
  rcases hx with⟨p,o,_⟩|⟨j,vi,Q,_⟩
  .cases o
  .cases Q
 refine calls_of_wp aj K (zUY aw hG hm ah T a6 O.1 au ay (pn:=[]) (zD2 Y) h r0 λx d E' w' a' A r' _=>?_)
 obtain⟨β,s,M,df⟩:=r'.out;have ad:∀{x:Ext},(∀i,x≠.exit i)->zLi rs (λu=>u=v) x d->a'.defers=[]/\∃ae,(results fn a'.tmps).run P w'=.ok ae w'/\∃X E',(Ending.returned ae)=.returned X/\HR E' H w'/\Tr E H w E' H w' nx nx/\VR E' w' v X:=by
  intro x aq A;have:∃F,zES d.H d.fr rs=some F/\(match zAJ d.H d.V 8 (zA4 F)with|some v'=>v'=v|none=>False):=by
   cases x with
   |exit i=>exact absurd rfl (aq i)
   |normal=>
    unfold zLi zLh at A;simp only at A;split at A
    .rename_i F I;exact⟨F,I,A⟩
    .exact A.elim
   |ret=>
    unfold zLi zLh at A;simp only at A;split at A
    .rename_i F I;exact⟨F,I,A⟩
    .exact A.elim
  obtain⟨F,I,A⟩:=this;obtain⟨X,e1,e2⟩:=zKa s.hr s.hf a1 I;split at A
  rotate_left
  .exact A.elim
  rename_i v' az;subst A;have ao:CP d.mv d.m (zA4 F):=by
   have af:∀{rs:List XR}{F:JE},zES d.H d.fr rs=some F->∀u∈F,CP d.mv d.m u:=by
    intro rs
    induction rs with
    |nil=>intro F h u hu;cases h;cases hu
    |cons q qs ih=>
     intro F h u hu;simp only[zES]at h;split at h
     .rename_i z B;split at h
      .rename_i zs ar;cases h;rcases QG.1 hu with rfl|hu
       .cases q with
        |t n=>exact s.qY n _ B
        |cell n sz ag=>
         simp only[zPC]at B;split at B
         .rename_i ab ax;exact zMv s.cH (s.qY n ab ax) B
         .cases B
       .exact ih ar u hu
      .cases h
     .cases h
   have S:=af I;cases F with
   |nil=>exact .qg _ λe he=>by cases he
   |cons u us=>
    cases us with
    |nil=>exact S u (.head _)
    |cons u2 us=>exact .qg _ S
  obtain⟨k1,k2⟩:=zRV s 8 ao e2 az;have hZ:∀z,(zAI E' β d.H d.V).Z z->E.Z z\/w.heap.size<=z:=by
   rintro z (B|B)
   .rcases M.qP z B with h|h|h
    .exact .inl h
    .exact h.elim
    .exact .inr h
   .rcases M.own z B with h|h
    .exact h.elim
    .exact .inr h
  have ac:∀z,(zAI E' β d.H d.V).Z z->z<w'.heap.size:=by
   rintro b (J|⟨p,o,rfl⟩|⟨j,vi,q1,q2,q3⟩)
   .exact s.hr.we b J
   .exact s.hr.lt o
   .exact(s.qR j vi q1).2.lt q2 q3
  have N:∀x,x<w.heap.size->w'.heap[x]? = w.heap[x]?:=λx hx=>M.wh x hx λh=>h
  refine⟨df,X,e1,X,⟨E.ρ,E.D,(zAI E' β d.H d.V).Z,E.σ⟩,rfl,⟨R.nodup,R.qx,R.inj,λp o=>?_,λp o B=>?_,ac⟩,⟨QA _,λ_ _=>rfl,λh=>⟨.inl,λh=>h.elim id λ⟨x,y⟩=>by omega⟩,λz B=>.inl (M.qH z B),λz B=>(hZ z B).imp id .inr,λp o=>.inl ⟨p,o,rfl⟩,M.tape,M.os,M.output,M.size,λx hx _=>N x hx,M.qn,rfl⟩,?_⟩
  .refine(R.obj p o).mono (N _ (R.lt o)) λhv=>?_
   exact VR.mono (E:=E) (E':=⟨E.ρ,E.D,(zAI E' β d.H d.V).Z,E.σ⟩) (λ_ h=>⟨h,rfl⟩) (λb J=>⟨.inl (M.qH b J),N b (R.we b J)⟩) M.qn hv
  .rcases hZ _ B with h|h
   .exact R.nz p o h
   .have:=R.lt o;have h:w.heap.size<=E.ρ p.1:=h;omega
  .exact VR.pp (E:=zAI E' β d.H d.V) (E':=⟨E.ρ,E.D,(zAI E' β d.H d.V).Z,E.σ⟩) (w:=w') (w':=w') (λb J=>⟨J,rfl⟩) k1 k2
 cases x with
 |normal=>exact ad (λi e=>by cases e) A
 |ret=>exact ad (λi e=>by cases e) A
 |exit i=>exact A.elim
end
section
variable{P:Program}{G:Cx}{tb:TblS}
theorem zLb{fr:Fr}:∀{pn:JV}{i0:Nat},zGg fr i0 pn=true->∀(j t:Nat),pn[j]?=some t->fr.get t=some (.ptr (i0+j) 0)
 |[],i0,h,j,t,e=>by simp at e
 |t0::r,i0,h,j,t,e=>by
  simp only[zGg,qr]at h;obtain⟨h1,b⟩:=h;cases j with
  |zero=>
   simp only[List.getElem?_cons_zero,QK]at e;subst e;split at h1
   .rename_i f d;rw[d,zb h1];rfl
   .cases h1
  |succ j=>
   have:=zLb b j t (by simpa using e)
   rw[this];congr 2;omega
theorem zSK{E:Env}{w:World}{h o:Nat}{cv:Value}(b:VR E w (.ptr h o) cv):cv=.pointer (some ⟨E.ρ h,o,none⟩):=by
 cases b;rfl
theorem zOo{n k:Nat}{H:Heap}{fr:Fr}(i:zCx n k fr)(hH:HCP n k H):∀{rs:List XR}{vs:JE},zES H fr rs=some vs->∀u∈vs,CP n k u:=by
 intro rs
 induction rs with
 |nil=>intro vs h u d;cases h;cases d
 |cons q v l=>
  intro vs h u d;simp only[zES]at h;split at h
  .rename_i z b;split at h
   .rename_i o f;cases h;rcases QG.1 d with rfl|d
    .cases q with
     |t n=>exact i n _ b
     |cell n p x=>
      simp only[zPC]at b;split at b
      .rename_i j e;exact zMv hH (i n j e) b
      .cases b
    .exact l f u d
   .cases h
  .cases h
theorem zMC{n k:Nat}{vs:JE}(h:∀u∈vs,CP n k u):CP n k (zA4 vs):=by
 cases vs with
 |nil=>exact .qg _ λe d=>by cases d
 |cons u b=>
  cases b with
  |nil=>exact h u (.head _)
  |cons f b=>exact .qg _ h
theorem zY9{f:Nat}{xf:XF}{S:TC}(hx:FnX P f xf)(hb:xf.body=er S)(ai:zCD S=true)(hG:GPP G)(hm:zAr P G)(ab:P.follows .mixedOrders=true)(aj:TbW P G tb)(aq:tcH (HOK P G) S){gr:JN}{pn:JV}(ax:tcN pn S=true)
  {args:JE} {H:Heap} {V:Vecs} {v:AV} {H2:Heap} {V2:Vecs} (U:args.length=xf.np) (ao:pn.length=H.length) (ay:zGg (qG 0 args) 0 pn=true)
  (h:WT G tb S [] (zTl gr xf.res pn λu H' V'=>u=v/\H'=H2/\V'=V2) ⟨qG 0 args,H,V,H.length,V.length⟩):Enters P f/\HFn P G f args H V v H2 V2:=by
 obtain⟨fn,ad,k,O⟩:=hx.ok;unfold compF at k;obtain⟨J,y,k⟩:=za k;obtain⟨xc,az,k⟩:=za k;obtain⟨rs,au,k⟩:=za k;split at k
 rotate_left
 .cases k
 rename_i A;rw[qr]at A;simp only[QK]at k;subst k;simp only at hb U h;subst hb;have a7:fn.params.size+fn.nfree<=fn.ntmps:=QN A.2;refine⟨⟨fn,J,ad,y,O⟩,λE w β d s ac af=>?_⟩
 have a6:d.size=args.length:=by rw[ac.1];simp
 have I:FrR E w (qG 0 args) { tmps:=d++Array.replicate (fn.ntmps-d.size) undef,defers:=[] } fn.ntmps:=by
  refine⟨?_,λt u ht=>?_⟩
  .simp;omega
  .obtain⟨i,rfl,hi⟩:=zKO ht;obtain⟨B,h1,h2⟩:=ac.getElem? hi;have h3:d[i]?=some B:=by simpa using h1
   have h4:=(Array.getElem?_eq_some_iff.1 h3).1;simp only[QS];rw[Array.getD_eq_getD_getElem?,Array.getElem?_append_left h4,h3];exact h2
 have s0:SR G fn.ntmps E w { tmps:=d++Array.replicate (fn.ntmps-d.size) undef,defers:=[] } β ⟨qG 0 args,H,V,H.length,V.length⟩:=
  ⟨s.hr,I,s.hg,s.qx,zHX af,s.cH,s.qR,s.vp,s.bz,s.qQ⟩
 have r0:Rs G fn.ntmps E.Z (BS E β H V) w [] E w { tmps:=d++Array.replicate (fn.ntmps-d.size) undef,defers:=[] } ⟨qG 0 args,H,V,H.length,V.length⟩:=⟨β,s0,Kp.refl,rfl⟩;refine calls_of_wp ad y (zUY aj hG hm ab J az A.1 ai aq ax h r0 λx T a1 w' a' l ak ar=>?_)
 obtain⟨E',r'⟩:=Rs.grow hG (g:=gr) ak;unfold zTl at l;generalize zCy gr T=j at *;obtain⟨β',F,kp,df⟩:=r'.out;have W:∀{x:Ext},(∀i,x≠.exit i)->zJW rs pn (λu H' V'=>u=v/\H'=H2/\V'=V2) x j->a'.defers=[]/\∃aa,(results fn a'.tmps).run P w'=.ok aa w' ∧
   ∃B E' β',(Ending.returned aa)=.returned B/\VR E' w' v B/\(∀p∈H2,p.1<H.length->E'.ρ p.1=E.ρ p.1)/\SR G 0 E' w' { tmps:=#[],defers:=[] } β' ⟨[],H2,V2,H2.length,V2.length⟩/\Kp E.Z (BS E β H V) w E'.Z (BS E' β' H2 V2) w':=by
  intro x ag l;have:∃o,zES j.H j.fr rs=some o/\(match zWe (zA4 o)with
    |false=>match zAU 8 (zA4 o)||!zGg j.fr 0 pn with
     |false=>zCu (List.range pn.length) (zCH j.H (List.range pn.length) []) [] j λ_ H V=>(zA4 o)=v/\H=H2/\V=V2
     |true=>False
    |true=>match zGg j.fr 0 pn with
     |true=>zCu (List.range pn.length++zLC pn.length (zA4 o)) (zCH j.H (List.range pn.length++zLC pn.length (zA4 o)) (zE5 8 (zA4 o) [])) [zA4 o] j λus H V=>match us with
      |[u]=>u=v/\H=H2/\V=V2
      |_=>False
     |false=>False):=by
   cases x with
   |exit i=>exact absurd rfl (ag i)
   |normal=>
    unfold zJW zLh at l;simp only at l;split at l
    .rename_i o q;exact⟨o,q,l⟩
    .exact l.elim
   |ret=>
    unfold zJW zLh at l;simp only at l;split at l
    .rename_i o q;exact⟨o,q,l⟩
    .exact l.elim
  obtain⟨o,q,l⟩:=this;obtain⟨B,e1,e2⟩:=zKa F.hr F.hf au q;have K:∀{hm nw:JV}{sm:JV}{H3:Heap}{V3:Vecs},zGg j.fr 0 pn=true->hm=List.range pn.length++nw->CanV hm sm j H3 V3->∀p∈H3,p.1<H.length->(zV E' hm sm).ρ p.1=E.ρ p.1:=λ{hm nw sm H3 V3} n aw cn p hp D=>by
   subst aw;rw[←ao]at D;have R:=QE D;have f1:=zSK (I.get _ _ (zLb ay p.1 _ R));have f2:=zSK (F.hf.get _ _ (zLb n p.1 _ R));have f3:=ar _ (QF R);rw[f1,f2]at f3;simp only[QS,Value.pointer.injEq,QK,Addr.mk.injEq,and_true]at f3;show E'.ρ ((List.range pn.length++nw).getD p.1 0)=E.ρ p.1
   rw[List.getD_eq_getElem?_getD,Qp (by rw[List.length_range];exact D),List.getElem?_range D]
   exact f3
  split at l
  .split at l
   rotate_left
   .exact l.elim
   rename_i z;rw[Bool.or_eq_false_iff]at z;obtain⟨hh,n⟩:=z;simp only[Bool.not_eq_false']at n;obtain⟨ah,H3,V3,⟨q1,q2,q3⟩,cn,_,_,_,N,Q⟩:=zIw hG F (vs0:=[]) (cvs:=[]) (λv hv=>by cases hv) ⟨rfl,λi x u hx=>by simp at hx⟩ l
   subst q2;subst q3;have X:PP v:=q1▸zHn 8 (zMC (zOo F.qY F.cH q)) hh
   rw[q1]at e2;exact⟨df,B,e1,B,_,_,rfl,VR.pp (E:=E') (E':=zV E' _ _) (w:=w') (w':=w') (λb hb=>⟨hb,rfl⟩) e2 X,K n (List.append_nil _).symm cn,N 0 { tmps:=#[],defers:=[] } [] ⟨rfl,λt v h=>by cases h⟩ (λt v h=>by cases h),kp.trans Q⟩
  .split at l
   rotate_left
   .exact l.elim
   rename_i n;have ae:∀u∈[zA4 o],CP j.mv j.m u:=λu hu=>by
    rw[QY.1 hu];exact zMC (zOo F.qY F.cH q)
   have Y:VRs E' w' [zA4 o] [B]:=⟨rfl,λi x u hx hu=>by
    cases i with
    |zero=>cases hx;cases hu;exact e2
    |succ i=>simp at hx⟩
   obtain⟨ah,H3,V3,M,cn,_,al,_,N,Q⟩:=zIw hG F ae Y l;split at M
   rotate_left
   .exact M.elim
   rename_i u;obtain⟨rfl,rfl,rfl⟩:=M;exact⟨df,B,e1,B,_,_,rfl,al.2 0 _ _ rfl rfl,K n rfl cn,N 0 { tmps:=#[],defers:=[] } [] ⟨rfl,λt v h=>by cases h⟩ (λt v h=>by cases h),kp.trans Q⟩
 cases x with
 |normal=>exact W (λi e=>by cases e) l
 |ret=>exact W (λi e=>by cases e) l
 |exit i=>exact l.elim
end
def zWg(β:Type):Type:=Option β
def gd{β:Type}(b:Bool)(x:Option β):Option β:=(match b with
 |true=>x
 |false=>none:zWg β)
def br{β:Type}(b:Bool)(x y:Option β):Option β:=(match b with
 |true=>x
 |false=>y:zWg β)
def bd{α β:Type}(o:Option α)(f:α->Option β):Option β:=(match o with
 |some a=>f a
 |none=>none:zWg β)
inductive D where
 |v (k:K)
 |hc (h:Nat) (str:Bool) (n:Nat)
 |vec (j sz:Nat)
 |mp (j:Nat)
 |uQ (j:Nat) (es:List (AV×AV))
 |vn (j sz n:Nat)
abbrev DT(β:Type):List D->Type
 |[]=>Option β
 |.v .b::r=>Bool->DT β r
 |.v (.i _)::r=>Int->DT β r
 |.v .s::r=>List Nat->DT β r
 |.v (.l _)::r=>List AV->DT β r
 |.v .av::r=>AV->DT β r
 |.v (.c _)::r=>DT β r
 |.v (.agg _)::r=>DT β r
 |.v (.qg _)::r=>DT β r
 |.v (.ep _)::r=>DT β r
 |.v (.uR _)::r=>DT β r
 |.hc _ _ _::r=>DT β r
 |.vec _ _::r=>List AV->DT β r
 |.mp _::r=>List (AV×AV)->DT β r
 |.uQ _ _::r=>DT β r
 |.vn _ _ _::r=>DT β r
def zLO:List (AV×AV)->JE
 |[]=>[]
 |(k,v)::r=>k::v::zLO r
def din{β:Type}:(f:Bool)->(ds:List D)->DT β ds->JE->Heap->Vecs->Option β
 |f,[],P,d,H,V=>match d with
  |[]=>match H with
   |[]=>match V with
    |[]=>P
    |_=>none
   |_=>none
  |_=>none
 |f,.v .b::r,P,d,H,V=>match d with
  |.bool b::d=>din f r (P b) d H V
  |_=>none
 |f,.v (.i k)::r,P,d,H,V=>match d with
  |.int J n::d=>match zC9 k J with
   |true=>din f r (P n) d H V
   |false=>none
  |_=>none
 |f,.v .s::r,P,d,H,V=>match d with
  |.str s::d=>din f r (P s) d H V
  |_=>none
 |f,.v (.l A)::r,P,d,H,V=>match d with
  |.qo o p::d=>match Nat.beq A o with
   |true=>din f r (P p) d H V
   |false=>none
  |.qa::d=>match f with
   |true=>din f r (P []) d H V
   |false=>none
  |_=>none
 |f,.v .av::r,P,d,H,V=>match d with
  |v::d=>din f r (P v) d H V
  |_=>none
 |f,.v (.c v)::r,P,d,H,V=>match d with
  |u::d=>match qW 20 u v with
   |true=>din f r P d H V
   |false=>none
  |_=>none
 |f,.v (.agg n)::r,P,d,H,V=>match d with
  |.agg q::d=>match Nat.beq q.length n with
   |true=>din f r P (q++d) H V
   |false=>none
  |_=>none
 |f,.v (.qg n)::r,P,d,H,V=>match d with
  |.qg q::d=>match Nat.beq q.length n with
   |true=>din f r P (q++d) H V
   |false=>none
  |_=>none
 |f,.v (.ep off)::r,P,d,H,V=>match d with
  |.qc e y::d=>match Nat.beq off y with
   |true=>din f r P (e::d) H V
   |false=>none
  |_=>none
 |f,.v (.uR t)::r,P,d,H,V=>match d with
  |.iface F e::d=>match Nat.beq t F with
   |true=>din f r P (e::d) H V
   |false=>none
  |_=>none
 |f,.hc h str n::r,P,d,H,V=>match d with
  |[]=>match H with
   |(I,.cells z q)::H=>match Nat.beq h I&&str==z&&Nat.beq q.length n with
    |true=>din false r P q H V
    |false=>none
   |_=>none
  |_=>none
 |f,.vec j A::r,P,d,H,V=>match d with
  |[]=>match V with
   |(x,.vec o p)::V=>match Nat.beq j x&&Nat.beq A o with
    |true=>din false r (P p) [] H V
    |false=>none
   |_=>none
  |_=>none
 |f,.mp j::r,P,d,H,V=>match d with
  |[]=>match V with
   |(x,.mp p)::V=>match Nat.beq j x with
    |true=>din false r (P p) [] H V
    |false=>none
   |_=>none
  |_=>none
 |f,.uQ j B::r,P,d,H,V=>match d with
  |[]=>match V with
   |(x,.mp p)::V=>match Nat.beq j x&&qW 20 (.agg (zLO p)) (.agg (zLO B))with
    |true=>din false r P [] H V
    |false=>none
   |_=>none
  |_=>none
 |f,.vn j A n::r,P,d,H,V=>match d with
  |[]=>match V with
   |(x,.vec o p)::V=>match Nat.beq j x&&(Nat.beq A o&&Nat.beq p.length n)with
    |true=>din false r P p H V
    |false=>none
   |_=>none
  |_=>none
def zD9{β:Type}:(ds:List D)->(JE->Heap->Vecs->Option β)->DT β ds
 |[],F=>F [] [] []
 |.v .b::r,F=>λb=>zD9 r λd H V=>F (.bool b::d) H V
 |.v (.i k)::r,F=>λn=>zD9 r λd H V=>F (.int k n::d) H V
 |.v .s::r,F=>λs=>zD9 r λd H V=>F (.str s::d) H V
 |.v (.l o)::r,F=>λf=>zD9 r λd H V=>F (.qo o f::d) H V
 |.v .av::r,F=>λv=>zD9 r λd H V=>F (v::d) H V
 |.v (.c v)::r,F=>zD9 r λd H V=>F (v::d) H V
 |.v (.agg n)::r,F=>zD9 r λd H V=>F (.agg (d.take n)::d.drop n) H V
 |.v (.qg n)::r,F=>zD9 r λd H V=>F (.qg (d.take n)::d.drop n) H V
 |.v (.ep off)::r,F=>zD9 r λd H V=>match d with
  |e::d=>F (.qc e off::d) H V
  |[]=>none
 |.v (.uR t)::r,F=>zD9 r λd H V=>match d with
  |e::d=>F (.iface t e::d) H V
  |[]=>none
 |.hc h str n::r,F=>zD9 r λd H V=>F [] ((h,.cells str d)::H) V
 |.vec j o::r,F=>λf=>zD9 r λd H V=>F d H ((j,.vec o f)::V)
 |.mp j::r,F=>λf=>zD9 r λd H V=>F d H ((j,.mp f)::V)
 |.uQ j f::r,F=>zD9 r λd H V=>F d H ((j,.mp f)::V)
 |.vn j o n::r,F=>zD9 r λd H V=>F [] H ((j,.vec o d)::V)
def dK{β:Type}(d:Bool)(b:List K)(o:JF)(f:DT β (b.map .v)):Option β:=match o with
 |some v=>din d (b.map .v) f [v] [] []
 |none=>none
def dko{β:Type}(b:List K)(k:AV->Option β):DT β (b.map .v):=zD9 (b.map .v) λd _ _=>match d with
 |[v]=>k v
 |_=>none
def dD{β:Type}(b:Bool)(ds:List D)(o:Option (AV×Heap×Vecs))(f:DT β ds):Option β:=match o with
 |some (v,H,V)=>din b ds f [v] H V
 |none=>none
def ddo{β:Type}(ds:List D)(k:AV->Heap->Vecs->Option β):DT β ds:=zD9 ds λb H V=>match b with
 |[v]=>k v H V
 |_=>none
def zaa:List K->List K
 |.qg 1::r=>r
 |b=>b
abbrev TbF:=List (Nat×(JE->JF))
def zGv:TbF->Nat->Option (JE->JF)
 |[],_=>none
 |s::r,f=>match Nat.beq f s.1 with
  |true=>some s.2
  |false=>zGv r f
def zPJ{β:Type}(d:Bool)(tb:TbF)(f:Nat)(args:JE)(b:List K)(k:AV->Option β):Option β:=
 match zGv tb f with
 |some g=>match b with
  |[]=>bd (g args) k
  |_=>dK d b (g args) (dko b k)
 |none=>none
def zPS{β:Type}(b:Bool)(tb:TbF)(f:Nat)(args:JE)(d:List K)(st:Sta)(k:AV->Sta->Option β):Option β:=
 match args.any (zAU 8)with
 |false=>zPJ b tb f args d λv=>k v st
 |true=>match zp (frz st.H st.V 8) args with
  |some args=>zPJ b tb f args d λv=>match zBe 8 v with
   |true=>k v st
   |false=>none
  |none=>none
def zNG{β:Type}(n:Int)(lo b:JF)(k:Int->Int->Option β):Option β:=
 match lo with
 |none=>match b with
  |none=>k 0 n
  |some (.int _ h)=>gd (decide (0<=h/\h<=n)) (k 0 h)
  |_=>none
 |some (.int _ l)=>match b with
  |none=>gd (decide (0<=l/\l<=n)) (k l n)
  |some (.int _ h)=>gd (decide (0<=l/\l<=h/\h<=n)) (k l h)
  |_=>none
 |_=>none
abbrev FXd{β:Type}(st:Sta)(x:Option Out)(k:AV->Sta->Option β):Option β:=match x with
 |some (v,H,m)=>k v ⟨st.fr,H,st.V,m,st.mv⟩
 |none=>none
def zJe{β:Type}(n:Int):Nat->(Nat->Option β)->Option β
 |0,_=>none
 |m+1,k=>br (decide (n=.ofNat m)) (k m) (zJe n m k)
def zam:List K->Bool
 |[.qg 0]=>true
 |_=>false
def lkB{β:Type}(e:Bool)(kd:List Kd)(d:AV):List (AV×AV)->(JF->Option β)->Option β
 |[],k=>k none
 |(j,v)::r,k=>match eqk e kd d j with
  |some b=>br b (k (some v)) (lkB e kd d r k)
  |none=>none
def zZw:AV->Option Bool
 |.qe=>some true
 |.iface _ _=>some false
 |_=>none
def fop{β:Type}(O:Bool)(G:Cx)(tb:TbF)(st:Sta)(o:XO)(A:List K)(k:AV->Sta->Option β):Option β:=
 match o with
 |.bin op x y=>match x.ev G st.fr with
  |some (.str a)=>match op with
   |.add=>match y.ev G st.fr with
    |some (.str b)=>gd (decide (a.length+b.length<=zf)) (k (.str (a++b)) st)
    |_=>none
   |op=>FXd st (xoS G zd st.fr st.H st.m (.bin op x y)) k
  |some (.int D a)=>match op with
   |.quo=>match y.ev G st.fr with
    |some (.int T b)=>match zC9 D T with
     |true=>gd (decide (b≠0)) (k (.int D (wrapx D (a.tdiv b))) st)
     |false=>none
    |_=>none
   |.rem=>match y.ev G st.fr with
    |some (.int T b)=>match zC9 D T with
     |true=>gd (decide (b≠0)) (k (.int D (a.tmod b)) st)
     |false=>none
    |_=>none
   |.shl=>match y.ev G st.fr with
    |some (.int _ b)=>gd (decide (0<=b)) (k (.int D (wrapx D (a*2 ^ (Min.min b.toNat D.bits)))) st)
    |_=>none
   |.shr=>match y.ev G st.fr with
    |some (.int _ b)=>gd (decide (0<=b)) (k (.int D (a.fdiv (2 ^ (Min.min b.toNat D.bits)))) st)
    |_=>none
   |op=>FXd st (xoS G zd st.fr st.H st.m (.bin op x y)) k
  |_=>none
 |.qW neg kd x y=>match x.ev G st.fr with
  |some (.agg a)=>match y.ev G st.fr with
   |some (.agg b)=>match eqv kd a b with
    |some r=>k (zBu neg r) st
    |none=>none
   |_=>none
  |_=>none
 |.pick c a b=>match c.ev G st.fr with
  |some (.bool Y)=>match c with
   |.t n=>br Y (match a.ev G st.fr with
     |some v=>k v ⟨st.fr.put n (.bool true),st.H,st.V,st.m,st.mv⟩
     |none=>none) (match b.ev G st.fr with
     |some v=>k v ⟨st.fr.put n (.bool false),st.H,st.V,st.m,st.mv⟩
     |none=>none)
   |_=>FXd st (xoS G zd st.fr st.H st.m (.pick c a b)) k
  |_=>none
 |.wP x i=>match x.ev G st.fr with
  |some (.str s)=>match i.ev G st.fr with
   |some (.int _ n)=>bd (ixN s n) λc=>k (.int .u8 (.ofNat c)) st
   |_=>none
  |_=>none
 |.wJ x lo J=>match x.ev G st.fr with
  |some (.str s)=>match evo G st.fr lo with
   |some lo=>match evo G st.fr J with
    |some J=>zNG (.ofNat s.length) lo J λl h=>k (.str ((s.take h.toNat).drop l.toNat)) st
    |none=>none
   |none=>none
  |_=>none
 |.wy x lo J W q=>match x.ev G st.fr with
  |some (.qo B d)=>match Nat.beq q B with
   |true=>match W with
    |none=>match evo G st.fr lo with
     |some lo=>match evo G st.fr J with
      |some J=>zNG (.ofNat d.length) lo J λl h=>k (.qo q ((d.take h.toNat).drop l.toNat)) st
      |none=>none
     |none=>none
    |some _=>none
   |false=>none
  |some .qa=>FXd st (xoS G zd st.fr st.H st.m (.wy x lo J W q)) k
  |_=>none
 |.qB x i q=>match x.ev G st.fr with
  |some (.qo B d)=>match Nat.beq q B with
   |true=>match i.ev G st.fr with
    |some (.int _ n)=>match zam A with
     |true=>zJe n d.length λm=>bd d[m]? λv=>k (.qc v 0) st
     |false=>dK O A (ixN d n) (dko A λv=>k (.qc v 0) st)
    |_=>none
   |false=>none
  |some (.sym j)=>match st.V.get j with
   |some (.vec B d)=>match Nat.beq q B with
    |true=>match i.ev G st.fr with
     |some (.int _ n)=>gd (decide (0<=n/\n<.ofNat d.length)) (k (.sym st.mv) ⟨st.fr,st.H,(st.mv,.qU j n.toNat 0)::st.V,st.m,st.mv+1⟩)
     |_=>none
    |false=>none
   |_=>none
  |some (.row _ _ l _ _ _)=>match i.ev G st.fr with
   |some (.int kd n)=>zJe n l λm=>FXd st (xoS G zd st.fr st.H st.m (.qB x (.c (.int kd (.ofNat m))) q)) k
   |_=>none
  |_=>none
 |.wb x=>match x.ev G st.fr with
  |some (.sym j)=>match st.V.get j with
   |some (.vec _ d)=>k (.int .i64 (.ofNat d.length)) st
   |some (.dn n)=>k (.int .i64 (.ofNat n)) st
   |_=>none
  |_=>FXd st (xoS G zd st.fr st.H st.m (.wb x)) k
 |.load x q F=>match isC A,x.ev G st.fr with
  |true,some (.qc _ _)=>FXd st (xoS G zd st.fr st.H st.m (.load x q F)) k
  |true,_=>none
  |false,some (.sym p)=>match st.V.get p with
   |some (.qU j i off)=>match st.V.get j with
    |some (.vec _ d)=>dK O A (ldE d i off q F) (dko A λv=>k v st)
    |_=>none
   |_=>none
  |false,_=>FXd st (xoS G zd st.fr st.H st.m (.load x q F)) k
 |.qC x off=>match x.ev G st.fr with
  |some (.sym p)=>match st.V.get p with
   |some (.qU j i o)=>match st.V.get j with
    |some (.vec _ _)=>k (.sym st.mv) ⟨st.fr,st.H,(st.mv,.qU j i (o+off))::st.V,st.m,st.mv+1⟩
    |_=>none
   |_=>none
  |_=>FXd st (xoS G zd st.fr st.H st.m (.qC x off)) k
 |.store x y q=>match x.ev G st.fr with
  |some (.sym p)=>match st.V.get p with
   |some (.qU j i off)=>match st.V.get j with
    |some (.vec B d)=>match y.ev G st.fr with
     |some v=>match Nat.beq off 0&&Nat.beq q B&&ppS 12 v with
      |true=>match cellsOf v q with
       |some _=>k (.qg []) ⟨st.fr,st.H,(j,.vec B (d.set i v))::st.V.del j,st.m,st.mv⟩
       |none=>none
      |false=>none
     |none=>none
    |_=>none
   |_=>none
  |_=>FXd st (xoS G zd st.fr st.H st.m (.store x y q)) k
 |.vJ x=>match x.ev G st.fr with
  |some (.str s)=>k (.sym st.mv) ⟨st.fr,st.H,(st.mv,.vec 1 (s.map λb=>.int .u8 (.ofNat b)))::st.V,st.m,st.mv+1⟩
  |_=>none
 |.vB x=>match x.ev G st.fr with
  |some (.sym j)=>match st.V.get j with
   |some (.vec q d)=>match Nat.beq q 1 with
    |true=>bd (zAZ d) λs=>k (.str s) st
    |false=>none
   |_=>none
  |some (.qo q d)=>match Nat.beq q 1 with
   |true=>bd (zAZ d) λs=>k (.str s) st
   |false=>none
  |some .qa=>k (.str []) st
  |_=>none
 |.qy len q z N=>match A with
  |[]=>match zAC G st.fr z N with
   |some U=>match Nat.beq U.length (len*q)with
    |true=>match zCt q len U with
     |some d=>match d.all (ppS 12)with
      |true=>k (.sym st.mv) ⟨st.fr,st.H,(st.mv,.vec q d)::st.V,st.m,st.mv+1⟩
      |false=>none
     |none=>none
    |false=>none
   |none=>none
  |.c _::_=>match bsL G st.fr len q z N with
   |some d=>k (.qo q d) st
   |none=>none
  |_=>FXd st (xoS G zd st.fr st.H st.m (.qy len q z N)) k
 |.qM l c q bytes z=>match l.ev G st.fr with
  |some (.int _ n)=>match c.ev G st.fr with
   |some (.int _ c)=>match zCt q 1 z,Nat.beq z.length q with
    |some [e],true=>gd (decide (0<=n/\n<=c/\c.toNat*bytes<=zc/\c.toNat<=zc))
     (k (.sym st.mv) ⟨st.fr,st.H,(st.mv,.vec q (List.replicate n.toNat e))::st.V,st.m,st.mv+1⟩)
    |_,_=>none
   |_=>none
  |_=>none
 |.append x y q bytes=>match zHP y with
  |true=>none
  |false=>match x.ev G st.fr with
   |some v=>match y.ev G st.fr with
    |some u=>match zAO st.H q u with
     |some I=>match zIp u||ppS 12 (.agg I)with
      |true=>match v with
       |.qa=>gd (decide (I.length*bytes<=zc)) (k (.sym st.mv) ⟨st.fr,st.H,(st.mv,.vec q I)::st.V,st.m,st.mv+1⟩)
       |.sym j=>match st.V.get j with
        |some (.vec B d)=>match Nat.beq q B with
         |true=>match zZs A with
          |true=>gd (decide ((d.length+I.length)*bytes<=zc/\d.length+I.length<=zc)) (k (.sym st.mv) ⟨st.fr,st.H,(j,.dn d.length)::(st.mv,.vec q (d++I))::st.V.del j,st.m,st.mv+1⟩)
          |false=>gd (decide ((d.length+I.length)*bytes<=zc/\d.length+I.length<=zc)) (k (.sym st.mv) ⟨st.fr,st.H,(st.mv,.vec q (d++I))::st.V.del j,st.m,st.mv+1⟩)
         |false=>none
        |_=>none
       |_=>none
      |false=>none
     |none=>none
    |none=>none
   |none=>none
 |.wc x i l s a=>match A with
  |[]=>FXd st (xoS G zd st.fr st.H st.m (.wc x i l s a)) k
  |_=>match i.ev G st.fr with
   |some (.int kd n)=>zJe n l λm=>FXd st (xoS G zd st.fr st.H st.m (.wc x (.c (.int kd (.ofNat m))) l s a)) k
   |_=>none
 |.qz x i l s=>match A with
  |[]=>FXd st (xoS G zd st.fr st.H st.m (.qz x i l s)) k
  |_=>match i.ev G st.fr with
   |some (.int kd n)=>zJe n l λm=>FXd st (xoS G zd st.fr st.H st.m (.qz x (.c (.int kd (.ofNat m))) l s)) k
   |_=>none
 |.wu=>k (.sym st.mv) ⟨st.fr,st.H,(st.mv,.mp [])::st.V,st.m,st.mv+1⟩
 |.lookup F kd m x z ok=>match m.ev G st.fr with
  |some (.sym j)=>match st.V.get j with
   |some (.mp d)=>match x.ev G st.fr with
    |some M=>match zCP F kd M with
     |true=>match A with
      |[]=>lkB F kd M d λo=>k (match o with
       |some u=>lkV ok true u
       |none=>lkV ok false z) st
      |A=>dK O A (lkR ok z (zCV F kd M d)) (dko A λv=>k v st)
     |false=>none
    |none=>none
   |_=>none
  |_=>none
 |.wM F kd m x y=>match m.ev G st.fr with
  |some (.sym j)=>match st.V.get j with
   |some (.mp d)=>match x.ev G st.fr with
    |some M=>match y.ev G st.fr with
     |some u=>match zCP F kd M&&ppS 12 M&&ppS 12 u with
      |true=>bd (zFT F kd M u d) λS=>k (.qg []) ⟨st.fr,st.H,(j,.mp S)::st.V.del j,st.m,st.mv⟩
      |false=>none
     |none=>none
    |none=>none
   |_=>none
  |_=>none
 |.call f args=>match evs G st.fr args with
  |some R=>zPS O tb f R (zaa A) st k
  |none=>none
 |.qN f args=>match f.ev G st.fr with
  |some (.func (.func f) first Q)=>match evs G st.fr args with
   |some R=>zPS O tb f (first++R++Q) A st k
   |none=>none
  |_=>none
 |.build z N=>match A with
  |[]=>FXd st (xoS G zd st.fr st.H st.m (.build z N)) k
  |A=>FXd st (xoS G zd st.fr st.H st.m (.build z N)) λv st=>dK O A (some v) (dko A λv=>k v st)
 |.vO neg lit X x y=>match A with
  |[]=>FXd st (xoS G zd st.fr st.H st.m (.vO neg lit X x y)) k
  |_::_=>match lit with
   |true=>match y.ev G st.fr with
    |some .qe=>match x.ev G st.fr with
     |some a=>bd (zZw a) λr=>k (zBu neg r) st
     |none=>none
    |_=>none
   |false=>none
 |.seq neg x y=>match A with
  |[]=>FXd st (xoS G zd st.fr st.H st.m (.seq neg x y)) k
  |_::_=>match y.ev G st.fr with
   |some .qa=>match x.ev G st.fr with
    |some (.qo _ d)=>gd (!d.isEmpty) (k (zBu neg false) st)
    |some .qa=>k (zBu neg true) st
    |_=>none
   |_=>none
 |.wH _|.beq _ _ _|.peq _ _ _|.v8 _ _ _|.vZ _ _ _|.un _ _|.conv _ _|.uf _|.vt _ _|.vu _ _|.uc _ _ _ _|.ext _ _
 |.box _ _|.alloc _|.qO _|.wU _|.wZ _|.min _ _|.max _ _|.wg _ _ _|.w4 _ _|.vT _ _ _ _=>FXd st (xoS G zd st.fr st.H st.m o) k
 |_=>none
structure FEnt where
 f:Nat
 grow:JN
 val:JE->Heap->Vecs->Option (AV×Heap×Vecs)
 ds:List D
structure FOp where
 o:XOper
 ks:List K
 h:Option (List D)
def q1(d:Nat)(o:XO):FOp:=⟨⟨some d,o,none⟩,[],none⟩
def q0(o:XO):FOp:=⟨⟨none,o,none⟩,[],none⟩
def qk(d:Nat)(b:List K)(o:XO):FOp:=⟨⟨some d,o,none⟩,b,none⟩
def qh(d:Nat)(ds:List D)(o:XO):FOp:=⟨⟨some d,o,none⟩,[],some ds⟩
abbrev TbH:=List FEnt
def zJL:TbH->Nat->Option FEnt
 |[],_=>none
 |s::r,f=>match Nat.beq f s.f with
  |true=>some s
  |false=>zJL r f
def zFr{β:Type}(hm sm:JV)(vs:JE)(st:Sta)(k:JE->Heap->Vecs->Option β):Option β:=
 match zHQ hm&&zHQ sm with
 |true=>match zp (rnV hm sm 8) vs with
  |some vs=>match rnH st.H hm sm 0 hm with
   |some H=>match zH4 st.V 0 sm with
    |some V=>k vs H V
    |none=>none
   |none=>none
  |none=>none
 |false=>none
def zLH{β:Type}(b:Nat)(vs:JE)(st:Sta)(F:JV->JV->Option β):Option β:=
 (λd=>F d (zCH st.H d (vs.foldl (λa v=>zE5 8 v a) []))) (zDT st.H 30 0 (vs.foldl (λa v=>hsA 8 v a) (List.range b)))
def zUZ{β:Type}(c:Cut)(st:Sta)(k:JE->Heap->Vecs->Option β):Option β:=
 match zNy st.fr c.qG with
 |none=>none
 |some b=>zLH c.pins b st λd sm=>zFr d sm b st k
def atJ{β:Type}(F:JE->Heap->Vecs->Option β)(vs:JE)(H:Heap)(V:Vecs):Option β:=F vs H V
def zLj{β:Type}(c:Cut)(F:JE->Heap->Vecs->Option β)(st:Sta):Option β:=zUZ c (zCy c.grow st) (atJ F)
def zNH{β:Type}(e:FEnt)(ds:List D)(args:JE)(st:Sta)(k:AV->Sta->Option β):Option β:=
 (λst=>zLH 0 args st λd sm=>zFr d sm args st λb H V=>dD true ds (e.val b H V) (ddo ds λv H2 V2=>
  k (zIs e.grow d st.m st.mv v) (zG5 e.grow d sm st H2 V2))) (qJ e.grow args st)
def zWh{β:Type}(st:Sta)(v:AV)(k:AV->Sta->Option β):Option β:=
 match zWB v with
 |true=>k (wB st.V v) (wv st)
 |false=>(λF=>(λb=>match frz b [] 8 v with
  |some d=>k d (vG F b st)
  |none=>none) (zEG F st.H)) (zDT st.H 30 0 (hsA 8 v []))
def zZx(ds:List D)(e:FEnt):List D:=match ds with
 |[]=>e.ds
 |.v (.qg 0)::.hc h s n::r=>e.ds.take 1++.hc h s n::r
 |ds=>ds
def zU0{β:Type}(G:Cx)(th:TbH)(ds:List D)(st:Sta)(o:XO)(k:AV->Sta->Option β):Option β:=match o with
 |.call f args=>match zJL th f with
  |some e=>match evs G st.fr args with
   |some d=>zNH e (zZx ds e) d st k
   |none=>none
  |none=>none
 |.qN f args=>match f.ev G st.fr with
  |some (.func (.func f) first b)=>match zJL th f with
   |some e=>match evs G st.fr args with
    |some d=>zNH e (zZx ds e) (first++d++b) st k
    |none=>none
   |none=>none
  |_=>none
 |_=>none
def zOB{β:Type}(G:Cx)(tb:TbF)(th:TbH)(st:Sta)(o:FOp)(k:AV->Sta->Option β):Option β:=match o.h with
 |none=>fop true G tb st o.o.op o.ks k
 |some b=>zU0 G th b st o.o.op k
def zRx{β:Type}(G:Cx)(tb:TbF)(th:TbH)(st:Sta)(o:FOp)(k:AV->Sta->Option β):Option β:=match zRv o.ks with
 |true=>zOB G tb th (wv st) ⟨o.o,o.ks.tail,o.h⟩ k
 |false=>match zOA o.h o.o.op with
  |true=>FXd st (xoS G zd st.fr st.H st.m o.o.op) λv st=>zWh st v k
  |false=>zOB G tb th st o k
def brF{β:Type}(t:Nat)(c:Bool)(st:Sta)(k:Bool->Sta->Option β):Option β:=
 br c (k true ⟨st.fr.put t (.bool true),st.H,st.V,st.m,st.mv⟩) (k false ⟨st.fr.put t (.bool false),st.H,st.V,st.m,st.mv⟩)
def zJX{β:Type}(G:Cx)(tb:TbF)(th:TbH):List FOp->(Sta->Option β)->Sta->Option β
 |[],k,st=>k st
 |o::r,k,st=>match o.o.guard with
  |none=>zRx G tb th st o λv st=>zJX G tb th r k (st.put o.o.dst v)
  |some (t,b)=>match st.fr.get t with
   |some (.bool c)=>brF t c st λc st=>match c==b with
    |true=>zRx G tb th st o λv st=>zJX G tb th r k (st.put o.o.dst v)
    |false=>zJX G tb th r k (st.put o.o.dst (.qg []))
   |some (.qg [])=>zJX G tb th r k (st.put o.o.dst (.qg []))
   |_=>none
def toQ(o:FOp):TOp:=⟨o.o,o.ks,o.h.map λ_=>[]⟩
def zRy{β:Type}(G:Cx)(tb:TbF)(th:TbH)(st:Sta)(o:FOp)(k:AV->Sta->Option β):Option β:=match Nat.ble (clsQ (toQ o)) 1 with
 |true=>zOB G tb th st o λv b=>match Nat.beq b.mv st.mv with
  |true=>k v b
  |false=>none
 |false=>zOB G tb th st o k
def loF(fr:Fr):List FOp->Option Nat
 |[]=>none
 |o::r=>match o.o.op with
  |.store (.t a) _ _=>match o.ks with
   |[]=>loF fr r
   |_=>match fr.get a with
    |some (.ptr h _)=>match loF fr r with
     |some l=>some (Min.min h l)
     |none=>some h
    |_=>loF fr r
  |_=>loF fr r
def ldQ(G:Cx)(st:Sta)(o:FOp):Bool:=match hLd (toQ o)with
 |false=>true
 |true=>match o.o.op with
  |.load x _ _=>match x.ev G st.fr with
   |some (.ptr _ _)=>true
   |_=>false
  |.call _ d=>match evs G st.fr d with
   |some b=>!(b.any (zAU 8))
   |none=>false
  |_=>false
def okQ(lo:Option Nat)(G:Cx)(st:Sta)(o:FOp):Bool:=match clsQ (toQ o)with
 |1=>ldQ G st o&&match lo with
  |none=>true
  |some l=>(zG3 o.o.op.qb).all (λg=>match st.fr.get g with
   |some v=>ltH 12 l v
   |none=>true)&&zRw l st.H
 |2=>match o.o.op with
  |.store x _ _=>match lo with
   |some l=>match x.ev G st.fr with
    |some (.ptr h _)=>Nat.ble l h
    |_=>false
   |none=>false
  |_=>true
 |_=>true
def zGw{β:Type}(lo:Option Nat)(G:Cx)(tb:TbF)(th:TbH):List FOp->(Sta->Option β)->Sta->Option β
 |[],k,st=>k st
 |o::r,k,st=>match okQ lo G st o with
  |true=>match o.o.guard with
   |none=>zRy G tb th st o λv st=>zGw lo G tb th r k (st.put o.o.dst v)
   |some (t,b)=>match st.fr.get t with
    |some (.bool c)=>brF t c st λc st=>match c==b with
     |true=>zRy G tb th st o λv st=>zGw lo G tb th r k (st.put o.o.dst v)
     |false=>zGw lo G tb th r k (st.put o.o.dst (.qg []))
    |some (.qg [])=>zGw lo G tb th r k (st.put o.o.dst (.qg []))
    |_=>none
  |false=>none
def zRz{β:Type}(G:Cx)(tb:TbF)(st:Sta)(o:XO)(e:List K)(k:AV->Sta->Option β):Option β:=
 match o with
 |.vJ _|.qM _ _ _ _ _|.append _ _ _ _|.wu|.wM _ _ _ _ _|.lookup _ _ _ _ _ _=>none
 |.qy len d z f=>FXd st (xoS G zd st.fr st.H st.m (.qy len d z f)) k
 |.vB x=>match x.ev G st.fr with
  |some (.row h off len d str cap)=>match content st.H 1 (.row h off len d str cap)with
   |some (_,i)=>bd (zAZ i) λs=>k (.str s) st
   |none=>none
  |_=>none
 |o=>fop false G tb ⟨st.fr,st.H,[],st.m,st.mv⟩ o e λv b=>k v ⟨b.fr,b.H,st.V,b.m,b.mv⟩
def zHb{β:Type}(G:Cx)(tb:TbF):List FOp->(Sta->Option β)->Sta->Option β
 |[],k,st=>k st
 |o::r,k,st=>match o.o.guard with
  |none=>zRz G tb st o.o.op o.ks λv st=>zHb G tb r k (st.put o.o.dst v)
  |some (t,b)=>match st.fr.get t with
   |some (.bool c)=>brF t c st λc st=>match c==b with
    |true=>zRz G tb st o.o.op o.ks λv st=>zHb G tb r k (st.put o.o.dst v)
    |false=>zHb G tb r k (st.put o.o.dst (.qg []))
   |some (.qg [])=>zHb G tb r k (st.put o.o.dst (.qg []))
   |_=>none
inductive FC where
 |skip
 |ret
 |exit (i:Nat)
 |wA (ops:List FOp)
 |draw (pn:JV) (ops:List FOp) (ds:List XD)
 |qS (ops:List FOp) (ds:List XD)
 |seq (a b:FC)
 |cond (c:XV) (a b:FC)
 |block (i:Nat) (b:FC)
 |loop (id:Nat) (c:Cut) (b:FC)
 |qE (k:Nat) (b:FC)
 |wi (id:Nat) (c:Cut) (a b:FC)
def ef:FC->XC
 |.skip=>.skip
 |.ret=>.ret
 |.exit i=>.exit i
 |.wA d=>.wA (d.map FOp.o)
 |.draw _ d e=>.draw (d.map FOp.o) e
 |.qS d e=>.draw (d.map FOp.o) e
 |.seq a b=>.seq (ef a) (ef b)
 |.cond c a b=>.cond c (ef a) (ef b)
 |.block i b=>.block i (ef b)
 |.loop _ _ b=>.loop (ef b)
 |.qE _ b=>.loop (ef b)
 |.wi _ _ a b=>.seq (ef a) (ef b)
abbrev zEK{β:Type}(K:Ext->Sta->Option β)(k:Sta->Option β):Ext->Sta->Option β
 |.normal,st=>k st
 |.exit i,st=>K (.exit i) st
 |.ret,st=>K .ret st
abbrev zJf{β:Type}(id:Nat)(K:Ext->Sta->Option β):Ext->Sta->Option β
 |.normal,st=>K .normal st
 |.exit i,st=>match Nat.beq i id with
  |true=>K .normal st
  |false=>K (.exit i) st
 |.ret,st=>K .ret st
def zPK{β:Type}(c:Cut)(K:Ext->Sta->Option β)(F:JE->Heap->Vecs->Option β):Ext->Sta->Option β
 |.normal,st=>zLj c F st
 |.exit i,st=>K (.exit i) st
 |.ret,st=>K .ret st
def zIz{β:Type}(B:(Ext->Sta->Option β)->Sta->Option β)(c:Cut)(K:Ext->Sta->Option β):Nat->JE->Heap->Vecs->Option β
 |0,_,_,_=>none
 |n+1,b,H,V=>B (zPK c K (zIz B c K n)) (mkW c b H V)
noncomputable def zg:Nat:=Classical.choose (⟨1180591620717411303424,rfl⟩:∃n:Nat,n=1180591620717411303424)
theorem zHo:zg=1180591620717411303424:=Classical.choose_spec (⟨1180591620717411303424,rfl⟩:∃n:Nat,n=1180591620717411303424)
def zFs{β:Type}(B:(Ext->Sta->Option β)->Sta->Option β)(K:Ext->Sta->Option β):Nat->Sta->Option β
 |0,_=>none
 |n+1,st=>B (zEK K (zFs B K n)) st
def FT{β:Type}(U:Nat)(G:Cx)(tb:TbF)(th:TbH):FC->(Ext->Sta->Option β)->Sta->Option β
 |.skip,K,st=>K .normal st
 |.ret,K,st=>K .ret st
 |.exit i,K,st=>K (.exit i) st
 |.wA d,K,st=>zJX G tb th d (K .normal) st
 |.draw j d e,K,st=>match zNz (d.map FOp.o) e&&j.all (zPG st.fr)with
  |true=>zHb G tb d (K .normal) st
  |false=>none
 |.qS d e,K,st=>match zFO (d.map toQ) e&&zFV 0 [] [] [] [] [] (d.map toQ) e with
  |true=>zGw (loF st.fr d) G tb th d (K .normal) st
  |false=>none
 |.seq a b,K,st=>FT U G tb th a (zEK K (FT U G tb th b K)) st
 |.cond c a b,K,st=>match c.ev G st.fr with
  |some (.bool f)=>match c with
   |.t n=>brF n f st λf st=>match f with
    |true=>FT U G tb th a K st
    |false=>FT U G tb th b K st
   |_=>br f (FT U G tb th a K st) (FT U G tb th b K st)
  |_=>none
 |.block i b,K,st=>FT U G tb th b (zJf i K) st
 |.qE k b,K,st=>zFs (FT U G tb th b) K k st
 |.loop _ c b,K,st=>zLj c (zIz (FT U G tb th b) c K U) st
 |.wi _ c a b,K,st=>FT U G tb th a (zEK K (zLj c λh H V=>FT U G tb th b K (mkW c h H V))) st
def zGx(id:Nat):FC->Bool
 |.seq a b|.cond _ a b=>zGx id a||zGx id b
 |.block _ b=>zGx id b
 |.loop i _ b=>Nat.beq id i||zGx id b
 |.qE _ b=>zGx id b
 |.wi i _ a b=>Nat.beq id i||(zGx id a||zGx id b)
 |_=>false
def zH6{β:Type}(U:Nat)(G:Cx)(tb:TbF)(th:TbH)(id:Nat):FC->(Ext->Sta->Option β)->JV->JE->Heap->Vecs->Option β
 |.seq a b,K,d=>match zGx id a with
  |true=>zH6 U G tb th id a (zEK K (FT U G tb th b K)) d
  |false=>zH6 U G tb th id b K d
 |.cond _ a b,K,d=>match zGx id a with
  |true=>zH6 U G tb th id a K d
  |false=>zH6 U G tb th id b K d
 |.block i b,K,d=>zH6 U G tb th id b (zJf i K) d
 |.qE _ b,K,d=>match d with
  |[]=>λ_ _ _=>none
  |n::d=>zH6 U G tb th id b (zEK K (zFs (FT U G tb th b) K n)) d
 |.loop i c b,K,d=>match d with
  |[]=>λ_ _ _=>none
  |n::d=>match Nat.beq id i with
   |true=>atJ (zIz (FT U G tb th b) c K n)
   |false=>zH6 U G tb th id b (zPK c K (zIz (FT U G tb th b) c K n)) d
 |.wi i c a b,K,d=>match Nat.beq id i with
  |true=>atJ λe H V=>FT U G tb th b K (mkW c e H V)
  |false=>match zGx id a with
   |true=>zH6 U G tb th id a (zEK K (zLj c λe H V=>FT U G tb th b K (mkW c e H V))) d
   |false=>zH6 U G tb th id b K d
 |_,_,_=>λ_ _ _=>none
def zTF(b:List XR):Ext->Sta->JF
 |.exit _,_=>none
 |_,st=>match zES st.H st.fr b with
  |some d=>zAJ st.H st.V 8 (zA4 d)
  |none=>none
def zNI(n:Nat):AV->Bool
 |.sym j=>Nat.blt j n
 |v=>ppS 12 v
def zPL(n k:Nat):AV->Bool
 |.ptr i _=>Nat.blt i k
 |v=>zNI n v
def zWi(n k:Nat):AV->Bool
 |.qg l=>l.all (zPL n k)
 |v=>zPL n k v
def zMH(n:Nat):Heap->Bool
 |[]=>true
 |(_,.cells _ b)::r=>b.all (zNI n)&&zMH n r
 |_=>false
def zMI:Vecs->Bool
 |[]=>true
 |(_,o)::r=>o.qA&&zMI r
def zOC(d:List XR)(pn:JV):Ext->Sta->Option (AV×Heap×Vecs)
 |.exit _,_=>none
 |_,st=>match zES st.H st.fr d with
  |some b=>match zWe (zA4 b)with
   |false=>match zAU 8 (zA4 b)||!zGg st.fr 0 pn with
    |false=>zFr (List.range pn.length) (zCH st.H (List.range pn.length) []) [] st λ_ H V=>match zMH V.length H&&zMI V with
     |true=>some (zA4 b,H,V)
     |false=>none
    |true=>none
   |true=>match zGg st.fr 0 pn with
    |true=>zFr (List.range pn.length++zLC pn.length (zA4 b)) (zCH st.H (List.range pn.length++zLC pn.length (zA4 b)) (zE5 8 (zA4 b) [])) [zA4 b] st λe H V=>match e with
     |[u]=>match zWi V.length H.length u&&(zMH V.length H&&zMI V)with
      |true=>some (u,H,V)
      |false=>none
     |_=>none
    |false=>none
  |none=>none
end Go.Sy
